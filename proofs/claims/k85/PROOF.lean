import PyProof.Rows.All
import Wide.All
import OpenK.AllK
import Wide.FinOn
import KE.KStateDown
import HandS.ForMost
import HandS.ForExc
import HandS.Defaults
import HandS.Head0
import HandS.Head1
import HandS.Head2
import HandS.HeadEnd
import HandS.HeadHook1
import HandS.HeadHook2
import HandS.HeadHook3
import HandS.HeadHook4
import HandS.Words
import PyProof.EqAt
import PyProof.EqKinds
import PyProof.TupleCall
import KE.KDictKeyed
import KE.KDictDisplayH
import HandS.CallSlots
import HandS.Nested
import HandS.EndTab
import HandS.TupLen
import HandS.FStr
import HandS.IsInst
import HandS.HotCalls
import HandS.ExcIs
import HandS.Codes
import HandS.Strs
import HandS.Text
import HandS.Iter
import HandS.Dict
import PyProof.ExcBaseAll.ValueError
import HandS.HeadWalk
import PySem.Challenge.RW_lockhouse_k85_refused_rows
-- HJ
set_option Elab.async false
set_option linter.all false
set_option maxRecDepth 100000
set_option maxHeartbeats 0
namespace Lk
open PySem PySem.Spec PyProof.Rows L2
def top (i : Nat) : Stmt := PySem.Challenge.pw_lockhouse_k85_refused_rows.main.body.getD i (.Pass ⟨0, 0, 0, 0⟩)
abbrev s_Book_ways : Stmt := inClass (top 75) 3
abbrev s_Book_state : Stmt := inClass (top 75) 4
abbrev s_boats_at : Stmt := top 5
abbrev s_Book_canal : Stmt := inClass (top 75) 1
abbrev s_place_of : Stmt := top 105
abbrev s_Canal_lock_at : Stmt := inClass (top 106) 2
abbrev s_Book_names : Stmt := inClass (top 75) 2
abbrev s_advice : Stmt := top 6
abbrev s_deed_shown : Stmt := top 20
abbrev s_deeds_shown : Stmt := top 21
abbrev s_worded : Stmt := top 22
abbrev s_answer_shown : Stmt := top 24
abbrev s_parted : Stmt := top 36
abbrev s_most_of : Stmt := top 37
abbrev s_poured_all : Stmt := top 39
abbrev s_passing : Stmt := top 41
abbrev s_PlainLock_fill_parts : Stmt := inClass (top 100) 1
abbrev s_filling : Stmt := top 42
abbrev s_PlainLock_let_parts : Stmt := inClass (top 100) 2
abbrev s_letting : Stmt := top 43
abbrev s_held_behind : Stmt := top 44
abbrev s_passage : Stmt := top 45
abbrev s_linked : Stmt := top 47
abbrev s_Canal_sea : Stmt := inClass (top 106) 5
abbrev s_Canal_sky : Stmt := inClass (top 106) 6
abbrev s_Canal_many : Stmt := inClass (top 106) 7
abbrev s_over : Stmt := top 53
abbrev s_spilled : Stmt := top 54
abbrev s_settled : Stmt := top 55
abbrev s_Canal_weirs : Stmt := inClass (top 106) 8
abbrev s_Canal_start : Stmt := inClass (top 106) 9
abbrev s_begun : Stmt := top 48
abbrev s_reach_of : Stmt := top 49
abbrev s_lying : Stmt := top 50
abbrev s_all_home : Stmt := top 51
abbrev s_spills : Stmt := top 56
abbrev s_weir_pours : Stmt := top 58
abbrev s_night_pours : Stmt := top 59
abbrev s_wet_enough : Stmt := top 60
abbrev s_Canal_chamber : Stmt := inClass (top 106) 3
abbrev s_Canal_basin : Stmt := inClass (top 106) 4
abbrev s_numbered : Stmt := top 62
abbrev s_Canal_full : Stmt := inClass (top 106) 10
abbrev s_pass_pours : Stmt := top 63
abbrev s_let_pours : Stmt := top 64
abbrev s_too_dry : Stmt := top 65
abbrev s_why_no_pass : Stmt := top 66
abbrev s_why_not : Stmt := top 67
abbrev s_pours : Stmt := top 68
abbrev s_after : Stmt := top 69
abbrev s_may : Stmt := top 70
abbrev s_boat_at : Stmt := top 73
abbrev s_Canal_reach_at : Stmt := inClass (top 106) 1
abbrev s_way_of : Stmt := top 74
abbrev s_Book_init : Stmt := inClass (top 75) 0
abbrev s_Book_copied : Stmt := inClass (top 75) 8
abbrev s_Book_deed_of : Stmt := inClass (top 75) 9
abbrev s_Book_why_no_come : Stmt := inClass (top 75) 10
abbrev s_Book_why_no_night : Stmt := inClass (top 75) 11
abbrev s_Book_fault : Stmt := inClass (top 75) 12
abbrev s_Book_pours_of : Stmt := inClass (top 75) 13
abbrev s_Book_behind : Stmt := inClass (top 75) 14
abbrev s_Book_words_of : Stmt := inClass (top 75) 15
abbrev s_Book_do : Stmt := inClass (top 75) 16
abbrev s_name_of : Stmt := top 78
abbrev s_pairs_of : Stmt := top 79
abbrev s_steps_of : Stmt := top 80
abbrev s_weather_of_journal : Stmt := top 81
abbrev s_entry_of : Stmt := top 83
abbrev s_next_layer : Stmt := top 85
abbrev s_first_ended : Stmt := top 86
abbrev s_row_to : Stmt := top 87
abbrev s_layered : Stmt := top 88
abbrev s_choices_in : Stmt := top 90
abbrev s_home_in : Stmt := top 91
abbrev s_is_knot : Stmt := top 92
abbrev s_knot_in : Stmt := top 93
abbrev s_look : Stmt := top 94
abbrev s_look_for_knot : Stmt := top 95
abbrev s_Keeper_init : Stmt := inClass (top 97) 0
abbrev s_Keeper_plan : Stmt := inClass (top 97) 1
abbrev s_Keeper_book : Stmt := inClass (top 97) 2
abbrev s_Keeper_begins_with : Stmt := inClass (top 97) 3
abbrev s_Keeper_taken : Stmt := inClass (top 97) 4
abbrev s_Keeper_wish : Stmt := inClass (top 97) 5
abbrev s_Keeper_work : Stmt := inClass (top 97) 6
abbrev s_PlainLock_init : Stmt := inClass (top 100) 0
abbrev s_PlainLock_kind : Stmt := inClass (top 100) 3
abbrev s_PlainLock_extra : Stmt := inClass (top 100) 4
abbrev s_Reach_init : Stmt := inClass (top 104) 0
abbrev s_Canal_init : Stmt := inClass (top 106) 0
abbrev s_names_hold : Stmt := top 112
abbrev s_reach_read : Stmt := top 113
abbrev s_extra_read : Stmt := top 114
abbrev s_lock_read : Stmt := top 115
abbrev s_night_read : Stmt := top 116
abbrev s_weather_of_reading : Stmt := top 117
abbrev s_canal_of : Stmt := top 119
abbrev s_House_init : Stmt := inClass (top 121) 0
abbrev s_House_answered : Stmt := inClass (top 121) 3
abbrev s_House_planned : Stmt := inClass (top 121) 4
abbrev s_House_waters : Stmt := inClass (top 121) 5
abbrev s_House_knots : Stmt := inClass (top 121) 6
abbrev s_House_reply : Stmt := inClass (top 121) 7
abbrev s_House_ask : Stmt := inClass (top 121) 8
abbrev s__law_named : Stmt := top 125
abbrev s__law_faults : Stmt := top 126
abbrev s__law_yes : Stmt := top 127
abbrev s__law_begun : Stmt := top 128
abbrev s_made_of : Stmt := top 30
abbrev s_is_name : Stmt := top 31
abbrev s_number_of : Stmt := top 32
abbrev s_refusal_shown : Stmt := top 25
abbrev s__law_cell_at : Stmt := top 123
abbrev s__law_name : Stmt := top 124
abbrev s_law : Stmt := top 129
def d_Book_ways : He.DefD := ⟨((PySem.Str.ofString "Book"), some (PySem.Str.ofString "ways")), (PySem.Str.ofString "ways"), (PySem.Str.ofString "Book.ways"), defArgs s_Book_ways, defBody s_Book_ways, defScope s_Book_ways, [], []⟩
def d_Book_state : He.DefD := ⟨((PySem.Str.ofString "Book"), some (PySem.Str.ofString "state")), (PySem.Str.ofString "state"), (PySem.Str.ofString "Book.state"), defArgs s_Book_state, defBody s_Book_state, defScope s_Book_state, [], []⟩
def d_boats_at : He.DefD := ⟨((PySem.Str.ofString "boats_at"), none), (PySem.Str.ofString "boats_at"), (PySem.Str.ofString "boats_at"), defArgs s_boats_at, defBody s_boats_at, defScope s_boats_at, [], []⟩
def d_Book_canal : He.DefD := ⟨((PySem.Str.ofString "Book"), some (PySem.Str.ofString "canal")), (PySem.Str.ofString "canal"), (PySem.Str.ofString "Book.canal"), defArgs s_Book_canal, defBody s_Book_canal, defScope s_Book_canal, [], []⟩
def d_place_of : He.DefD := ⟨((PySem.Str.ofString "place_of"), none), (PySem.Str.ofString "place_of"), (PySem.Str.ofString "place_of"), defArgs s_place_of, defBody s_place_of, defScope s_place_of, [], []⟩
def d_Canal_lock_at : He.DefD := ⟨((PySem.Str.ofString "Canal"), some (PySem.Str.ofString "lock_at")), (PySem.Str.ofString "lock_at"), (PySem.Str.ofString "Canal.lock_at"), defArgs s_Canal_lock_at, defBody s_Canal_lock_at, defScope s_Canal_lock_at, [], []⟩
def d_Book_names : He.DefD := ⟨((PySem.Str.ofString "Book"), some (PySem.Str.ofString "names")), (PySem.Str.ofString "names"), (PySem.Str.ofString "Book.names"), defArgs s_Book_names, defBody s_Book_names, defScope s_Book_names, [], []⟩
def d_advice : He.DefD := ⟨((PySem.Str.ofString "advice"), none), (PySem.Str.ofString "advice"), (PySem.Str.ofString "advice"), defArgs s_advice, defBody s_advice, defScope s_advice, [], []⟩
def d_deed_shown : He.DefD := ⟨((PySem.Str.ofString "deed_shown"), none), (PySem.Str.ofString "deed_shown"), (PySem.Str.ofString "deed_shown"), defArgs s_deed_shown, defBody s_deed_shown, defScope s_deed_shown, [], []⟩
def d_deeds_shown : He.DefD := ⟨((PySem.Str.ofString "deeds_shown"), none), (PySem.Str.ofString "deeds_shown"), (PySem.Str.ofString "deeds_shown"), defArgs s_deeds_shown, defBody s_deeds_shown, defScope s_deeds_shown, [], []⟩
def d_worded : He.DefD := ⟨((PySem.Str.ofString "worded"), none), (PySem.Str.ofString "worded"), (PySem.Str.ofString "worded"), defArgs s_worded, defBody s_worded, defScope s_worded, [], []⟩
def d_answer_shown : He.DefD := ⟨((PySem.Str.ofString "answer_shown"), none), (PySem.Str.ofString "answer_shown"), (PySem.Str.ofString "answer_shown"), defArgs s_answer_shown, defBody s_answer_shown, defScope s_answer_shown, [], []⟩
def d_parted : He.DefD := ⟨((PySem.Str.ofString "parted"), none), (PySem.Str.ofString "parted"), (PySem.Str.ofString "parted"), defArgs s_parted, defBody s_parted, defScope s_parted, [], []⟩
def d_most_of : He.DefD := ⟨((PySem.Str.ofString "most_of"), none), (PySem.Str.ofString "most_of"), (PySem.Str.ofString "most_of"), defArgs s_most_of, defBody s_most_of, defScope s_most_of, [], []⟩
def d_poured_all : He.DefD := ⟨((PySem.Str.ofString "poured_all"), none), (PySem.Str.ofString "poured_all"), (PySem.Str.ofString "poured_all"), defArgs s_poured_all, defBody s_poured_all, defScope s_poured_all, [], []⟩
def d_passing : He.DefD := ⟨((PySem.Str.ofString "passing"), none), (PySem.Str.ofString "passing"), (PySem.Str.ofString "passing"), defArgs s_passing, defBody s_passing, defScope s_passing, [], []⟩
def d_PlainLock_fill_parts : He.DefD := ⟨((PySem.Str.ofString "PlainLock"), some (PySem.Str.ofString "fill_parts")), (PySem.Str.ofString "fill_parts"), (PySem.Str.ofString "PlainLock.fill_parts"), defArgs s_PlainLock_fill_parts, defBody s_PlainLock_fill_parts, defScope s_PlainLock_fill_parts, [], []⟩
def d_filling : He.DefD := ⟨((PySem.Str.ofString "filling"), none), (PySem.Str.ofString "filling"), (PySem.Str.ofString "filling"), defArgs s_filling, defBody s_filling, defScope s_filling, [], []⟩
def d_PlainLock_let_parts : He.DefD := ⟨((PySem.Str.ofString "PlainLock"), some (PySem.Str.ofString "let_parts")), (PySem.Str.ofString "let_parts"), (PySem.Str.ofString "PlainLock.let_parts"), defArgs s_PlainLock_let_parts, defBody s_PlainLock_let_parts, defScope s_PlainLock_let_parts, [], []⟩
def d_letting : He.DefD := ⟨((PySem.Str.ofString "letting"), none), (PySem.Str.ofString "letting"), (PySem.Str.ofString "letting"), defArgs s_letting, defBody s_letting, defScope s_letting, [], []⟩
def d_held_behind : He.DefD := ⟨((PySem.Str.ofString "held_behind"), none), (PySem.Str.ofString "held_behind"), (PySem.Str.ofString "held_behind"), defArgs s_held_behind, defBody s_held_behind, defScope s_held_behind, [], []⟩
def d_passage : He.DefD := ⟨((PySem.Str.ofString "passage"), none), (PySem.Str.ofString "passage"), (PySem.Str.ofString "passage"), defArgs s_passage, defBody s_passage, defScope s_passage, [], []⟩
def d_linked : He.DefD := ⟨((PySem.Str.ofString "linked"), none), (PySem.Str.ofString "linked"), (PySem.Str.ofString "linked"), defArgs s_linked, defBody s_linked, defScope s_linked, [], []⟩
def d_Canal_sea : He.DefD := ⟨((PySem.Str.ofString "Canal"), some (PySem.Str.ofString "sea")), (PySem.Str.ofString "sea"), (PySem.Str.ofString "Canal.sea"), defArgs s_Canal_sea, defBody s_Canal_sea, defScope s_Canal_sea, [], []⟩
def d_Canal_sky : He.DefD := ⟨((PySem.Str.ofString "Canal"), some (PySem.Str.ofString "sky")), (PySem.Str.ofString "sky"), (PySem.Str.ofString "Canal.sky"), defArgs s_Canal_sky, defBody s_Canal_sky, defScope s_Canal_sky, [], []⟩
def d_Canal_many : He.DefD := ⟨((PySem.Str.ofString "Canal"), some (PySem.Str.ofString "many")), (PySem.Str.ofString "many"), (PySem.Str.ofString "Canal.many"), defArgs s_Canal_many, defBody s_Canal_many, defScope s_Canal_many, [], []⟩
def d_over : He.DefD := ⟨((PySem.Str.ofString "over"), none), (PySem.Str.ofString "over"), (PySem.Str.ofString "over"), defArgs s_over, defBody s_over, defScope s_over, [], []⟩
def d_spilled : He.DefD := ⟨((PySem.Str.ofString "spilled"), none), (PySem.Str.ofString "spilled"), (PySem.Str.ofString "spilled"), defArgs s_spilled, defBody s_spilled, defScope s_spilled, [.non], []⟩
def d_settled : He.DefD := ⟨((PySem.Str.ofString "settled"), none), (PySem.Str.ofString "settled"), (PySem.Str.ofString "settled"), defArgs s_settled, defBody s_settled, defScope s_settled, [], []⟩
def d_Canal_weirs : He.DefD := ⟨((PySem.Str.ofString "Canal"), some (PySem.Str.ofString "weirs")), (PySem.Str.ofString "weirs"), (PySem.Str.ofString "Canal.weirs"), defArgs s_Canal_weirs, defBody s_Canal_weirs, defScope s_Canal_weirs, [], []⟩
def d_Canal_start : He.DefD := ⟨((PySem.Str.ofString "Canal"), some (PySem.Str.ofString "start")), (PySem.Str.ofString "start"), (PySem.Str.ofString "Canal.start"), defArgs s_Canal_start, defBody s_Canal_start, defScope s_Canal_start, [], []⟩
def d_begun : He.DefD := ⟨((PySem.Str.ofString "begun"), none), (PySem.Str.ofString "begun"), (PySem.Str.ofString "begun"), defArgs s_begun, defBody s_begun, defScope s_begun, [], []⟩
def d_reach_of : He.DefD := ⟨((PySem.Str.ofString "reach_of"), none), (PySem.Str.ofString "reach_of"), (PySem.Str.ofString "reach_of"), defArgs s_reach_of, defBody s_reach_of, defScope s_reach_of, [], []⟩
def d_lying : He.DefD := ⟨((PySem.Str.ofString "lying"), none), (PySem.Str.ofString "lying"), (PySem.Str.ofString "lying"), defArgs s_lying, defBody s_lying, defScope s_lying, [], []⟩
def d_all_home : He.DefD := ⟨((PySem.Str.ofString "all_home"), none), (PySem.Str.ofString "all_home"), (PySem.Str.ofString "all_home"), defArgs s_all_home, defBody s_all_home, defScope s_all_home, [], []⟩
def d_spills : He.DefD := ⟨((PySem.Str.ofString "spills"), none), (PySem.Str.ofString "spills"), (PySem.Str.ofString "spills"), defArgs s_spills, defBody s_spills, defScope s_spills, [], []⟩
def d_weir_pours : He.DefD := ⟨((PySem.Str.ofString "weir_pours"), none), (PySem.Str.ofString "weir_pours"), (PySem.Str.ofString "weir_pours"), defArgs s_weir_pours, defBody s_weir_pours, defScope s_weir_pours, [], []⟩
def d_night_pours : He.DefD := ⟨((PySem.Str.ofString "night_pours"), none), (PySem.Str.ofString "night_pours"), (PySem.Str.ofString "night_pours"), defArgs s_night_pours, defBody s_night_pours, defScope s_night_pours, [], []⟩
def d_wet_enough : He.DefD := ⟨((PySem.Str.ofString "wet_enough"), none), (PySem.Str.ofString "wet_enough"), (PySem.Str.ofString "wet_enough"), defArgs s_wet_enough, defBody s_wet_enough, defScope s_wet_enough, [], []⟩
def d_Canal_chamber : He.DefD := ⟨((PySem.Str.ofString "Canal"), some (PySem.Str.ofString "chamber")), (PySem.Str.ofString "chamber"), (PySem.Str.ofString "Canal.chamber"), defArgs s_Canal_chamber, defBody s_Canal_chamber, defScope s_Canal_chamber, [], []⟩
def d_Canal_basin : He.DefD := ⟨((PySem.Str.ofString "Canal"), some (PySem.Str.ofString "basin")), (PySem.Str.ofString "basin"), (PySem.Str.ofString "Canal.basin"), defArgs s_Canal_basin, defBody s_Canal_basin, defScope s_Canal_basin, [], []⟩
def d_numbered : He.DefD := ⟨((PySem.Str.ofString "numbered"), none), (PySem.Str.ofString "numbered"), (PySem.Str.ofString "numbered"), defArgs s_numbered, defBody s_numbered, defScope s_numbered, [], []⟩
def d_Canal_full : He.DefD := ⟨((PySem.Str.ofString "Canal"), some (PySem.Str.ofString "full")), (PySem.Str.ofString "full"), (PySem.Str.ofString "Canal.full"), defArgs s_Canal_full, defBody s_Canal_full, defScope s_Canal_full, [], []⟩
def d_pass_pours : He.DefD := ⟨((PySem.Str.ofString "pass_pours"), none), (PySem.Str.ofString "pass_pours"), (PySem.Str.ofString "pass_pours"), defArgs s_pass_pours, defBody s_pass_pours, defScope s_pass_pours, [], []⟩
def d_let_pours : He.DefD := ⟨((PySem.Str.ofString "let_pours"), none), (PySem.Str.ofString "let_pours"), (PySem.Str.ofString "let_pours"), defArgs s_let_pours, defBody s_let_pours, defScope s_let_pours, [], []⟩
def d_too_dry : He.DefD := ⟨((PySem.Str.ofString "too_dry"), none), (PySem.Str.ofString "too_dry"), (PySem.Str.ofString "too_dry"), defArgs s_too_dry, defBody s_too_dry, defScope s_too_dry, [], []⟩
def d_why_no_pass : He.DefD := ⟨((PySem.Str.ofString "why_no_pass"), none), (PySem.Str.ofString "why_no_pass"), (PySem.Str.ofString "why_no_pass"), defArgs s_why_no_pass, defBody s_why_no_pass, defScope s_why_no_pass, [], []⟩
def d_why_not : He.DefD := ⟨((PySem.Str.ofString "why_not"), none), (PySem.Str.ofString "why_not"), (PySem.Str.ofString "why_not"), defArgs s_why_not, defBody s_why_not, defScope s_why_not, [], []⟩
def d_pours : He.DefD := ⟨((PySem.Str.ofString "pours"), none), (PySem.Str.ofString "pours"), (PySem.Str.ofString "pours"), defArgs s_pours, defBody s_pours, defScope s_pours, [], []⟩
def d_after : He.DefD := ⟨((PySem.Str.ofString "after"), none), (PySem.Str.ofString "after"), (PySem.Str.ofString "after"), defArgs s_after, defBody s_after, defScope s_after, [], []⟩
def d_may : He.DefD := ⟨((PySem.Str.ofString "may"), none), (PySem.Str.ofString "may"), (PySem.Str.ofString "may"), defArgs s_may, defBody s_may, defScope s_may, [], []⟩
def d_boat_at : He.DefD := ⟨((PySem.Str.ofString "boat_at"), none), (PySem.Str.ofString "boat_at"), (PySem.Str.ofString "boat_at"), defArgs s_boat_at, defBody s_boat_at, defScope s_boat_at, [], []⟩
def d_Canal_reach_at : He.DefD := ⟨((PySem.Str.ofString "Canal"), some (PySem.Str.ofString "reach_at")), (PySem.Str.ofString "reach_at"), (PySem.Str.ofString "Canal.reach_at"), defArgs s_Canal_reach_at, defBody s_Canal_reach_at, defScope s_Canal_reach_at, [], []⟩
def d_way_of : He.DefD := ⟨((PySem.Str.ofString "way_of"), none), (PySem.Str.ofString "way_of"), (PySem.Str.ofString "way_of"), defArgs s_way_of, defBody s_way_of, defScope s_way_of, [], []⟩
def d_Book_init : He.DefD := ⟨((PySem.Str.ofString "Book"), some (PySem.Str.ofString "__init__")), (PySem.Str.ofString "__init__"), (PySem.Str.ofString "Book.__init__"), defArgs s_Book_init, defBody s_Book_init, defScope s_Book_init, [], []⟩
def d_Book_copied : He.DefD := ⟨((PySem.Str.ofString "Book"), some (PySem.Str.ofString "copied")), (PySem.Str.ofString "copied"), (PySem.Str.ofString "Book.copied"), defArgs s_Book_copied, defBody s_Book_copied, defScope s_Book_copied, [], []⟩
def d_Book_deed_of : He.DefD := ⟨((PySem.Str.ofString "Book"), some (PySem.Str.ofString "deed_of")), (PySem.Str.ofString "deed_of"), (PySem.Str.ofString "Book.deed_of"), defArgs s_Book_deed_of, defBody s_Book_deed_of, defScope s_Book_deed_of, [], []⟩
def d_Book_why_no_come : He.DefD := ⟨((PySem.Str.ofString "Book"), some (PySem.Str.ofString "why_no_come")), (PySem.Str.ofString "why_no_come"), (PySem.Str.ofString "Book.why_no_come"), defArgs s_Book_why_no_come, defBody s_Book_why_no_come, defScope s_Book_why_no_come, [], []⟩
def d_Book_why_no_night : He.DefD := ⟨((PySem.Str.ofString "Book"), some (PySem.Str.ofString "why_no_night")), (PySem.Str.ofString "why_no_night"), (PySem.Str.ofString "Book.why_no_night"), defArgs s_Book_why_no_night, defBody s_Book_why_no_night, defScope s_Book_why_no_night, [], []⟩
def d_Book_fault : He.DefD := ⟨((PySem.Str.ofString "Book"), some (PySem.Str.ofString "fault")), (PySem.Str.ofString "fault"), (PySem.Str.ofString "Book.fault"), defArgs s_Book_fault, defBody s_Book_fault, defScope s_Book_fault, [], []⟩
def d_Book_pours_of : He.DefD := ⟨((PySem.Str.ofString "Book"), some (PySem.Str.ofString "pours_of")), (PySem.Str.ofString "pours_of"), (PySem.Str.ofString "Book.pours_of"), defArgs s_Book_pours_of, defBody s_Book_pours_of, defScope s_Book_pours_of, [], []⟩
def d_Book_behind : He.DefD := ⟨((PySem.Str.ofString "Book"), some (PySem.Str.ofString "behind")), (PySem.Str.ofString "behind"), (PySem.Str.ofString "Book.behind"), defArgs s_Book_behind, defBody s_Book_behind, defScope s_Book_behind, [], []⟩
def d_Book_words_of : He.DefD := ⟨((PySem.Str.ofString "Book"), some (PySem.Str.ofString "words_of")), (PySem.Str.ofString "words_of"), (PySem.Str.ofString "Book.words_of"), defArgs s_Book_words_of, defBody s_Book_words_of, defScope s_Book_words_of, [], []⟩
def d_Book_do : He.DefD := ⟨((PySem.Str.ofString "Book"), some (PySem.Str.ofString "do")), (PySem.Str.ofString "do"), (PySem.Str.ofString "Book.do"), defArgs s_Book_do, defBody s_Book_do, defScope s_Book_do, [], []⟩
def d_name_of : He.DefD := ⟨((PySem.Str.ofString "name_of"), none), (PySem.Str.ofString "name_of"), (PySem.Str.ofString "name_of"), defArgs s_name_of, defBody s_name_of, defScope s_name_of, [], []⟩
def d_pairs_of : He.DefD := ⟨((PySem.Str.ofString "pairs_of"), none), (PySem.Str.ofString "pairs_of"), (PySem.Str.ofString "pairs_of"), defArgs s_pairs_of, defBody s_pairs_of, defScope s_pairs_of, [], []⟩
def d_steps_of : He.DefD := ⟨((PySem.Str.ofString "steps_of"), none), (PySem.Str.ofString "steps_of"), (PySem.Str.ofString "steps_of"), defArgs s_steps_of, defBody s_steps_of, defScope s_steps_of, [], []⟩
def d_weather_of_journal : He.DefD := ⟨((PySem.Str.ofString "weather_of_journal"), none), (PySem.Str.ofString "weather_of"), (PySem.Str.ofString "weather_of"), defArgs s_weather_of_journal, defBody s_weather_of_journal, defScope s_weather_of_journal, [], []⟩
def d_entry_of : He.DefD := ⟨((PySem.Str.ofString "entry_of"), none), (PySem.Str.ofString "entry_of"), (PySem.Str.ofString "entry_of"), defArgs s_entry_of, defBody s_entry_of, defScope s_entry_of, [], []⟩
def d_next_layer : He.DefD := ⟨((PySem.Str.ofString "next_layer"), none), (PySem.Str.ofString "next_layer"), (PySem.Str.ofString "next_layer"), defArgs s_next_layer, defBody s_next_layer, defScope s_next_layer, [], []⟩
def d_first_ended : He.DefD := ⟨((PySem.Str.ofString "first_ended"), none), (PySem.Str.ofString "first_ended"), (PySem.Str.ofString "first_ended"), defArgs s_first_ended, defBody s_first_ended, defScope s_first_ended, [], []⟩
def d_row_to : He.DefD := ⟨((PySem.Str.ofString "row_to"), none), (PySem.Str.ofString "row_to"), (PySem.Str.ofString "row_to"), defArgs s_row_to, defBody s_row_to, defScope s_row_to, [], []⟩
def d_layered : He.DefD := ⟨((PySem.Str.ofString "layered"), none), (PySem.Str.ofString "layered"), (PySem.Str.ofString "layered"), defArgs s_layered, defBody s_layered, defScope s_layered, [], []⟩
def d_choices_in : He.DefD := ⟨((PySem.Str.ofString "choices_in"), none), (PySem.Str.ofString "choices_in"), (PySem.Str.ofString "choices_in"), defArgs s_choices_in, defBody s_choices_in, defScope s_choices_in, [], []⟩
def d_home_in : He.DefD := ⟨((PySem.Str.ofString "home_in"), none), (PySem.Str.ofString "home_in"), (PySem.Str.ofString "home_in"), defArgs s_home_in, defBody s_home_in, defScope s_home_in, [], []⟩
def d_is_knot : He.DefD := ⟨((PySem.Str.ofString "is_knot"), none), (PySem.Str.ofString "is_knot"), (PySem.Str.ofString "is_knot"), defArgs s_is_knot, defBody s_is_knot, defScope s_is_knot, [], []⟩
def d_knot_in : He.DefD := ⟨((PySem.Str.ofString "knot_in"), none), (PySem.Str.ofString "knot_in"), (PySem.Str.ofString "knot_in"), defArgs s_knot_in, defBody s_knot_in, defScope s_knot_in, [], []⟩
def d_look : He.DefD := ⟨((PySem.Str.ofString "look"), none), (PySem.Str.ofString "look"), (PySem.Str.ofString "look"), defArgs s_look, defBody s_look, defScope s_look, [], []⟩
def d_look_for_knot : He.DefD := ⟨((PySem.Str.ofString "look_for_knot"), none), (PySem.Str.ofString "look_for_knot"), (PySem.Str.ofString "look_for_knot"), defArgs s_look_for_knot, defBody s_look_for_knot, defScope s_look_for_knot, [], []⟩
def d_Keeper_init : He.DefD := ⟨((PySem.Str.ofString "Keeper"), some (PySem.Str.ofString "__init__")), (PySem.Str.ofString "__init__"), (PySem.Str.ofString "Keeper.__init__"), defArgs s_Keeper_init, defBody s_Keeper_init, defScope s_Keeper_init, [.int 200], []⟩
def d_Keeper_plan : He.DefD := ⟨((PySem.Str.ofString "Keeper"), some (PySem.Str.ofString "plan")), (PySem.Str.ofString "plan"), (PySem.Str.ofString "Keeper.plan"), defArgs s_Keeper_plan, defBody s_Keeper_plan, defScope s_Keeper_plan, [], []⟩
def d_Keeper_book : He.DefD := ⟨((PySem.Str.ofString "Keeper"), some (PySem.Str.ofString "book")), (PySem.Str.ofString "book"), (PySem.Str.ofString "Keeper.book"), defArgs s_Keeper_book, defBody s_Keeper_book, defScope s_Keeper_book, [], []⟩
def d_Keeper_begins_with : He.DefD := ⟨((PySem.Str.ofString "Keeper"), some (PySem.Str.ofString "begins_with")), (PySem.Str.ofString "begins_with"), (PySem.Str.ofString "Keeper.begins_with"), defArgs s_Keeper_begins_with, defBody s_Keeper_begins_with, defScope s_Keeper_begins_with, [], []⟩
def d_Keeper_taken : He.DefD := ⟨((PySem.Str.ofString "Keeper"), some (PySem.Str.ofString "taken")), (PySem.Str.ofString "taken"), (PySem.Str.ofString "Keeper.taken"), defArgs s_Keeper_taken, defBody s_Keeper_taken, defScope s_Keeper_taken, [], []⟩
def d_Keeper_wish : He.DefD := ⟨((PySem.Str.ofString "Keeper"), some (PySem.Str.ofString "wish")), (PySem.Str.ofString "wish"), (PySem.Str.ofString "Keeper.wish"), defArgs s_Keeper_wish, defBody s_Keeper_wish, defScope s_Keeper_wish, [], []⟩
def d_Keeper_work : He.DefD := ⟨((PySem.Str.ofString "Keeper"), some (PySem.Str.ofString "work")), (PySem.Str.ofString "work"), (PySem.Str.ofString "Keeper.work"), defArgs s_Keeper_work, defBody s_Keeper_work, defScope s_Keeper_work, [], []⟩
def d_PlainLock_init : He.DefD := ⟨((PySem.Str.ofString "PlainLock"), some (PySem.Str.ofString "__init__")), (PySem.Str.ofString "__init__"), (PySem.Str.ofString "PlainLock.__init__"), defArgs s_PlainLock_init, defBody s_PlainLock_init, defScope s_PlainLock_init, [], []⟩
def d_PlainLock_kind : He.DefD := ⟨((PySem.Str.ofString "PlainLock"), some (PySem.Str.ofString "kind")), (PySem.Str.ofString "kind"), (PySem.Str.ofString "PlainLock.kind"), defArgs s_PlainLock_kind, defBody s_PlainLock_kind, defScope s_PlainLock_kind, [], []⟩
def d_PlainLock_extra : He.DefD := ⟨((PySem.Str.ofString "PlainLock"), some (PySem.Str.ofString "extra")), (PySem.Str.ofString "extra"), (PySem.Str.ofString "PlainLock.extra"), defArgs s_PlainLock_extra, defBody s_PlainLock_extra, defScope s_PlainLock_extra, [], []⟩
def d_Reach_init : He.DefD := ⟨((PySem.Str.ofString "Reach"), some (PySem.Str.ofString "__init__")), (PySem.Str.ofString "__init__"), (PySem.Str.ofString "Reach.__init__"), defArgs s_Reach_init, defBody s_Reach_init, defScope s_Reach_init, [], []⟩
def d_Canal_init : He.DefD := ⟨((PySem.Str.ofString "Canal"), some (PySem.Str.ofString "__init__")), (PySem.Str.ofString "__init__"), (PySem.Str.ofString "Canal.__init__"), defArgs s_Canal_init, defBody s_Canal_init, defScope s_Canal_init, [.non], []⟩
def d_names_hold : He.DefD := ⟨((PySem.Str.ofString "names_hold"), none), (PySem.Str.ofString "names_hold"), (PySem.Str.ofString "names_hold"), defArgs s_names_hold, defBody s_names_hold, defScope s_names_hold, [], []⟩
def d_reach_read : He.DefD := ⟨((PySem.Str.ofString "reach_read"), none), (PySem.Str.ofString "reach_read"), (PySem.Str.ofString "reach_read"), defArgs s_reach_read, defBody s_reach_read, defScope s_reach_read, [], []⟩
def d_extra_read : He.DefD := ⟨((PySem.Str.ofString "extra_read"), none), (PySem.Str.ofString "extra_read"), (PySem.Str.ofString "extra_read"), defArgs s_extra_read, defBody s_extra_read, defScope s_extra_read, [], []⟩
def d_lock_read : He.DefD := ⟨((PySem.Str.ofString "lock_read"), none), (PySem.Str.ofString "lock_read"), (PySem.Str.ofString "lock_read"), defArgs s_lock_read, defBody s_lock_read, defScope s_lock_read, [], []⟩
def d_night_read : He.DefD := ⟨((PySem.Str.ofString "night_read"), none), (PySem.Str.ofString "night_read"), (PySem.Str.ofString "night_read"), defArgs s_night_read, defBody s_night_read, defScope s_night_read, [], []⟩
def d_weather_of_reading : He.DefD := ⟨((PySem.Str.ofString "weather_of_reading"), none), (PySem.Str.ofString "weather_of"), (PySem.Str.ofString "weather_of"), defArgs s_weather_of_reading, defBody s_weather_of_reading, defScope s_weather_of_reading, [], []⟩
def d_canal_of : He.DefD := ⟨((PySem.Str.ofString "canal_of"), none), (PySem.Str.ofString "canal_of"), (PySem.Str.ofString "canal_of"), defArgs s_canal_of, defBody s_canal_of, defScope s_canal_of, [], []⟩
def d_House_init : He.DefD := ⟨((PySem.Str.ofString "House"), some (PySem.Str.ofString "__init__")), (PySem.Str.ofString "__init__"), (PySem.Str.ofString "House.__init__"), defArgs s_House_init, defBody s_House_init, defScope s_House_init, [], []⟩
def d_House_answered : He.DefD := ⟨((PySem.Str.ofString "House"), some (PySem.Str.ofString "answered")), (PySem.Str.ofString "answered"), (PySem.Str.ofString "House.answered"), defArgs s_House_answered, defBody s_House_answered, defScope s_House_answered, [], []⟩
def d_House_planned : He.DefD := ⟨((PySem.Str.ofString "House"), some (PySem.Str.ofString "planned")), (PySem.Str.ofString "planned"), (PySem.Str.ofString "House.planned"), defArgs s_House_planned, defBody s_House_planned, defScope s_House_planned, [], []⟩
def d_House_waters : He.DefD := ⟨((PySem.Str.ofString "House"), some (PySem.Str.ofString "waters")), (PySem.Str.ofString "waters"), (PySem.Str.ofString "House.waters"), defArgs s_House_waters, defBody s_House_waters, defScope s_House_waters, [], []⟩
def d_House_knots : He.DefD := ⟨((PySem.Str.ofString "House"), some (PySem.Str.ofString "knots")), (PySem.Str.ofString "knots"), (PySem.Str.ofString "House.knots"), defArgs s_House_knots, defBody s_House_knots, defScope s_House_knots, [], []⟩
def d_House_reply : He.DefD := ⟨((PySem.Str.ofString "House"), some (PySem.Str.ofString "reply")), (PySem.Str.ofString "reply"), (PySem.Str.ofString "House.reply"), defArgs s_House_reply, defBody s_House_reply, defScope s_House_reply, [], []⟩
def d_House_ask : He.DefD := ⟨((PySem.Str.ofString "House"), some (PySem.Str.ofString "ask")), (PySem.Str.ofString "ask"), (PySem.Str.ofString "House.ask"), defArgs s_House_ask, defBody s_House_ask, defScope s_House_ask, [], []⟩
def d__law_named : He.DefD := ⟨((PySem.Str.ofString "_law_named"), none), (PySem.Str.ofString "_law_named"), (PySem.Str.ofString "_law_named"), defArgs s__law_named, defBody s__law_named, defScope s__law_named, [], []⟩
def d__law_faults : He.DefD := ⟨((PySem.Str.ofString "_law_faults"), none), (PySem.Str.ofString "_law_faults"), (PySem.Str.ofString "_law_faults"), defArgs s__law_faults, defBody s__law_faults, defScope s__law_faults, [], []⟩
def d__law_yes : He.DefD := ⟨((PySem.Str.ofString "_law_yes"), none), (PySem.Str.ofString "_law_yes"), (PySem.Str.ofString "_law_yes"), defArgs s__law_yes, defBody s__law_yes, defScope s__law_yes, [], []⟩
def d__law_begun : He.DefD := ⟨((PySem.Str.ofString "_law_begun"), none), (PySem.Str.ofString "_law_begun"), (PySem.Str.ofString "_law_begun"), defArgs s__law_begun, defBody s__law_begun, defScope s__law_begun, [], []⟩
def d_made_of : He.DefD := ⟨((PySem.Str.ofString "made_of"), none), (PySem.Str.ofString "made_of"), (PySem.Str.ofString "made_of"), defArgs s_made_of, defBody s_made_of, defScope s_made_of, [], []⟩
def d_is_name : He.DefD := ⟨((PySem.Str.ofString "is_name"), none), (PySem.Str.ofString "is_name"), (PySem.Str.ofString "is_name"), defArgs s_is_name, defBody s_is_name, defScope s_is_name, [], []⟩
def d_number_of : He.DefD := ⟨((PySem.Str.ofString "number_of"), none), (PySem.Str.ofString "number_of"), (PySem.Str.ofString "number_of"), defArgs s_number_of, defBody s_number_of, defScope s_number_of, [], []⟩
def d_refusal_shown : He.DefD := ⟨((PySem.Str.ofString "refusal_shown"), none), (PySem.Str.ofString "refusal_shown"), (PySem.Str.ofString "refusal_shown"), defArgs s_refusal_shown, defBody s_refusal_shown, defScope s_refusal_shown, [], []⟩
def d__law_cell_at : He.DefD := ⟨((PySem.Str.ofString "_law_cell_at"), none), (PySem.Str.ofString "_law_cell_at"), (PySem.Str.ofString "_law_cell_at"), defArgs s__law_cell_at, defBody s__law_cell_at, defScope s__law_cell_at, [], []⟩
def d__law_name : He.DefD := ⟨((PySem.Str.ofString "_law_name"), none), (PySem.Str.ofString "_law_name"), (PySem.Str.ofString "_law_name"), defArgs s__law_name, defBody s__law_name, defScope s__law_name, [], []⟩
def d_law : He.DefD := ⟨((PySem.Str.ofString "law"), none), (PySem.Str.ofString "law"), (PySem.Str.ofString "law"), defArgs s_law, defBody s_law, defScope s_law, [], []⟩
def fn0 : List He.DefD := [d_Book_ways, d_Book_state, d_boats_at, d_Book_canal, d_place_of, d_Canal_lock_at, d_Book_names, d_advice, d_deed_shown, d_deeds_shown, d_worded, d_answer_shown]
def fn1 : List He.DefD := [d_parted, d_most_of, d_poured_all, d_passing, d_PlainLock_fill_parts, d_filling, d_PlainLock_let_parts, d_letting, d_held_behind, d_passage, d_linked, d_Canal_sea]
def fn2 : List He.DefD := [d_Canal_sky, d_Canal_many, d_over, d_spilled, d_settled, d_Canal_weirs, d_Canal_start, d_begun, d_reach_of, d_lying, d_all_home, d_spills]
def fn3 : List He.DefD := [d_weir_pours, d_night_pours, d_wet_enough, d_Canal_chamber, d_Canal_basin, d_numbered, d_Canal_full, d_pass_pours, d_let_pours, d_too_dry, d_why_no_pass, d_why_not]
def fn4 : List He.DefD := [d_pours, d_after, d_may, d_boat_at, d_Canal_reach_at, d_way_of, d_Book_init, d_Book_copied, d_Book_deed_of, d_Book_why_no_come, d_Book_why_no_night, d_Book_fault]
def fn5 : List He.DefD := [d_Book_pours_of, d_Book_behind, d_Book_words_of, d_Book_do, d_name_of, d_pairs_of, d_steps_of, d_weather_of_journal, d_entry_of, d_next_layer, d_first_ended, d_row_to]
def fn6 : List He.DefD := [d_layered, d_choices_in, d_home_in, d_is_knot, d_knot_in, d_look, d_look_for_knot, d_Keeper_init, d_Keeper_plan, d_Keeper_book, d_Keeper_begins_with, d_Keeper_taken]
def fn7 : List He.DefD := [d_Keeper_wish, d_Keeper_work, d_PlainLock_init, d_PlainLock_kind, d_PlainLock_extra, d_Reach_init, d_Canal_init, d_names_hold, d_reach_read, d_extra_read, d_lock_read, d_night_read]
def fn8 : List He.DefD := [d_weather_of_reading, d_canal_of, d_House_init, d_House_answered, d_House_planned, d_House_waters, d_House_knots, d_House_reply, d_House_ask, d__law_named, d__law_faults, d__law_yes]
def fn9 : List He.DefD := [d__law_begun, d_made_of, d_is_name, d_number_of, d_refusal_shown, d__law_cell_at, d__law_name, d_law]
def fn : List He.DefD := fn0 ++ fn1 ++ fn2 ++ fn3 ++ fn4 ++ fn5 ++ fn6 ++ fn7 ++ fn8 ++ fn9
def faB0 : List He.Fa := [.glo (PySem.Str.ofString "boats_at"), .glo (PySem.Str.ofString "place_of"), .glo (PySem.Str.ofString "advice"), .glo (PySem.Str.ofString "deed_shown"), .glo (PySem.Str.ofString "deeds_shown"), .glo (PySem.Str.ofString "worded"), .glo (PySem.Str.ofString "answer_shown"), .glo (PySem.Str.ofString "parted"), .glo (PySem.Str.ofString "most_of"), .glo (PySem.Str.ofString "poured_all"), .glo (PySem.Str.ofString "passing"), .glo (PySem.Str.ofString "filling")]
def faB1 : List He.Fa := [.glo (PySem.Str.ofString "letting"), .glo (PySem.Str.ofString "held_behind"), .glo (PySem.Str.ofString "passage"), .glo (PySem.Str.ofString "linked"), .glo (PySem.Str.ofString "over"), .glo (PySem.Str.ofString "spilled"), .glo (PySem.Str.ofString "settled"), .glo (PySem.Str.ofString "begun"), .glo (PySem.Str.ofString "reach_of"), .glo (PySem.Str.ofString "lying"), .glo (PySem.Str.ofString "all_home"), .glo (PySem.Str.ofString "spills")]
def faB2 : List He.Fa := [.glo (PySem.Str.ofString "weir_pours"), .glo (PySem.Str.ofString "night_pours"), .glo (PySem.Str.ofString "wet_enough"), .glo (PySem.Str.ofString "numbered"), .glo (PySem.Str.ofString "pass_pours"), .glo (PySem.Str.ofString "let_pours"), .glo (PySem.Str.ofString "too_dry"), .glo (PySem.Str.ofString "why_no_pass"), .glo (PySem.Str.ofString "why_not"), .glo (PySem.Str.ofString "pours"), .glo (PySem.Str.ofString "after"), .glo (PySem.Str.ofString "may")]
def faB3 : List He.Fa := [.glo (PySem.Str.ofString "boat_at"), .glo (PySem.Str.ofString "way_of"), .glo (PySem.Str.ofString "name_of"), .glo (PySem.Str.ofString "pairs_of"), .glo (PySem.Str.ofString "steps_of"), .glo (PySem.Str.ofString "weather_of_journal"), .glo (PySem.Str.ofString "entry_of"), .glo (PySem.Str.ofString "next_layer"), .glo (PySem.Str.ofString "first_ended"), .glo (PySem.Str.ofString "row_to"), .glo (PySem.Str.ofString "layered"), .glo (PySem.Str.ofString "choices_in")]
def faB4 : List He.Fa := [.glo (PySem.Str.ofString "home_in"), .glo (PySem.Str.ofString "is_knot"), .glo (PySem.Str.ofString "knot_in"), .glo (PySem.Str.ofString "look"), .glo (PySem.Str.ofString "look_for_knot"), .glo (PySem.Str.ofString "names_hold"), .glo (PySem.Str.ofString "reach_read"), .glo (PySem.Str.ofString "extra_read"), .glo (PySem.Str.ofString "lock_read"), .glo (PySem.Str.ofString "night_read"), .glo (PySem.Str.ofString "weather_of_reading"), .glo (PySem.Str.ofString "canal_of")]
def faB5 : List He.Fa := [.glo (PySem.Str.ofString "_law_named"), .glo (PySem.Str.ofString "_law_faults"), .glo (PySem.Str.ofString "_law_yes"), .glo (PySem.Str.ofString "_law_begun"), .glo (PySem.Str.ofString "made_of"), .glo (PySem.Str.ofString "is_name"), .glo (PySem.Str.ofString "number_of"), .glo (PySem.Str.ofString "refusal_shown"), .glo (PySem.Str.ofString "_law_cell_at"), .glo (PySem.Str.ofString "_law_name"), .glo (PySem.Str.ofString "law"), .glo (PySem.Str.ofString "Book")]
def faB6 : List He.Fa := [.glo (PySem.Str.ofString "Keeper"), .glo (PySem.Str.ofString "PlainLock"), .glo (PySem.Str.ofString "Reach"), .glo (PySem.Str.ofString "Canal"), .glo (PySem.Str.ofString "House"), .glo (PySem.Str.ofString "CanalError"), .glo (PySem.Str.ofString "BadRow"), .glo (PySem.Str.ofString "NotNow"), .glo (PySem.Str.ofString "BadNumber"), .glo (PySem.Str.ofString "Twice"), .glo (PySem.Str.ofString "Unknown"), .glo (PySem.Str.ofString "TooMany")]
def faB7 : List He.Fa := [.glo (PySem.Str.ofString "NotLinked"), .glo (PySem.Str.ofString "TooWide"), .glo (PySem.Str.ofString "TooDry"), .glo (PySem.Str.ofString "Torn"), .free (PySem.Str.ofString "len"), .free (PySem.Str.ofString "list"), .free (PySem.Str.ofString "tuple"), .free (PySem.Str.ofString "range"), .free (PySem.Str.ofString "max"), .free (PySem.Str.ofString "min"), .free (PySem.Str.ofString "int"), .free (PySem.Str.ofString "str")]
def faB8 : List He.Fa := [.free (PySem.Str.ofString "isinstance"), .free (PySem.Str.ofString "enumerate"), .free (PySem.Str.ofString "set"), .int (PySem.Str.ofString "MOST_BOATS") 9, .int (PySem.Str.ofString "MOST_REACHES") 8, .int (PySem.Str.ofString "MOST_LOCKS") 8, .int (PySem.Str.ofString "MOST_NIGHTS") 6, .int (PySem.Str.ofString "MOST_BERTHS") 9, .int (PySem.Str.ofString "USUAL") 200, .int (PySem.Str.ofString "GREATEST") 1000, .int (PySem.Str.ofString "LONGEST") 12, .str (PySem.Str.ofString "LETTERS") (PySem.Str.ofString "abcdefghijklmnopqrstuvwxyz")]
def faB9 : List He.Fa := [.str (PySem.Str.ofString "FIGURES") (PySem.Str.ofString "0123456789"), .cls (PySem.Str.ofString "Book"), .cls (PySem.Str.ofString "Keeper"), .cls (PySem.Str.ofString "PlainLock"), .cls (PySem.Str.ofString "Reach"), .cls (PySem.Str.ofString "Canal"), .cls (PySem.Str.ofString "House"), .mkr (PySem.Str.ofString "Book"), .mkr (PySem.Str.ofString "Keeper"), .mkr (PySem.Str.ofString "PlainLock"), .mkr (PySem.Str.ofString "Reach"), .mkr (PySem.Str.ofString "Canal")]
def faB10 : List He.Fa := [.mkr (PySem.Str.ofString "House"), .meth (PySem.Str.ofString "Book") (PySem.Str.ofString "ways"), .meth (PySem.Str.ofString "Book") (PySem.Str.ofString "state"), .meth (PySem.Str.ofString "Book") (PySem.Str.ofString "canal"), .meth (PySem.Str.ofString "Book") (PySem.Str.ofString "names"), .meth (PySem.Str.ofString "Book") (PySem.Str.ofString "copied"), .meth (PySem.Str.ofString "Book") (PySem.Str.ofString "deed_of"), .meth (PySem.Str.ofString "Book") (PySem.Str.ofString "why_no_come"), .meth (PySem.Str.ofString "Book") (PySem.Str.ofString "why_no_night"), .meth (PySem.Str.ofString "Book") (PySem.Str.ofString "fault"), .meth (PySem.Str.ofString "Book") (PySem.Str.ofString "pours_of"), .meth (PySem.Str.ofString "Book") (PySem.Str.ofString "behind")]
def faB11 : List He.Fa := [.meth (PySem.Str.ofString "Book") (PySem.Str.ofString "words_of"), .meth (PySem.Str.ofString "Book") (PySem.Str.ofString "do"), .meth (PySem.Str.ofString "Keeper") (PySem.Str.ofString "plan"), .meth (PySem.Str.ofString "Keeper") (PySem.Str.ofString "book"), .meth (PySem.Str.ofString "Keeper") (PySem.Str.ofString "begins_with"), .meth (PySem.Str.ofString "Keeper") (PySem.Str.ofString "taken"), .meth (PySem.Str.ofString "Keeper") (PySem.Str.ofString "wish"), .meth (PySem.Str.ofString "Keeper") (PySem.Str.ofString "work"), .meth (PySem.Str.ofString "PlainLock") (PySem.Str.ofString "fill_parts"), .meth (PySem.Str.ofString "PlainLock") (PySem.Str.ofString "let_parts"), .meth (PySem.Str.ofString "PlainLock") (PySem.Str.ofString "kind"), .meth (PySem.Str.ofString "PlainLock") (PySem.Str.ofString "extra")]
def faB12 : List He.Fa := [.meth (PySem.Str.ofString "Canal") (PySem.Str.ofString "lock_at"), .meth (PySem.Str.ofString "Canal") (PySem.Str.ofString "sea"), .meth (PySem.Str.ofString "Canal") (PySem.Str.ofString "sky"), .meth (PySem.Str.ofString "Canal") (PySem.Str.ofString "many"), .meth (PySem.Str.ofString "Canal") (PySem.Str.ofString "weirs"), .meth (PySem.Str.ofString "Canal") (PySem.Str.ofString "start"), .meth (PySem.Str.ofString "Canal") (PySem.Str.ofString "chamber"), .meth (PySem.Str.ofString "Canal") (PySem.Str.ofString "basin"), .meth (PySem.Str.ofString "Canal") (PySem.Str.ofString "full"), .meth (PySem.Str.ofString "Canal") (PySem.Str.ofString "reach_at"), .meth (PySem.Str.ofString "House") (PySem.Str.ofString "answered"), .meth (PySem.Str.ofString "House") (PySem.Str.ofString "planned")]
def faB13 : List He.Fa := [.meth (PySem.Str.ofString "House") (PySem.Str.ofString "waters"), .meth (PySem.Str.ofString "House") (PySem.Str.ofString "knots"), .meth (PySem.Str.ofString "House") (PySem.Str.ofString "reply"), .meth (PySem.Str.ofString "House") (PySem.Str.ofString "ask"), .exc (PySem.Str.ofString "BadRow"), .exm (PySem.Str.ofString "BadRow") (PySem.Str.ofString "CanalError") true, .exc (PySem.Str.ofString "NotNow"), .exm (PySem.Str.ofString "NotNow") (PySem.Str.ofString "CanalError") true, .exc (PySem.Str.ofString "BadNumber"), .exm (PySem.Str.ofString "BadNumber") (PySem.Str.ofString "CanalError") true, .exc (PySem.Str.ofString "Twice"), .exm (PySem.Str.ofString "Twice") (PySem.Str.ofString "CanalError") true]
def faB14 : List He.Fa := [.exc (PySem.Str.ofString "Unknown"), .exm (PySem.Str.ofString "Unknown") (PySem.Str.ofString "CanalError") true, .exc (PySem.Str.ofString "TooMany"), .exm (PySem.Str.ofString "TooMany") (PySem.Str.ofString "CanalError") true, .exc (PySem.Str.ofString "NotLinked"), .exm (PySem.Str.ofString "NotLinked") (PySem.Str.ofString "CanalError") true, .exc (PySem.Str.ofString "TooWide"), .exm (PySem.Str.ofString "TooWide") (PySem.Str.ofString "CanalError") true, .exc (PySem.Str.ofString "TooDry"), .exm (PySem.Str.ofString "TooDry") (PySem.Str.ofString "CanalError") true, .exc (PySem.Str.ofString "Torn"), .exm (PySem.Str.ofString "Torn") (PySem.Str.ofString "CanalError") true]
def faB15 : List He.Fa := [.glo (PySem.Str.ofString "WAYS")]
def faB : List He.Fa := faB0 ++ faB1 ++ faB2 ++ faB3 ++ faB4 ++ faB5 ++ faB6 ++ faB7 ++ faB8 ++ faB9 ++ faB10 ++ faB11 ++ faB12 ++ faB13 ++ faB14 ++ faB15
def cnL0 : List PySem.Str := [(PySem.Str.ofString "Book"), (PySem.Str.ofString "Keeper"), (PySem.Str.ofString "PlainLock"), (PySem.Str.ofString "Reach"), (PySem.Str.ofString "Canal"), (PySem.Str.ofString "House")]
def cnL : List PySem.Str := cnL0
def fnL0 : List PySem.Str := [(PySem.Str.ofString "locks"), (PySem.Str.ofString "name"), (PySem.Str.ofString "low"), (PySem.Str.ofString "high"), (PySem.Str.ofString "reaches"), (PySem.Str.ofString "least"), (PySem.Str.ofString "berths"), (PySem.Str.ofString "nights"), (PySem.Str.ofString "house"), (PySem.Str.ofString "called"), (PySem.Str.ofString "courses"), (PySem.Str.ofString "standing")]
def fnL1 : List PySem.Str := [(PySem.Str.ofString "moved"), (PySem.Str.ofString "gatewords"), (PySem.Str.ofString "told"), (PySem.Str.ofString "kept"), (PySem.Str.ofString "bound"), (PySem.Str.ofString "coming"), (PySem.Str.ofString "room"), (PySem.Str.ofString "crest"), (PySem.Str.ofString "water"), (PySem.Str.ofString "target"), (PySem.Str.ofString "land"), (PySem.Str.ofString "master")]
def fnL : List PySem.Str := fnL0 ++ fnL1
def xnL0 : List PySem.Str := [(PySem.Str.ofString "CanalError"), (PySem.Str.ofString "BadRow"), (PySem.Str.ofString "NotNow"), (PySem.Str.ofString "BadNumber"), (PySem.Str.ofString "Twice"), (PySem.Str.ofString "Unknown"), (PySem.Str.ofString "TooMany"), (PySem.Str.ofString "NotLinked"), (PySem.Str.ofString "TooWide"), (PySem.Str.ofString "TooDry"), (PySem.Str.ofString "Torn")]
def xnL : List PySem.Str := xnL0
def fa : List He.Fa := faB ++ cnL.flatMap fun c => fnL.map fun f => .noat c f
def nms0 : List PySem.Str := [(PySem.Str.ofString "_wall"), (PySem.Str.ofString "__name__"), (PySem.Str.ofString "places_of"), (PySem.Str.ofString "thrifty"), (PySem.Str.ofString "boats_at"), (PySem.Str.ofString "advice"), (PySem.Str.ofString "CanalError"), (PySem.Str.ofString "NotNow"), (PySem.Str.ofString "BadRow"), (PySem.Str.ofString "BadNumber"), (PySem.Str.ofString "Twice"), (PySem.Str.ofString "Unknown")]
def nms1 : List PySem.Str := [(PySem.Str.ofString "TooMany"), (PySem.Str.ofString "NotLinked"), (PySem.Str.ofString "TooWide"), (PySem.Str.ofString "TooDry"), (PySem.Str.ofString "Torn"), (PySem.Str.ofString "deed_shown"), (PySem.Str.ofString "deeds_shown"), (PySem.Str.ofString "worded"), (PySem.Str.ofString "counted"), (PySem.Str.ofString "answer_shown"), (PySem.Str.ofString "refusal_shown"), (PySem.Str.ofString "LETTERS")]
def nms2 : List PySem.Str := [(PySem.Str.ofString "FIGURES"), (PySem.Str.ofString "LONGEST"), (PySem.Str.ofString "made_of"), (PySem.Str.ofString "is_name"), (PySem.Str.ofString "number_of"), (PySem.Str.ofString "USUAL"), (PySem.Str.ofString "GREATEST"), (PySem.Str.ofString "parted"), (PySem.Str.ofString "most_of"), (PySem.Str.ofString "poured_all"), (PySem.Str.ofString "passing"), (PySem.Str.ofString "filling")]
def nms3 : List PySem.Str := [(PySem.Str.ofString "letting"), (PySem.Str.ofString "held_behind"), (PySem.Str.ofString "passage"), (PySem.Str.ofString "linked"), (PySem.Str.ofString "begun"), (PySem.Str.ofString "reach_of"), (PySem.Str.ofString "lying"), (PySem.Str.ofString "all_home"), (PySem.Str.ofString "over"), (PySem.Str.ofString "spilled"), (PySem.Str.ofString "settled"), (PySem.Str.ofString "spills")]
def nms4 : List PySem.Str := [(PySem.Str.ofString "weir_pours"), (PySem.Str.ofString "night_pours"), (PySem.Str.ofString "wet_enough"), (PySem.Str.ofString "numbered"), (PySem.Str.ofString "pass_pours"), (PySem.Str.ofString "let_pours"), (PySem.Str.ofString "too_dry"), (PySem.Str.ofString "why_no_pass"), (PySem.Str.ofString "why_not"), (PySem.Str.ofString "pours"), (PySem.Str.ofString "after"), (PySem.Str.ofString "may")]
def nms5 : List PySem.Str := [(PySem.Str.ofString "MOST_BOATS"), (PySem.Str.ofString "boat_at"), (PySem.Str.ofString "way_of"), (PySem.Str.ofString "Book"), (PySem.Str.ofString "WAYS"), (PySem.Str.ofString "name_of"), (PySem.Str.ofString "pairs_of"), (PySem.Str.ofString "steps_of"), (PySem.Str.ofString "weather_of"), (PySem.Str.ofString "weather_of_journal"), (PySem.Str.ofString "entry_of"), (PySem.Str.ofString "next_layer")]
def nms6 : List PySem.Str := [(PySem.Str.ofString "first_ended"), (PySem.Str.ofString "row_to"), (PySem.Str.ofString "layered"), (PySem.Str.ofString "choices_in"), (PySem.Str.ofString "home_in"), (PySem.Str.ofString "is_knot"), (PySem.Str.ofString "knot_in"), (PySem.Str.ofString "look"), (PySem.Str.ofString "look_for_knot"), (PySem.Str.ofString "Keeper"), (PySem.Str.ofString "real_parts"), (PySem.Str.ofString "PlainLock")]
def nms7 : List PySem.Str := [(PySem.Str.ofString "BasinLock"), (PySem.Str.ofString "PumpLock"), (PySem.Str.ofString "Reach"), (PySem.Str.ofString "place_of"), (PySem.Str.ofString "Canal"), (PySem.Str.ofString "MOST_REACHES"), (PySem.Str.ofString "MOST_LOCKS"), (PySem.Str.ofString "MOST_NIGHTS"), (PySem.Str.ofString "MOST_BERTHS"), (PySem.Str.ofString "names_hold"), (PySem.Str.ofString "reach_read"), (PySem.Str.ofString "extra_read")]
def nms8 : List PySem.Str := [(PySem.Str.ofString "lock_read"), (PySem.Str.ofString "night_read"), (PySem.Str.ofString "weather_of_reading"), (PySem.Str.ofString "canal_of"), (PySem.Str.ofString "House"), (PySem.Str.ofString "_law_cell_at"), (PySem.Str.ofString "_law_name"), (PySem.Str.ofString "_law_named"), (PySem.Str.ofString "_law_faults"), (PySem.Str.ofString "_law_yes"), (PySem.Str.ofString "_law_begun")]
def nms : List PySem.Str := nms0 ++ nms1 ++ nms2 ++ nms3 ++ nms4 ++ nms5 ++ nms6 ++ nms7 ++ nms8
def excB (K : PySem.W.Frag) (D : Addr) : Bool := He.eqO (PySem.W.findIn K (.ref D) "__getattribute__") (some (some (.builtin "BaseException.__getattribute__"))) && (He.eqO (PySem.W.findIn K (.ref D) "__getattr__") (some none) &&
  (PySem.W.hasDictIn K D && (He.eqO (PySem.W.findIn K (.ref D) "__class__") (some (some (.builtin "object.__class__"))) && decide (PySem.W.mroIn K D (.type "object") = some true))))
def isB (K : PySem.W.Frag) (x y : PySem.Str) : Bool := decide (PySem.W.kitOne K (.ref (He.ga K x)) (.ref (He.ga K y)) = some (decide (x = y)))
def asksL : List PySem.Str := ["Twice", "TooMany", "Unknown", "NotLinked", "BadNumber", "TooDry", "TooWide"]
def ex (K : PySem.W.Frag) : Bool := He.tupB K "WAYS" [.str "up", .str "down"] && (xnL.all (fun x => excB K (He.ga K x)) && (xnL.all (fun x => asksL.all fun y => isB K x y) &&
  (He.eqO (PySem.W.specialIn K (.builtin "object.__class__") "__get__") (some (some (.builtin "getset_descriptor.__get__"))) && decide (PySem.W.takesIn K (.builtin "object.__class__") = some true))))
def tf : List He.Defn := [("choices_in", none), ("home_in", none), ("knot_in", none)]

def asL0 : List Addr := [6, 4, 21, 26, 33, 40, 45, 55, 68, 80, 92, 104, 116, 128, 140, 152, 164, 176, 185, 190, 197, 202, 209, 216, 223, 230, 237, 244, 251, 258, 265, 270, 275, 282, 289, 296, 301, 308, 315, 322, 329, 337, 344, 349, 356, 363, 370, 375, 382, 389, 396, 403, 410, 417, 424, 429, 436, 441, 570, 575]
def asL1 : List Addr := [582, 587, 594, 1033, 599, 606, 613, 620, 627, 634, 641, 648, 655, 662, 669, 676, 736, 745, 790, 839, 879, 898, 909, 993, 1004, 1009, 1016, 1023, 1028, 1038, 1111, 1122, 1129, 1136, 1143, 1150, 1157, 1162, 0, 20, 25, 32, 39, 44, 54, 67, 79, 91, 103, 115, 127, 139, 151, 163, 175, 184, 189, 196, 201, 208]
def asL2 : List Addr := [215, 222, 229, 236, 243, 250, 257, 264, 269, 274, 281, 288, 295, 300, 307, 314, 321, 328, 336, 330, 343, 348, 355, 362, 369, 374, 381, 388, 395, 402, 409, 416, 423, 428, 435, 440, 569, 581, 586, 593, 1032, 598, 605, 612, 619, 626, 633, 640, 647, 654, 661, 668, 675, 735, 744, 789, 838, 878, 897, 908]
def asL3 : List Addr := [992, 1003, 1008, 1015, 1022, 1027, 1037, 1110, 1121, 1128, 1135, 1142, 1149, 1156, 1161, 15, 16, 17, 18, 19, 22, 23, 24, 27, 28, 29, 30, 31, 34, 35, 36, 37, 38, 41, 42, 43, 53, 56, 66, 78, 90, 102, 114, 126, 138, 150, 162, 174, 179, 180, 181, 182, 183, 186, 187, 188, 191, 192, 193, 194]
def asL4 : List Addr := [195, 198, 199, 200, 203, 204, 205, 206, 207, 210, 211, 212, 213, 214, 217, 218, 219, 220, 221, 224, 225, 226, 227, 228, 231, 232, 233, 234, 235, 238, 239, 240, 241, 242, 245, 246, 247, 248, 249, 252, 253, 254, 255, 256, 259, 260, 261, 262, 263, 266, 267, 268, 271, 272, 273, 276, 277, 278, 279, 280]
def asL5 : List Addr := [283, 284, 285, 286, 287, 290, 291, 292, 293, 294, 297, 298, 299, 302, 303, 304, 305, 306, 309, 310, 311, 312, 313, 316, 317, 318, 319, 320, 323, 324, 325, 326, 327, 331, 332, 333, 334, 335, 338, 339, 340, 341, 342, 345, 346, 347, 350, 351, 352, 353, 354, 357, 358, 359, 360, 361, 364, 365, 366, 367]
def asL6 : List Addr := [368, 371, 372, 373, 376, 377, 378, 379, 380, 383, 384, 385, 386, 387, 390, 391, 392, 393, 394, 397, 398, 399, 400, 401, 404, 405, 406, 407, 408, 411, 412, 413, 414, 415, 418, 419, 420, 421, 422, 425, 426, 427, 430, 431, 432, 433, 434, 437, 438, 439, 455, 462, 469, 476, 483, 490, 497, 504, 511, 518]
def asL7 : List Addr := [525, 532, 539, 546, 553, 560, 567, 568, 571, 572, 576, 577, 578, 579, 580, 583, 584, 585, 588, 589, 590, 591, 592, 1029, 1030, 1031, 595, 596, 597, 600, 601, 602, 603, 604, 607, 608, 609, 610, 611, 614, 615, 616, 617, 618, 621, 622, 623, 624, 625, 628, 629, 630, 631, 632, 635, 636, 637, 638, 639, 642]
def asL8 : List Addr := [643, 644, 645, 646, 649, 650, 651, 652, 653, 656, 657, 658, 659, 660, 663, 664, 665, 666, 667, 670, 671, 672, 673, 674, 691, 698, 705, 712, 719, 726, 733, 734, 737, 738, 741, 742, 743, 759, 766, 773, 780, 787, 788, 791, 792, 808, 815, 822, 829, 836, 837, 855, 862, 869, 876, 877, 895, 896, 899, 900]
def asL9 : List Addr := [903, 904, 905, 906, 907, 922, 929, 936, 943, 950, 957, 964, 971, 978, 983, 990, 991, 994, 995, 998, 999, 1000, 1001, 1002, 1005, 1006, 1007, 1010, 1011, 1012, 1013, 1014, 1017, 1018, 1019, 1020, 1021, 1024, 1025, 1026, 1034, 1035, 1036, 1052, 1059, 1066, 1073, 1080, 1087, 1094, 1101, 1108, 1109, 1112, 1113, 1116, 1117, 1118, 1119, 1120]
def asL10 : List Addr := [1123, 1124, 1125, 1126, 1127, 1130, 1131, 1132, 1133, 1134, 1137, 1138, 1139, 1140, 1141, 1144, 1145, 1146, 1147, 1148, 1151, 1152, 1153, 1154, 1155, 1158, 1159, 1160, 454, 461, 468, 475, 482, 489, 496, 503, 510, 517, 524, 531, 538, 545, 552, 559, 566, 690, 684, 697, 704, 711, 718, 725, 732, 758, 765, 772, 779, 786, 807, 814]
def asL11 : List Addr := [821, 828, 835, 854, 861, 868, 875, 894, 921, 917, 928, 935, 942, 949, 956, 963, 970, 977, 982, 989, 1051, 1058, 1065, 1072, 1079, 1086, 1093, 1100, 1107]
def asL : List Addr := asL0 ++ asL1 ++ asL2 ++ asL3 ++ asL4 ++ asL5 ++ asL6 ++ asL7 ++ asL8 ++ asL9 ++ asL10 ++ asL11
def asA : List Addr := mainGlobals :: asL
def obsA (g : Addr → Option Obj) : He.AlX := (He.obsT fa fn [] (He.frT g asA), ex (He.frT g asA) && He.tabsB g tf (He.frT g asA))
abbrev R : PySem.W.OpenRow := PySem.W.OpenLaw.row PySem.Challenge.rw_lockhouse_k85_refused_rows
theorem saysA {w : World} {h : Heap} (e : obsA h.get? = He.valX fn [] w) : He.SaysX fa fn [] tf ex w h (He.frT h.get? asA) := by
  have q1 : He.obsT fa fn [] (He.frT h.get? asA) = He.valT fn [] w := congrArg (fun z : He.AlX => z.1) e
  have q2 : (ex (He.frT h.get? asA) && He.tabsB h.get? tf (He.frT h.get? asA)) = true := congrArg (fun z : He.AlX => z.2) e
  obtain ⟨q3, q4⟩ := He.ba q2
  have each : ∀ p ∈ tf, PySem.W.codeHdIn (He.frT h.get? asA) (He.cT (He.frT h.get? asA) p).1 (He.cT (He.frT h.get? asA) p).2 = true ∧ ∃ o, h.get? (He.cT (He.frT h.get? asA) p).2 = some o ∧ He.emptyTab o = true := fun p hp => by
    obtain ⟨y1, y2⟩ := He.ba (List.all_eq_true.mp q4 p hp)
    cases z : h.get? (He.cT (He.frT h.get? asA) p).2 with
    | none =>
      rw [z] at y2
      cases y2
    | some o =>
      rw [z] at y2
      exact ⟨y1, o, rfl, y2⟩
  refine ⟨q1, q3, fun p hp => (each p hp).1, fun p hp => ?_, fun p hp => ?_⟩
  · obtain ⟨_, o, z, y⟩ := each p hp
    exact He.frT_none z y
  · obtain ⟨_, o, z, y⟩ := each p hp
    rw [z, He.emptyTab_eq y]
def hkA : PySem.W.Hook where
  α := He.AlX
  obs := fun s => obsA s.heap.get?
  val := fun w => He.valX fn [] w
  says := fun w h => ∃ K : PySem.W.Frag, K.In h ∧ He.SaysX fa fn [] tf ex w h K
  of := fun _ _ e => ⟨_, He.frT_in, saysA e⟩
  keeps := fun _ _ _ ⟨K, hK, c⟩ k => ⟨K, PySem.W.Frag.In.keeps hK k, ⟨c.t, c.more, c.hd, c.out, fun p hp => k _ _ (c.empty p hp)⟩⟩
def obA (s : PySem.W.SharedT) : He.AlX := obsA (HandSHeadRun.getT s)
theorem obA_eq (s : PySem.W.SharedT) : obA s = hkA.obs s.abs := by
  have e : HandSHeadRun.getT s = s.abs.heap.get? := funext (HandSHeadRun.getT_eq s)
  unfold obA
  rw [e]
  rfl
theorem run_q (w : World) (os : OsState) : (HandSHeadRun.endF (HandSHeadRun.stepQ (HandSHeadRun.denQ HandSHeadRun.tabQ) R.prog w) 20000 R.prog w os).map (fun s => ((fn0 ++ fn1 ++ fn2 ++ fn3 ++ fn4).all fun d => d.ok (He.frT (HandSHeadRun.getT s) asA)) && ((fn5 ++ fn6 ++ fn7 ++ fn8 ++ fn9).all fun d => d.ok (He.frT (HandSHeadRun.getT s) asA))) = some (true) := by kernel_rfl
theorem run_o (w : World) (os : OsState) : (HandSHeadRun.endF (HandSHeadRun.stepQ (HandSHeadRun.denQ HandSHeadRun.tabQ) R.prog w) 20000 R.prog w os).map (fun s => ((HandSHeadRun.looksF R.prog (PySem.W.boot_heap w.params) s.abs, HandSHeadRun.seenQ (PySem.W.view R.prog [129]) nms (PySem.importedModules R.prog.main.body) (fun s => PySem.W.xlAt (PySem.W.view R.prog [129]) [] s && PySem.W.recOk R.toRowW.records s) s.abs), fn.map fun d => He.fnW (He.frT (HandSHeadRun.getT s) asA) d.at_)) = some (((true, PySem.W.openGood (PySem.W.view R.prog [129]) nms), fn.map He.DefD.val)) := by kernel_rfl
theorem run_p (w : World) (os : OsState) : (HandSHeadRun.endF (HandSHeadRun.stepQ (HandSHeadRun.denQ HandSHeadRun.tabQ) R.prog w) 20000 R.prog w os).map (fun s => ((fa.all fun f => f.ok (He.frT (HandSHeadRun.getT s) asA))) && (ex (He.frT (HandSHeadRun.getT s) asA) && He.tabsB (HandSHeadRun.getT s) tf (He.frT (HandSHeadRun.getT s) asA))) = some (true) := by kernel_rfl
theorem opt_two {α β γ : Type} {o : Option α} {f : α → β} {g : α → γ} {b : β} {c : γ} (h1 : o.map f = some b) (h2 : o.map g = some c) : o.map (fun x => (f x, g x)) = some (b, c) := by
  cases o with
  | none => cases h1
  | some x => exact congrArg some (Prod.ext (Option.some.inj h1) (Option.some.inj h2))
theorem opt_to {α β γ : Type} {o : Option α} {f : α → β} {g : α → γ} {b : β} {c : γ} (h : o.map f = some b) (k : ∀ x, f x = b → g x = c) : o.map g = some c := by
  cases o with
  | none => cases h
  | some x => exact congrArg some (k x (Option.some.inj h))
theorem run (w : World) : HandSHeadRun.RunEq R (PySem.W.view R.prog [129]) hkA obA 20000 nms w := fun os => by
  refine opt_to (opt_two (run_o w os) (opt_two (run_p w os) (run_q w os))) fun s e => ?_
  have e1 := congrArg (fun z => z.1.1) e
  have e2 := congrArg (fun z => z.1.2) e
  have e34 := congrArg (fun z => z.2.1) e
  have e56 := congrArg (fun z => z.2.2) e
  clear e
  dsimp only at e1 e2 e34 e56
  obtain ⟨e4, e3⟩ := He.ba e34
  obtain ⟨e5, e6⟩ := He.ba e56
  have e7 : (fn.all fun d => d.ok (He.frT (HandSHeadRun.getT s) asA)) = true := by
    have : fn = (fn0 ++ fn1 ++ fn2 ++ fn3 ++ fn4) ++ (fn5 ++ fn6 ++ fn7 ++ fn8 ++ fn9) := by
      unfold fn
      simp only [List.append_assoc]
    rw [this, List.all_append, e5, e6]
    rfl
  have eo : obA s = hkA.val w := by
    show ((((fa.all fun f => f.ok (He.frT (HandSHeadRun.getT s) asA)) && fn.all fun d => d.ok (He.frT (HandSHeadRun.getT s) asA), fn.map fun d => He.fnW (He.frT (HandSHeadRun.getT s) asA) d.at_), []), ex (He.frT (HandSHeadRun.getT s) asA) && He.tabsB (HandSHeadRun.getT s) tf (He.frT (HandSHeadRun.getT s) asA)) = _
    rw [e2, e3, e4, e7]
    rfl
  rw [eo]
  exact congrArg (fun z => (z.1, z.2, hkA.val w)) e1
end Lk
-- Ck
set_option maxRecDepth 100000
/-! A small evaluator over a tracked heap: values with letters (names of the script, the room), lists, tuples, instances, closures. -/
namespace Ck
noncomputable section
/-- a piece of a text: a sign; a name of the script (k-th); the digits of c + m * room; the first sign of these digits -/
inductive Pc where
  | l (c : Nat) | nm (k : Nat) | num (c m : Int) | hd (c m : Int)
/-- a value -/
inductive AV where
  | non | bl (b : Bool) | int (c m : Int) | str (s : List Pc) | ref (i : Nat) | scr
/-- an object -/
inductive AO where
  | lst (xs : List AV) | tup (xs : List AV) | dct (kvs : List (List Nat × AV)) | met (kvs : List (AV × AV)) | ins (C : Nat) (fs : List (Nat × AV)) | clo (w : Nat) (cap : List AV) | sus
/-! ### the heap: a tree by binary places -/
inductive Tr where
  | e | n (l : Tr) (v : Option AO) (r : Tr)
def Tr.get (t : Tr) (k : Nat) : Option AO := @Tr.rec (fun _ => Nat → Option AO) (fun _ => none) (fun _ v _ gl gr k => @Bool.rec (fun _ => Option AO) (@Bool.rec (fun _ => Option AO) (gr (Nat.sub (Nat.div k 2) 1)) (gl (Nat.div k 2)) (Nat.beq (Nat.mod k 2) 1)) v (Nat.beq k 0)) t k
def Tr.mk (f k : Nat) (o : AO) : Tr := @Nat.rec (fun _ => Nat → Tr) (fun _ => .e) (fun _ ih k => @Bool.rec (fun _ => Tr) (@Bool.rec (fun _ => Tr) (.n .e none (ih (Nat.sub (Nat.div k 2) 1))) (.n (ih (Nat.div k 2)) none .e) (Nat.beq (Nat.mod k 2) 1)) (.n .e (some o) .e) (Nat.beq k 0)) f k
def Tr.set (t : Tr) (k : Nat) (o : AO) : Tr := @Tr.rec (fun _ => Nat → Tr) (fun k => Tr.mk (Nat.succ k) k o) (fun l v r sl sr k => @Bool.rec (fun _ => Tr) (@Bool.rec (fun _ => Tr) (.n l v (sr (Nat.sub (Nat.div k 2) 1))) (.n (sl (Nat.div k 2)) v r) (Nat.beq (Nat.mod k 2) 1)) (.n l (some o) r) (Nat.beq k 0)) t k
structure Hh where
  n : Nat
  t : Tr
  cs : List Nat
def Hh.get (h : Hh) (i : Nat) : Option AO := h.t.get i
/-- the places of closures -/
def addC (o : AO) (i : Nat) (cs : List Nat) : List Nat := match o with
  | .clo _ _ => i :: cs
  | _ => cs
def Hh.set (h : Hh) (i : Nat) (o : AO) : Hh := ⟨h.n, h.t.set i o, addC o i h.cs⟩
def Hh.new (h : Hh) (o : AO) : Hh := ⟨h.n + 1, h.t.set h.n o, addC o h.n h.cs⟩
/-- all closures are set aside, and put back -/
def susL : List Nat → Hh → Hh
  | [], h => h
  | i :: r, h => match h.get i with
    | some (.clo _ _) => susL r (h.set i .sus)
    | _ => susL r h
def backL (h0 : Hh) : List Nat → Hh → Option Hh
  | [], h => some h
  | i :: r, h => match h0.get i with
    | some (.clo w x) => (match h.get i with
      | some .sus => backL h0 r (h.set i (.clo w x))
      | _ => none)
    | _ => backL h0 r h
/-! ### lists by place -/
def nth {α : Type} (xs : List α) (i : Nat) : Option α := @List.rec α (fun _ => Nat → Option α) (fun _ => none) (fun x _ ih i => @Nat.rec (fun _ => Option α) (some x) (fun j _ => ih j) i) xs i
def setN {α : Type} (xs : List α) (i : Nat) (y : α) : List α := @List.rec α (fun _ => Nat → List α) (fun _ => []) (fun x xs ih i => @Nat.rec (fun _ => List α) (y :: xs) (fun j _ => x :: ih j) i) xs i
abbrev Sg := List (Option AV)
/-! ### ends -/
inductive R where
  | ok (v : AV) (h : Hh) | exc (C : Nat) (h : Hh) | no
inductive RL where
  | ok (v : List AV) (h : Hh) | exc (C : Nat) (h : Hh) | no
inductive RB where
  | ok (b : Bool) (h : Hh) | exc (C : Nat) (h : Hh) | no
inductive RS where
  | nx (s : Sg) (h : Hh) | ret (v : AV) (h : Hh) | exc (C : Nat) (h : Hh) | no
/-! ### code -/
inductive BOp where | add | sub | mul | mod
inductive COp where | lt | le | gt | ge | eq | ne | isin | notin | isN | notN
inductive Tg where
  | nm (i : Nat) | tup (is : List Nat)
mutual
inductive IE where
  | var (i : Nat)
  | cst (v : AV)
  | bin (o : BOp) (a b : IE)
  | neg (a : IE)
  | cmp (o : COp) (a b : IE)
  | chain (o1 o2 : COp) (a b c : IE)
  | andv (a b : IE)
  | orv (a b : IE)
  | notv (a : IE)
  | attr (a : IE) (f : Nat)
  | idx (a i : IE)
  | slc (a : IE) (lo hi : Option IE)
  | tup (es : List IE)
  | lst (es : List IE)
  | dct (ks : List (List Nat)) (es : List IE)
  | met (k v : IE)
  | call (f : FC) (es : List IE)
  | meth (C : Nat) (f : FC) (o : IE) (es : List IE)
  | make (C : Nat) (f : FC) (es : List IE)
  | callv (i : Nat) (es : List IE)
  | clo (w : Nat) (is : List Nat)
  | len (a : IE)
  | list (a : IE)
  | tuple (a : IE)
  | mx (a b : IE)
  | mn (a b : IE)
  | toint (a : IE)
  | tostr (a : IE)
  | lenset (a : IE)
  | isname (a : IE)
  | numof (a : IE)
  | split (a : IE) (sep : Nat)
  | join (sep : List Nat) (a : IE)
  | fstr (p : List Nat) (a : IE)
  | isstr (a : IE)
  | inG (neg : Bool) (a : IE) (vs : List AV)
  | comp (g : Tg) (it : II) (t : Option IT) (e : IE) (own : List Nat)
  | compx (g : Tg) (it : II) (t : Option IT) (e : IE) (own : List Nat)
  | dead
inductive II where
  | lst (e : IE) | tup (e : IE) | r1 (a : IE) | r2 (a b : IE) | r3 (a b : IE) (c : Int) | enum (e : IE)
inductive IT where
  | v (e : IE) | tru (e : IE) | and (a b : IT) | or (a b : IT) | not (a : IT)
inductive IS where
  | set (i : Nat) (e : IE)
  | setF (o : IE) (f : Nat) (e : IE)
  | setI (o i e : IE)
  | app (o e : IE)
  | rev (o : IE)
  | ex (e : IE)
  | ret (e : IE)
  | iff (t : IT) (a b : List IS)
  | forr (g : Tg) (it : II) (b : List IS)
  | whil (t : IT) (b : List IS)
  | raise (C : Nat)
  | thru (b : List IS)
  | tryRet (e : IE)
inductive FC where
  | mk (n : Nat) (b : List IS)
end
def FC.n : FC → Nat | .mk n _ => n
def FC.b : FC → List IS | .mk _ b => b
/-! ### numbers with a letter: the room is from 2 to 1000000000 -/
def roomMin : Int := .ofNat 2
def roomMax : Int := .ofNat 1000000000
def posI : Int → Bool
  | .ofNat n => Nat.blt 0 n
  | .negSucc _ => false
def nonnegI : Int → Bool
  | .ofNat _ => true
  | .negSucc _ => false
def zeroI : Int → Bool
  | .ofNat n => Nat.beq n 0
  | .negSucc _ => false
def sgnP (a b : Int) : Option Bool := match posI a with
  | true => (match posI b with
    | true => some true
    | false => none)
  | false => (match posI b with
    | true => none
    | false => some false)
/-- is c + m * room above 0 -/
def posC (c m : Int) : Option Bool := match zeroI m with
  | true => some (posI c)
  | false => sgnP (c + m * roomMin) (c + m * roomMax)
/-- is it 0 -/
def zeroC (c m : Int) : Option Bool := match zeroI m with
  | true => some (zeroI c)
  | false => match posC c m with
    | some true => some false
    | some false => (match posC (-c) (-m) with
      | some true => some false
      | _ => none)
    | none => none
def notO : Option Bool → Option Bool
  | some b => some (!b)
  | none => none
/-! ### texts -/
def isLow (c : Nat) : Bool := Nat.ble 97 c && Nat.ble c 122
def isDig (c : Nat) : Bool := Nat.ble 48 c && Nat.ble c 57
def lits : List Pc → Option (List Nat)
  | [] => some []
  | .l c :: s => (match lits s with
    | some r => some (c :: r)
    | none => none)
  | _ :: _ => none
def allB (p : Nat → Bool) : List Nat → Bool
  | [] => true
  | c :: s => p c && allB p s
def lenN {α : Type} : List α → Nat
  | [] => 0
  | _ :: s => lenN s + 1
def eqN : List Nat → List Nat → Bool
  | [], [] => true
  | a :: s, b :: t => (match Nat.beq a b with
    | true => eqN s t
    | false => false)
  | _, _ => false
def sea : List Nat := [115, 101, 97]
/-- signs that no name of the script is -/
def noName (cs : List Nat) : Bool := !(allB isLow cs) || eqN cs sea || eqN cs [] || Nat.blt 12 (lenN cs)
def endsS : List Pc → List Pc → Bool
  | [], [] => true
  | _, _ => false
def isE : List Pc → Bool
  | [] => true
  | _ => false
def litNm (s : List Pc) (t : List Pc) : Option Bool := match t with
  | [] => (match lits s with
    | some cs => (match noName cs with
      | true => some false
      | false => none)
    | none => none)
  | _ => none
def eqI (a b : Int) : Bool := match a with
  | .ofNat n => (match b with
    | .ofNat m => Nat.beq n m
    | .negSucc _ => false)
  | .negSucc n => (match b with
    | .ofNat _ => false
    | .negSucc m => Nat.beq n m)
def eqS : List Pc → List Pc → Option Bool
  | [], [] => some true
  | [], _ :: _ => some false
  | _ :: _, [] => some false
  | .l a :: s, .l b :: t => (match Nat.beq a b with
    | true => eqS s t
    | false => some false)
  | .nm i :: s, .nm j :: t => (match Nat.beq i j with
    | true => eqS s t
    | false => (match endsS s t && (Nat.blt i 18 && Nat.blt j 18) with
      | true => some false
      | false => none))
  | .num c m :: s, .num d k :: t => (match eqI c d && eqI m k with
    | true => eqS s t
    | false => none)
  | .l a :: s, .nm _ :: t => (match isLow a with
    | false => some false
    | true => litNm (.l a :: s) t)
  | .nm _ :: t, .l a :: s => (match isLow a with
    | false => some false
    | true => litNm (.l a :: s) t)
  | .l a :: _, .hd _ _ :: _ => (match isDig a || Nat.beq a 45 with
    | false => some false
    | true => none)
  | .hd _ _ :: _, .l a :: _ => (match isDig a || Nat.beq a 45 with
    | false => some false
    | true => none)
  | _, _ => none
def litS : List Nat → List Pc
  | [] => []
  | c :: s => .l c :: litS s
def catL {α : Type} : List α → List α → List α
  | [], t => t
  | a :: s, t => a :: catL s t
def bigI : Int := .ofNat 1000000000000
/-- a number whose text is short -/
def okNum (c m : Int) : Bool := nonnegI (bigI - c) && nonnegI (bigI + c) && (nonnegI (1000 - m) && nonnegI (1000 + m))
def bndS : List Pc → Nat
  | [] => 0
  | .l _ :: s => bndS s + 1
  | .nm _ :: s => bndS s + 12
  | .num c m :: s => match okNum c m with
    | true => bndS s + 32
    | false => bndS s + 1000000
  | .hd _ _ :: s => bndS s + 1
def isSep (c : Nat) : Pc → Bool
  | .l d => Nat.beq c d
  | _ => false
/-- the parts by a sign: the first part, the parts behind it -/
def spl (c : Nat) : List Pc → List Pc × List (List Pc)
  | [] => ([], [])
  | p :: s => match isSep c p with
    | true => ([], (spl c s).1 :: (spl c s).2)
    | false => (p :: (spl c s).1, (spl c s).2)
def strAll : List (List Pc) → List AV
  | [] => []
  | s :: r => .str s :: strAll r
def digs : List Nat → Nat → Option Nat
  | [], a => some a
  | c :: s, a => match isDig c with
    | true => digs s (a * 10 + (c - 48))
    | false => none
/-- what number_of tells of signs: the number, or none where it refuses -/
def numLit (cs : List Nat) : Option Nat := match allB isDig cs && (Nat.ble 1 (lenN cs) && Nat.ble (lenN cs) 12) with
  | true => (match cs with
    | 48 :: _ :: _ => none
    | _ => digs cs 0)
  | false => none
def nameLit (cs : List Nat) : Bool := allB isLow cs && (Nat.ble 1 (lenN cs) && Nat.ble (lenN cs) 12)
def takeL {α : Type} : Nat → List α → List α
  | 0, _ => []
  | n + 1, s => (match s with
    | [] => []
    | a :: s => a :: takeL n s)
def dropL {α : Type} : Nat → List α → List α
  | 0, s => s
  | n + 1, s => (match s with
    | [] => []
    | _ :: s => dropL n s)
/-- the first k signs -/
def takeS : Nat → List Pc → Option (List Pc)
  | 0, _ => some []
  | k + 1, s => match s with
    | [] => some []
    | .l c :: s => (match takeS k s with
      | some r => some (.l c :: r)
      | none => none)
    | .num c m :: _ => (match Nat.beq k 0 with
      | true => some [.hd c m]
      | false => none)
    | .nm _ :: _ => none
    | .hd _ _ :: _ => none
def dropS : Nat → List Pc → Option (List Pc)
  | 0, s => some s
  | k + 1, s => match s with
    | [] => some []
    | .l _ :: s => dropS k s
    | _ => none
/-! ### equality -/
/-- of plain values -/
def eq0 (a b : AV) : Option Bool := match a, b with
  | .non, .non => some true
  | .bl x, .bl y => some (x == y)
  | .int c m, .int d k => zeroC (c - d) (m - k)
  | .str s, .str t => eqS s t
  | _, _ => none
def okS : List Pc → Bool
  | [] => true
  | .l c :: s => Nat.blt c 1000 && okS s
  | _ :: s => okS s
def flat0 : AV → Bool
  | .int _ _ => true
  | .str s => okS s
  | _ => false
def flats : List AV → Bool
  | [] => true
  | x :: xs => flat0 x && flats xs
def eq0s : List AV → List AV → Option Bool
  | [], [] => some true
  | [], _ :: _ => some false
  | _ :: _, [] => some false
  | x :: xs, y :: ys => match eq0 x y with
    | some true => eq0s xs ys
    | some false => some false
    | none => none
def eqFs (xs ys : List AV) : Option Bool := match flats xs && flats ys with
  | true => eq0s xs ys
  | false => none
def eqF (h : Hh) (a b : AV) : Option Bool := match a with
  | .ref i => (match b with
    | .ref j => (match h.get i, h.get j with
      | some (.lst xs), some (.lst ys) => eqFs xs ys
      | some (.tup xs), some (.tup ys) => eqFs xs ys
      | _, _ => none)
    | _ => none)
  | _ => eq0 a b
def inL (x : AV) : List AV → Option Bool
  | [] => some false
  | y :: ys => match eq0 y x with
    | some true => some true
    | some false => inL x ys
    | none => none
/-- keys of states: tuples of numbers and of tuples of numbers -/
def isK0 : AV → Bool
  | .int _ _ => true
  | _ => false
def allA (p : AV → Bool) : List AV → Bool
  | [] => true
  | x :: xs => p x && allA p xs
def isK1 (h : Hh) : AV → Bool
  | .int _ _ => true
  | .ref i => (match h.get i with
    | some (.tup xs) => allA isK0 xs
    | _ => false)
  | _ => false
def isK2 (h : Hh) : AV → Bool
  | .ref i => (match h.get i with
    | some (.tup xs) => allA (isK1 h) xs
    | _ => false)
  | _ => false
def eqKs (f : AV → AV → Option Bool) : List AV → List AV → Option Bool
  | [], [] => some true
  | [], _ :: _ => some false
  | _ :: _, [] => some false
  | x :: xs, y :: ys => match f x y with
    | some true => eqKs f xs ys
    | some false => some false
    | none => none
def eqK0 (a b : AV) : Option Bool := match a, b with
  | .int c m, .int d k => zeroC (c - d) (m - k)
  | _, _ => none
def eqK1 (h : Hh) (a b : AV) : Option Bool := match a, b with
  | .int c m, .int d k => zeroC (c - d) (m - k)
  | .ref i, .ref j => (match h.get i, h.get j with
    | some (.tup xs), some (.tup ys) => eqKs eqK0 xs ys
    | _, _ => none)
  | _, _ => none
def eqK2 (h : Hh) (a b : AV) : Option Bool := match a, b with
  | .ref i, .ref j => (match h.get i, h.get j with
    | some (.tup xs), some (.tup ys) => eqKs (eqK1 h) xs ys
    | _, _ => none)
  | _, _ => none
/-- the value at a key of states -/
def metGet (h : Hh) (k : AV) : List (AV × AV) → Option (Option AV)
  | [] => some none
  | (q, v) :: r => match eqK2 h q k with
    | some true => some (some v)
    | some false => metGet h k r
    | none => none
def dctGet (k : List Pc) : List (List Nat × AV) → Option AV
  | [] => none
  | (q, v) :: r => match eqS (litS q) k with
    | some true => some v
    | some false => dctGet k r
    | none => none
def fldGet (f : Nat) : List (Nat × AV) → Option AV
  | [] => none
  | (g, v) :: r => match Nat.beq g f with
    | true => some v
    | false => fldGet f r
def fldSet (f : Nat) (v : AV) : List (Nat × AV) → List (Nat × AV)
  | [] => [(f, v)]
  | (g, w) :: r => match Nat.beq g f with
    | true => (g, v) :: r
    | false => (g, w) :: fldSet f v r
/-! ### operators -/
def most : Nat := 100000
def small {α : Type} (xs : List α) : Bool := Nat.ble (lenN xs) most
def binV (o : BOp) (a b : AV) (h : Hh) : R := match o with
  | .add => (match a, b with
    | .int c m, .int d k => .ok (.int (c + d) (m + k)) h
    | .str s, .str t => (match Nat.ble (bndS s + bndS t) most with
      | true => .ok (.str (catL s t)) h
      | false => .no)
    | .ref i, .ref j => (match h.get i, h.get j with
      | some (.lst xs), some (.lst ys) => (match small xs && small ys with
        | true => .ok (.ref h.n) (h.new (.lst (catL xs ys)))
        | false => .no)
      | _, _ => .no)
    | _, _ => .no)
  | .sub => (match a, b with
    | .int c m, .int d k => .ok (.int (c - d) (m - k)) h
    | _, _ => .no)
  | .mul => (match a, b with
    | .int c m, .int d k => (match zeroI m && zeroI k && (nonnegI c && nonnegI (1000000 - c)) with
      | true => .ok (.int (c * d) 0) h
      | false => .no)
    | _, _ => .no)
  | .mod => (match a, b with
    | .int (.ofNat n) m, .int (.ofNat d) k => (match zeroI m && zeroI k && Nat.blt 0 d with
      | true => .ok (.int (.ofNat (n % d)) 0) h
      | false => .no)
    | _, _ => .no)
def retB (h : Hh) : Option Bool → R
  | some b => .ok (.bl b) h
  | none => .no
def isSeq : AO → Option (List AV)
  | .lst xs => some xs
  | .tup xs => some xs
  | _ => none
def inV (h : Hh) (a b : AV) : Option Bool := match b with
  | .ref j => (match h.get j with
    | some (.lst xs) => (match flat0 a && flats xs with
      | true => inL a xs
      | false => none)
    | some (.tup xs) => (match flat0 a && flats xs with
      | true => inL a xs
      | false => none)
    | some (.met kvs) => (match isK2 h a with
      | true => (match metGet h a kvs with
        | some (some _) => some true
        | some none => some false
        | none => none)
      | false => none)
    | _ => none)
  | _ => none
def cmpB (o : COp) (a b : AV) (h : Hh) : Option Bool := match o with
  | .lt => (match a, b with
    | .int c m, .int d k => posC (d - c) (k - m)
    | _, _ => none)
  | .gt => (match a, b with
    | .int c m, .int d k => posC (c - d) (m - k)
    | _, _ => none)
  | .le => (match a, b with
    | .int c m, .int d k => notO (posC (c - d) (m - k))
    | _, _ => none)
  | .ge => (match a, b with
    | .int c m, .int d k => notO (posC (d - c) (k - m))
    | _, _ => none)
  | .eq => eqF h a b
  | .ne => notO (eqF h a b)
  | .isin => inV h a b
  | .notin => notO (inV h a b)
  | .isN => (match b with
    | .non => (match a with
      | .non => some true
      | _ => some false)
    | _ => none)
  | .notN => (match b with
    | .non => (match a with
      | .non => some false
      | _ => some true)
    | _ => none)
def lenV (a : AV) (h : Hh) : R := match a with
  | .ref i => (match h.get i with
    | some (.lst xs) => .ok (.int (.ofNat (lenN xs)) 0) h
    | some (.tup xs) => .ok (.int (.ofNat (lenN xs)) 0) h
    | some (.met xs) => .ok (.int (.ofNat (lenN xs)) 0) h
    | _ => .no)
  | _ => .no
/-- an index from the left or the right -/
def ixOf (c : Int) (n : Nat) : Option Nat := match c with
  | .ofNat i => (match Nat.blt i n with
    | true => some i
    | false => none)
  | .negSucc i => (match Nat.blt i n with
    | true => some (n - (i + 1))
    | false => none)
def seqAt (xs : List AV) (c : Int) (h : Hh) : R := match ixOf c (lenN xs) with
  | some i => (match nth xs i with
    | some v => .ok v h
    | none => .no)
  | none => .no
def idxV (a i : AV) (h : Hh) : R := match a with
  | .ref j => (match h.get j with
    | some (.lst xs) => (match i with
      | .int c m => (match zeroI m with
        | true => seqAt xs c h
        | false => .no)
      | _ => .no)
    | some (.tup xs) => (match i with
      | .int c m => (match zeroI m with
        | true => seqAt xs c h
        | false => .no)
      | _ => .no)
    | some (.dct kvs) => (match i with
      | .str s => (match dctGet s kvs with
        | some v => .ok v h
        | none => .no)
      | _ => .no)
    | some (.met kvs) => (match isK2 h i with
      | true => (match metGet h i kvs with
        | some (some v) => .ok v h
        | _ => .no)
      | false => .no)
    | _ => .no)
  | .str s => (match i with
    | .int (.ofNat k) m => (match zeroI m && Nat.ble (bndS s) most, lits s with
      | true, some cs => (match nth cs k with
        | some c => .ok (.str [.l c]) h
        | none => .no)
      | _, _ => .no)
    | _ => .no)
  | _ => .no
/-- a bound of a slice, from the left -/
def natV : AV → Option Nat
  | .int (.ofNat k) m => (match zeroI m with
    | true => some k
    | false => none)
  | _ => none
def slL (xs : List AV) (lo hi : Option Nat) : List AV := match lo with
  | none => (match hi with
    | none => xs
    | some k => takeL k xs)
  | some j => (match hi with
    | none => dropL j xs
    | some k => dropL j (takeL k xs))
def slV (a : AV) (l u : Option Nat) (h : Hh) : R := match a with
  | .ref j => (match h.get j with
    | some (.lst xs) => .ok (.ref h.n) (h.new (.lst (slL xs l u)))
    | _ => .no)
  | .str s => (match Nat.ble (bndS s) most, l, u with
    | true, none, some k => (match takeS k s with
      | some t => .ok (.str t) h
      | none => .no)
    | true, some k, none => (match dropS k s with
      | some t => .ok (.str t) h
      | none => .no)
    | _, _, _ => .no)
  | _ => .no
def setIV (o i v : AV) (s : Sg) (h : Hh) : RS := match o with
  | .ref j => (match h.get j with
    | some (.lst xs) => (match i with
      | .int c m => (match zeroI m, ixOf c (lenN xs) with
        | true, some k => .nx s (h.set j (.lst (setN xs k v)))
        | _, _ => .no)
      | _ => .no)
    | some (.met kvs) => (match isK2 h i && small kvs with
      | true => (match metGet h i kvs with
        | some none => .nx s (h.set j (.met (catL kvs [(i, v)])))
        | _ => .no)
      | false => .no)
    | _ => .no)
  | _ => .no
def lstV (mk : List AV → AO) (a : AV) (h : Hh) : R := match a with
  | .ref j => (match h.get j with
    | some (.lst xs) => .ok (.ref h.n) (h.new (mk xs))
    | some (.tup xs) => .ok (.ref h.n) (h.new (mk xs))
    | _ => .no)
  | _ => .no
def tupV (a : AV) (h : Hh) : R := match a with
  | .ref j => (match h.get j with
    | some (.lst xs) => .ok (.ref h.n) (h.new (.tup xs))
    | some (.tup _) => .ok a h
    | _ => .no)
  | _ => .no
def mxV (a b : AV) (h : Hh) : R := match a, b with
  | .int c m, .int d k => (match posC (d - c) (k - m) with
    | some true => .ok b h
    | some false => .ok a h
    | none => .no)
  | _, _ => .no
def mnV (a b : AV) (h : Hh) : R := match a, b with
  | .int c m, .int d k => (match posC (c - d) (m - k) with
    | some true => .ok b h
    | some false => .ok a h
    | none => .no)
  | _, _ => .no
def tostrV (a : AV) (h : Hh) : R := match a with
  | .int c m => (match okNum c m with
    | true => .ok (.str [.num c m]) h
    | false => .no)
  | _ => .no
def tointV (a : AV) (h : Hh) : R := match a with
  | .str s => (match lits s with
    | some cs => (match allB isDig cs && (Nat.ble 1 (lenN cs) && Nat.ble (lenN cs) 12) with
      | true => (match digs cs 0 with
        | some n => .ok (.int (.ofNat n) 0) h
        | none => .no)
      | false => .no)
    | none => .no)
  | _ => .no
/-- all texts, none like another -/
def apart : List AV → Option Bool
  | [] => some true
  | .str s :: r => (match inA s r with
    | some false => apart r
    | _ => none)
  | _ :: _ => none
where inA (s : List Pc) : List AV → Option Bool
  | [] => some false
  | .str t :: r => (match eqS s t with
    | some false => inA s r
    | some true => some true
    | none => none)
  | _ :: _ => none
def lensetV (a : AV) (h : Hh) : R := match a with
  | .ref j => (match h.get j with
    | some (.lst xs) => (match apart xs, Nat.ble (lenN xs) 1000 with
      | some true, true => .ok (.int (.ofNat (lenN xs)) 0) h
      | _, _ => .no)
    | _ => .no)
  | _ => .no
def isnameV (a : AV) (h : Hh) : R := match a with
  | .str s => (match Nat.ble (bndS s) most with
    | true => (match s with
      | [.nm _] => .ok (.bl true) h
      | _ => (match lits s with
        | some cs => .ok (.bl (nameLit cs)) h
        | none => .no))
    | false => .no)
  | _ => .no
def badRow : Nat := 1
def numofV (a : AV) (h : Hh) : R := match a with
  | .str s => (match Nat.ble (bndS s) most with
    | true => (match s with
      | [.num c m] => (match posC (c + 1) m, posC (bigI - c) (-m) with
        | some true, some true => .ok (.int c m) h
        | _, _ => .no)
      | _ => (match lits s with
        | some cs => (match numLit cs with
          | some n => .ok (.int (.ofNat n) 0) h
          | none => .exc badRow h)
        | none => .no))
    | false => .no)
  | _ => .no
/-- a sign that stands in no name and in no number -/
def plainSep (c : Nat) : Bool := !(isLow c) && (!(isDig c) && !(Nat.beq c 45))
def splitV (a : AV) (c : Nat) (h : Hh) : R := match a with
  | .str s => (match Nat.ble (bndS s) most && (plainSep c && Nat.blt c 256) with
    | true => .ok (.ref h.n) (h.new (.lst (.str (spl c s).1 :: strAll (spl c s).2)))
    | false => .no)
  | _ => .no
def joinL (sep : List Pc) : List AV → Option (List Pc)
  | [] => some []
  | .str s :: r => (match r with
    | [] => some s
    | _ :: _ => (match joinL sep r with
      | some t => some (catL s (catL sep t))
      | none => none))
  | _ :: _ => none
def joinV (sep : List Nat) (a : AV) (h : Hh) : R := match a with
  | .ref j => (match h.get j with
    | some (.lst xs) => (match joinL (litS sep) xs with
      | some t => (match Nat.ble (bndS t) most && Nat.ble (lenN sep) 100 with
        | true => .ok (.str t) h
        | false => .no)
      | none => .no)
    | _ => .no)
  | _ => .no
def fstrV (p : List Nat) (a : AV) (h : Hh) : R := match tostrV a h with
  | .ok (.str t) h => .ok (.str (catL (litS p) t)) h
  | _ => .no
def truV (a : AV) (h : Hh) : Option Bool := match a with
  | .ref j => (match h.get j with
    | some (.lst xs) => (match xs with
      | [] => some false
      | _ :: _ => some true)
    | _ => none)
  | .bl b => some b
  | _ => none
def attrV (a : AV) (f : Nat) (h : Hh) : R := match a with
  | .ref j => (match h.get j with
    | some (.ins _ fs) => (match fldGet f fs with
      | some v => .ok v h
      | none => .no)
    | _ => .no)
  | _ => .no
def setFV (o : AV) (f : Nat) (v : AV) (s : Sg) (h : Hh) : RS := match o with
  | .ref j => (match h.get j with
    | some (.ins C fs) => (match Nat.ble (lenN fs) 23 with
      | true => .nx s (h.set j (.ins C (fldSet f v fs)))
      | false => .no)
    | _ => .no)
  | _ => .no
def appV (o v : AV) (s : Sg) (h : Hh) : RS := match o with
  | .ref j => (match h.get j with
    | some (.lst xs) => (match small xs with
      | true => .nx s (h.set j (.lst (catL xs [v])))
      | false => .no)
    | _ => .no)
  | _ => .no
def revL {α : Type} : List α → List α → List α
  | [], acc => acc
  | x :: xs, acc => revL xs (x :: acc)
def revV (o : AV) (s : Sg) (h : Hh) : RS := match o with
  | .ref j => (match h.get j with
    | some (.lst xs) => .nx s (h.set j (.lst (revL xs [])))
    | _ => .no)
  | _ => .no
def clsOf (h : Hh) (a : AV) : Option Nat := match a with
  | .ref j => (match h.get j with
    | some (.ins C _) => some C
    | _ => none)
  | _ => none
def setAll (s : Sg) : List Nat → List AV → Option Sg
  | [], [] => some s
  | i :: is, v :: vs => setAll (setN s i (some v)) is vs
  | _, _ => none
def setTg (g : Tg) (v : AV) (s : Sg) (h : Hh) : Option Sg := match g with
  | .nm i => some (setN s i (some v))
  | .tup is => (match v with
    | .ref j => (match h.get j with
      | some (.tup vs) => setAll s is vs
      | _ => none)
    | _ => none)
def wipeL (s : Sg) : List Nat → Sg
  | [] => s
  | i :: is => setN (wipeL s is) i none
def pad : Nat → List AV → Sg
  | 0, _ => []
  | n + 1, [] => none :: pad n []
  | n + 1, v :: vs => some v :: pad n vs
def getAll (s : Sg) : List Nat → Option (List AV)
  | [] => some []
  | i :: is => match nth s i, getAll s is with
    | some (some v), some vs => some (v :: vs)
    | _, _ => none
def varV (s : Sg) (i : Nat) (h : Hh) : R := match nth s i with
  | some (some v) => .ok v h
  | _ => .no
/-! ### iterators: at turn i of what is walked, an item or the end -/
inductive It where
  | lst (j : Nat) | tup (j : Nat) | rng (lo c : Int) (n : Nat) | enum (j : Nat)
inductive RI where
  | ok (j : It) (h : Hh) | exc (C : Nat) (h : Hh) | no
inductive RN where
  | item (v : AV) (h : Hh) | done (h : Hh) | no
def itNext (j : It) (i : Nat) (h : Hh) : RN := match j with
  | .lst a => (match h.get a with
    | some (.lst xs) => (match nth xs i with
      | some v => .item v h
      | none => .done h)
    | _ => .no)
  | .tup a => (match h.get a with
    | some (.tup xs) => (match nth xs i with
      | some v => .item v h
      | none => .done h)
    | _ => .no)
  | .rng lo c n => (match Nat.blt i n with
    | true => .item (.int (lo + .ofNat i * c) 0) h
    | false => .done h)
  | .enum a => (match h.get a with
    | some (.lst xs) => (match nth xs i with
      | some v => .item (.ref h.n) (h.new (.tup [.int (.ofNat i) 0, v]))
      | none => .done h)
    | _ => .no)
def cstI : AV → Option Int
  | .int c m => (match zeroI m with
    | true => some c
    | false => none)
  | _ => none
def smallI (a : Int) : Bool := nonnegI (1000000 - a) && nonnegI (1000000 + a)
def toNatI : Int → Nat
  | .ofNat n => n
  | .negSucc _ => 0
/-! ### the turns: everything by a smaller fuel -/
structure Rec where
  e : IE → Sg → Hh → R
  es : List IE → Sg → Hh → RL
  t : IT → Sg → Hh → RB
  i : II → Sg → Hh → RI
  s : IS → Sg → Hh → RS
  ss : List IS → Sg → Hh → RS
  f : FC → List AV → Hh → R
  lp : Tg → It → List IS → Nat → Sg → Hh → RS
  cl : Bool → Tg → It → Option IT → IE → List Nat → Nat → Nat → Sg → Hh → R
def b1 (x : R) (k : AV → Hh → R) : R := match x with
  | .ok v h => k v h
  | .exc C h => .exc C h
  | .no => .no
def b1B (x : R) (k : AV → Hh → RB) : RB := match x with
  | .ok v h => k v h
  | .exc C h => .exc C h
  | .no => .no
def b1S (x : R) (k : AV → Hh → RS) : RS := match x with
  | .ok v h => k v h
  | .exc C h => .exc C h
  | .no => .no
def b1L (x : R) (k : AV → Hh → RL) : RL := match x with
  | .ok v h => k v h
  | .exc C h => .exc C h
  | .no => .no
def b1I (x : R) (k : AV → Hh → RI) : RI := match x with
  | .ok v h => k v h
  | .exc C h => .exc C h
  | .no => .no
def bL (x : RL) (k : List AV → Hh → R) : R := match x with
  | .ok v h => k v h
  | .exc C h => .exc C h
  | .no => .no
def bLL (x : RL) (k : List AV → Hh → RL) : RL := match x with
  | .ok v h => k v h
  | .exc C h => .exc C h
  | .no => .no
def bI (x : RI) (k : It → Hh → R) : R := match x with
  | .ok v h => k v h
  | .exc C h => .exc C h
  | .no => .no
def bIS (x : RI) (k : It → Hh → RS) : RS := match x with
  | .ok v h => k v h
  | .exc C h => .exc C h
  | .no => .no
def bB (x : RB) (k : Bool → Hh → RB) : RB := match x with
  | .ok v h => k v h
  | .exc C h => .exc C h
  | .no => .no
def bBS (x : RB) (k : Bool → Hh → RS) : RS := match x with
  | .ok v h => k v h
  | .exc C h => .exc C h
  | .no => .no
def bBR (x : RB) (k : Bool → Hh → R) : R := match x with
  | .ok v h => k v h
  | .exc C h => .exc C h
  | .no => .no
def bS (x : RS) (k : Sg → Hh → RS) : RS := match x with
  | .nx s h => k s h
  | .ret v h => .ret v h
  | .exc C h => .exc C h
  | .no => .no
def bF (x : RS) : R := match x with
  | .nx _ h => .ok .non h
  | .ret v h => .ok v h
  | .exc C h => .exc C h
  | .no => .no
def optE (r : Rec) (o : Option IE) (s : Sg) (h : Hh) (k : Option Nat → Hh → R) : R := match o with
  | none => k none h
  | some e => b1 (r.e e s h) fun v h => match natV v with
    | some j => k (some j) h
    | none => .no
def zipK : List (List Nat) → List AV → List (List Nat × AV)
  | k :: ks, v :: vs => (k, v) :: zipK ks vs
  | _, _ => []
def isBl (v : AV) (k : Bool → R) : R := match v with
  | .bl b => k b
  | _ => .no
def refused : Nat → List Nat
  | 0 => [114, 101, 102, 117, 115, 101, 100, 32, 114, 111, 119]
  | 1 => [114, 101, 102, 117, 115, 101, 100, 32, 114, 111, 119]
  | 2 => [114, 101, 102, 117, 115, 101, 100, 32, 114, 111, 119]
  | 3 => [114, 101, 102, 117, 115, 101, 100, 32, 110, 117, 109, 98, 101, 114]
  | 4 => [114, 101, 102, 117, 115, 101, 100, 32, 116, 119, 105, 99, 101]
  | 5 => [114, 101, 102, 117, 115, 101, 100, 32, 117, 110, 107, 110, 111, 119, 110]
  | 6 => [114, 101, 102, 117, 115, 101, 100, 32, 109, 97, 110, 121]
  | 7 => [114, 101, 102, 117, 115, 101, 100, 32, 108, 105, 110, 107, 101, 100]
  | 8 => [114, 101, 102, 117, 115, 101, 100, 32, 119, 105, 100, 101]
  | 9 => [114, 101, 102, 117, 115, 101, 100, 32, 100, 114, 121]
  | 10 => [114, 101, 102, 117, 115, 101, 100, 32, 114, 111, 119]
  | _ => []
def mkV (mk : List AV → AO) (vs : List AV) (h : Hh) : R := match small vs with
  | true => .ok (.ref h.n) (h.new (mk vs))
  | false => .no
section
variable (T : Nat → FC) (r : Rec)
def eBin (o : BOp) (a b : IE) (s : Sg) (h : Hh) : R := b1 (r.e a s h) fun x h => b1 (r.e b s h) fun y h => binV o x y h
def eCmp (o : COp) (a b : IE) (s : Sg) (h : Hh) : R := b1 (r.e a s h) fun x h => b1 (r.e b s h) fun y h => retB h (cmpB o x y h)
def eChain (o1 o2 : COp) (a b c : IE) (s : Sg) (h : Hh) : R := b1 (r.e a s h) fun x h => b1 (r.e b s h) fun y h => match cmpB o1 x y h with
  | some true => b1 (r.e c s h) fun z h => retB h (cmpB o2 y z h)
  | some false => .ok (.bl false) h
  | none => .no
def eAnd (a b : IE) (s : Sg) (h : Hh) : R := b1 (r.e a s h) fun x h => isBl x fun c => match c with
  | true => r.e b s h
  | false => .ok (.bl false) h
def eOr (a b : IE) (s : Sg) (h : Hh) : R := b1 (r.e a s h) fun x h => isBl x fun c => match c with
  | true => .ok (.bl true) h
  | false => r.e b s h
def eNot (a : IE) (s : Sg) (h : Hh) : R := b1 (r.e a s h) fun x h => isBl x fun c => .ok (.bl (!c)) h
def eMeth (C : Nat) (f : FC) (o : IE) (es : List IE) (s : Sg) (h : Hh) : R := b1 (r.e o s h) fun x h => match clsOf h x with
  | some D => (match Nat.beq D C with
    | true => bL (r.es es s h) fun vs h => r.f f (x :: vs) h
    | false => .no)
  | none => .no
def eMake (C : Nat) (f : FC) (es : List IE) (s : Sg) (h : Hh) : R := bL (r.es es s h) fun vs h => b1 (r.f f (.ref h.n :: vs) (h.new (.ins C []))) fun v h2 => match v with
  | .non => .ok (.ref h.n) h2
  | _ => .no
def eCallv (i : Nat) (es : List IE) (s : Sg) (h : Hh) : R := match nth s i with
  | some (some (.ref j)) => (match h.get j with
    | some (.clo _ _) => bL (r.es es s h) fun vs h => (match h.get j with
      | some (.clo w cap) => (match r.f (T w) (catL vs cap) (susL h.cs ⟨h.n, h.t, []⟩) with
        | .ok v h2 => (match backL h h.cs h2 with
          | some h3 => .ok v h3
          | none => .no)
        | _ => .no)
      | _ => .no)
    | _ => .no)
  | _ => .no
def eClo (w : Nat) (is : List Nat) (s : Sg) (h : Hh) : R := match getAll s is with
  | some vs => .ok (.ref h.n) (h.new (.clo w vs))
  | none => .no
def eMet (k v : IE) (s : Sg) (h : Hh) : R := b1 (r.e k s (h.new (.met []))) fun x h1 => b1 (r.e v s h1) fun y h2 => match h2.get h.n with
  | some (.met []) => (match isK2 h2 x with
    | true => .ok (.ref h.n) (h2.set h.n (.met [(x, y)]))
    | false => .no)
  | _ => .no
def eDct (ks : List (List Nat)) (es : List IE) (s : Sg) (h : Hh) : R := bL (r.es es s (h.new (.dct []))) fun vs h1 => match h1.get h.n with
  | some (.dct []) => .ok (.ref h.n) (h1.set h.n (.dct (zipK ks vs)))
  | _ => .no
def eComp (xx : Bool) (g : Tg) (it : II) (t : Option IT) (e : IE) (own : List Nat) (s : Sg) (h : Hh) : R := bI (r.i it s h) fun j h => r.cl xx g j t e own h.n 0 s (h.new (.lst []))
def stepE (c : IE) (s : Sg) (h : Hh) : R := match c with
  | .var i => varV s i h
  | .cst v => .ok v h
  | .bin o a b => eBin r o a b s h
  | .neg a => b1 (r.e a s h) fun x h => (match x with
    | .int c m => .ok (.int (-c) (-m)) h
    | _ => .no)
  | .cmp o a b => eCmp r o a b s h
  | .chain o1 o2 a b c => eChain r o1 o2 a b c s h
  | .andv a b => eAnd r a b s h
  | .orv a b => eOr r a b s h
  | .notv a => eNot r a s h
  | .attr a f => b1 (r.e a s h) fun x h => attrV x f h
  | .idx a i => b1 (r.e a s h) fun x h => b1 (r.e i s h) fun y h => idxV x y h
  | .slc a lo hi => b1 (r.e a s h) fun x h => optE r lo s h fun l h => optE r hi s h fun u h => slV x l u h
  | .tup es => bL (r.es es s h) fun vs h => mkV .tup vs h
  | .lst es => bL (r.es es s h) fun vs h => mkV .lst vs h
  | .dct ks es => eDct r ks es s h
  | .met k v => eMet r k v s h
  | .call f es => bL (r.es es s h) fun vs h => r.f f vs h
  | .meth C f o es => eMeth r C f o es s h
  | .make C f es => eMake r C f es s h
  | .callv i es => eCallv T r i es s h
  | .clo w is => eClo w is s h
  | .len a => b1 (r.e a s h) fun x h => lenV x h
  | .list a => b1 (r.e a s h) fun x h => lstV .lst x h
  | .tuple a => b1 (r.e a s h) fun x h => tupV x h
  | .mx a b => b1 (r.e a s h) fun x h => b1 (r.e b s h) fun y h => mxV x y h
  | .mn a b => b1 (r.e a s h) fun x h => b1 (r.e b s h) fun y h => mnV x y h
  | .toint a => b1 (r.e a s h) fun x h => tointV x h
  | .tostr a => b1 (r.e a s h) fun x h => tostrV x h
  | .lenset a => b1 (r.e a s h) fun x h => lensetV x h
  | .isname a => b1 (r.e a s h) fun x h => isnameV x h
  | .numof a => b1 (r.e a s h) fun x h => numofV x h
  | .split a c => b1 (r.e a s h) fun x h => splitV x c h
  | .join p a => b1 (r.e a s h) fun x h => joinV p x h
  | .fstr p a => b1 (r.e a s h) fun x h => fstrV p x h
  | .isstr a => b1 (r.e a s h) fun x h => (match x with
    | .str _ => .ok (.bl true) h
    | _ => .no)
  | .inG neg a vs => b1 (r.e a s h) fun x h => (match flat0 x && flats vs with
    | true => (match inL x vs with
      | some b => .ok (.bl (xor neg b)) h
      | none => .no)
    | false => .no)
  | .comp g it t e own => eComp r false g it t e own s h
  | .compx g it t e own => eComp r true g it t e own s h
  | .dead => .no
def stepEs (c : List IE) (s : Sg) (h : Hh) : RL := match c with
  | [] => .ok [] h
  | e :: es => b1L (r.e e s h) fun v h => bLL (r.es es s h) fun vs h => .ok (v :: vs) h
def stepT (c : IT) (s : Sg) (h : Hh) : RB := match c with
  | .v e => b1B (r.e e s h) fun v h => (match v with
    | .bl b => .ok b h
    | _ => .no)
  | .tru e => b1B (r.e e s h) fun v h => (match truV v h with
    | some b => .ok b h
    | none => .no)
  | .and a b => bB (r.t a s h) fun c h => (match c with
    | true => r.t b s h
    | false => .ok false h)
  | .or a b => bB (r.t a s h) fun c h => (match c with
    | true => .ok true h
    | false => r.t b s h)
  | .not a => bB (r.t a s h) fun c h => .ok (!c) h
def isLst (v : AV) (h : Hh) (k : RS) : RS := match v with
  | .ref j => (match h.get j with
    | some (.lst _) => k
    | _ => .no)
  | _ => .no
def rngI (lo hi c : Int) (h : Hh) : RI := match smallI lo && smallI hi with
  | true => (match c with
    | .ofNat 1 => .ok (.rng lo 1 (toNatI (hi - lo))) h
    | .negSucc 0 => .ok (.rng lo (-1) (toNatI (lo - hi))) h
    | .ofNat 2 => .ok (.rng lo 2 (toNatI (hi - lo + 1) / 2)) h
    | .ofNat 3 => .ok (.rng lo 3 (toNatI (hi - lo + 2) / 3)) h
    | _ => .no)
  | false => .no
def lstI (mk : Nat → It) (v : AV) (h : Hh) : RI := match v with
  | .ref j => (match h.get j with
    | some (.lst _) => .ok (mk j) h
    | _ => .no)
  | _ => .no
def tupI (v : AV) (h : Hh) : RI := match v with
  | .ref j => (match h.get j with
    | some (.tup _) => .ok (.tup j) h
    | _ => .no)
  | _ => .no
def rngV (v w : AV) (c : Int) (h : Hh) : RI := match cstI v, cstI w with
  | some lo, some hi => rngI lo hi c h
  | _, _ => .no
def stepI (c : II) (s : Sg) (h : Hh) : RI := match c with
  | .lst e => b1I (r.e e s h) fun v h => lstI .lst v h
  | .tup e => b1I (r.e e s h) fun v h => tupI v h
  | .r1 a => b1I (r.e a s h) fun v h => rngV (.int 0 0) v 1 h
  | .r2 a b => b1I (r.e a s h) fun v h => b1I (r.e b s h) fun w h => rngV v w 1 h
  | .r3 a b c => b1I (r.e a s h) fun v h => b1I (r.e b s h) fun w h => rngV v w c h
  | .enum e => b1I (r.e e s h) fun v h => lstI .enum v h
def sWhil (t : IT) (b : List IS) (c : IS) (s : Sg) (h : Hh) : RS := bBS (r.t t s h) fun c' h => match c' with
  | true => bS (r.ss b s h) fun s h => r.s c s h
  | false => .nx s h
def stepS (c : IS) (s : Sg) (h : Hh) : RS := match c with
  | .set i e => b1S (r.e e s h) fun v h => .nx (setN s i (some v)) h
  | .setF o f e => b1S (r.e e s h) fun v h => b1S (r.e o s h) fun x h => setFV x f v s h
  | .setI o i e => b1S (r.e e s h) fun v h => b1S (r.e o s h) fun x h => b1S (r.e i s h) fun y h => setIV x y v s h
  | .app o e => b1S (r.e o s h) fun x h => isLst x h (b1S (r.e e s h) fun v h => appV x v s h)
  | .rev o => b1S (r.e o s h) fun x h => revV x s h
  | .ex e => b1S (r.e e s h) fun _ h => .nx s h
  | .ret e => b1S (r.e e s h) fun v h => .ret v h
  | .iff t a b => bBS (r.t t s h) fun c h => (match c with
    | true => r.ss a s h
    | false => r.ss b s h)
  | .forr g it b => bIS (r.i it s h) fun j h => r.lp g j b 0 s h
  | .whil t b => sWhil r t b (.whil t b) s h
  | .raise C => .exc C h
  | .thru b => (match r.ss b s h with
    | .nx s h => .nx s h
    | .ret v h => .ret v h
    | _ => .no)
  | .tryRet e => (match r.e e s h with
    | .ok v h => .ret v h
    | .exc C h => (match Nat.blt 0 C && Nat.blt C 11 with
      | true => .ret (.str (litS (refused C))) h
      | false => .no)
    | .no => .no)
def stepSs (c : List IS) (s : Sg) (h : Hh) : RS := match c with
  | [] => .nx s h
  | x :: xs => bS (r.s x s h) fun s h => r.ss xs s h
def stepF (f : FC) (vs : List AV) (h : Hh) : R := bF (r.ss f.b (pad f.n vs) h)
def stepLp (g : Tg) (j : It) (b : List IS) (i : Nat) (s : Sg) (h : Hh) : RS := match itNext j i h with
  | .item v h => (match setTg g v s h with
    | some s => bS (r.ss b s h) fun s h => r.lp g j b (i + 1) s h
    | none => .no)
  | .done h => .nx s h
  | .no => .no
def noX (xx : Bool) (r : R) : R := match xx with
  | true => r
  | false => (match r with
    | .ok v h => .ok v h
    | _ => .no)
def noXB (xx : Bool) (r : RB) : RB := match xx with
  | true => r
  | false => (match r with
    | .ok v h => .ok v h
    | _ => .no)
def cTest (xx : Bool) (t : Option IT) (s : Sg) (h : Hh) (k : Bool → Hh → R) : R := match t with
  | none => k true h
  | some t => bBR (noXB xx (r.t t s h)) k
def cApp (D : Nat) (v : AV) (h : Hh) (k : Hh → R) : R := match h.get D with
  | some (.lst xs) => (match small xs with
    | true => k (h.set D (.lst (catL xs [v])))
    | false => .no)
  | _ => .no
def stepCl (xx : Bool) (g : Tg) (j : It) (t : Option IT) (e : IE) (own : List Nat) (D i : Nat) (s : Sg) (h : Hh) : R := match itNext j i h with
  | .item v h => (match setTg g v (wipeL s own) h with
    | some s2 => cTest r xx t s2 h fun c h => (match c with
      | true => b1 (noX xx (r.e e s2 h)) fun y h => cApp D y h fun h => r.cl xx g j t e own D (i + 1) s h
      | false => r.cl xx g j t e own D (i + 1) s h)
    | none => .no)
  | .done h => .ok (.ref D) h
  | .no => .no
def step : Rec := ⟨stepE T r, stepEs r, stepT r, stepI r, stepS r, stepSs r, stepF r, stepLp r, stepCl r⟩
end
def bot : Rec := ⟨fun _ _ _ => .no, fun _ _ _ => .no, fun _ _ _ => .no, fun _ _ _ => .no, fun _ _ _ => .no, fun _ _ _ => .no, fun _ _ _ => .no, fun _ _ _ _ _ _ => .no, fun _ _ _ _ _ _ _ _ _ _ => .no⟩
def ev (T : Nat → FC) : Nat → Rec
  | 0 => bot
  | n + 1 => step T (ev T n)
end
end Ck
-- Code
set_option maxRecDepth 100000
namespace Ck
def c_Book_ways : FC := .mk 1 [.ret (.list (.attr (.var 0) 10))]
def c_Book_state : FC := .mk 1 [.ret (.attr (.var 0) 11)]
def c_boats_at : FC := .mk 7 [.set 2 (.meth 0 c_Book_ways (.var 0) []), .set 3 (.idx (.meth 0 c_Book_state (.var 0) []) (.cst (.int (.ofNat 2) 0))), .set 4 (.lst []), .forr (.nm 5) (.r1 (.len (.var 2))) [.set 6 (.idx (.idx (.var 2) (.var 5)) (.cst (.int (.ofNat 1) 0))), .iff (.and (.v (.cmp .lt (.idx (.var 3) (.var 5)) (.len (.var 6)))) (.v (.cmp .eq (.idx (.idx (.var 6) (.idx (.var 3) (.var 5))) (.cst (.int (.ofNat 0) 0))) (.var 1)))) [.app (.var 4) (.var 5)] []], .ret (.var 4)]
def c_Book_canal : FC := .mk 1 [.ret (.attr (.var 0) 8)]
def c_place_of : FC := .mk 4 [.forr (.tup [2, 3]) (.enum (.var 0)) [.iff (.v (.cmp .eq (.attr (.var 3) 1) (.var 1))) [.ret (.var 2)] []], .ret (.neg (.cst (.int (.ofNat 1) 0)))]
def c_Canal_lock_at : FC := .mk 3 [.set 2 (.call c_place_of [(.attr (.var 0) 0), (.var 1)]), .iff (.v (.cmp .lt (.var 2) (.cst (.int (.ofNat 0) 0)))) [.raise 5] [], .ret (.var 2)]
def c_Book_names : FC := .mk 1 [.ret (.list (.attr (.var 0) 9))]
def c_advice : FC := .mk 11 [.set 2 (.meth 0 c_Book_canal (.var 0) []), .set 3 (.meth 4 c_Canal_lock_at (.var 2) [(.var 1)]), .set 4 (.call c_boats_at [(.var 0), (.var 3)]), .set 5 (.meth 0 c_Book_state (.var 0) []), .set 6 (.meth 0 c_Book_ways (.var 0) []), .set 7 (.comp (.nm 8) (.lst (.var 4)) none (.idx (.idx (.idx (.idx (.var 6) (.var 8)) (.cst (.int (.ofNat 1) 0))) (.idx (.idx (.var 5) (.cst (.int (.ofNat 2) 0))) (.var 8))) (.cst (.int (.ofNat 1) 0))) [8]), .set 9 (.meth 0 c_Book_names (.var 0) []), .ret (.comp (.nm 10) (.lst .dead) none (.idx (.var 9) (.idx (.var 4) (.var 10))) [10])]
def c_deed_shown : FC := .mk 3 [.iff (.v (.cmp .eq (.idx (.var 2) (.cst (.int (.ofNat 0) 0))) (.cst (.str [.l 112, .l 97, .l 115, .l 115])))) [.ret (.bin .add (.cst (.str [.l 112, .l 97, .l 115, .l 115, .l 32])) (.idx (.var 1) (.idx (.var 2) (.cst (.int (.ofNat 1) 0)))))] [], .iff (.v (.cmp .eq (.idx (.var 2) (.cst (.int (.ofNat 0) 0))) (.cst (.str [.l 108, .l 101, .l 116])))) [.ret (.bin .add (.cst (.str [.l 108, .l 101, .l 116, .l 32])) (.attr (.idx (.attr (.var 0) 0) (.idx (.var 2) (.cst (.int (.ofNat 1) 0)))) 1))] [], .ret (.cst (.str [.l 110, .l 105, .l 103, .l 104, .l 116]))]
def c_deeds_shown : FC := .mk 4 [.ret (.join [44, 32] (.comp (.nm 3) (.lst (.var 2)) none (.call c_deed_shown [(.var 0), (.var 1), (.var 3)]) [3]))]
def c_worded : FC := .mk 2 [.iff (.v (.cmp .eq (.var 1) (.cst (.str [])))) [.ret (.var 0)] [], .ret (.bin .add (.bin .add (.var 0) (.cst (.str [.l 32]))) (.var 1))]
def c_answer_shown : FC := .mk 3 [.iff (.v (.cmp .eq (.idx (.var 2) (.cst (.int (.ofNat 0) 0))) (.cst (.str [.l 121, .l 101, .l 115])))) [.ret (.call c_worded [(.cst (.str [.l 121, .l 101, .l 115])), (.call c_deeds_shown [(.var 0), (.var 1), (.idx (.var 2) (.cst (.int (.ofNat 1) 0)))])])] [], .iff (.v (.cmp .eq (.idx (.var 2) (.cst (.int (.ofNat 0) 0))) (.cst (.str [.l 110, .l 111])))) [.ret (.bin .add (.cst (.str [.l 110, .l 111, .l 32])) (.tostr .dead))] [], .ret (.bin .add (.cst (.str [.l 110, .l 111, .l 116, .l 32])) (.idx (.var 2) (.cst (.int (.ofNat 1) 0))))]
def c_parted : FC := .mk 4 [.set 1 (.cst (.str [])), .set 2 (.lst []), .forr (.nm 3) (.lst (.split (.var 0) 10)) [.iff (.v (.cmp .ne (.var 3) (.cst (.str [])))) [.iff (.or (.tru (.var 2)) (.v (.cmp .eq (.idx (.split (.var 3) 32) (.cst (.int (.ofNat 0) 0))) (.cst (.str [.l 107, .l 101, .l 101, .l 112, .l 101, .l 114]))))) [.app (.var 2) (.var 3)] [.set 1 (.bin .add (.bin .add (.var 1) (.var 3)) (.cst (.str [.l 10])))]] []], .ret (.tup [(.var 1), (.var 2)])]
def c_most_of : FC := .mk 3 [.set 1 (.split (.var 0) 32), .iff (.v (.cmp .eq (.var 1) (.lst [(.cst (.str [.l 107, .l 101, .l 101, .l 112, .l 101, .l 114]))]))) [.ret (.cst (.int (.ofNat 200) 0))] [], .iff (.or (.v (.cmp .ne (.len (.var 1)) (.cst (.int (.ofNat 2) 0)))) (.v (.cmp .ne (.idx (.var 1) (.cst (.int (.ofNat 0) 0))) (.cst (.str [.l 107, .l 101, .l 101, .l 112, .l 101, .l 114]))))) [.raise 1] [], .set 2 (.numof (.idx (.var 1) (.cst (.int (.ofNat 1) 0)))), .iff (.or (.v (.cmp .lt (.var 2) (.cst (.int (.ofNat 1) 0)))) (.v (.cmp .gt (.var 2) (.cst (.int (.ofNat 1000) 0))))) [.raise 1] [], .ret (.var 2)]
def c_poured_all : FC := .mk 6 [.set 2 (.list (.var 0)), .forr (.tup [3, 4, 5]) (.lst (.var 1)) [.setI (.var 2) (.var 3) (.bin .sub (.idx (.var 2) (.var 3)) (.var 5)), .setI (.var 2) (.var 4) (.bin .add (.idx (.var 2) (.var 4)) (.var 5))], .ret (.tuple (.var 2))]
def c_passing : FC := .mk 3 [.set 2 (.lst []), .iff (.v (.cmp .eq (.var 1) (.cst (.str [.l 117, .l 112])))) [.iff (.v (.var 0)) [.app (.var 2) (.cst (.str [.l 108, .l 101, .l 116]))] [], .ret (.bin .add (.var 2) (.lst [(.cst (.str [.l 111, .l 112, .l 101, .l 110, .l 32, .l 108, .l 111, .l 119])), (.cst (.str [.l 105, .l 110, .l 32, .l 108, .l 111, .l 119])), (.cst (.str [.l 115, .l 104, .l 117, .l 116, .l 32, .l 108, .l 111, .l 119])), (.cst (.str [.l 102, .l 105, .l 108, .l 108])), (.cst (.str [.l 111, .l 112, .l 101, .l 110, .l 32, .l 104, .l 105, .l 103, .l 104])), (.cst (.str [.l 111, .l 117, .l 116, .l 32, .l 104, .l 105, .l 103, .l 104])), (.cst (.str [.l 115, .l 104, .l 117, .l 116, .l 32, .l 104, .l 105, .l 103, .l 104]))]))] [], .iff (.not (.v (.var 0))) [.app (.var 2) (.cst (.str [.l 102, .l 105, .l 108, .l 108]))] [], .ret (.bin .add (.var 2) (.lst [(.cst (.str [.l 111, .l 112, .l 101, .l 110, .l 32, .l 104, .l 105, .l 103, .l 104])), (.cst (.str [.l 105, .l 110, .l 32, .l 104, .l 105, .l 103, .l 104])), (.cst (.str [.l 115, .l 104, .l 117, .l 116, .l 32, .l 104, .l 105, .l 103, .l 104])), (.cst (.str [.l 108, .l 101, .l 116])), (.cst (.str [.l 111, .l 112, .l 101, .l 110, .l 32, .l 108, .l 111, .l 119])), (.cst (.str [.l 111, .l 117, .l 116, .l 32, .l 108, .l 111, .l 119])), (.cst (.str [.l 115, .l 104, .l 117, .l 116, .l 32, .l 108, .l 111, .l 119]))]))]
def c_PlainLock_fill_parts : FC := .mk 2 [.ret (.lst [(.tup [(.cst (.str [.l 104, .l 105, .l 103, .l 104])), (.attr (.var 0) 18)])])]
def c_filling : FC := .mk 3 [.ret (.comp (.nm 2) (.lst (.meth 2 c_PlainLock_fill_parts (.var 0) [(.var 1)])) none (.tup [(.idx (.var 2) (.cst (.int (.ofNat 0) 0))), (.cst (.str [.l 99, .l 104, .l 97, .l 109, .l 98, .l 101, .l 114])), (.idx (.var 2) (.cst (.int (.ofNat 1) 0)))]) [2])]
def c_PlainLock_let_parts : FC := .mk 2 [.ret (.lst [(.tup [(.cst (.str [.l 108, .l 111, .l 119])), (.attr (.var 0) 18)])])]
def c_letting : FC := .mk 3 [.ret (.comp (.nm 2) (.lst (.meth 2 c_PlainLock_let_parts (.var 0) [(.var 1)])) none (.tup [(.cst (.str [.l 99, .l 104, .l 97, .l 109, .l 98, .l 101, .l 114])), (.idx (.var 2) (.cst (.int (.ofNat 0) 0))), (.idx (.var 2) (.cst (.int (.ofNat 1) 0)))]) [2])]
def c_held_behind : FC := .mk 3 [.forr (.nm 2) (.lst (.var 1)) [.iff (.v (.cmp .eq (.idx (.var 2) (.cst (.int (.ofNat 0) 0))) (.cst (.str [.l 98, .l 97, .l 115, .l 105, .l 110])))) [.set 0 .dead] [], .iff (.v (.cmp .eq (.idx (.var 2) (.cst (.int (.ofNat 1) 0))) (.cst (.str [.l 98, .l 97, .l 115, .l 105, .l 110])))) [.set 0 .dead] []], .ret (.var 0)]
def c_passage : FC := .mk 5 [.set 4 (.lst []), .iff (.v (.cmp .eq (.var 3) (.cst (.str [.l 117, .l 112])))) [.iff (.v (.var 1)) [.set 4 (.call c_letting [(.var 0), (.var 2)])] [], .ret (.bin .add (.var 4) (.call c_filling [(.var 0), (.call c_held_behind [(.var 2), (.var 4)])]))] [], .iff (.not (.v (.var 1))) [.set 4 (.call c_filling [(.var 0), (.var 2)])] [], .ret (.bin .add (.var 4) (.call c_letting [(.var 0), (.call c_held_behind [(.var 2), (.var 4)])]))]
def c_linked : FC := .mk 8 [.set 3 (.lst [(.var 1)]), .forr (.nm 4) (.tup (.var 2)) [.set 5 (.idx (.attr (.var 0) 0) (.idx (.var 4) (.cst (.int (.ofNat 0) 0)))), .set 6 (.attr (.var 5) 2), .set 7 (.attr (.var 5) 3), .iff (.v (.cmp .eq (.idx (.var 4) (.cst (.int (.ofNat 1) 0))) (.cst (.str [.l 100, .l 111, .l 119, .l 110])))) [.set 6 (.attr (.var 5) 3), .set 7 (.attr (.var 5) 2)] [], .iff (.v (.cmp .ne (.idx (.var 3) (.neg (.cst (.int (.ofNat 1) 0)))) (.var 6))) [.raise 7] [], .app (.var 3) (.var 7)], .ret (.var 3)]
def c_Canal_sea : FC := .mk 1 [.ret (.bin .add (.len (.attr (.var 0) 4)) (.bin .mul (.cst (.int (.ofNat 2) 0)) (.len (.attr (.var 0) 0))))]
def c_Canal_sky : FC := .mk 1 [.ret (.bin .add (.meth 4 c_Canal_sea (.var 0) []) (.cst (.int (.ofNat 1) 0)))]
def c_Canal_many : FC := .mk 1 [.ret (.bin .add (.meth 4 c_Canal_sky (.var 0) []) (.cst (.int (.ofNat 1) 0)))]
def c_over : FC := .mk 3 [.ret (.mx (.cst (.int (.ofNat 0) 0)) (.bin .sub (.idx (.var 1) (.var 2)) (.idx (.idx (.var 0) (.var 2)) (.cst (.int (.ofNat 0) 0)))))]
def c_spilled : FC := .mk 5 [.set 4 (.call c_over [(.var 0), (.var 1), (.var 2)]), .iff (.v (.cmp .notN (.var 3) (.cst .non))) [.set 4 (.mn (.var 4) (.var 3))] [], .ret (.call c_poured_all [(.var 1), (.lst [(.tup [(.var 2), (.idx (.idx (.var 0) (.var 2)) (.cst (.int (.ofNat 1) 0))), (.var 4)])])])]
def c_settled : FC := .mk 4 [.set 2 (.tuple (.var 1)), .forr (.nm 3) (.r3 (.bin .sub (.len (.var 0)) (.cst (.int (.ofNat 1) 0))) (.neg (.cst (.int (.ofNat 1) 0))) (.negSucc 0)) [.set 2 (.call c_spilled [(.var 0), (.var 2), (.var 3), (.cst .non)])], .ret (.var 2)]
def c_Canal_weirs : FC := .mk 4 [.set 1 (.lst []), .forr (.nm 2) (.lst (.attr (.var 0) 4)) [.set 3 (.attr (.var 2) 21), .iff (.v (.cmp .lt (.var 3) (.cst (.int (.ofNat 0) 0)))) [.set 3 (.meth 4 c_Canal_sea (.var 0) [])] [], .app (.var 1) (.tup [(.attr (.var 2) 19), (.var 3)])], .ret (.var 1)]
def c_Canal_start : FC := .mk 4 [.set 1 (.comp (.nm 2) (.r1 (.meth 4 c_Canal_many (.var 0) [])) none (.cst (.int (.ofNat 0) 0)) [2]), .forr (.tup [2, 3]) (.enum (.attr (.var 0) 4)) [.setI (.var 1) (.var 2) (.attr (.var 3) 20)], .ret (.call c_settled [(.meth 4 c_Canal_weirs (.var 0) []), (.tuple (.var 1))])]
def c_begun : FC := .mk 3 [.ret (.tup [(.cst (.int (.ofNat 0) 0)), (.meth 4 c_Canal_start (.var 0) []), (.tuple (.comp (.nm 2) (.lst (.var 1)) none (.cst (.int (.ofNat 0) 0)) [2]))])]
def c_reach_of : FC := .mk 4 [.iff (.v (.cmp .ge (.var 2) (.len (.idx (.var 1) (.cst (.int (.ofNat 1) 0)))))) [.ret (.neg (.cst (.int (.ofNat 1) 0)))] [], .set 3 (.idx (.idx (.var 1) (.cst (.int (.ofNat 1) 0))) (.var 2)), .iff (.v (.cmp .eq (.idx (.var 3) (.cst (.int (.ofNat 1) 0))) (.cst (.str [.l 117, .l 112])))) [.ret (.attr (.idx (.attr (.var 0) 0) (.idx (.var 3) (.cst (.int (.ofNat 0) 0)))) 2)] [], .ret (.attr (.idx (.attr (.var 0) 0) (.idx (.var 3) (.cst (.int (.ofNat 0) 0)))) 3)]
def c_lying : FC := .mk 6 [.set 4 (.cst (.int (.ofNat 0) 0)), .forr (.nm 5) (.r1 (.len (.var 1))) [.iff (.v (.cmp .eq (.call c_reach_of [(.var 0), (.idx (.var 1) (.var 5)), (.idx (.idx (.var 2) (.cst (.int (.ofNat 2) 0))) (.var 5))]) (.var 3))) [.set 4 (.bin .add (.var 4) (.cst (.int (.ofNat 1) 0)))] []], .ret (.var 4)]
def c_all_home : FC := .mk 3 [.forr (.nm 2) (.r1 (.len (.var 0))) [.iff (.v (.cmp .lt (.idx (.idx (.var 1) (.cst (.int (.ofNat 2) 0))) (.var 2)) (.len (.idx (.idx (.var 0) (.var 2)) (.cst (.int (.ofNat 1) 0)))))) [.ret (.cst (.bl false))] []], .ret (.cst (.bl true))]
def c_spills : FC := .mk 6 [.set 2 (.tuple (.var 1)), .set 3 (.comp (.nm 4) (.lst (.var 0)) none (.cst (.int (.ofNat 0) 0)) [4]), .forr (.nm 5) (.r3 (.bin .sub (.len (.var 0)) (.cst (.int (.ofNat 1) 0))) (.neg (.cst (.int (.ofNat 1) 0))) (.negSucc 0)) [.setI (.var 3) (.var 5) (.call c_over [(.var 0), (.var 2), (.var 5)]), .set 2 (.call c_spilled [(.var 0), (.var 2), (.var 5), (.cst .non)])], .ret (.var 3)]
def c_weir_pours : FC := .mk 6 [.set 2 (.call c_spills [(.meth 4 c_Canal_weirs (.var 0) []), (.var 1)]), .set 3 (.meth 4 c_Canal_weirs (.var 0) []), .set 4 (.lst []), .forr (.nm 5) (.r3 (.bin .sub (.len (.var 2)) (.cst (.int (.ofNat 1) 0))) (.neg (.cst (.int (.ofNat 1) 0))) (.negSucc 0)) [.iff (.v (.cmp .gt (.idx (.var 2) (.var 5)) (.cst (.int (.ofNat 0) 0)))) [.app (.var 4) (.tup [(.var 5), (.idx (.idx (.var 3) (.var 5)) (.cst (.int (.ofNat 1) 0))), (.idx (.var 2) (.var 5))])] []], .ret (.var 4)]
def c_night_pours : FC := .mk 6 [.set 3 (.lst []), .forr (.nm 4) (.r1 (.len (.var 2))) [.set 5 (.mn (.idx (.idx (.var 1) (.cst (.int (.ofNat 1) 0))) (.var 4)) (.idx (.idx (.var 2) (.var 4)) (.cst (.int (.ofNat 1) 0)))), .iff (.v (.cmp .gt (.var 5) (.cst (.int (.ofNat 0) 0)))) [.app (.var 3) (.tup [(.var 4), (.meth 4 c_Canal_sky (.var 0) []), (.var 5)])] []], .forr (.nm 4) (.r1 (.len (.var 2))) [.iff (.v (.cmp .gt (.idx (.idx (.var 2) (.var 4)) (.cst (.int (.ofNat 0) 0))) (.cst (.int (.ofNat 0) 0)))) [.app (.var 3) (.tup [(.meth 4 c_Canal_sky (.var 0) []), (.var 4), (.idx (.idx (.var 2) (.var 4)) (.cst (.int (.ofNat 0) 0)))])] []], .ret (.bin .add (.var 3) (.call c_weir_pours [(.var 0), (.call c_poured_all [(.idx (.var 1) (.cst (.int (.ofNat 1) 0))), (.var 3)])]))]
def c_wet_enough : FC := .mk 3 [.forr (.nm 2) (.r1 (.len (.var 0))) [.iff (.or (.v (.cmp .lt (.idx (.idx (.var 0) (.var 2)) (.cst (.int (.ofNat 0) 0))) (.idx (.idx (.var 1) (.var 2)) (.cst (.int (.ofNat 0) 0))))) (.v (.cmp .gt (.idx (.idx (.var 0) (.var 2)) (.cst (.int (.ofNat 1) 0))) (.idx (.idx (.var 1) (.var 2)) (.cst (.int (.ofNat 1) 0)))))) [.ret (.cst (.bl false))] []], .ret (.cst (.bl true))]
def c_Canal_chamber : FC := .mk 2 [.ret (.bin .add (.len (.attr (.var 0) 4)) (.var 1))]
def c_Canal_basin : FC := .mk 2 [.ret (.bin .add (.bin .add (.len (.attr (.var 0) 4)) (.len (.attr (.var 0) 0))) (.var 1))]
def c_numbered : FC := .mk 6 [.set 3 (.idx (.attr (.var 0) 0) (.var 1)), .set 4 (.dct [[104, 105, 103, 104], [108, 111, 119], [99, 104, 97, 109, 98, 101, 114], [98, 97, 115, 105, 110]] [(.attr (.var 3) 3), (.attr (.var 3) 2), (.meth 4 c_Canal_chamber (.var 0) [(.var 1)]), (.meth 4 c_Canal_basin (.var 0) [(.var 1)])]), .ret (.comp (.nm 5) (.lst (.var 2)) none (.tup [(.idx (.var 4) (.idx (.var 5) (.cst (.int (.ofNat 0) 0)))), (.idx (.var 4) (.idx (.var 5) (.cst (.int (.ofNat 1) 0)))), (.idx (.var 5) (.cst (.int (.ofNat 2) 0)))]) [5])]
def c_Canal_full : FC := .mk 3 [.ret (.cmp .gt (.idx (.var 1) (.meth 4 c_Canal_chamber (.var 0) [(.var 2)])) (.cst (.int (.ofNat 0) 0)))]
def c_pass_pours : FC := .mk 7 [.set 4 (.idx (.idx (.idx (.var 1) (.var 3)) (.cst (.int (.ofNat 1) 0))) (.idx (.idx (.var 2) (.cst (.int (.ofNat 2) 0))) (.var 3))), .set 5 (.idx (.var 4) (.cst (.int (.ofNat 0) 0))), .set 6 (.idx (.idx (.var 2) (.cst (.int (.ofNat 1) 0))) (.meth 4 c_Canal_basin (.var 0) [(.var 5)])), .ret (.call c_numbered [(.var 0), (.var 5), (.call c_passage [(.idx (.attr (.var 0) 0) (.var 5)), (.meth 4 c_Canal_full (.var 0) [(.idx (.var 2) (.cst (.int (.ofNat 1) 0))), (.var 5)]), (.var 6), (.idx (.var 4) (.cst (.int (.ofNat 1) 0)))])])]
def c_let_pours : FC := .mk 3 [.ret (.call c_numbered [(.var 0), (.var 2), (.call c_letting [(.idx (.attr (.var 0) 0) (.var 2)), (.idx (.idx (.var 1) (.cst (.int (.ofNat 1) 0))) (.meth 4 c_Canal_basin (.var 0) [(.var 2)]))])])]
def c_too_dry : FC := .mk 5 [.forr (.nm 3) (.lst (.var 2)) [.set 1 (.call c_poured_all [(.var 1), (.lst [(.var 3)])]), .set 4 (.idx (.var 3) (.cst (.int (.ofNat 0) 0))), .iff (.and (.v (.cmp .lt (.var 4) (.len (.attr (.var 0) 4)))) (.v (.cmp .lt (.idx (.var 1) (.var 4)) (.attr (.idx (.attr (.var 0) 4) (.var 4)) 5)))) [.ret (.cst (.bl true))] []], .ret (.cst (.bl false))]
def c_why_no_pass : FC := .mk 7 [.set 4 (.idx (.var 1) (.var 3)), .set 5 (.idx (.idx (.var 2) (.cst (.int (.ofNat 2) 0))) (.var 3)), .iff (.v (.cmp .ge (.var 5) (.len (.idx (.var 4) (.cst (.int (.ofNat 1) 0)))))) [.ret (.cst (.str [.l 104, .l 111, .l 109, .l 101]))] [], .iff (.v (.cmp .lt (.bin .add (.var 5) (.cst (.int (.ofNat 1) 0))) (.len (.idx (.var 4) (.cst (.int (.ofNat 1) 0)))))) [.set 6 (.call c_reach_of [(.var 0), (.var 4), (.bin .add (.var 5) (.cst (.int (.ofNat 1) 0)))]), .iff (.v (.cmp .ge (.call c_lying [(.var 0), (.var 1), (.var 2), (.var 6)]) (.attr (.idx (.attr (.var 0) 4) (.var 6)) 6))) [.ret (.cst (.str [.l 98, .l 101, .l 114, .l 116, .l 104]))] []] [], .iff (.v (.call c_too_dry [(.var 0), (.idx (.var 2) (.cst (.int (.ofNat 1) 0))), (.call c_pass_pours [(.var 0), (.var 1), (.var 2), (.var 3)])])) [.ret (.cst (.str [.l 119, .l 97, .l 116, .l 101, .l 114]))] [], .ret (.cst (.str []))]
def c_why_not : FC := .mk 4 [.iff (.v (.cmp .eq (.idx (.var 3) (.cst (.int (.ofNat 0) 0))) (.cst (.str [.l 112, .l 97, .l 115, .l 115])))) [.ret (.call c_why_no_pass [(.var 0), (.var 1), (.var 2), (.idx (.var 3) (.cst (.int (.ofNat 1) 0)))])] [], .iff (.v (.cmp .eq (.idx (.var 3) (.cst (.int (.ofNat 0) 0))) (.cst (.str [.l 108, .l 101, .l 116])))) [.iff (.v (.meth 4 c_Canal_full (.var 0) [(.idx (.var 2) (.cst (.int (.ofNat 1) 0))), (.idx (.var 3) (.cst (.int (.ofNat 1) 0)))])) [.ret (.cst (.str []))] [], .ret (.cst (.str [.l 101, .l 109, .l 112, .l 116, .l 121]))] [], .iff (.v (.cmp .lt (.idx (.var 2) (.cst (.int (.ofNat 0) 0))) (.len (.attr (.var 0) 7)))) [.ret (.cst (.str []))] [], .ret (.cst (.str [.l 111, .l 118, .l 101, .l 114]))]
def c_pours : FC := .mk 5 [.iff (.v (.cmp .ne (.call c_why_not [(.var 0), (.var 1), (.var 2), (.var 3)]) (.cst (.str [])))) [.raise 2] [], .iff (.v (.cmp .eq (.idx (.var 3) (.cst (.int (.ofNat 0) 0))) (.cst (.str [.l 110, .l 105, .l 103, .l 104, .l 116])))) [.ret (.call c_night_pours [(.var 0), (.var 2), (.idx (.attr (.var 0) 7) (.idx (.var 2) (.cst (.int (.ofNat 0) 0))))])] [], .iff (.v (.cmp .eq (.idx (.var 3) (.cst (.int (.ofNat 0) 0))) (.cst (.str [.l 112, .l 97, .l 115, .l 115])))) [.set 4 (.call c_pass_pours [(.var 0), (.var 1), (.var 2), (.idx (.var 3) (.cst (.int (.ofNat 1) 0)))])] [.set 4 (.call c_let_pours [(.var 0), (.var 2), (.idx (.var 3) (.cst (.int (.ofNat 1) 0)))])], .ret (.bin .add (.var 4) (.call c_weir_pours [(.var 0), (.call c_poured_all [(.idx (.var 2) (.cst (.int (.ofNat 1) 0))), (.var 4)])]))]
def c_after : FC := .mk 6 [.set 4 (.call c_poured_all [(.idx (.var 2) (.cst (.int (.ofNat 1) 0))), (.call c_pours [(.var 0), (.var 1), (.var 2), (.var 3)])]), .iff (.v (.cmp .eq (.idx (.var 3) (.cst (.int (.ofNat 0) 0))) (.cst (.str [.l 110, .l 105, .l 103, .l 104, .l 116])))) [.ret (.tup [(.bin .add (.idx (.var 2) (.cst (.int (.ofNat 0) 0))) (.cst (.int (.ofNat 1) 0))), (.var 4), (.idx (.var 2) (.cst (.int (.ofNat 2) 0)))])] [], .set 5 (.list (.idx (.var 2) (.cst (.int (.ofNat 2) 0)))), .iff (.v (.cmp .eq (.idx (.var 3) (.cst (.int (.ofNat 0) 0))) (.cst (.str [.l 112, .l 97, .l 115, .l 115])))) [.setI (.var 5) (.idx (.var 3) (.cst (.int (.ofNat 1) 0))) (.bin .add (.idx (.var 5) (.idx (.var 3) (.cst (.int (.ofNat 1) 0)))) (.cst (.int (.ofNat 1) 0)))] [], .ret (.tup [(.idx (.var 2) (.cst (.int (.ofNat 0) 0))), (.var 4), (.tuple (.var 5))])]
def c_may : FC := .mk 7 [.set 3 (.comp (.nm 4) (.r1 (.len (.var 1))) none (.tup [(.cst (.str [.l 112, .l 97, .l 115, .l 115])), (.var 4)]) [4]), .set 3 (.bin .add (.var 3) (.comp (.nm 5) (.r1 (.len (.attr (.var 0) 0))) none (.tup [(.cst (.str [.l 108, .l 101, .l 116])), (.var 5)]) [5])), .app (.var 3) (.tup [(.cst (.str [.l 110, .l 105, .l 103, .l 104, .l 116]))]), .ret (.comp (.nm 6) (.lst (.var 3)) (some (.v (.cmp .eq (.call c_why_not [(.var 0), (.var 1), (.var 2), (.var 6)]) (.cst (.str []))))) (.var 6) [6])]
def c_boat_at : FC := .mk 3 [.forr (.nm 2) (.r1 (.len (.var 0))) [.iff (.v (.cmp .eq (.idx (.var 0) (.var 2)) (.var 1))) [.ret (.var 2)] []], .raise 5]
def c_Canal_reach_at : FC := .mk 3 [.set 2 (.call c_place_of [(.attr (.var 0) 4), (.var 1)]), .iff (.v (.cmp .lt (.var 2) (.cst (.int (.ofNat 0) 0)))) [.raise 5] [], .ret (.var 2)]
def c_way_of : FC := .mk 5 [.set 2 (.meth 4 c_Canal_reach_at (.var 0) [(.idx (.var 1) (.cst (.int (.ofNat 2) 0)))]), .set 3 (.tuple (.compx (.nm 4) (.tup (.idx (.var 1) (.cst (.int (.ofNat 3) 0)))) none (.tup [(.meth 4 c_Canal_lock_at (.var 0) [(.idx (.var 4) (.cst (.int (.ofNat 0) 0)))]), (.idx (.var 4) (.cst (.int (.ofNat 1) 0)))]) [4])), .ex (.call c_linked [(.var 0), (.var 2), (.var 3)]), .ret (.tup [(.var 2), (.var 3)])]
def c_Book_init : FC := .mk 2 [.setF (.var 0) 8 (.var 1), .setF (.var 0) 9 (.lst []), .setF (.var 0) 10 (.lst []), .setF (.var 0) 11 (.call c_begun [(.var 1), (.lst [])]), .setF (.var 0) 12 (.lst []), .setF (.var 0) 13 (.lst []), .setF (.var 0) 14 (.lst [])]
def c_Book_copied : FC := .mk 2 [.set 1 (.make 0 c_Book_init [(.attr (.var 0) 8)]), .setF (.var 1) 9 (.list (.attr (.var 0) 9)), .setF (.var 1) 10 (.list (.attr (.var 0) 10)), .setF (.var 1) 11 (.attr (.var 0) 11), .setF (.var 1) 12 (.list (.attr (.var 0) 12)), .setF (.var 1) 13 (.list (.attr (.var 0) 13)), .setF (.var 1) 14 (.list (.attr (.var 0) 14)), .ret (.var 1)]
def c_Book_deed_of : FC := .mk 2 [.iff (.v (.cmp .eq (.idx (.var 1) (.cst (.int (.ofNat 0) 0))) (.cst (.str [.l 112, .l 97, .l 115, .l 115])))) [.ret (.tup [(.cst (.str [.l 112, .l 97, .l 115, .l 115])), (.call c_boat_at [(.attr (.var 0) 9), (.idx (.var 1) (.cst (.int (.ofNat 1) 0)))])])] [], .iff (.v (.cmp .eq (.idx (.var 1) (.cst (.int (.ofNat 0) 0))) (.cst (.str [.l 108, .l 101, .l 116])))) [.ret (.tup [(.cst (.str [.l 108, .l 101, .l 116])), (.meth 4 c_Canal_lock_at (.attr (.var 0) 8) [(.idx (.var 1) (.cst (.int (.ofNat 1) 0)))])])] [], .ret (.tup [(.cst (.str [.l 110, .l 105, .l 103, .l 104, .l 116]))])]
def c_Book_why_no_come : FC := .mk 3 [.iff (.not (.v (.isname (.idx (.var 1) (.cst (.int (.ofNat 1) 0)))))) [.raise 1] [], .iff (.v (.cmp .isin (.idx (.var 1) (.cst (.int (.ofNat 1) 0))) (.attr (.var 0) 9))) [.raise 4] [], .iff (.v (.cmp .ge (.len (.attr (.var 0) 9)) (.cst (.int (.ofNat 9) 0)))) [.raise 6] [], .set 2 (.idx (.call c_way_of [(.attr (.var 0) 8), (.var 1)]) (.cst (.int (.ofNat 0) 0))), .iff (.v (.cmp .ge (.call c_lying [(.attr (.var 0) 8), (.attr (.var 0) 10), (.attr (.var 0) 11), (.var 2)]) (.attr (.idx (.attr (.attr (.var 0) 8) 4) (.var 2)) 6))) [.ret (.cst (.str [.l 98, .l 101, .l 114, .l 116, .l 104]))] [], .ret (.cst (.str []))]
def c_Book_why_no_night : FC := .mk 2 [.iff (.v (.cmp .ne (.len (.var 1)) (.len (.attr (.attr (.var 0) 8) 4)))) [.raise 3] [], .iff (.v (.cmp .ge (.idx (.attr (.var 0) 11) (.cst (.int (.ofNat 0) 0))) (.len (.attr (.attr (.var 0) 8) 7)))) [.ret (.cst (.str [.l 111, .l 118, .l 101, .l 114]))] [], .iff (.not (.v (.call c_wet_enough [(.var 1), (.idx (.attr (.attr (.var 0) 8) 7) (.idx (.attr (.var 0) 11) (.cst (.int (.ofNat 0) 0))))]))) [.raise 9] [], .ret (.cst (.str []))]
def c_Book_fault : FC := .mk 3 [.iff (.v (.cmp .eq (.idx (.var 1) (.cst (.int (.ofNat 0) 0))) (.cst (.str [.l 99, .l 111, .l 109, .l 101])))) [.ret (.meth 0 c_Book_why_no_come (.var 0) [(.var 1)])] [], .iff (.v (.cmp .eq (.idx (.var 1) (.cst (.int (.ofNat 0) 0))) (.cst (.str [.l 110, .l 105, .l 103, .l 104, .l 116])))) [.ret (.meth 0 c_Book_why_no_night (.var 0) [(.idx (.var 1) (.cst (.int (.ofNat 1) 0)))])] [], .iff (.or (.v (.cmp .eq (.idx (.var 1) (.cst (.int (.ofNat 0) 0))) (.cst (.str [.l 112, .l 97, .l 115, .l 115])))) (.v (.cmp .eq (.idx (.var 1) (.cst (.int (.ofNat 0) 0))) (.cst (.str [.l 108, .l 101, .l 116]))))) [.ret (.call c_why_not [(.attr (.var 0) 8), (.attr (.var 0) 10), (.attr (.var 0) 11), (.meth 0 c_Book_deed_of (.var 0) [(.var 1)])])] [], .set 2 (.meth 4 c_Canal_reach_at (.attr (.var 0) 8) [(.idx (.var 1) (.cst (.int (.ofNat 1) 0)))]), .iff (.and (.v (.cmp .eq (.idx (.var 1) (.cst (.int (.ofNat 0) 0))) (.cst (.str [.l 116, .l 97, .l 107, .l 101])))) (.v (.cmp .lt (.bin .sub (.idx (.idx (.attr (.var 0) 11) (.cst (.int (.ofNat 1) 0))) (.var 2)) (.idx (.var 1) (.cst (.int (.ofNat 2) 0)))) (.attr (.idx (.attr (.attr (.var 0) 8) 4) (.var 2)) 5)))) [.ret (.cst (.str [.l 119, .l 97, .l 116, .l 101, .l 114]))] [], .ret (.cst (.str []))]
def c_Book_pours_of : FC := .mk 4 [.iff (.v (.cmp .eq (.idx (.var 1) (.cst (.int (.ofNat 0) 0))) (.cst (.str [.l 99, .l 111, .l 109, .l 101])))) [.ret (.lst [])] [], .iff (.v (.cmp .eq (.idx (.var 1) (.cst (.int (.ofNat 0) 0))) (.cst (.str [.l 110, .l 105, .l 103, .l 104, .l 116])))) [.ret (.call c_night_pours [(.attr (.var 0) 8), (.attr (.var 0) 11), (.idx (.var 1) (.cst (.int (.ofNat 1) 0)))])] [], .iff (.or (.v (.cmp .eq (.idx (.var 1) (.cst (.int (.ofNat 0) 0))) (.cst (.str [.l 112, .l 97, .l 115, .l 115])))) (.v (.cmp .eq (.idx (.var 1) (.cst (.int (.ofNat 0) 0))) (.cst (.str [.l 108, .l 101, .l 116]))))) [.ret (.call c_pours [(.attr (.var 0) 8), (.attr (.var 0) 10), (.attr (.var 0) 11), (.meth 0 c_Book_deed_of (.var 0) [(.var 1)])])] [], .iff (.v (.cmp .eq (.idx (.var 1) (.cst (.int (.ofNat 2) 0))) (.cst (.int (.ofNat 0) 0)))) [.ret (.lst [])] [], .set 2 (.meth 4 c_Canal_reach_at (.attr (.var 0) 8) [(.idx (.var 1) (.cst (.int (.ofNat 1) 0)))]), .iff (.v (.cmp .eq (.idx (.var 1) (.cst (.int (.ofNat 0) 0))) (.cst (.str [.l 116, .l 97, .l 107, .l 101])))) [.ret (.lst [(.tup [(.var 2), (.meth 4 c_Canal_sky (.attr (.var 0) 8) []), (.idx (.var 1) (.cst (.int (.ofNat 2) 0)))])])] [], .set 3 (.lst [(.tup [(.meth 4 c_Canal_sky (.attr (.var 0) 8) []), (.var 2), (.idx (.var 1) (.cst (.int (.ofNat 2) 0)))])]), .ret (.bin .add (.var 3) (.call c_weir_pours [(.attr (.var 0) 8), (.call c_poured_all [(.idx (.attr (.var 0) 11) (.cst (.int (.ofNat 1) 0))), (.var 3)])]))]
def c_Book_behind : FC := .mk 7 [.iff (.v (.cmp .ne (.meth 0 c_Book_fault (.var 0) [(.var 1)]) (.cst (.str [])))) [.raise 2] [], .set 2 (.idx (.attr (.var 0) 11) (.cst (.int (.ofNat 0) 0))), .set 3 (.call c_poured_all [(.idx (.attr (.var 0) 11) (.cst (.int (.ofNat 1) 0))), (.meth 0 c_Book_pours_of (.var 0) [(.var 1)])]), .set 4 (.list (.idx (.attr (.var 0) 11) (.cst (.int (.ofNat 2) 0)))), .set 5 (.list (.attr (.var 0) 10)), .iff (.v (.cmp .eq (.idx (.var 1) (.cst (.int (.ofNat 0) 0))) (.cst (.str [.l 99, .l 111, .l 109, .l 101])))) [.app (.var 5) (.call c_way_of [(.attr (.var 0) 8), (.var 1)]), .app (.var 4) (.cst (.int (.ofNat 0) 0))] [.iff (.v (.cmp .eq (.idx (.var 1) (.cst (.int (.ofNat 0) 0))) (.cst (.str [.l 112, .l 97, .l 115, .l 115])))) [.set 6 (.call c_boat_at [(.attr (.var 0) 9), (.idx (.var 1) (.cst (.int (.ofNat 1) 0)))]), .setI (.var 4) (.var 6) (.bin .add (.idx (.var 4) (.var 6)) (.cst (.int (.ofNat 1) 0)))] [.iff (.v (.cmp .eq (.idx (.var 1) (.cst (.int (.ofNat 0) 0))) (.cst (.str [.l 110, .l 105, .l 103, .l 104, .l 116])))) [.set 2 (.bin .add (.var 2) (.cst (.int (.ofNat 1) 0)))] []]], .ret (.tup [(.var 5), (.tup [(.var 2), (.var 3), (.tuple (.var 4))])])]
def c_Book_words_of : FC := .mk 5 [.iff (.v (.cmp .eq (.idx (.var 1) (.cst (.int (.ofNat 0) 0))) (.cst (.str [.l 108, .l 101, .l 116])))) [.ret (.tup [(.idx (.var 1) (.cst (.int (.ofNat 1) 0))), (.lst [(.cst (.str [.l 108, .l 101, .l 116]))])])] [], .set 2 (.call c_boat_at [(.attr (.var 0) 9), (.idx (.var 1) (.cst (.int (.ofNat 1) 0)))]), .set 3 (.idx (.idx (.idx (.attr (.var 0) 10) (.var 2)) (.cst (.int (.ofNat 1) 0))) (.idx (.idx (.attr (.var 0) 11) (.cst (.int (.ofNat 2) 0))) (.var 2))), .set 4 (.meth 4 c_Canal_full (.attr (.var 0) 8) [(.idx (.attr (.var 0) 11) (.cst (.int (.ofNat 1) 0))), (.idx (.var 3) (.cst (.int (.ofNat 0) 0)))]), .ret (.tup [(.attr (.idx (.attr (.attr (.var 0) 8) 0) (.idx (.var 3) (.cst (.int (.ofNat 0) 0)))) 1), (.call c_passing [(.var 4), (.idx (.var 3) (.cst (.int (.ofNat 1) 0)))])])]
def c_Book_do : FC := .mk 3 [.set 2 (.meth 0 c_Book_behind (.var 0) [(.var 1)]), .setF (.var 0) 12 (.bin .add (.attr (.var 0) 12) (.meth 0 c_Book_pours_of (.var 0) [(.var 1)])), .iff (.or (.v (.cmp .eq (.idx (.var 1) (.cst (.int (.ofNat 0) 0))) (.cst (.str [.l 112, .l 97, .l 115, .l 115])))) (.v (.cmp .eq (.idx (.var 1) (.cst (.int (.ofNat 0) 0))) (.cst (.str [.l 108, .l 101, .l 116]))))) [.app (.attr (.var 0) 13) (.meth 0 c_Book_words_of (.var 0) [(.var 1)])] [], .iff (.v (.cmp .eq (.idx (.var 1) (.cst (.int (.ofNat 0) 0))) (.cst (.str [.l 99, .l 111, .l 109, .l 101])))) [.app (.attr (.var 0) 9) (.idx (.var 1) (.cst (.int (.ofNat 1) 0)))] [], .setF (.var 0) 10 (.idx (.var 2) (.cst (.int (.ofNat 0) 0))), .setF (.var 0) 11 (.idx (.var 2) (.cst (.int (.ofNat 1) 0))), .app (.attr (.var 0) 14) (.var 1)]
def c_name_of : FC := .mk 1 [.iff (.not (.v (.isname (.var 0)))) [.raise 1] [], .ret (.var 0)]
def c_pairs_of : FC := .mk 2 [.iff (.or (.v (.cmp .lt (.len (.var 0)) (.cst (.int (.ofNat 2) 0)))) (.or (.v (.cmp .gt (.len (.var 0)) (.cst (.int (.ofNat 16) 0)))) (.v (.cmp .eq (.bin .mod (.len (.var 0)) (.cst (.int (.ofNat 2) 0))) (.cst (.int (.ofNat 1) 0)))))) [.raise 1] [], .ret (.comp (.nm 1) (.r3 (.cst (.int (.ofNat 0) 0)) (.len (.var 0)) (.ofNat 2)) none (.tup [(.idx (.var 0) (.var 1)), (.idx (.var 0) (.bin .add (.var 1) (.cst (.int (.ofNat 1) 0))))]) [1])]
def c_steps_of : FC := .mk 3 [.set 1 (.lst []), .forr (.nm 2) (.lst (.call c_pairs_of [(.var 0)])) [.iff (.v (.inG true (.idx (.var 2) (.cst (.int (.ofNat 1) 0))) [.str [.l 117, .l 112], .str [.l 100, .l 111, .l 119, .l 110]])) [.raise 1] [], .app (.var 1) (.tup [(.call c_name_of [(.idx (.var 2) (.cst (.int (.ofNat 0) 0)))]), (.idx (.var 2) (.cst (.int (.ofNat 1) 0)))])], .ret (.tuple (.var 1))]
def c_weather_of_journal : FC := .mk 2 [.ret (.tuple (.comp (.nm 1) (.lst (.call c_pairs_of [(.var 0)])) none (.tup [(.numof (.idx (.var 1) (.cst (.int (.ofNat 0) 0)))), (.numof (.idx (.var 1) (.cst (.int (.ofNat 1) 0))))]) [1]))]
def c_entry_of : FC := .mk 3 [.set 1 (.split (.var 0) 32), .set 2 (.idx (.var 1) (.cst (.int (.ofNat 0) 0))), .iff (.and (.v (.cmp .eq (.var 2) (.cst (.str [.l 99, .l 111, .l 109, .l 101])))) (.v (.cmp .gt (.len (.var 1)) (.cst (.int (.ofNat 3) 0))))) [.ret (.tup [(.cst (.str [.l 99, .l 111, .l 109, .l 101])), (.call c_name_of [(.idx (.var 1) (.cst (.int (.ofNat 1) 0)))]), (.call c_name_of [(.idx (.var 1) (.cst (.int (.ofNat 2) 0)))]), (.call c_steps_of [(.slc (.var 1) (some (.cst (.int (.ofNat 3) 0))) none)])])] [], .iff (.v (.cmp .eq (.var 2) (.cst (.str [.l 110, .l 105, .l 103, .l 104, .l 116])))) [.ret (.tup [(.cst (.str [.l 110, .l 105, .l 103, .l 104, .l 116])), (.call c_weather_of_journal [(.slc (.var 1) (some (.cst (.int (.ofNat 1) 0))) none)])])] [], .iff (.and (.v (.cmp .isin (.var 2) (.tup [(.cst (.str [.l 112, .l 97, .l 115, .l 115])), (.cst (.str [.l 108, .l 101, .l 116]))]))) (.v (.cmp .eq (.len (.var 1)) (.cst (.int (.ofNat 2) 0))))) [.ret (.tup [(.var 2), (.call c_name_of [(.idx (.var 1) (.cst (.int (.ofNat 1) 0)))])])] [], .iff (.and (.v (.cmp .isin (.var 2) (.tup [(.cst (.str [.l 116, .l 97, .l 107, .l 101])), (.cst (.str [.l 114, .l 97, .l 105, .l 110]))]))) (.v (.cmp .eq (.len (.var 1)) (.cst (.int (.ofNat 3) 0))))) [.ret (.tup [(.var 2), (.call c_name_of [(.idx (.var 1) (.cst (.int (.ofNat 1) 0)))]), (.numof (.idx (.var 1) (.cst (.int (.ofNat 2) 0))))])] [], .raise 1]
def c_next_layer : FC := .mk 8 [.set 4 (.lst []), .forr (.nm 5) (.lst (.var 0)) [.forr (.tup [6, 7]) (.lst (.callv 1 [(.var 5)])) [.iff (.v (.cmp .notin (.var 7) (.var 2))) [.iff (.v (.cmp .ge (.len (.var 2)) (.var 3))) [.raise 8] [], .setI (.var 2) (.var 7) (.tup [(.var 5), (.var 6)]), .app (.var 4) (.var 7)] []]], .ret (.var 4)]
def c_first_ended : FC := .mk 3 [.forr (.nm 2) (.lst (.var 0)) [.iff (.v (.callv 1 [(.var 2)])) [.ret (.lst [(.var 2)])] []], .ret (.lst [])]
def c_row_to : FC := .mk 3 [.set 2 (.lst []), .whil (.v (.cmp .notN (.idx (.var 1) (.var 0)) (.cst .non))) [.app (.var 2) (.idx (.idx (.var 1) (.var 0)) (.cst (.int (.ofNat 1) 0))), .set 0 (.idx (.idx (.var 1) (.var 0)) (.cst (.int (.ofNat 0) 0)))], .rev (.var 2), .ret (.var 2)]
def c_layered : FC := .mk 8 [.set 4 (.met (.var 0) (.cst .non)), .set 5 (.lst [(.var 0)]), .set 6 (.lst []), .whil (.v (.cmp .gt (.len (.var 5)) (.cst (.int (.ofNat 0) 0)))) [.app (.var 6) (.var 5), .set 7 (.call c_first_ended [(.var 5), (.var 2)]), .iff (.v (.cmp .gt (.len (.var 7)) (.cst (.int (.ofNat 0) 0)))) [.ret (.tup [(.cst (.str [.l 102, .l 111, .l 117, .l 110, .l 100])), (.call c_row_to [(.idx (.var 7) (.cst (.int (.ofNat 0) 0))), (.var 4)]), (.var 6)])] [], .set 5 (.call c_next_layer [(.var 5), (.var 1), (.var 4), (.var 3)])], .ret (.tup [(.cst (.str [.l 99, .l 108, .l 111, .l 115, .l 101, .l 100])), (.var 6)])]
def c_choices_in : FC := .mk 3 [.set 2 (.clo 0 [0, 1]), .ret (.var 2)]
def c_home_in : FC := .mk 2 [.set 1 (.clo 1 [0]), .ret (.var 1)]
def c_is_knot : FC := .mk 3 [.ret (.andv (.notv (.call c_all_home [(.var 1), (.var 2)])) (.cmp .eq (.len (.call c_may [(.var 0), (.var 1), (.var 2)])) (.cst (.int (.ofNat 0) 0))))]
def c_knot_in : FC := .mk 3 [.set 2 (.clo 2 [0, 1]), .ret (.var 2)]
def c_look : FC := .mk 5 [.set 4 (.call c_layered [(.var 2), (.call c_choices_in [(.var 0), (.var 1)]), (.call c_home_in [(.var 1)]), (.var 3)]), .iff (.v (.cmp .eq (.idx (.var 4) (.cst (.int (.ofNat 0) 0))) (.cst (.str [.l 102, .l 111, .l 117, .l 110, .l 100])))) [.ret (.tup [(.cst (.str [.l 104, .l 111, .l 109, .l 101])), (.idx (.var 4) (.cst (.int (.ofNat 1) 0))), (.idx (.var 4) (.cst (.int (.ofNat 2) 0)))])] [], .ret (.tup [(.cst (.str [.l 100, .l 111, .l 111, .l 109, .l 101, .l 100])), (.idx (.var 4) (.cst (.int (.ofNat 1) 0)))])]
def c_look_for_knot : FC := .mk 5 [.set 4 (.call c_layered [(.var 2), (.call c_choices_in [(.var 0), (.var 1)]), (.call c_knot_in [(.var 0), (.var 1)]), (.var 3)]), .iff (.v (.cmp .eq (.idx (.var 4) (.cst (.int (.ofNat 0) 0))) (.cst (.str [.l 102, .l 111, .l 117, .l 110, .l 100])))) [.ret (.tup [(.cst (.str [.l 107, .l 110, .l 111, .l 116])), (.idx (.var 4) (.cst (.int (.ofNat 1) 0))), (.idx (.var 4) (.cst (.int (.ofNat 2) 0)))])] [], .ret (.tup [(.cst (.str [.l 102, .l 114, .l 101, .l 101])), (.idx (.var 4) (.cst (.int (.ofNat 1) 0)))])]
def c_Keeper_init : FC := .mk 4 [.setF (.var 0) 15 (.meth 0 c_Book_copied (.var 1) []), .setF (.var 0) 16 (.var 2), .set 3 (.call c_look [(.meth 0 c_Book_canal (.attr (.var 0) 15) []), (.meth 0 c_Book_ways (.attr (.var 0) 15) []), (.meth 0 c_Book_state (.attr (.var 0) 15) []), (.var 2)]), .iff (.v (.cmp .eq (.idx (.var 3) (.cst (.int (.ofNat 0) 0))) (.cst (.str [.l 100, .l 111, .l 111, .l 109, .l 101, .l 100])))) [.raise 10] [], .setF (.var 0) 17 (.list (.idx (.var 3) (.cst (.int (.ofNat 1) 0))))]
def c_Keeper_plan : FC := .mk 1 [.ret (.list (.attr (.var 0) 17))]
def c_Keeper_book : FC := .mk 1 [.ret (.meth 0 c_Book_copied (.attr (.var 0) 15) [])]
def c_Keeper_begins_with : FC := .mk 2 [.iff (.or (.v (.cmp .eq (.len (.attr (.var 0) 17)) (.cst (.int (.ofNat 0) 0)))) (.v (.cmp .ne (.idx (.idx (.attr (.var 0) 17) (.cst (.int (.ofNat 0) 0))) (.cst (.int (.ofNat 0) 0))) (.idx (.var 1) (.cst (.int (.ofNat 0) 0)))))) [.ret (.cst (.bl false))] [], .ret (.orv (.cmp .eq (.idx (.var 1) (.cst (.int (.ofNat 0) 0))) (.cst (.str [.l 110, .l 105, .l 103, .l 104, .l 116]))) (.cmp .eq (.meth 0 c_Book_deed_of (.attr (.var 0) 15) [(.var 1)]) (.idx (.attr (.var 0) 17) (.cst (.int (.ofNat 0) 0)))))]
def c_Keeper_taken : FC := .mk 3 [.ex (.meth 0 c_Book_do (.attr (.var 0) 15) [(.var 1)]), .setF (.var 0) 17 (.list (.var 2)), .ret (.tup [(.cst (.str [.l 121, .l 101, .l 115])), (.list (.var 2))])]
def c_Keeper_wish : FC := .mk 5 [.set 2 (.meth 0 c_Book_fault (.attr (.var 0) 15) [(.var 1)]), .iff (.v (.cmp .ne (.var 2) (.cst (.str [])))) [.ret (.tup [(.cst (.str [.l 110, .l 111, .l 116])), (.var 2)])] [], .iff (.v (.cmp .eq (.idx (.var 1) (.cst (.int (.ofNat 0) 0))) (.cst (.str [.l 114, .l 97, .l 105, .l 110])))) [.ret (.meth 1 c_Keeper_taken (.var 0) [(.var 1), (.attr (.var 0) 17)])] [], .iff (.v (.meth 1 c_Keeper_begins_with (.var 0) [(.var 1)])) [.ret (.meth 1 c_Keeper_taken (.var 0) [(.var 1), (.slc (.attr (.var 0) 17) (some (.cst (.int (.ofNat 1) 0))) none)])] [], .set 3 (.meth 0 c_Book_behind (.attr (.var 0) 15) [(.var 1)]), .set 4 (.call c_look [(.meth 0 c_Book_canal (.attr (.var 0) 15) []), (.idx (.var 3) (.cst (.int (.ofNat 0) 0))), (.idx (.var 3) (.cst (.int (.ofNat 1) 0))), (.attr (.var 0) 16)]), .iff (.v (.cmp .eq (.idx (.var 4) (.cst (.int (.ofNat 0) 0))) (.cst (.str [.l 100, .l 111, .l 111, .l 109, .l 101, .l 100])))) [.ret (.tup [(.cst (.str [.l 110, .l 111])), (.idx (.var 4) (.cst (.int (.ofNat 1) 0)))])] [], .ret (.meth 1 c_Keeper_taken (.var 0) [(.var 1), (.idx (.var 4) (.cst (.int (.ofNat 1) 0)))])]
def c_Keeper_work : FC := .mk 3 [.iff (.v (.cmp .eq (.len (.attr (.var 0) 17)) (.cst (.int (.ofNat 0) 0)))) [.ret (.tup [(.cst (.str [.l 110, .l 111, .l 116])), (.cst (.str [.l 100, .l 111, .l 110, .l 101]))])] [], .set 1 (.idx (.attr (.var 0) 17) (.cst (.int (.ofNat 0) 0))), .set 2 (.meth 0 c_Book_canal (.attr (.var 0) 15) []), .iff (.v (.cmp .eq (.idx (.var 1) (.cst (.int (.ofNat 0) 0))) (.cst (.str [.l 112, .l 97, .l 115, .l 115])))) [.ret (.meth 1 c_Keeper_wish (.var 0) [(.tup [(.cst (.str [.l 112, .l 97, .l 115, .l 115])), (.idx (.meth 0 c_Book_names (.attr (.var 0) 15) []) (.idx (.var 1) (.cst (.int (.ofNat 1) 0))))])])] [], .iff (.v (.cmp .eq (.idx (.var 1) (.cst (.int (.ofNat 0) 0))) (.cst (.str [.l 108, .l 101, .l 116])))) [.ret (.meth 1 c_Keeper_wish (.var 0) [(.tup [(.cst (.str [.l 108, .l 101, .l 116])), (.attr (.idx (.attr (.var 2) 0) (.idx (.var 1) (.cst (.int (.ofNat 1) 0)))) 1)])])] [], .ret (.meth 1 c_Keeper_wish (.var 0) [(.tup [(.cst (.str [.l 110, .l 105, .l 103, .l 104, .l 116])), (.tuple (.idx (.attr (.var 2) 7) (.idx (.meth 0 c_Book_state (.attr (.var 0) 15) []) (.cst (.int (.ofNat 0) 0)))))])])]
def c_PlainLock_init : FC := .mk 5 [.setF (.var 0) 1 (.var 1), .setF (.var 0) 3 (.var 2), .setF (.var 0) 2 (.var 3), .setF (.var 0) 18 (.var 4)]
def c_PlainLock_kind : FC := .mk 1 [.ret (.cst (.str [.l 112, .l 108, .l 97, .l 105, .l 110]))]
def c_PlainLock_extra : FC := .mk 1 [.ret (.cst (.int (.ofNat 0) 0))]
def c_Reach_init : FC := .mk 7 [.setF (.var 0) 1 (.var 1), .setF (.var 0) 5 (.var 2), .setF (.var 0) 19 (.var 3), .setF (.var 0) 6 (.var 4), .setF (.var 0) 20 (.var 5), .setF (.var 0) 21 (.var 6)]
def c_Canal_init : FC := .mk 5 [.setF (.var 0) 4 (.list (.var 1)), .setF (.var 0) 0 (.list (.var 2)), .setF (.var 0) 7 (.lst []), .iff (.v (.cmp .notN (.var 3) (.cst .non))) [.setF (.var 0) 7 (.comp (.nm 4) (.lst (.var 3)) none (.list (.var 4)) [4])] []]
def c_names_hold : FC := .mk 2 [.forr (.nm 1) (.lst (.var 0)) [.iff (.not (.v (.isname (.var 1)))) [.raise 1] []]]
def c_reach_read : FC := .mk 5 [.iff (.v (.cmp .ne (.len (.var 0)) (.cst (.int (.ofNat 7) 0)))) [.raise 1] [], .ex (.call c_names_hold [(.lst [(.idx (.var 0) (.cst (.int (.ofNat 1) 0))), (.idx (.var 0) (.cst (.int (.ofNat 6) 0)))])]), .set 2 (.comp (.nm 3) (.lst (.slc (.var 0) (some (.cst (.int (.ofNat 2) 0))) (some (.cst (.int (.ofNat 6) 0))))) none (.numof (.var 3)) [3]), .iff (.v (.cmp .eq (.idx (.var 0) (.cst (.int (.ofNat 1) 0))) (.cst (.str [.l 115, .l 101, .l 97])))) [.raise 1] [], .iff (.v (.cmp .ge (.call c_place_of [(.var 1), (.idx (.var 0) (.cst (.int (.ofNat 1) 0)))]) (.cst (.int (.ofNat 0) 0)))) [.raise 4] [], .set 4 (.call c_place_of [(.var 1), (.idx (.var 0) (.cst (.int (.ofNat 6) 0)))]), .iff (.and (.v (.cmp .lt (.var 4) (.cst (.int (.ofNat 0) 0)))) (.v (.cmp .ne (.idx (.var 0) (.cst (.int (.ofNat 6) 0))) (.cst (.str [.l 115, .l 101, .l 97]))))) [.raise 5] [], .iff (.or (.v (.cmp .gt (.idx (.var 2) (.cst (.int (.ofNat 0) 0))) (.idx (.var 2) (.cst (.int (.ofNat 1) 0))))) (.or (.v (.cmp .lt (.idx (.var 2) (.cst (.int (.ofNat 2) 0))) (.cst (.int (.ofNat 1) 0)))) (.v (.cmp .gt (.idx (.var 2) (.cst (.int (.ofNat 2) 0))) (.cst (.int (.ofNat 9) 0)))))) [.raise 3] [], .iff (.v (.cmp .ge (.len (.var 1)) (.cst (.int (.ofNat 8) 0)))) [.raise 6] [], .ret (.make 3 c_Reach_init [(.idx (.var 0) (.cst (.int (.ofNat 1) 0))), (.idx (.var 2) (.cst (.int (.ofNat 0) 0))), (.idx (.var 2) (.cst (.int (.ofNat 1) 0))), (.idx (.var 2) (.cst (.int (.ofNat 2) 0))), (.idx (.var 2) (.cst (.int (.ofNat 3) 0))), (.var 4)])]
def c_extra_read : FC := .mk 1 [.iff (.v (.cmp .eq (.len (.var 0)) (.cst (.int (.ofNat 5) 0)))) [.ret (.cst (.int (.ofNat 1) 0))] [], .iff (.and (.v (.cmp .ne (.idx (.var 0) (.cst (.int (.ofNat 5) 0))) (.cst (.str [.l 98, .l 97, .l 115, .l 105, .l 110])))) (.v (.cmp .ne (.idx (.var 0) (.cst (.int (.ofNat 5) 0))) (.cst (.str [.l 112, .l 117, .l 109, .l 112]))))) [.raise 1] [], .ret (.numof (.idx (.var 0) (.cst (.int (.ofNat 6) 0))))]
def c_lock_read : FC := .mk 7 [.iff (.and (.v (.cmp .ne (.len (.var 0)) (.cst (.int (.ofNat 5) 0)))) (.v (.cmp .ne (.len (.var 0)) (.cst (.int (.ofNat 7) 0))))) [.raise 1] [], .ex (.call c_names_hold [(.slc (.var 0) (some (.cst (.int (.ofNat 1) 0))) (some (.cst (.int (.ofNat 4) 0))))]), .set 3 (.numof (.idx (.var 0) (.cst (.int (.ofNat 4) 0)))), .set 4 (.call c_extra_read [(.var 0)]), .iff (.v (.cmp .ge (.call c_place_of [(.var 2), (.idx (.var 0) (.cst (.int (.ofNat 1) 0)))]) (.cst (.int (.ofNat 0) 0)))) [.raise 4] [], .set 5 (.call c_place_of [(.var 1), (.idx (.var 0) (.cst (.int (.ofNat 2) 0)))]), .set 6 (.call c_place_of [(.var 1), (.idx (.var 0) (.cst (.int (.ofNat 3) 0)))]), .iff (.or (.v (.cmp .lt (.var 5) (.cst (.int (.ofNat 0) 0)))) (.v (.cmp .lt (.var 6) (.cst (.int (.ofNat 0) 0))))) [.raise 5] [], .iff (.or (.v (.cmp .ge (.var 6) (.var 5))) (.or (.v (.cmp .lt (.var 3) (.cst (.int (.ofNat 1) 0)))) (.or (.v (.cmp .lt (.var 4) (.cst (.int (.ofNat 1) 0)))) (.v (.cmp .gt (.var 4) (.var 3)))))) [.raise 3] [], .iff (.v (.cmp .ge (.len (.var 2)) (.cst (.int (.ofNat 8) 0)))) [.raise 6] [], .iff (.v (.cmp .eq (.len (.var 0)) (.cst (.int (.ofNat 5) 0)))) [.ret (.make 2 c_PlainLock_init [(.idx (.var 0) (.cst (.int (.ofNat 1) 0))), (.var 5), (.var 6), (.var 3)])] [], .iff (.v (.cmp .eq (.idx (.var 0) (.cst (.int (.ofNat 5) 0))) (.cst (.str [.l 98, .l 97, .l 115, .l 105, .l 110])))) [.ret .dead] [], .ret .dead]
def c_night_read : FC := .mk 10 [.iff (.v (.cmp .ne (.bin .mod (.len (.var 0)) (.cst (.int (.ofNat 3) 0))) (.cst (.int (.ofNat 1) 0)))) [.raise 1] [], .set 3 (.lst []), .forr (.nm 4) (.r3 (.cst (.int (.ofNat 1) 0)) (.len (.var 0)) (.ofNat 3)) [.ex (.call c_names_hold [(.lst [(.idx (.var 0) (.var 4))])]), .app (.var 3) (.tup [(.idx (.var 0) (.var 4)), (.numof (.idx (.var 0) (.bin .add (.var 4) (.cst (.int (.ofNat 1) 0))))), (.numof (.idx (.var 0) (.bin .add (.var 4) (.cst (.int (.ofNat 2) 0)))))])], .set 5 (.comp (.tup [6, 7, 8]) (.lst (.var 3)) none (.var 6) [6, 7, 8]), .iff (.v (.cmp .ne (.lenset (.var 5)) (.len (.var 5)))) [.raise 4] [], .set 9 (.lst []), .forr (.tup [6, 7, 8]) (.lst (.var 3)) [.set 4 (.call c_place_of [(.var 1), (.var 6)]), .iff (.v (.cmp .lt (.var 4) (.cst (.int (.ofNat 0) 0)))) [.raise 5] [], .app (.var 9) (.tup [(.var 4), (.var 7), (.var 8)])], .iff (.v (.cmp .ge (.len (.var 2)) (.cst (.int (.ofNat 6) 0)))) [.raise 6] [], .ret (.var 9)]
def c_weather_of_reading : FC := .mk 7 [.set 2 (.comp (.nm 3) (.r1 (.var 1)) none (.tup [(.cst (.int (.ofNat 0) 0)), (.cst (.int (.ofNat 0) 0))]) [3]), .forr (.tup [4, 5, 6]) (.lst (.var 0)) [.setI (.var 2) (.var 4) (.tup [(.var 5), (.var 6)])], .ret (.var 2)]
def c_canal_of : FC := .mk 7 [.set 1 (.lst []), .set 2 (.lst []), .set 3 (.lst []), .forr (.nm 4) (.lst (.split (.var 0) 10)) [.set 5 (.split (.var 4) 32), .iff (.v (.cmp .eq (.idx (.var 5) (.cst (.int (.ofNat 0) 0))) (.cst (.str [.l 114, .l 101, .l 97, .l 99, .l 104])))) [.app (.var 1) (.call c_reach_read [(.var 5), (.var 1)])] [.iff (.v (.cmp .eq (.idx (.var 5) (.cst (.int (.ofNat 0) 0))) (.cst (.str [.l 108, .l 111, .l 99, .l 107])))) [.app (.var 2) (.call c_lock_read [(.var 5), (.var 1), (.var 2)])] [.iff (.v (.cmp .eq (.idx (.var 5) (.cst (.int (.ofNat 0) 0))) (.cst (.str [.l 110, .l 105, .l 103, .l 104, .l 116])))) [.app (.var 3) (.call c_night_read [(.var 5), (.var 1), (.var 3)])] [.iff (.v (.cmp .ne (.var 4) (.cst (.str [])))) [.raise 1] []]]]], .iff (.v (.cmp .eq (.len (.var 1)) (.cst (.int (.ofNat 0) 0)))) [.raise 1] [], .ret (.make 4 c_Canal_init [(.var 1), (.var 2), (.comp (.nm 6) (.lst (.var 3)) none (.call c_weather_of_reading [(.var 6), (.len (.var 1))]) [6])])]
def c_House_init : FC := .mk 3 [.set 2 (.call c_parted [(.var 1)]), .iff (.v (.cmp .eq (.idx (.var 2) (.cst (.int (.ofNat 1) 0))) (.lst []))) [.raise 1] [], .setF (.var 0) 16 (.call c_most_of [(.idx (.idx (.var 2) (.cst (.int (.ofNat 1) 0))) (.cst (.int (.ofNat 0) 0)))]), .thru [.setF (.var 0) 22 (.call c_canal_of [(.idx (.var 2) (.cst (.int (.ofNat 0) 0)))])], .setF (.var 0) 23 (.make 1 c_Keeper_init [(.make 0 c_Book_init [(.attr (.var 0) 22)]), (.attr (.var 0) 16)])]
def c_House_answered : FC := .mk 2 [.ret (.call c_answer_shown [(.attr (.var 0) 22), (.meth 0 c_Book_names (.meth 1 c_Keeper_book (.attr (.var 0) 23) []) []), (.var 1)])]
def c_House_planned : FC := .mk 1 [.ret (.call c_deeds_shown [(.attr (.var 0) 22), (.meth 0 c_Book_names (.meth 1 c_Keeper_book (.attr (.var 0) 23) []) []), (.meth 1 c_Keeper_plan (.attr (.var 0) 23) [])])]
def c_House_waters : FC := .mk 4 [.set 1 (.cst (.str [.l 119, .l 97, .l 116, .l 101, .l 114, .l 115])), .set 2 (.meth 0 c_Book_state (.meth 1 c_Keeper_book (.attr (.var 0) 23) []) []), .forr (.nm 3) (.r1 (.len (.attr (.attr (.var 0) 22) 4))) [.set 1 (.bin .add (.bin .add (.var 1) (.cst (.str [.l 32]))) (.tostr (.idx (.idx (.var 2) (.cst (.int (.ofNat 1) 0))) (.var 3))))], .ret (.var 1)]
def c_House_knots : FC := .mk 3 [.set 1 (.meth 1 c_Keeper_book (.attr (.var 0) 23) []), .set 2 (.call c_look_for_knot [(.attr (.var 0) 22), (.meth 0 c_Book_ways (.var 1) []), (.meth 0 c_Book_state (.var 1) []), (.attr (.var 0) 16)]), .iff (.v (.cmp .eq (.idx (.var 2) (.cst (.int (.ofNat 0) 0))) (.cst (.str [.l 102, .l 114, .l 101, .l 101])))) [.ret (.bin .add (.cst (.str [.l 102, .l 114, .l 101, .l 101, .l 32])) (.tostr .dead))] [], .ret (.call c_worded [(.cst (.str [.l 107, .l 110, .l 111, .l 116])), (.call c_deeds_shown [(.attr (.var 0) 22), (.meth 0 c_Book_names (.var 1) []), (.idx (.var 2) (.cst (.int (.ofNat 1) 0)))])])]
def c_House_reply : FC := .mk 3 [.set 2 (.split (.var 1) 32), .iff (.v (.cmp .eq (.var 1) (.cst (.str [.l 119, .l 111, .l 114, .l 107])))) [.ret (.meth 5 c_House_answered (.var 0) [(.meth 1 c_Keeper_work (.attr (.var 0) 23) [])])] [], .iff (.v (.cmp .eq (.var 1) (.cst (.str [.l 112, .l 108, .l 97, .l 110])))) [.ret (.call c_worded [(.cst (.str [.l 112, .l 108, .l 97, .l 110])), (.meth 5 c_House_planned (.var 0) [])])] [], .iff (.v (.cmp .eq (.var 1) (.cst (.str [.l 119, .l 97, .l 116, .l 101, .l 114, .l 115])))) [.ret (.meth 5 c_House_waters (.var 0) [])] [], .iff (.v (.cmp .eq (.var 1) (.cst (.str [.l 107, .l 110, .l 111, .l 116, .l 115])))) [.ret (.meth 5 c_House_knots (.var 0) [])] [], .iff (.and (.v (.cmp .eq (.idx (.var 2) (.cst (.int (.ofNat 0) 0))) (.cst (.str [.l 97, .l 100, .l 118, .l 105, .l 99, .l 101])))) (.and (.v (.cmp .eq (.len (.var 2)) (.cst (.int (.ofNat 2) 0)))) (.v (.isname (.idx (.var 2) (.cst (.int (.ofNat 1) 0))))))) [.ret (.call c_worded [(.cst (.str [.l 97, .l 100, .l 118, .l 105, .l 99, .l 101])), (.join [32] (.call c_advice [(.meth 1 c_Keeper_book (.attr (.var 0) 23) []), (.idx (.var 2) (.cst (.int (.ofNat 1) 0)))]))])] [], .ret (.meth 5 c_House_answered (.var 0) [(.meth 1 c_Keeper_wish (.attr (.var 0) 23) [(.call c_entry_of [(.var 1)])])])]
def c_House_ask : FC := .mk 3 [.tryRet (.meth 5 c_House_reply (.var 0) [(.var 1)])]
def c__law_named : FC := .mk 4 [.set 2 (.split (.var 0) 32), .forr (.nm 3) (.r1 (.len (.var 2))) [.iff (.v (.cmp .eq (.slc (.idx (.var 2) (.var 3)) none (some (.cst (.int (.ofNat 1) 0)))) (.cst (.str [.l 35])))) [.setI (.var 2) (.var 3) (.idx (.var 1) (.toint (.slc (.idx (.var 2) (.var 3)) (some (.cst (.int (.ofNat 1) 0))) none)))] []], .ret (.join [32] (.var 2))]
def lf_k0 : List IE := [(.lst [(.cst (.str [.l 119, .l 105, .l 100, .l 101])), (.cst (.str [.l 99, .l 111, .l 109, .l 101, .l 32, .l 35, .l 52, .l 32, .l 35, .l 48, .l 32, .l 35, .l 50, .l 32, .l 117, .l 112]))]), (.lst [(.cst (.str [.l 119, .l 105, .l 100, .l 101])), (.cst (.str [.l 107, .l 110, .l 111, .l 116, .l 115]))]), (.lst [(.cst (.str [.l 117, .l 110, .l 107, .l 110, .l 111, .l 119, .l 110])), (.cst (.str [.l 112, .l 97, .l 115, .l 115, .l 32, .l 35, .l 52]))])]
def lf_main : List IE := [(.lst [(.cst (.str [.l 116, .l 119, .l 105, .l 99, .l 101])), (.cst (.str [.l 99, .l 111, .l 109, .l 101, .l 32, .l 35, .l 52, .l 32, .l 35, .l 49, .l 32, .l 35, .l 50, .l 32, .l 100, .l 111, .l 119, .l 110]))]), (.lst [(.cst (.str [.l 116, .l 119, .l 105, .l 99, .l 101])), (.cst (.str [.l 99, .l 111, .l 109, .l 101, .l 32, .l 35, .l 52, .l 32, .l 35, .l 57, .l 32, .l 35, .l 57, .l 32, .l 117, .l 112]))]), (.lst [(.cst (.str [.l 117, .l 110, .l 107, .l 110, .l 111, .l 119, .l 110])), (.cst (.str [.l 112, .l 97, .l 115, .l 115, .l 32, .l 35, .l 55]))]), (.lst [(.cst (.str [.l 117, .l 110, .l 107, .l 110, .l 111, .l 119, .l 110])), (.cst (.str [.l 108, .l 101, .l 116, .l 32, .l 35, .l 48]))]), (.lst [(.cst (.str [.l 117, .l 110, .l 107, .l 110, .l 111, .l 119, .l 110])), (.cst (.str [.l 114, .l 97, .l 105, .l 110, .l 32, .l 35, .l 50, .l 32, .l 53]))]), (.lst [(.cst (.str [.l 117, .l 110, .l 107, .l 110, .l 111, .l 119, .l 110])), (.cst (.str [.l 116, .l 97, .l 107, .l 101, .l 32, .l 35, .l 57, .l 32, .l 48]))]), (.lst [(.cst (.str [.l 117, .l 110, .l 107, .l 110, .l 111, .l 119, .l 110])), (.cst (.str [.l 97, .l 100, .l 118, .l 105, .l 99, .l 101, .l 32, .l 35, .l 56]))]), (.lst [(.cst (.str [.l 110, .l 117, .l 109, .l 98, .l 101, .l 114])), (.cst (.str [.l 110, .l 105, .l 103, .l 104, .l 116, .l 32, .l 49, .l 32, .l 50]))]), (.lst [(.cst (.str [.l 110, .l 117, .l 109, .l 98, .l 101, .l 114])), (.cst (.str [.l 110, .l 105, .l 103, .l 104, .l 116, .l 32, .l 57, .l 32, .l 48, .l 32, .l 57, .l 32, .l 48, .l 32, .l 57, .l 32, .l 48]))]), (.lst [(.cst (.str [.l 100, .l 114, .l 121])), (.cst (.str [.l 110, .l 105, .l 103, .l 104, .l 116, .l 32, .l 52, .l 32, .l 51, .l 32, .l 53, .l 32, .l 51]))]), (.lst [(.cst (.str [.l 100, .l 114, .l 121])), (.cst (.str [.l 110, .l 105, .l 103, .l 104, .l 116, .l 32, .l 57, .l 32, .l 48, .l 32, .l 57, .l 32, .l 52]))]), (.lst [(.cst (.str [.l 114, .l 111, .l 119])), (.cst (.str [.l 119, .l 111, .l 114, .l 107, .l 115]))]), (.lst [(.cst (.str [.l 114, .l 111, .l 119])), (.cst (.str [.l 112, .l 108, .l 97, .l 110, .l 32]))]), (.lst [(.cst (.str [.l 114, .l 111, .l 119])), (.cst (.str [.l 112, .l 97, .l 115, .l 115, .l 32, .l 35, .l 52, .l 32]))]), (.lst [(.cst (.str [.l 114, .l 111, .l 119])), (.cst (.str [.l 112, .l 97, .l 115, .l 115]))]), (.lst [(.cst (.str [.l 114, .l 111, .l 119])), (.cst (.str [.l 107, .l 101, .l 101, .l 112, .l 101, .l 114, .l 32, .l 53]))]), (.lst [(.cst (.str [.l 114, .l 111, .l 119])), (.cst (.str [.l 99, .l 111, .l 109, .l 101, .l 32, .l 35, .l 55, .l 32, .l 35, .l 48]))]), (.lst [(.cst (.str [.l 114, .l 111, .l 119])), (.cst (.str [.l 99, .l 111, .l 109, .l 101, .l 32, .l 35, .l 55, .l 32, .l 35, .l 48, .l 32, .l 35, .l 50, .l 32, .l 111, .l 118, .l 101, .l 114]))]), (.lst [(.cst (.str [.l 114, .l 111, .l 119])), (.cst (.str [.l 110, .l 105, .l 103, .l 104, .l 116, .l 32, .l 53]))]), (.lst [(.cst (.str [.l 114, .l 111, .l 119])), (.cst (.str [.l 114, .l 97, .l 105, .l 110, .l 32, .l 35, .l 48, .l 32, .l 48, .l 49]))]), (.lst [(.cst (.str [.l 114, .l 111, .l 119])), (.cst (.str [.l 116, .l 97, .l 107, .l 101, .l 32, .l 35, .l 48, .l 32, .l 45, .l 49]))]), (.lst [(.cst (.str [.l 114, .l 111, .l 119])), (.cst (.str [.l 97, .l 100, .l 118, .l 105, .l 99, .l 101]))]), (.lst [(.cst (.str [.l 114, .l 111, .l 119])), (.cst (.str [.l 97, .l 100, .l 118, .l 105, .l 99, .l 101, .l 32, .l 65]))]), (.lst [(.cst (.str [.l 114, .l 111, .l 119])), (.cst (.str []))]), (.lst [(.cst (.str [.l 114, .l 111, .l 119])), (.cst (.str [.l 107, .l 110, .l 111, .l 116, .l 115, .l 32, .l 110, .l 111, .l 119]))]), (.lst [(.cst (.str [.l 114, .l 111, .l 119])), (.cst (.str [.l 80, .l 97, .l 115, .l 115, .l 32, .l 35, .l 52]))]), (.lst [(.cst (.str [.l 114, .l 111, .l 119])), (.cst (.str [.l 114, .l 97, .l 105, .l 110, .l 32, .l 32, .l 35, .l 48, .l 32, .l 53]))]), (.lst [(.cst (.str [.l 114, .l 111, .l 119])), (.cst (.str [.l 119, .l 97, .l 116, .l 101, .l 114, .l 115, .l 32, .l 49]))]), (.lst [(.cst (.str [.l 114, .l 111, .l 119])), (.cst (.str [.l 32]))]), (.lst [(.cst (.str [.l 114, .l 111, .l 119])), (.cst (.str [.l 97, .l 100, .l 118, .l 105, .l 99, .l 101, .l 32, .l 35, .l 50, .l 32, .l 35, .l 50]))]), (.lst [(.cst (.str [.l 114, .l 111, .l 119])), (.cst (.str [.l 97, .l 100, .l 118, .l 105, .l 99, .l 101, .l 32, .l 35, .l 50, .l 32]))]), (.lst [(.cst (.str [.l 114, .l 111, .l 119])), (.cst (.str [.l 119, .l 111, .l 114, .l 107, .l 32]))]), (.lst [(.cst (.str [.l 114, .l 111, .l 119])), (.cst (.str [.l 119, .l 111, .l 114, .l 107, .l 32, .l 35, .l 52]))])]
def lf_k2 : List IE := [(.lst [(.cst (.str [.l 109, .l 97, .l 110, .l 121])), (.cst (.str [.l 99, .l 111, .l 109, .l 101, .l 32, .l 35, .l 55, .l 32, .l 35, .l 48, .l 32, .l 35, .l 50, .l 32, .l 117, .l 112]))]), (.lst [(.cst (.str [.l 109, .l 97, .l 110, .l 121])), (.cst (.str [.l 99, .l 111, .l 109, .l 101, .l 32, .l 35, .l 56, .l 32, .l 35, .l 57, .l 32, .l 35, .l 50, .l 32, .l 117, .l 112]))])]
def lf_k1 : List IE := [(.lst [(.cst (.str [.l 117, .l 110, .l 107, .l 110, .l 111, .l 119, .l 110])), (.cst (.str [.l 99, .l 111, .l 109, .l 101, .l 32, .l 35, .l 55, .l 32, .l 35, .l 57, .l 32, .l 35, .l 50, .l 32, .l 117, .l 112]))]), (.lst [(.cst (.str [.l 117, .l 110, .l 107, .l 110, .l 111, .l 119, .l 110])), (.cst (.str [.l 99, .l 111, .l 109, .l 101, .l 32, .l 35, .l 55, .l 32, .l 35, .l 48, .l 32, .l 35, .l 57, .l 32, .l 117, .l 112]))]), (.lst [(.cst (.str [.l 108, .l 105, .l 110, .l 107, .l 101, .l 100])), (.cst (.str [.l 99, .l 111, .l 109, .l 101, .l 32, .l 35, .l 55, .l 32, .l 35, .l 48, .l 32, .l 35, .l 50, .l 32, .l 100, .l 111, .l 119, .l 110]))]), (.lst [(.cst (.str [.l 108, .l 105, .l 110, .l 107, .l 101, .l 100])), (.cst (.str [.l 99, .l 111, .l 109, .l 101, .l 32, .l 35, .l 55, .l 32, .l 35, .l 49, .l 32, .l 35, .l 50, .l 32, .l 117, .l 112]))]), (.lst [(.cst (.str [.l 108, .l 105, .l 110, .l 107, .l 101, .l 100])), (.cst (.str [.l 99, .l 111, .l 109, .l 101, .l 32, .l 35, .l 56, .l 32, .l 35, .l 48, .l 32, .l 35, .l 50, .l 32, .l 117, .l 112, .l 32, .l 35, .l 50, .l 32, .l 117, .l 112]))]), (.lst [(.cst (.str [.l 117, .l 110, .l 107, .l 110, .l 111, .l 119, .l 110])), (.cst (.str [.l 99, .l 111, .l 109, .l 101, .l 32, .l 35, .l 56, .l 32, .l 35, .l 49, .l 32, .l 35, .l 50, .l 32, .l 117, .l 112, .l 32, .l 35, .l 57, .l 32, .l 117, .l 112]))])]
def c__law_faults : FC := .mk 2 [.iff (.v (.cmp .eq (.var 0) (.cst (.int (.ofNat 0) 0)))) [.ret (.lst lf_k0)] [], .set 1 (.lst lf_main), .iff (.v (.cmp .eq (.var 0) (.cst (.int (.ofNat 2) 0)))) [.ret (.bin .add (.var 1) (.lst lf_k2))] [], .ret (.bin .add (.var 1) (.lst lf_k1))]
def c__law_yes : FC := .mk 3 [.set 2 (.meth 5 c_House_ask (.var 0) [(.var 1)]), .ret (.andv (.isstr (.var 2)) (.cmp .eq (.slc (.var 2) none (some (.cst (.int (.ofNat 3) 0)))) (.cst (.str [.l 121, .l 101, .l 115]))))]
def c__law_begun : FC := .mk 4 [.iff (.v (.cmp .eq (.var 2) (.cst (.int (.ofNat 2) 0)))) [.forr (.nm 3) (.lst (.slc (.var 1) (some (.cst (.int (.ofNat 10) 0))) none)) [.iff (.or (.not (.v (.call c__law_yes [(.var 0), (.bin .add (.bin .add (.cst (.str [.l 99, .l 111, .l 109, .l 101, .l 32])) (.var 3)) (.call c__law_named [(.cst (.str [.l 32, .l 35, .l 48, .l 32, .l 35, .l 50, .l 32, .l 117, .l 112])), (.var 1)]))]))) (.not (.v (.call c__law_yes [(.var 0), (.cst (.str [.l 119, .l 111, .l 114, .l 107]))])))) [.ret (.cst (.bl false))] []]] [], .ret (.orv (.cmp .eq (.var 2) (.cst (.int (.ofNat 0) 0))) (.call c__law_yes [(.var 0), (.call c__law_named [(.cst (.str [.l 99, .l 111, .l 109, .l 101, .l 32, .l 35, .l 52, .l 32, .l 35, .l 48, .l 32, .l 35, .l 50, .l 32, .l 117, .l 112])), (.var 1)])]))]
def c_ahead : FC := .mk 4 [.ret (.comp (.nm 3) (.lst (.call c_may [(.var 1), (.var 2), (.var 0)])) none (.tup [(.var 3), (.call c_after [(.var 1), (.var 2), (.var 0), (.var 3)])]) [3])]
def c_ended_home : FC := .mk 2 [.ret (.call c_all_home [(.var 1), (.var 0)])]
def c_ended_knot : FC := .mk 3 [.ret (.call c_is_knot [(.var 1), (.var 2), (.var 0)])]
def law_3 : IS := .set 5 (.lst [(.cst (.str [.l 114, .l 101, .l 97, .l 99, .l 104, .l 32, .l 35, .l 48, .l 32, .l 48, .l 32, .l 57, .l 57, .l 57, .l 57, .l 57, .l 57, .l 57, .l 57, .l 57, .l 57, .l 57, .l 57, .l 32, .l 57, .l 32, .l 53, .l 32, .l 115, .l 101, .l 97])), (.cst (.str [.l 114, .l 101, .l 97, .l 99, .l 104, .l 32, .l 35, .l 49, .l 32, .l 48, .l 32, .l 57, .l 57, .l 57, .l 57, .l 57, .l 57, .l 57, .l 57, .l 57, .l 57, .l 57, .l 57, .l 32, .l 57, .l 32, .l 57, .l 57, .l 57, .l 57, .l 57, .l 57, .l 57, .l 57, .l 57, .l 57, .l 57, .l 57, .l 32, .l 35, .l 48]))])
def law_4 : IS := .set 5 (.bin .add (.var 5) (.lst [(.fstr [108, 111, 99, 107, 32, 35, 50, 32, 35, 49, 32, 35, 48, 32] (.var 4)), (.cst (.str [.l 110, .l 105, .l 103, .l 104, .l 116, .l 32, .l 35, .l 49, .l 32, .l 53, .l 32, .l 51, .l 32, .l 35, .l 48, .l 32, .l 53, .l 32, .l 51])), (.idx (.lst [(.cst (.str [.l 107, .l 101, .l 101, .l 112, .l 101, .l 114, .l 32, .l 49])), (.cst (.str [.l 107, .l 101, .l 101, .l 112, .l 101, .l 114, .l 32, .l 54, .l 48]))]) (.mn (.var 1) (.cst (.int (.ofNat 1) 0))))]))
def law_5 : IS := .set 6 (.make 5 c_House_init [(.join [10] (.comp (.nm 7) (.lst (.var 5)) none (.call c__law_named [(.var 7), (.var 2)]) [7]))])
def law_6 : IS := .iff (.not (.v (.call c__law_begun [(.var 6), (.var 2), (.var 1)]))) [.ret (.cst (.bl false))] []
def law_7 : IS := .set 8 (.call c__law_faults [(.var 1)])
def law_8 : IS := .set 9 (.lst [(.cst (.str [.l 112, .l 108, .l 97, .l 110])), (.cst (.str [.l 119, .l 97, .l 116, .l 101, .l 114, .l 115]))])
def law_9 : IS := .set 10 (.lst [(.meth 5 c_House_ask (.var 6) [(.idx (.var 9) (.cst (.int (.ofNat 0) 0)))]), (.meth 5 c_House_ask (.var 6) [(.idx (.var 9) (.cst (.int (.ofNat 1) 0)))])])
def law_e1 : IE := (.meth 5 c_House_ask (.var 6) [(.call c__law_named [(.idx (.var 11) (.cst (.int (.ofNat 1) 0))), (.var 2)])])
def law_t2 : IT := (.or (.not (.v (.isstr (.var 12)))) (.v (.cmp .ne (.var 12) (.bin .add (.cst (.str [.l 114, .l 101, .l 102, .l 117, .l 115, .l 101, .l 100, .l 32])) (.idx (.var 11) (.cst (.int (.ofNat 0) 0)))))))
def law_l1 : IS := .set 12 (.meth 5 c_House_ask (.var 6) [(.call c__law_named [(.idx (.var 11) (.cst (.int (.ofNat 1) 0))), (.var 2)])])
def law_l2 : IS := .iff (.or (.not (.v (.isstr (.var 12)))) (.v (.cmp .ne (.var 12) (.bin .add (.cst (.str [.l 114, .l 101, .l 102, .l 117, .l 115, .l 101, .l 100, .l 32])) (.idx (.var 11) (.cst (.int (.ofNat 0) 0))))))) [.ret (.cst (.bl false))] []
def law_11 : IS := .ret (.cmp .eq (.lst [(.meth 5 c_House_ask (.var 6) [(.idx (.var 9) (.cst (.int (.ofNat 0) 0)))]), (.meth 5 c_House_ask (.var 6) [(.idx (.var 9) (.cst (.int (.ofNat 1) 0)))])]) (.var 10))
def clos : Nat → FC
  | 0 => c_ahead
  | 1 => c_ended_home
  | _ => c_ended_knot
end Ck
-- Chk
set_option maxRecDepth 1000000
namespace Ck
noncomputable section
/-! ### what the kernel checks of a run -/
def eqAV (a b : AV) : Bool := match a, b with
  | .non, .non => true
  | .bl x, .bl y => (match x with
    | true => y
    | false => !y)
  | .int c m, .int d k => eqI c d && eqI m k
  | .str s, .str t => eqPs s t
  | .ref i, .ref j => Nat.beq i j
  | .scr, .scr => true
  | _, _ => false
where eqPs : List Pc → List Pc → Bool
  | [], [] => true
  | p :: s, q :: t => (match p, q with
    | .l a, .l b => Nat.beq a b
    | .nm a, .nm b => Nat.beq a b
    | .num a b, .num c d => eqI a c && eqI b d
    | .hd a b, .hd c d => eqI a c && eqI b d
    | _, _ => false) && eqPs s t
  | _, _ => false
def eqAVs : List AV → List AV → Bool
  | [], [] => true
  | a :: s, b :: t => eqAV a b && eqAVs s t
  | _, _ => false
def eqFs2 : List (Nat × AV) → List (Nat × AV) → Bool
  | [], [] => true
  | (f, a) :: s, (g, b) :: t => Nat.beq f g && (eqAV a b && eqFs2 s t)
  | _, _ => false
def eqDs : List (List Nat × AV) → List (List Nat × AV) → Bool
  | [], [] => true
  | (f, a) :: s, (g, b) :: t => eqN f g && (eqAV a b && eqDs s t)
  | _, _ => false
def eqMs : List (AV × AV) → List (AV × AV) → Bool
  | [], [] => true
  | (f, a) :: s, (g, b) :: t => eqAV f g && (eqAV a b && eqMs s t)
  | _, _ => false
def eqAO (a b : AO) : Bool := match a, b with
  | .lst x, .lst y => eqAVs x y
  | .tup x, .tup y => eqAVs x y
  | .dct x, .dct y => eqDs x y
  | .met x, .met y => eqMs x y
  | .ins C x, .ins D y => Nat.beq C D && eqFs2 x y
  | .clo w x, .clo v y => Nat.beq w v && eqAVs x y
  | _, _ => false
/-- every object of the one stands in the other -/
def trLe : Tr → Tr → Bool
  | .e, _ => true
  | .n l v r, t => match t with
    | .e => false
    | .n l' v' r' => (match v with
      | none => true
      | some o => (match v' with
        | some o' => eqAO o o'
        | none => false)) && (trLe l l' && trLe r r')
def inAV (n : Nat) : AV → Bool
  | .ref i => Nat.blt i n
  | _ => true
def inAVs (n : Nat) : List AV → Bool
  | [] => true
  | a :: s => inAV n a && inAVs n s
def inFs (n : Nat) : List (Nat × AV) → Bool
  | [] => true
  | (_, a) :: s => inAV n a && inFs n s
def inDs (n : Nat) : List (List Nat × AV) → Bool
  | [] => true
  | (_, a) :: s => inAV n a && inDs n s
def inMs (n : Nat) : List (AV × AV) → Bool
  | [] => true
  | (b, a) :: s => inAV n b && (inAV n a && inMs n s)
def inAO (n : Nat) : AO → Bool
  | .lst x => inAVs n x
  | .tup x => inAVs n x
  | .dct x => inDs n x
  | .met x => inMs n x
  | .ins _ x => inFs n x
  | .clo _ x => inAVs n x
  | .sus => false
def inTr (n : Nat) : Tr → Bool
  | .e => true
  | .n l v r => (match v with
    | some o => inAO n o
    | none => true) && (inTr n l && inTr n r)
def sgLe : Sg → Sg → Bool
  | [], [] => true
  | a :: s, b :: t => (match a with
    | none => true
    | some x => (match b with
      | some y => eqAV x y
      | none => false)) && sgLe s t
  | _, _ => false
def inSg (n : Nat) : Sg → Bool
  | [] => true
  | a :: s => (match a with
    | some x => inAV n x
    | none => true) && inSg n s
def noneAt (s : Sg) (i : Nat) : Bool := match nth s i with
  | some none => true
  | _ => false
def scrAt (s : Sg) : Bool := match nth s 0 with
  | some (some .scr) => true
  | _ => false
/-! ### the law's run -/
def fuel : Nat := 5000
def nms18 : List AV := [.str [.nm 0], .str [.nm 1], .str [.nm 2], .str [.nm 3], .str [.nm 4], .str [.nm 5], .str [.nm 6], .str [.nm 7], .str [.nm 8], .str [.nm 9], .str [.nm 10], .str [.nm 11], .str [.nm 12], .str [.nm 13], .str [.nm 14], .str [.nm 15], .str [.nm 16], .str [.nm 17]]
def hp0 : Hh := (Hh.mk 0 .e []).new (.lst nms18)
def sl0 (kind : Nat) (room : AV) : Sg := [some .scr, some (.int (.ofNat kind) 0), some (.ref 0), none, some room, none, none, none, none, none, none, none, none]
def law_pre : List IS := [law_3, law_4, law_5, law_6, law_7, law_8, law_9]
def chkF (s : Sg) (h : Hh) (v : AV) : Bool := match (ev clos fuel).e law_e1 (setN s 11 (some v)) h with
  | .ok x h1 => (match (ev clos fuel).t law_t2 (setN (setN s 11 (some v)) 12 (some x)) h1 with
    | .ok false h2 => trLe h.t h2.t
    | _ => false)
  | _ => false
def lstOk (h : Hh) (v : AV) : Bool := match v with
  | .ref j => (match h.get j with
    | some (.lst (_ :: _)) => true
    | _ => false)
  | _ => false
def chkFs (s : Sg) (h : Hh) : List AV → Bool
  | [] => true
  | v :: vs => chkF s h v && chkFs s h vs
def slAt (s : Sg) (i : Nat) : AV := match nth s i with
  | some (some v) => v
  | _ => .non
def lstAt (h : Hh) (v : AV) : List AV := match v with
  | .ref j => (match h.get j with
    | some (.lst xs) => xs
    | _ => [])
  | _ => []
def chkA (s : Sg) (h : Hh) (q a : AV) : Bool := match (ev clos fuel).f c_House_ask [slAt s 6, q] h with
  | .ok v h2 => trLe h.t h2.t && (match eq0 v a with
    | some true => true
    | _ => false)
  | _ => false
def chkE (s : Sg) (h : Hh) : Bool := match (ev clos fuel).ss [law_11] s h with
  | .ret (.bl true) _ => true
  | _ => false
def chkAs (s : Sg) (h : Hh) (as bs : List AV) : Bool := match as, bs with
  | [a, b], [c, d] => chkA s h a c && chkA s h b d
  | _, _ => false
def isHouse (h : Hh) (v : AV) : Bool := match clsOf h v with
  | some C => Nat.beq C 5
  | none => false
def chkAll (s : Sg) (h : Hh) : Bool := (inTr h.n h.t && (inSg h.n s && (noneAt s 3 && (noneAt s 11 && (noneAt s 12 && (scrAt s && (lstOk h (slAt s 8) && isHouse h (slAt s 6)))))))) && (chkFs s h (lstAt h (slAt s 8)) && (chkAs s h (lstAt h (slAt s 9)) (lstAt h (slAt s 10)) && chkE s h))
def chk (kind : Nat) (room : AV) : Bool := match (ev clos fuel).ss law_pre (sl0 kind room) hp0 with
  | .nx s h => chkAll s h
  | _ => false
end
end Ck
-- K0_01
set_option maxRecDepth 1000000
namespace Ck
theorem chk_0_01 : chk 0 (.int (.ofNat 0) 1) = true := by decide +kernel
end Ck
-- K0_10
set_option maxRecDepth 1000000
namespace Ck
theorem chk_0_10 : chk 0 (.int (.ofNat 1) 0) = true := by decide +kernel
end Ck
-- K1_01
set_option maxRecDepth 1000000
namespace Ck
theorem chk_1_01 : chk 1 (.int (.ofNat 0) 1) = true := by decide +kernel
end Ck
-- K1_10
set_option maxRecDepth 1000000
namespace Ck
theorem chk_1_10 : chk 1 (.int (.ofNat 1) 0) = true := by decide +kernel
end Ck
-- K2_01
set_option maxRecDepth 1000000
namespace Ck
theorem chk_2_01 : chk 2 (.int (.ofNat 0) 1) = true := by decide +kernel
end Ck
-- K2_10
set_option maxRecDepth 1000000
namespace Ck
theorem chk_2_10 : chk 2 (.int (.ofNat 1) 0) = true := by decide +kernel
end Ck
-- SA
set_option Elab.async false
set_option linter.all false
set_option maxRecDepth 100000
set_option maxHeartbeats 4000000
namespace Ck
open PySem PySem.Spec PyProof.Rows L2
/-! ### the evaluator's lists are Lean's -/
theorem nth_eq {α : Type} : ∀ (xs : List α) (i : Nat), nth xs i = xs[i]?
  | [], _ => by rw [show nth ([] : List α) _ = none from rfl]; simp
  | x :: xs, 0 => by rw [show nth (x :: xs) 0 = some x from rfl]; simp
  | x :: xs, i + 1 => by rw [show nth (x :: xs) (i + 1) = nth xs i from rfl, nth_eq xs i]; simp
theorem setN_eq {α : Type} : ∀ (xs : List α) (i : Nat) (y : α), setN xs i y = xs.set i y
  | [], _, _ => rfl
  | x :: xs, 0, y => rfl
  | x :: xs, i + 1, y => by rw [show setN (x :: xs) (i + 1) y = x :: setN xs i y from rfl, setN_eq xs i y]; rfl
theorem lenN_eq {α : Type} : ∀ xs : List α, lenN xs = xs.length
  | [] => rfl
  | x :: xs => by simp [lenN, lenN_eq xs]
theorem catL_eq {α : Type} : ∀ xs ys : List α, catL xs ys = xs ++ ys
  | [], ys => rfl
  | x :: xs, ys => by simp [catL, catL_eq xs ys]
theorem takeL_eq {α : Type} : ∀ (n : Nat) (xs : List α), takeL n xs = xs.take n
  | 0, xs => by simp [takeL]
  | n + 1, [] => by simp [takeL]
  | n + 1, x :: xs => by simp [takeL, takeL_eq n xs]
theorem dropL_eq {α : Type} : ∀ (n : Nat) (xs : List α), dropL n xs = xs.drop n
  | 0, xs => by simp [dropL]
  | n + 1, [] => by simp [dropL]
  | n + 1, x :: xs => by simp [dropL, dropL_eq n xs]
theorem revL_eq {α : Type} : ∀ xs acc : List α, revL xs acc = xs.reverse ++ acc
  | [], acc => by simp [revL]
  | x :: xs, acc => by simp [revL, revL_eq xs]
theorem allB_eq (p : Nat → Bool) : ∀ xs : List Nat, allB p xs = xs.all p
  | [] => rfl
  | x :: xs => by simp [allB, allB_eq p xs]
theorem nbeq {a b : Nat} : Nat.beq a b = true ↔ a = b := by
  constructor
  · exact Nat.eq_of_beq_eq_true
  · rintro rfl; exact Nat.beq_refl a
theorem nbeq_f {a b : Nat} : Nat.beq a b = false ↔ a ≠ b := by
  constructor
  · exact Nat.ne_of_beq_eq_false
  · intro h
    cases e : Nat.beq a b with
    | false => rfl
    | true => exact absurd (nbeq.mp e) h
theorem nble {a b : Nat} : Nat.ble a b = true ↔ a ≤ b := ⟨Nat.le_of_ble_eq_true, Nat.ble_eq_true_of_le⟩
theorem nblt {a b : Nat} : Nat.blt a b = true ↔ a < b := nble
theorem nblt_f {a b : Nat} : Nat.blt a b = false ↔ b ≤ a := by
  constructor
  · intro h
    by_cases q : a < b
    · rw [nblt.mpr q] at h; cases h
    · omega
  · intro h
    cases e : Nat.blt a b with
    | false => rfl
    | true => have := nblt.mp e; omega
theorem eqN_eq : ∀ xs ys : List Nat, eqN xs ys = true ↔ xs = ys
  | [], [] => by simp [eqN]
  | [], y :: ys => by simp [eqN]
  | x :: xs, [] => by simp [eqN]
  | x :: xs, y :: ys => by
    unfold eqN
    cases e : Nat.beq x y with
    | true => simp only [eqN_eq xs ys, nbeq.mp e, List.cons.injEq, true_and]
    | false => simp [nbeq_f.mp e]
/-! ### the tree -/
theorem get_eq (l : Tr) (v : Option AO) (r : Tr) (k : Nat) : (Tr.n l v r).get k = (match Nat.beq k 0 with
    | true => v
    | false => match Nat.beq (k % 2) 1 with
      | true => l.get (k / 2)
      | false => r.get (k / 2 - 1)) := by
  show @Bool.rec (fun _ => Option AO) (@Bool.rec (fun _ => Option AO) (r.get (k / 2 - 1)) (l.get (k / 2)) (Nat.beq (k % 2) 1)) (v) (Nat.beq k 0) = _
  cases Nat.beq k 0
  · cases Nat.beq (k % 2) 1 <;> rfl
  · rfl
theorem mk_eq (f k : Nat) (o : AO) : Tr.mk (f + 1) k o = (match Nat.beq k 0 with
    | true => .n .e (some o) .e
    | false => match Nat.beq (k % 2) 1 with
      | true => .n (Tr.mk f (k / 2) o) none .e
      | false => .n .e none (Tr.mk f (k / 2 - 1) o)) := by
  show @Bool.rec (fun _ => Tr) (@Bool.rec (fun _ => Tr) (.n .e none (Tr.mk f (k / 2 - 1) o)) (.n (Tr.mk f (k / 2) o) none .e) (Nat.beq (k % 2) 1)) (.n .e (some o) .e) (Nat.beq k 0) = _
  cases Nat.beq k 0
  · cases Nat.beq (k % 2) 1 <;> rfl
  · rfl
theorem set_eq (l : Tr) (v : Option AO) (r : Tr) (k : Nat) (o : AO) : (Tr.n l v r).set k o = (match Nat.beq k 0 with
    | true => .n l (some o) r
    | false => match Nat.beq (k % 2) 1 with
      | true => .n (l.set (k / 2) o) v r
      | false => .n l v (r.set (k / 2 - 1) o)) := by
  show @Bool.rec (fun _ => Tr) (@Bool.rec (fun _ => Tr) (.n l v (r.set (k / 2 - 1) o)) (.n (l.set (k / 2) o) v r) (Nat.beq (k % 2) 1)) (.n l (some o) r) (Nat.beq k 0) = _
  cases Nat.beq k 0
  · cases Nat.beq (k % 2) 1 <;> rfl
  · rfl
theorem get_n (l : Tr) (v : Option AO) (r : Tr) (k : Nat) : (Tr.n l v r).get k = if k = 0 then v else if k % 2 = 1 then l.get (k / 2) else r.get (k / 2 - 1) := by
  rw [get_eq]
  cases e : Nat.beq k 0 with
  | true => rw [if_pos (nbeq.mp e)]
  | false =>
    rw [if_neg (nbeq_f.mp e)]
    cases e2 : Nat.beq (k % 2) 1 with
    | true => rw [if_pos (nbeq.mp e2)]
    | false => rw [if_neg (nbeq_f.mp e2)]
theorem get_e (k : Nat) : Tr.e.get k = none := rfl
theorem get_mk (o : AO) : ∀ (f k j : Nat), k < f → (Tr.mk f k o).get j = if j = k then some o else none
  | 0, k, j, h => absurd h (Nat.not_lt_zero _)
  | f + 1, k, j, h => by
    rw [mk_eq]
    cases e : Nat.beq k 0 with
    | true =>
      have := nbeq.mp e
      subst this
      dsimp only
      rw [get_n, get_e, get_e]
      split <;> simp_all
    | false =>
      have := nbeq_f.mp e
      dsimp only
      cases e2 : Nat.beq (k % 2) 1 with
      | true =>
        have h2 := nbeq.mp e2
        dsimp only
        rw [get_n, get_mk o f (k / 2) (j / 2) (by omega), get_e]
        by_cases z : j = 0
        · rw [if_pos z, if_neg (by omega)]
        · rw [if_neg z]
          by_cases z2 : j % 2 = 1
          · rw [if_pos z2]
            by_cases z3 : j = k
            · rw [if_pos (by omega), if_pos z3]
            · rw [if_neg (by omega), if_neg z3]
          · rw [if_neg z2, if_neg (by omega)]
      | false =>
        have h2 := nbeq_f.mp e2
        dsimp only
        rw [get_n, get_mk o f (k / 2 - 1) (j / 2 - 1) (by omega), get_e]
        by_cases z : j = 0
        · rw [if_pos z, if_neg (by omega)]
        · rw [if_neg z]
          by_cases z2 : j % 2 = 1
          · rw [if_pos z2, if_neg (by omega)]
          · rw [if_neg z2]
            by_cases z3 : j = k
            · rw [if_pos (by omega), if_pos z3]
            · rw [if_neg (by omega), if_neg z3]
theorem get_set (o : AO) : ∀ (t : Tr) (k j : Nat), (t.set k o).get j = if j = k then some o else t.get j
  | .e, k, j => by
    show (Tr.mk (k + 1) k o).get j = _
    rw [get_mk o _ _ _ (Nat.lt_succ_self k), get_e]
  | .n l v r, k, j => by
    rw [set_eq]
    cases e : Nat.beq k 0 with
    | true =>
      have := nbeq.mp e
      subst this
      dsimp only
      rw [get_n, get_n]
      by_cases z : j = 0
      · rw [if_pos z, if_pos z]
      · rw [if_neg z, if_neg z, if_neg z]
    | false =>
      have := nbeq_f.mp e
      dsimp only
      cases e2 : Nat.beq (k % 2) 1 with
      | true =>
        have h2 := nbeq.mp e2
        dsimp only
        rw [get_n, get_n, get_set o l (k / 2) (j / 2)]
        by_cases z : j = 0
        · rw [if_pos z, if_pos z, if_neg (by omega)]
        · rw [if_neg z, if_neg z]
          by_cases z2 : j % 2 = 1
          · rw [if_pos z2, if_pos z2]
            by_cases z3 : j = k
            · rw [if_pos (by omega), if_pos z3]
            · rw [if_neg (by omega), if_neg z3]
          · rw [if_neg z2, if_neg z2, if_neg (by omega)]
      | false =>
        have h2 := nbeq_f.mp e2
        dsimp only
        rw [get_n, get_n, get_set o r (k / 2 - 1) (j / 2 - 1)]
        by_cases z : j = 0
        · rw [if_pos z, if_pos z, if_neg (by omega)]
        · rw [if_neg z, if_neg z]
          by_cases z2 : j % 2 = 1
          · rw [if_pos z2, if_pos z2, if_neg (by omega)]
          · rw [if_neg z2, if_neg z2]
            by_cases z3 : j = k
            · rw [if_pos (by omega), if_pos z3]
            · rw [if_neg (by omega), if_neg z3]
theorem Hh.get_set (h : Hh) (k j : Nat) (o : AO) : (h.set k o).get j = if j = k then some o else h.get j := Ck.get_set o h.t k j
theorem Hh.get_new (h : Hh) (j : Nat) (o : AO) : (h.new o).get j = if j = h.n then some o else h.get j := Ck.get_set o h.t h.n j
/-! ### Paired lists -/
theorem pr_length {α β : Type} {F : α → β → Prop} : ∀ {xs : List α} {ys : List β}, Paired F xs ys → xs.length = ys.length
  | _, _, .nil => rfl
  | _, _, .cons _ t => by simp [pr_length t]
theorem pr_get {α β : Type} {F : α → β → Prop} : ∀ {xs : List α} {ys : List β} {i : Nat} {x : α}, Paired F xs ys → xs[i]? = some x → ∃ y, ys[i]? = some y ∧ F x y
  | _, _, _, _, .nil, e => by simp at e
  | _, _, 0, _, .cons r _, e => by simp at e; subst e; exact ⟨_, rfl, r⟩
  | _, _, i + 1, x, .cons _ t, e => by
    obtain ⟨u, h1, h2⟩ := pr_get (i := i) (x := x) t (by simpa using e)
    exact ⟨u, by simpa using h1, h2⟩
theorem pr_set {α β : Type} {F : α → β → Prop} {x : α} {y : β} (r : F x y) : ∀ {xs : List α} {ys : List β} (i : Nat), Paired F xs ys → Paired F (xs.set i x) (ys.set i y)
  | _, _, _, .nil => .nil
  | _, _, 0, .cons _ t => .cons r t
  | _, _, i + 1, .cons q t => .cons q (pr_set r i t)
theorem pr_append {α β : Type} {F : α → β → Prop} : ∀ {xs xs' : List α} {ys ys' : List β}, Paired F xs ys → Paired F xs' ys' → Paired F (xs ++ xs') (ys ++ ys')
  | _, _, _, _, .nil, s => s
  | _, _, _, _, .cons r t, s => .cons r (pr_append t s)
theorem pr_take {α β : Type} {F : α → β → Prop} : ∀ {xs : List α} {ys : List β} (n : Nat), Paired F xs ys → Paired F (xs.take n) (ys.take n)
  | _, _, 0, _ => by simp; exact .nil
  | _, _, _ + 1, .nil => .nil
  | _, _, n + 1, .cons r t => .cons r (pr_take n t)
theorem pr_drop {α β : Type} {F : α → β → Prop} : ∀ {xs : List α} {ys : List β} (n : Nat), Paired F xs ys → Paired F (xs.drop n) (ys.drop n)
  | _, _, 0, r => r
  | _, _, _ + 1, .nil => .nil
  | _, _, n + 1, .cons _ t => pr_drop n t
theorem pr_rev {α β : Type} {F : α → β → Prop} : ∀ {xs : List α} {ys : List β}, Paired F xs ys → Paired F xs.reverse ys.reverse
  | _, _, .nil => .nil
  | _, _, .cons r t => by
    rw [List.reverse_cons, List.reverse_cons]
    exact pr_append (pr_rev t) (.cons r .nil)
theorem pr_mono {α β : Type} {F G : α → β → Prop} (f : ∀ a b, F a b → G a b) : ∀ {xs : List α} {ys : List β}, Paired F xs ys → Paired G xs ys
  | _, _, .nil => .nil
  | _, _, .cons r t => .cons (f _ _ r) (pr_mono f t)
end Ck
-- SB
set_option Elab.async false
set_option linter.all false
set_option maxRecDepth 100000
set_option maxHeartbeats 4000000
set_option autoImplicit false
namespace Ck
open PySem PySem.Spec PyProof.Rows L2
/-! ### what the letters stand for, where the classes stand -/
structure Dt where
  scr : Addr
  room : Int
  nmS : Nat → List Nat
  cA : Nat → Addr
  xA : Nat → Addr
  fN : Nat → Str
  T : List NdefX.NTab
  nf : Nat → List (Str × Addr) → Addr → NdefX.NF
  fr : Nat → List Str
structure DtOk (D : Dt) : Prop where
  lo : 2 ≤ D.room
  hi : D.room ≤ 1000000000
  low : ∀ k, ∀ c ∈ D.nmS k, isLow c = true
  one : ∀ k, 1 ≤ (D.nmS k).length
  len : ∀ k, (D.nmS k).length ≤ 12
  sea : ∀ k, D.nmS k ≠ sea
  inj : ∀ i j, i < 18 → j < 18 → D.nmS i = D.nmS j → i = j
  fld : ∀ f g, f < 24 → g < 24 → D.fN f = D.fN g → f = g
/-- the signs of a written number -/
def numC (i : Int) : List Nat := (Str.ofString (toString i)).cps.toList
def pcC (D : Dt) : Pc → List Nat
  | .l c => [c]
  | .nm k => D.nmS k
  | .num c m => numC (c + m * D.room)
  | .hd c m => (numC (c + m * D.room)).take 1
def sC (D : Dt) (s : List Pc) : List Nat := s.flatMap (pcC D)
def strOf (cs : List Nat) : Str := ⟨cs.toArray⟩
def sV (D : Dt) (s : List Pc) : Str := strOf (sC D s)
abbrev Rh := List Addr
/-- a value of the evaluator is a value -/
def VR (D : Dt) (rh : Rh) : AV → V → Prop
  | .non, v => v = .non
  | .bl b, v => v = .bl b
  | .int c m, v => v = .int (c + m * D.room)
  | .str s, v => v = .str (sV D s)
  | .scr, v => v = .ref D.scr
  | .ref i, v => ∃ a, v = .ref a ∧ rh[i]? = some a
theorem VR.mono {D : Dt} {rh more : Rh} {x : AV} {v : V} (r : VR D rh x v) : VR D (rh ++ more) x v := by
  cases x with
  | ref i =>
    obtain ⟨a, e, h⟩ := r
    exact ⟨a, e, by rw [List.getElem?_append_left (List.getElem?_eq_some_iff.mp h).1]; exact h⟩
  | _ => exact r
theorem VR.inj {D : Dt} {rh : Rh} {x : AV} {v w : V} (r : VR D rh x v) (q : VR D rh x w) : v = w := by
  cases x with
  | ref i =>
    obtain ⟨a, e, h⟩ := r
    obtain ⟨b, e', h'⟩ := q
    rw [h] at h'
    rw [e, e', Option.some.inj h']
  | _ => exact r.trans q.symm
abbrev VRs (D : Dt) (rh : Rh) : List AV → List V → Prop := Paired (VR D rh)
theorem VRs.mono {D : Dt} {rh more : Rh} {xs : List AV} {vs : List V} (r : VRs D rh xs vs) : VRs D (rh ++ more) xs vs := pr_mono (fun _ _ z => z.mono) r
theorem VRs.inj {D : Dt} {rh : Rh} : ∀ {xs : List AV} {vs ws : List V}, VRs D rh xs vs → VRs D rh xs ws → vs = ws
  | _, _, _, .nil, .nil => rfl
  | _, _, _, .cons r t, .cons r' t' => by rw [r.inj r', VRs.inj t t']
/-! ### keys of states, cells -/
mutual
inductive KeyH (H : Hp) : NestedKey → V → Prop
  | num (i : Int) : KeyH H (.num i) (.int i)
  | tup {b vs ks} : H b = some (.tup vs) → KeysH H ks vs → KeyH H (.tup ks) (.ref b)
inductive KeysH (H : Hp) : List NestedKey → List V → Prop
  | nil : KeysH H [] []
  | cons {k v ks vs} : KeyH H k v → KeysH H ks vs → KeysH H (k :: ks) (v :: vs)
end
mutual
theorem KeyH.mono {H H' : Hp} (f : ∀ b xs, H b = some (.tup xs) → H' b = some (.tup xs)) : ∀ {k : NestedKey} {v : V}, KeyH H k v → KeyH H' k v
  | _, _, .num i => .num i
  | _, _, .tup e t => .tup (f _ _ e) (KeysH.mono f t)
theorem KeysH.mono {H H' : Hp} (f : ∀ b xs, H b = some (.tup xs) → H' b = some (.tup xs)) : ∀ {ks : List NestedKey} {vs : List V}, KeysH H ks vs → KeysH H' ks vs
  | _, _, .nil => .nil
  | _, _, .cons r t => .cons (KeyH.mono f r) (KeysH.mono f t)
end
/-- the dict of states at a, its entries -/
def metO (P : Program) (w : World) (a : Addr) (xs : List (NestedKey × Addr × Value)) : HO := .ext fun h =>
  (a == sysModules) = false ∧ ∃ o es ep, h.get? a = some o ∧ o.ExactDict ∧ o.data = .dict es ep ∧ es.toList = xs.map (entryOfKey (nestedKind P w))
/-- a cell that a closure holds -/
def cellO (c : Addr) (u : Value) : HO := .ext fun h => h.IsCell c (some u)
/-- a dict is no function -/
theorem metO_ne {P : Program} {w : World} {a : Addr} {xs : List (NestedKey × Addr × Value)} {F : NdefX.NF} : metO P w a xs ≠ NdefX.FnO a F := fun e => by
  unfold metO NdefX.FnO at e
  injection e with e
  let o : Obj := ⟨.type "function", none, .func (F.fd .none .none .none), #[]⟩
  have z : ({ objs := Array.replicate (a + 1) o } : Heap).get? a = some o := Heap.get?_some_iff.mpr ⟨by simp, rfl⟩
  have := congrFun e ({ objs := Array.replicate (a + 1) o } : Heap)
  obtain ⟨_, p, es, ep, h1, _, h2, _⟩ := this.mpr ⟨none, #[], .none, .none, .none, z⟩
  rw [z] at h1
  cases h1
  cases h2
theorem metO_ne2 {P : Program} {w : World} {a : Addr} {xs : List (NestedKey × Addr × Value)} {q : Str} : metO P w a xs ≠ LamX.CodeO a q := fun e => by
  unfold metO LamX.CodeO at e
  injection e with e
  let o : Obj := { cls := .none, data := .fields #[.none, .str q 0] }
  have z : ({ objs := Array.replicate (a + 1) o } : Heap).get? a = some o := Heap.get?_some_iff.mpr ⟨by simp, rfl⟩
  have := congrFun e ({ objs := Array.replicate (a + 1) o } : Heap)
  obtain ⟨_, p, es, ep, h1, _, h2, _⟩ := this.mpr ⟨o, _, 0, z, rfl, rfl⟩
  rw [z] at h1
  cases h1
  cases h2
/-! ### objects -/
def OR (D : Dt) (P : Program) (w : World) (rh : Rh) (H : Hp) (a : Addr) : AO → HO → Prop
  | .lst xs, ho => ∃ vs, ho = .lst vs ∧ VRs D rh xs vs
  | .tup xs, ho => ∃ vs, ho = .tup vs ∧ VRs D rh xs vs
  | .dct kvs, ho => ∃ ks, ho = .dK ks ∧ Paired (fun (p : List Nat × AV) (q : Key × V) => q.1 = Sum.inr (strOf p.1) ∧ VR D rh p.2 q.2) kvs ks
  | .met kvs, ho => ∃ xs, ho = metO P w a xs ∧ (xs.map (·.1)).Nodup ∧ xs.length ≤ 200000 ∧ Paired (fun (p : AV × AV) (q : NestedKey × Addr × Value) => VR D rh p.1 (.ref q.2.1) ∧ (KeyH H q.1 (.ref q.2.1) ∧ q.1.depth ≤ 8) ∧ ∃ v, VR D rh p.2 v ∧ RelV v q.2.2) kvs xs
  | .ins C fs, ho => ∃ dx ks, ho = .ins (D.cA C) dx ks ∧ C < 6 ∧ fs.length ≤ 24 ∧ Paired (fun (p : Nat × AV) (q : Str × V) => p.1 < 24 ∧ q.1 = D.fN p.1 ∧ VR D rh p.2 q.2) fs ks
  | .sus, ho => ∃ F, ho = NdefX.FnO a F
  | .clo k cap, ho => ∃ cl c', ho = NdefX.FnO a (D.nf k cl c') ∧ H c' = some (LamX.CodeO c' (D.nf k cl c').qual) ∧ cap.length = (D.fr k).length ∧
      (∀ x y c, cl.lookup x = some c → cl.lookup y = some c → x = y) ∧ (∀ y c, cl.lookup y = some c → c ∉ rh ∧ ∃ u, H c = some (cellO c u)) ∧
      ∀ (i : Nat) (y : Str), (D.fr k)[i]? = some y → ∃ c x v u, cl.lookup y = some c ∧ cap[i]? = some x ∧ VR D rh x v ∧ RelV v u ∧ H c = some (cellO c u)
/-! ### heaps grow -/
structure Ext (rh : Rh) (H : Hp) (rh' : Rh) (H' : Hp) : Prop where
  pre : ∃ more, rh' = rh ++ more
  keep : ∀ b o, b ∉ rh → H b = some o → (∀ ps, o ≠ .tbl ps) → H' b = some o
  new : ∀ b, b ∈ rh' → b ∉ rh → H b = none
  tups : ∀ b xs, H b = some (.tup xs) → H' b = some (.tup xs)
  tabs : ∀ b ps, b ∉ rh → H b = some (.tbl ps) → ∃ qs, H' b = some (.tbl qs)
  fns : ∀ b F, H b = some (NdefX.FnO b F) → H' b = some (NdefX.FnO b F)
  cods : ∀ b q, H b = some (LamX.CodeO b q) → H' b = some (LamX.CodeO b q)
theorem Ext.refl (rh : Rh) (H : Hp) : Ext rh H rh H := ⟨⟨[], by simp⟩, fun _ _ _ h _ => h, fun _ h n => absurd h n, fun _ _ h => h, fun _ ps _ h => ⟨ps, h⟩, fun _ _ h => h, fun _ _ h => h⟩
theorem Ext.mem {rh rh' : Rh} {H H' : Hp} (e : Ext rh H rh' H') {b : Addr} (h : b ∈ rh) : b ∈ rh' := by
  obtain ⟨m, q⟩ := e.pre
  rw [q]
  exact List.mem_append_left _ h
theorem Ext.out {rh rh' : Rh} {H H' : Hp} (e : Ext rh H rh' H') {b : Addr} {o : HO} (n : b ∉ rh) (h : H b = some o) : b ∉ rh' := fun z => by
  have := e.new b z n
  rw [h] at this
  cases this
theorem Ext.trans {r1 r2 r3 : Rh} {H1 H2 H3 : Hp} (a : Ext r1 H1 r2 H2) (b : Ext r2 H2 r3 H3) : Ext r1 H1 r3 H3 where
  pre := by
    obtain ⟨m, e⟩ := a.pre
    obtain ⟨n, f⟩ := b.pre
    exact ⟨m ++ n, by rw [f, e, List.append_assoc]⟩
  keep := fun c o n h t => b.keep c o (a.out n h) (a.keep c o n h t) t
  new := fun c h n => by
    by_cases z : c ∈ r2
    · exact a.new c z n
    · cases q : H1 c with
      | none => rfl
      | some o =>
        have hb := b.new c h z
        cases o with
        | tbl ps =>
          obtain ⟨qs, h2⟩ := a.tabs c ps n q
          rw [hb] at h2; cases h2
        | _ => 
          have := a.keep c _ n q (by intro ps e; cases e)
          rw [hb] at this; cases this
  tups := fun c xs h => b.tups c xs (a.tups c xs h)
  tabs := fun c ps n h => by
    obtain ⟨qs, h2⟩ := a.tabs c ps n h
    exact b.tabs c qs (a.out n h) h2
  fns := fun c F h => b.fns c F (a.fns c F h)
  cods := fun c q h => b.cods c q (a.cods c q h)
theorem OR.mono {D : Dt} {P : Program} {w : World} {rh rh' : Rh} {H H' : Hp} {a : Addr} {o : AO} {ho : HO} (e : Ext rh H rh' H') (r : OR D P w rh H a o ho) : OR D P w rh' H' a o ho := by
  obtain ⟨more, em⟩ := e.pre
  cases o with
  | lst xs =>
    obtain ⟨vs, h1, h2⟩ := r
    exact ⟨vs, h1, by rw [em]; exact h2.mono⟩
  | tup xs =>
    obtain ⟨vs, h1, h2⟩ := r
    exact ⟨vs, h1, by rw [em]; exact h2.mono⟩
  | dct kvs =>
    obtain ⟨ks, h1, h2⟩ := r
    exact ⟨ks, h1, pr_mono (fun _ _ z => ⟨z.1, by rw [em]; exact z.2.mono⟩) h2⟩
  | met kvs =>
    obtain ⟨xs, h1, h2, h3, h4⟩ := r
    refine ⟨xs, h1, h2, h3, pr_mono (fun _ _ z => ?_) h4⟩
    obtain ⟨z1, z2, v, z3, z4⟩ := z
    exact ⟨by rw [em]; exact z1.mono, ⟨z2.1.mono e.tups, z2.2⟩, v, by rw [em]; exact z3.mono, z4⟩
  | ins C fs =>
    obtain ⟨dx, ks, h1, h2, h3, h4⟩ := r
    exact ⟨dx, ks, h1, h2, h3, pr_mono (fun _ _ z => ⟨z.1, z.2.1, by rw [em]; exact z.2.2.mono⟩) h4⟩
  | sus => exact r
  | clo k cap =>
    obtain ⟨cl, c', h1, h3, h4, h5, h6, h7⟩ := r
    refine ⟨cl, c', h1, e.cods _ _ h3, h4, h5, fun y c hc => ?_, fun i y hy => ?_⟩
    · obtain ⟨n, u, q⟩ := h6 y c hc
      exact ⟨e.out n q, u, e.keep _ _ n q (by intro ps z; cases z)⟩
    · obtain ⟨c, x, v, u, q1, q2, q3, q4, q5⟩ := h7 i y hy
      exact ⟨c, x, v, u, q1, q2, by rw [em]; exact q3.mono, q4, e.keep _ _ (h6 y c q1).1 q5 (by intro ps z; cases z)⟩
/-- the code objects' tables, out of the reach of what is tracked -/
def TabR (D : Dt) (rh : Rh) (H : Hp) : Prop := ∀ p ∈ D.T, p.1 ∉ rh ∧ ∃ ps : Array Value, H p.1 = some (.tbl ps) ∧ TriplesOk ps.toList ∧ ∀ (pos : Pos) (cv : Value), codeAmong pos ps.toList = some cv → ∃ c, cv = .ref c ∧ H c = some (LamX.CodeO c (p.2 pos.line pos.col))
theorem TabR.tabs {D : Dt} {rh : Rh} {H : Hp} (t : TabR D rh H) : NdefX.TabsN D.T H := fun p hp => by
  obtain ⟨_, ps, h1, h2, h3⟩ := t p hp
  exact ⟨ps, h1, h2, h3⟩
/-- the evaluator's heap is the abstract heap -/
structure Rep (D : Dt) (P : Program) (w : World) (rh : Rh) (h : Hh) (H : Hp) : Prop where
  len : h.n = rh.length
  nd : rh.Nodup
  at_ : ∀ i o, h.get i = some o → ∃ a ho, rh[i]? = some a ∧ H a = some ho ∧ OR D P w rh H a o ho
  live : ∀ a, a ∈ rh → H a ≠ none
  tabs : TabR D rh H
  cs : ∀ i w x, h.get i = some (.clo w x) → i ∈ h.cs
theorem mem_addC {o : AO} {i j : Nat} {cs : List Nat} (h : j ∈ cs) : j ∈ addC o i cs := by
  cases o <;> first | exact List.mem_cons_of_mem _ h | exact h
section
variable {D : Dt} {P : Program} {w : World} {rh : Rh} {h : Hh} {H : Hp}
/-- the object at a value that is told as a place -/
theorem Rep.obj (r : Rep D P w rh h H) {i : Nat} {o : AO} {v : V} (e : h.get i = some o) (q : VR D rh (.ref i) v) : ∃ a ho, v = .ref a ∧ rh[i]? = some a ∧ H a = some ho ∧ OR D P w rh H a o ho := by
  obtain ⟨a, ho, h1, h2, h3⟩ := r.at_ i o e
  obtain ⟨b, e2, h4⟩ := q
  rw [h1] at h4
  cases h4
  exact ⟨a, ho, e2, h1, h2, h3⟩
theorem Rep.lst (r : Rep D P w rh h H) {i : Nat} {xs : List AV} {v : V} (e : h.get i = some (.lst xs)) (q : VR D rh (.ref i) v) : ∃ a vs, v = .ref a ∧ rh[i]? = some a ∧ H a = some (.lst vs) ∧ VRs D rh xs vs := by
  obtain ⟨a, ho, h1, h2, h3, vs, rfl, h4⟩ := r.obj e q
  exact ⟨a, vs, h1, h2, h3, h4⟩
theorem Rep.tup (r : Rep D P w rh h H) {i : Nat} {xs : List AV} {v : V} (e : h.get i = some (.tup xs)) (q : VR D rh (.ref i) v) : ∃ a vs, v = .ref a ∧ rh[i]? = some a ∧ H a = some (.tup vs) ∧ VRs D rh xs vs := by
  obtain ⟨a, ho, h1, h2, h3, vs, rfl, h4⟩ := r.obj e q
  exact ⟨a, vs, h1, h2, h3, h4⟩
theorem Rep.ins (r : Rep D P w rh h H) {i C : Nat} {fs : List (Nat × AV)} {v : V} (e : h.get i = some (.ins C fs)) (q : VR D rh (.ref i) v) : ∃ a dx ks, v = .ref a ∧ rh[i]? = some a ∧ H a = some (.ins (D.cA C) dx ks) ∧ C < 6 ∧ fs.length ≤ 24 ∧ Paired (fun (p : Nat × AV) (q : Str × V) => p.1 < 24 ∧ q.1 = D.fN p.1 ∧ VR D rh p.2 q.2) fs ks := by
  obtain ⟨a, ho, h1, h2, h3, dx, ks, rfl, h4, h5, h6⟩ := r.obj e q
  exact ⟨a, dx, ks, h1, h2, h3, h4, h5, h6⟩
theorem mem_of_ix {i : Nat} {a : Addr} (e : rh[i]? = some a) : a ∈ rh := List.mem_of_getElem? e
theorem ne_out {a b : Addr} (n : b ∉ rh) (m : a ∈ rh) : b ≠ a := fun z => n (by rw [z]; exact m)
/-- a place out of the tracked ones is written: all stays -/
theorem Rep.side (r : Rep D P w rh h H) {q : Addr} {o : HO} (n : H q = none) : Rep D P w rh h (upd H q o) ∧ Ext rh H rh (upd H q o) := by
  have E : Ext rh H rh (upd H q o) := ⟨⟨[], by simp⟩, fun b u _ e _ => by rw [upd_ne (ne_of_none e n)]; exact e, fun b z y => absurd z y, fun b xs e => by rw [upd_ne (ne_of_none e n)]; exact e, fun b ps _ e => ⟨ps, by rw [upd_ne (ne_of_none e n)]; exact e⟩, fun b F e => by rw [upd_ne (ne_of_none e n)]; exact e, fun b F e => by rw [upd_ne (ne_of_none e n)]; exact e⟩
  refine ⟨⟨r.len, r.nd, fun i u e => ?_, fun a ha => ?_, fun p hp => ?_, r.cs⟩, E⟩
  · obtain ⟨a, ho, h1, h2, h3⟩ := r.at_ i u e
    exact ⟨a, ho, h1, by rw [upd_ne (ne_of_none h2 n)]; exact h2, h3.mono E⟩
  · cases z : H a with
    | none => exact absurd z (r.live a ha)
    | some u => rw [upd_ne (ne_of_none z n), z]; simp
  · obtain ⟨h0, ps, h1, h2, h3⟩ := r.tabs p hp
    refine ⟨h0, ps, by rw [upd_ne (ne_of_none h1 n)]; exact h1, h2, fun pos cv hc => ?_⟩
    obtain ⟨c, e1, e3⟩ := h3 pos cv hc
    exact ⟨c, e1, by rw [upd_ne (ne_of_none e3 n)]; exact e3⟩
/-- a new object -/
theorem Rep.new (r : Rep D P w rh h H) {q : Addr} {o : AO} {ho : HO} (n : H q = none) (x : OR D P w (rh ++ [q]) (upd H q ho) q o ho) : Rep D P w (rh ++ [q]) (h.new o) (upd H q ho) ∧ Ext rh H (rh ++ [q]) (upd H q ho) := by
  have nq : q ∉ rh := fun z => r.live q z n
  have E : Ext rh H (rh ++ [q]) (upd H q ho) := ⟨⟨[q], rfl⟩, fun b u _ e _ => by rw [upd_ne (ne_of_none e n)]; exact e, fun b z y => by
      rcases List.mem_append.mp z with z | z
      · exact absurd z y
      · rw [List.mem_singleton.mp z]; exact n, fun b xs e => by rw [upd_ne (ne_of_none e n)]; exact e, fun b ps _ e => ⟨ps, by rw [upd_ne (ne_of_none e n)]; exact e⟩, fun b F e => by rw [upd_ne (ne_of_none e n)]; exact e, fun b F e => by rw [upd_ne (ne_of_none e n)]; exact e⟩
  refine ⟨⟨?_, ?_, fun i u e => ?_, fun a ha => ?_, fun p hp => ?_, fun i k y e => ?_⟩, E⟩
  · show h.n + 1 = _
    rw [r.len]; simp
  · refine List.nodup_append.mpr ⟨r.nd, by simp, fun a ha b hb e => ?_⟩
    rw [List.mem_singleton.mp hb] at e
    exact nq (e ▸ ha)
  · rw [Hh.get_new] at e
    by_cases z : i = h.n
    · rw [if_pos z] at e
      cases e
      refine ⟨q, ho, ?_, upd_same, x⟩
      rw [z, r.len, List.getElem?_append_right (Nat.le_refl _)]
      simp
    · rw [if_neg z] at e
      obtain ⟨a, u, h1, h2, h3⟩ := r.at_ i _ e
      exact ⟨a, u, by rw [List.getElem?_append_left (List.getElem?_eq_some_iff.mp h1).1]; exact h1, by rw [upd_ne (ne_of_none h2 n)]; exact h2, h3.mono E⟩
  · rcases List.mem_append.mp ha with z | z
    · cases y : H a with
      | none => exact absurd y (r.live a z)
      | some u => rw [upd_ne (ne_of_none y n), y]; simp
    · rw [List.mem_singleton.mp z, upd_same]; simp
  · obtain ⟨h0, ps, h1, h2, h3⟩ := r.tabs p hp
    have out : ∀ {c : Addr} {u : HO}, c ∉ rh → H c = some u → c ∉ rh ++ [q] := fun {c u} y e z => by
      rcases List.mem_append.mp z with z | z
      · exact y z
      · rw [List.mem_singleton.mp z, n] at e; cases e
    refine ⟨out h0 h1, ps, by rw [upd_ne (ne_of_none h1 n)]; exact h1, h2, fun pos cv hc => ?_⟩
    obtain ⟨c, e1, e3⟩ := h3 pos cv hc
    exact ⟨c, e1, by rw [upd_ne (ne_of_none e3 n)]; exact e3⟩
  · rw [Hh.get_new] at e
    by_cases z : i = h.n
    · rw [if_pos z] at e
      cases e
      rw [z]
      exact List.mem_cons_self
    · rw [if_neg z] at e
      exact mem_addC (r.cs i k y e)
/-- an object changed -/
theorem Rep.set (r : Rep D P w rh h H) {i : Nat} {a : Addr} {o : AO} {u ho : HO} (ia : rh[i]? = some a) (hu : H a = some u) (nt : ∀ xs, u ≠ .tup xs) (x : ∀ H', H' = upd H a ho → Ext rh H rh H' → OR D P w rh H' a o ho) (nf : (∀ F, u ≠ NdefX.FnO a F) ∧ ∀ q, u ≠ LamX.CodeO a q := by exact ⟨fun F e => (by unfold NdefX.FnO at e; cases e), fun q e => (by unfold LamX.CodeO at e; cases e)⟩) :
    Rep D P w rh (h.set i o) (upd H a ho) ∧ Ext rh H rh (upd H a ho) := by
  have ma := mem_of_ix ia
  have E : Ext rh H rh (upd H a ho) := ⟨⟨[], by simp⟩, fun b u y e _ => by rw [upd_ne (ne_out y ma)]; exact e, fun b z y => absurd z y, fun b xs e => by
      rw [upd_ne (fun z => by rw [z, hu] at e; exact nt xs (Option.some.inj e))]; exact e, fun b ps y e => ⟨ps, by rw [upd_ne (ne_out y ma)]; exact e⟩, fun b F e => by
      by_cases z : b = a
      · subst z
        rw [hu] at e
        exact absurd (Option.some.inj e) (nf.1 F)
      · rw [upd_ne z]; exact e, fun b F e => by
      by_cases z : b = a
      · subst z
        rw [hu] at e
        exact absurd (Option.some.inj e) (nf.2 F)
      · rw [upd_ne z]; exact e⟩
  refine ⟨⟨r.len, r.nd, fun j v e => ?_, fun b hb => ?_, fun p hp => ?_, fun j k y e => ?_⟩, E⟩
  · rw [Hh.get_set] at e
    by_cases z : j = i
    · rw [if_pos z] at e
      cases e
      exact ⟨a, ho, by rw [z]; exact ia, upd_same, x _ rfl E⟩
    · rw [if_neg z] at e
      obtain ⟨b, y, h1, h2, h3⟩ := r.at_ j v e
      have nb : b ≠ a := fun q => z (by
        obtain ⟨l1, e1⟩ := List.getElem?_eq_some_iff.mp h1
        obtain ⟨l2, e2⟩ := List.getElem?_eq_some_iff.mp ia
        exact (List.getElem_inj r.nd).mp (e1.trans (q.trans e2.symm)))
      exact ⟨b, y, h1, by rw [upd_ne nb]; exact h2, h3.mono E⟩
  · by_cases z : b = a
    · rw [z, upd_same]; simp
    · rw [upd_ne z]; exact r.live b hb
  · obtain ⟨h0, ps, h1, h2, h3⟩ := r.tabs p hp
    refine ⟨h0, ps, by rw [upd_ne (ne_out h0 ma)]; exact h1, h2, fun pos cv hc => ?_⟩
    obtain ⟨c, e1, e3⟩ := h3 pos cv hc
    exact ⟨c, e1, E.cods _ _ e3⟩
  · rw [Hh.get_set] at e
    by_cases z : j = i
    · rw [if_pos z] at e
      cases e
      rw [z]
      exact List.mem_cons_self
    · rw [if_neg z] at e
      exact mem_addC (r.cs j k y e)
theorem VR.ext {rh' : Rh} {H' : Hp} (e : Ext rh H rh' H') {x : AV} {v : V} (r : VR D rh x v) : VR D rh' x v := by
  obtain ⟨m, q⟩ := e.pre
  rw [q]
  exact r.mono
theorem VRs.ext {rh' : Rh} {H' : Hp} (e : Ext rh H rh' H') {x : List AV} {v : List V} (r : VRs D rh x v) : VRs D rh' x v := by
  obtain ⟨m, q⟩ := e.pre
  rw [q]
  exact r.mono
end
/-! ### the frame's slots -/
structure SR (D : Dt) (rh : Rh) (s : Sg) (σ : L2.St) : Prop where
  len : s.length = σ.length
  at_ : ∀ (i : Nat) (x : AV), s[i]? = some (some x) → ∃ v, σ[i]? = some (some v) ∧ VR D rh x v
theorem SR.ext {D : Dt} {rh rh' : Rh} {H H' : Hp} {s : Sg} {σ : L2.St} (r : SR D rh s σ) (e : Ext rh H rh' H') : SR D rh' s σ :=
  ⟨r.len, fun i x h => let ⟨v, h1, h2⟩ := r.at_ i x h; ⟨v, h1, h2.ext e⟩⟩
theorem SR.set {D : Dt} {rh : Rh} {s : Sg} {σ : L2.St} (r : SR D rh s σ) (i : Nat) {x : AV} {v : V} (q : VR D rh x v) : SR D rh (setN s i (some x)) (σ.set i (some v)) := by
  rw [setN_eq]
  refine ⟨by simp [r.len], fun j y h => ?_⟩
  by_cases z : j = i
  · subst z
    by_cases l : j < s.length
    · rw [List.getElem?_set_self l] at h
      cases h
      exact ⟨v, List.getElem?_set_self (by rw [← r.len]; exact l), q⟩
    · rw [List.getElem?_eq_none (by simpa using l)] at h
      cases h
  · rw [List.getElem?_set_ne (Ne.symm z)] at h
    obtain ⟨u, h1, h2⟩ := r.at_ j y h
    exact ⟨u, by rw [List.getElem?_set_ne (Ne.symm z)]; exact h1, h2⟩
theorem SR.unset {D : Dt} {rh : Rh} {s : Sg} {σ : L2.St} (r : SR D rh s σ) (i : Nat) : SR D rh (setN s i none) (σ.set i none) := by
  rw [setN_eq]
  refine ⟨by simp [r.len], fun j y h => ?_⟩
  by_cases z : j = i
  · subst z
    by_cases l : j < s.length
    · rw [List.getElem?_set_self l] at h
      cases h
    · rw [List.getElem?_eq_none (by simpa using l)] at h
      cases h
  · rw [List.getElem?_set_ne (Ne.symm z)] at h
    obtain ⟨u, h1, h2⟩ := r.at_ j y h
    exact ⟨u, by rw [List.getElem?_set_ne (Ne.symm z)]; exact h1, h2⟩
theorem SR.wipe {D : Dt} {rh : Rh} : ∀ {vs : List Nat} {s : Sg} {σ : L2.St}, SR D rh s σ → SR D rh (wipeL s vs) (L2.wipe σ vs)
  | [], _, _, r => r
  | i :: is, s, σ, r => (SR.wipe (vs := is) r).unset i
theorem pad_eq : ∀ (n : Nat) (vs : List AV), vs.length ≤ n → pad n vs = vs.map some ++ List.replicate (n - vs.length) none
  | 0, vs, h => by
    have : vs = [] := List.length_eq_zero_iff.mp (by omega)
    subst this
    rfl
  | n + 1, [], h => by
    have ih := pad_eq n [] (Nat.zero_le _)
    simp only [pad, ih, List.length_nil, Nat.sub_zero, List.map_nil, List.nil_append, List.replicate_succ]
  | n + 1, v :: vs, h => by
    have ih := pad_eq n vs (by simpa using h)
    simp only [pad, ih, List.map_cons, List.cons_append, List.length_cons, Nat.add_sub_add_right]
theorem SR.start {D : Dt} {rh : Rh} {N : List Str} {xs : List AV} {vs : List V} (r : VRs D rh xs vs) (hl : xs.length ≤ N.length) : SR D rh (pad N.length xs) (L2.start N vs) := by
  have e := pr_length r
  rw [pad_eq _ _ hl]
  refine ⟨by unfold L2.start; simp [e], fun i x h => ?_⟩
  by_cases z : i < xs.length
  · rw [List.getElem?_append_left (by simpa using z), List.getElem?_map] at h
    cases q : xs[i]? with
    | none => rw [q] at h; cases h
    | some y =>
      rw [q] at h
      cases h
      obtain ⟨v, h1, h2⟩ := pr_get r q
      refine ⟨v, ?_, h2⟩
      unfold L2.start
      rw [List.getElem?_append_left (by rw [List.length_map, ← e]; exact z), List.getElem?_map, h1]
      rfl
  · rw [List.getElem?_append_right (by simpa using z), List.getElem?_replicate] at h
    split at h <;> cases h
end Ck
-- SC
set_option Elab.async false
set_option linter.all false
set_option maxRecDepth 100000
set_option maxHeartbeats 4000000
set_option autoImplicit false
namespace Ck
open PySem PySem.Spec PyProof.Rows L2
/-! ### the weakest readings -/
section
variable (X : Cx)
def wE (e : PySem.Expr) : TE := fun σ H Q => ∀ (pins : List (Addr × Obj)) (s : Shared), Inv X pins σ H s → wpAny (model X.prog X.w) X.A (eval e X.env) (EP X pins σ Q) X.xe s
def wT (e : PySem.Expr) : TT := fun σ H Q => ∀ (pins : List (Addr × Obj)) (s : Shared), Inv X pins σ H s → wpAny (model X.prog X.w) X.A (isTrue e X.env (eval e X.env)) (TP X pins σ Q) X.xe s
def wW (e : PySem.Expr) : TT := fun σ H Q => ∀ (whole : Sem Value) (pins : List (Addr × Obj)) (s : Shared), Inv X pins σ H s → wpAny (model X.prog X.w) X.A (isTrue e X.env whole) (TP X pins σ Q) X.xe s
def wA (es : List PySem.Expr) : TA := fun σ H Q => ∀ (pos : Pos) (pins : List (Addr × Obj)) (s : Shared), Inv X pins σ H s → wpAny (model X.prog X.w) X.A (spliced (backTo pos (starEach es X.env))) (AP X pins σ Q) X.xe s
def wS (st : Stmt) : TS := fun D σ H => ∀ (pins : List (Addr × Obj)) (s : Shared), Inv X pins σ H s → wpAny (model X.prog X.w) X.A (exec st X.env) (SP X pins D) X.xe s
def wSs (st : List Stmt) : TS := fun D σ H => ∀ (pins : List (Addr × Obj)) (s : Shared), Inv X pins σ H s → wpAny (model X.prog X.w) X.A (execs st X.env) (SP X pins D) X.xe s
def wI (tg iter : PySem.Expr) : TI := fun σ H R => ∀ (pins : List (Addr × Obj)) (s : Shared), Inv X pins σ H s → wpAny (model X.prog X.w) X.A (eval iter X.env) (fun v s1 => wpAny (model X.prog X.w) X.A (pyIter v) (PIE X pins σ tg R) X.xe s1) X.xe s
end
section
variable {X : Cx} {e iter tg : PySem.Expr} {es : List PySem.Expr} {st : Stmt} {sts : List Stmt}
theorem pE : PE X e (wE X e) := ⟨fun pins s σ H Q I h => h pins s I⟩
theorem pT : PT X e (wT X e) := ⟨fun pins s σ H Q I h => h pins s I⟩
theorem pW : PW X e (wW X e) := ⟨fun wh pins s σ H Q I h => h wh pins s I⟩
theorem pA : PA X es (wA X es) := ⟨fun pos pins s σ H Q I h => h pos pins s I⟩
theorem pS : PS X st (wS X st) := ⟨fun pins s σ H D I h => h pins s I⟩
theorem pSs : PSs X sts (wSs X sts) := ⟨fun pins s σ H D I h => h pins s I⟩
theorem pI : PI X tg iter (wI X tg iter) := ⟨fun pins s σ H R I h => h pins s I⟩
theorem of_PE {t : TE} (p : PE X e t) {σ : L2.St} {H : Hp} {Q : VK} (h : t σ H Q) : wE X e σ H Q := fun pins s I => p.run pins s σ H Q I h
theorem of_PT {t : TT} (p : PT X e t) {σ : L2.St} {H : Hp} {Q : Bool → Hp → Prop} (h : t σ H Q) : wT X e σ H Q := fun pins s I => p.run pins s σ H Q I h
theorem of_PW {t : TT} (p : PW X e t) {σ : L2.St} {H : Hp} {Q : Bool → Hp → Prop} (h : t σ H Q) : wW X e σ H Q := fun wh pins s I => p.run wh pins s σ H Q I h
theorem of_PA {t : TA} (p : PA X es t) {σ : L2.St} {H : Hp} {Q : List V → Hp → Prop} (h : t σ H Q) : wA X es σ H Q := fun pos pins s I => p.run pos pins s σ H Q I h
theorem of_PS {t : TS} (p : PS X st t) {σ : L2.St} {H : Hp} {D : Ends} (h : t D σ H) : wS X st D σ H := fun pins s I => p.run pins s σ H D I h
theorem of_PSs {t : TS} (p : PSs X sts t) {σ : L2.St} {H : Hp} {D : Ends} (h : t D σ H) : wSs X sts D σ H := fun pins s I => p.run pins s σ H D I h
theorem of_PI {t : TI} (p : PI X tg iter t) {σ : L2.St} {H : Hp} {R : L2.It → Hp → Prop} (h : t σ H R) : wI X tg iter σ H R := fun pins s I => p.run pins s σ H R I h
theorem wE.mono {σ : L2.St} {H : Hp} {Q Q' : VK} (h : wE X e σ H Q) (f : ∀ x H1, Q x H1 → Q' x H1) : wE X e σ H Q' := fun pins s I =>
  thn (h pins s I) fun _ _ ⟨v, H1, I1, r, q⟩ => ⟨v, H1, I1, r, f _ _ q⟩
theorem wT.mono {σ : L2.St} {H : Hp} {Q Q' : Bool → Hp → Prop} (h : wT X e σ H Q) (f : ∀ x H1, Q x H1 → Q' x H1) : wT X e σ H Q' := fun pins s I =>
  thn (h pins s I) fun _ _ ⟨H1, I1, q⟩ => ⟨H1, I1, f _ _ q⟩
theorem wA.mono {σ : L2.St} {H : Hp} {Q Q' : List V → Hp → Prop} (h : wA X es σ H Q) (f : ∀ x H1, Q x H1 → Q' x H1) : wA X es σ H Q' := fun pos pins s I =>
  thn (h pos pins s I) fun _ _ ⟨v, H1, I1, r, q⟩ => ⟨v, H1, I1, r, f _ _ q⟩
theorem wI.mono {σ : L2.St} {H : Hp} {R R' : L2.It → Hp → Prop} (h : wI X tg iter σ H R) (f : ∀ x H1, R x H1 → R' x H1) : wI X tg iter σ H R' := fun pins s I =>
  thn (h pins s I) fun _ _ h1 => thn h1 fun _ _ ⟨it, fp, tn, J, H', a, b, c, d, e, q⟩ => ⟨it, fp, tn, J, H', a, b, c, d, e, f _ _ q⟩
end
/-! ### what is wanted of an end -/
section
variable (D : Dt) (P : Program) (w : World)
def QE (r : R) (rh : Rh) (H : Hp) (Q : VK) (E : XK) : Prop := match r with
  | .ok v h => ∀ rh' H' x, Ext rh H rh' H' → Rep D P w rh' h H' → VR D rh' v x → Q x H'
  | .exc C h => ∀ rh' H', Ext rh H rh' H' → Rep D P w rh' h H' → E (.ref (D.xA C)) none H'
  | .no => False
def QL (r : RL) (rh : Rh) (H : Hp) (Q : List V → Hp → Prop) (E : XK) : Prop := match r with
  | .ok v h => ∀ rh' H' x, Ext rh H rh' H' → Rep D P w rh' h H' → VRs D rh' v x → Q x H'
  | .exc C h => ∀ rh' H', Ext rh H rh' H' → Rep D P w rh' h H' → E (.ref (D.xA C)) none H'
  | .no => False
def QB (r : RB) (rh : Rh) (H : Hp) (Q : Bool → Hp → Prop) (E : XK) : Prop := match r with
  | .ok b h => ∀ rh' H', Ext rh H rh' H' → Rep D P w rh' h H' → Q b H'
  | .exc C h => ∀ rh' H', Ext rh H rh' H' → Rep D P w rh' h H' → E (.ref (D.xA C)) none H'
  | .no => False
def QS (r : RS) (rh : Rh) (H : Hp) (N : Ends) (E : XK) : Prop := match r with
  | .nx s h => ∀ rh' H' σ', Ext rh H rh' H' → Rep D P w rh' h H' → SR D rh' s σ' → N.nx σ' H'
  | .ret v h => ∀ rh' H' x, Ext rh H rh' H' → Rep D P w rh' h H' → VR D rh' v x → N.rt x H'
  | .exc C h => ∀ rh' H', Ext rh H rh' H' → Rep D P w rh' h H' → E (.ref (D.xA C)) none H'
  | .no => False
/-- an iterator of the evaluator is one of the layer -/
def IRel (rh0 : Rh) (j : Ck.It) (J : L2.It) : Prop := ∀ (i : Nat) (rh : Rh) (h : Hh) (H : Hp), (∃ more, rh = rh0 ++ more) → Rep D P w rh h H → match itNext j i h with
  | .item v h1 => J.go i H ∧ ∀ x H1, J.yld i H x H1 → ∃ rh1, Ext rh H rh1 H1 ∧ Rep D P w rh1 h1 H1 ∧ VR D rh1 v x
  | .done h1 => h1 = h ∧ J.stop i H
  | .no => True
def QI (r : RI) (rh : Rh) (H : Hp) (Q : L2.It → Hp → Prop) (E : XK) : Prop := match r with
  | .ok j h => ∀ rh' H' J, Ext rh H rh' H' → Rep D P w rh' h H' → IRel D P w rh' j J → Q J H'
  | .exc C h => ∀ rh' H', Ext rh H rh' H' → Rep D P w rh' h H' → E (.ref (D.xA C)) none H'
  | .no => False
end
section
variable {D : Dt} {P : Program} {w : World} {rh rh1 : Rh} {H H1 : Hp} {E : XK}
theorem QE.ext {r : R} {Q : VK} (q : QE D P w r rh H Q E) (e : Ext rh H rh1 H1) : QE D P w r rh1 H1 Q E := by
  cases r with
  | ok v h => exact fun rh' H' x e2 => q rh' H' x (e.trans e2)
  | exc C h => exact fun rh' H' e2 => q rh' H' (e.trans e2)
  | no => exact q
theorem QL.ext {r : RL} {Q : List V → Hp → Prop} (q : QL D P w r rh H Q E) (e : Ext rh H rh1 H1) : QL D P w r rh1 H1 Q E := by
  cases r with
  | ok v h => exact fun rh' H' x e2 => q rh' H' x (e.trans e2)
  | exc C h => exact fun rh' H' e2 => q rh' H' (e.trans e2)
  | no => exact q
theorem QB.ext {r : RB} {Q : Bool → Hp → Prop} (q : QB D P w r rh H Q E) (e : Ext rh H rh1 H1) : QB D P w r rh1 H1 Q E := by
  cases r with
  | ok v h => exact fun rh' H' e2 => q rh' H' (e.trans e2)
  | exc C h => exact fun rh' H' e2 => q rh' H' (e.trans e2)
  | no => exact q
theorem QS.ext {r : RS} {N : Ends} (q : QS D P w r rh H N E) (e : Ext rh H rh1 H1) : QS D P w r rh1 H1 N E := by
  cases r with
  | nx s h => exact fun rh' H' x e2 => q rh' H' x (e.trans e2)
  | ret s h => exact fun rh' H' x e2 => q rh' H' x (e.trans e2)
  | exc C h => exact fun rh' H' e2 => q rh' H' (e.trans e2)
  | no => exact q
theorem QI.ext {r : RI} {Q : L2.It → Hp → Prop} (q : QI D P w r rh H Q E) (e : Ext rh H rh1 H1) : QI D P w r rh1 H1 Q E := by
  cases r with
  | ok v h => exact fun rh' H' x e2 => q rh' H' x (e.trans e2)
  | exc C h => exact fun rh' H' e2 => q rh' H' (e.trans e2)
  | no => exact q
/-- behind a first part: what is wanted of the second -/
def Mid (D : Dt) (P : Program) (w : World) (rh : Rh) (H : Hp) (x : V) (H1 : Hp) (F : AV → Hh → Rh → Prop) : Prop := ∃ rh1 h1 v, Ext rh H rh1 H1 ∧ Rep D P w rh1 h1 H1 ∧ VR D rh1 v x ∧ F v h1 rh1
theorem q_b1 {r : R} {k : AV → Hh → R} {Q : VK} (q : QE D P w (b1 r k) rh H Q E) : QE D P w r rh H (fun x H1 => Mid D P w rh H x H1 fun v h1 rh1 => QE D P w (k v h1) rh1 H1 Q E) E := by
  cases r with
  | ok v h => exact fun rh' H' x e rp vr => ⟨rh', h, v, e, rp, vr, QE.ext (show QE D P w (k v h) rh H Q E from q) e⟩
  | exc C h => exact q
  | no => exact q
theorem q_b1B {r : R} {k : AV → Hh → RB} {Q : Bool → Hp → Prop} (q : QB D P w (b1B r k) rh H Q E) : QE D P w r rh H (fun x H1 => Mid D P w rh H x H1 fun v h1 rh1 => QB D P w (k v h1) rh1 H1 Q E) E := by
  cases r with
  | ok v h => exact fun rh' H' x e rp vr => ⟨rh', h, v, e, rp, vr, QB.ext (show QB D P w (k v h) rh H Q E from q) e⟩
  | exc C h => exact q
  | no => exact q
theorem q_b1S {r : R} {k : AV → Hh → RS} {N : Ends} (q : QS D P w (b1S r k) rh H N E) : QE D P w r rh H (fun x H1 => Mid D P w rh H x H1 fun v h1 rh1 => QS D P w (k v h1) rh1 H1 N E) E := by
  cases r with
  | ok v h => exact fun rh' H' x e rp vr => ⟨rh', h, v, e, rp, vr, QS.ext (show QS D P w (k v h) rh H N E from q) e⟩
  | exc C h => exact q
  | no => exact q
theorem q_b1L {r : R} {k : AV → Hh → RL} {Q : List V → Hp → Prop} (q : QL D P w (b1L r k) rh H Q E) : QE D P w r rh H (fun x H1 => Mid D P w rh H x H1 fun v h1 rh1 => QL D P w (k v h1) rh1 H1 Q E) E := by
  cases r with
  | ok v h => exact fun rh' H' x e rp vr => ⟨rh', h, v, e, rp, vr, QL.ext (show QL D P w (k v h) rh H Q E from q) e⟩
  | exc C h => exact q
  | no => exact q
theorem q_b1I {r : R} {k : AV → Hh → RI} {Q : L2.It → Hp → Prop} (q : QI D P w (b1I r k) rh H Q E) : QE D P w r rh H (fun x H1 => Mid D P w rh H x H1 fun v h1 rh1 => QI D P w (k v h1) rh1 H1 Q E) E := by
  cases r with
  | ok v h => exact fun rh' H' x e rp vr => ⟨rh', h, v, e, rp, vr, QI.ext (show QI D P w (k v h) rh H Q E from q) e⟩
  | exc C h => exact q
  | no => exact q
def MidL (D : Dt) (P : Program) (w : World) (rh : Rh) (H : Hp) (x : List V) (H1 : Hp) (F : List AV → Hh → Rh → Prop) : Prop := ∃ rh1 h1 v, Ext rh H rh1 H1 ∧ Rep D P w rh1 h1 H1 ∧ VRs D rh1 v x ∧ F v h1 rh1
theorem q_bL {r : RL} {k : List AV → Hh → R} {Q : VK} (q : QE D P w (bL r k) rh H Q E) : QL D P w r rh H (fun x H1 => MidL D P w rh H x H1 fun v h1 rh1 => QE D P w (k v h1) rh1 H1 Q E) E := by
  cases r with
  | ok v h => exact fun rh' H' x e rp vr => ⟨rh', h, v, e, rp, vr, QE.ext (show QE D P w (k v h) rh H Q E from q) e⟩
  | exc C h => exact q
  | no => exact q
theorem q_bLL {r : RL} {k : List AV → Hh → RL} {Q : List V → Hp → Prop} (q : QL D P w (bLL r k) rh H Q E) : QL D P w r rh H (fun x H1 => MidL D P w rh H x H1 fun v h1 rh1 => QL D P w (k v h1) rh1 H1 Q E) E := by
  cases r with
  | ok v h => exact fun rh' H' x e rp vr => ⟨rh', h, v, e, rp, vr, QL.ext (show QL D P w (k v h) rh H Q E from q) e⟩
  | exc C h => exact q
  | no => exact q
def MidB (D : Dt) (P : Program) (w : World) (rh : Rh) (H : Hp) (H1 : Hp) (F : Hh → Rh → Prop) : Prop := ∃ rh1 h1, Ext rh H rh1 H1 ∧ Rep D P w rh1 h1 H1 ∧ F h1 rh1
theorem q_bB {r : RB} {k : Bool → Hh → RB} {Q : Bool → Hp → Prop} (q : QB D P w (bB r k) rh H Q E) : QB D P w r rh H (fun x H1 => MidB D P w rh H H1 fun h1 rh1 => QB D P w (k x h1) rh1 H1 Q E) E := by
  cases r with
  | ok v h => exact fun rh' H' e rp => ⟨rh', h, e, rp, QB.ext (show QB D P w (k v h) rh H Q E from q) e⟩
  | exc C h => exact q
  | no => exact q
theorem q_bBS {r : RB} {k : Bool → Hh → RS} {N : Ends} (q : QS D P w (bBS r k) rh H N E) : QB D P w r rh H (fun x H1 => MidB D P w rh H H1 fun h1 rh1 => QS D P w (k x h1) rh1 H1 N E) E := by
  cases r with
  | ok v h => exact fun rh' H' e rp => ⟨rh', h, e, rp, QS.ext (show QS D P w (k v h) rh H N E from q) e⟩
  | exc C h => exact q
  | no => exact q
theorem q_bBR {r : RB} {k : Bool → Hh → R} {Q : VK} (q : QE D P w (bBR r k) rh H Q E) : QB D P w r rh H (fun x H1 => MidB D P w rh H H1 fun h1 rh1 => QE D P w (k x h1) rh1 H1 Q E) E := by
  cases r with
  | ok v h => exact fun rh' H' e rp => ⟨rh', h, e, rp, QE.ext (show QE D P w (k v h) rh H Q E from q) e⟩
  | exc C h => exact q
  | no => exact q
def MidI (D : Dt) (P : Program) (w : World) (rh : Rh) (H : Hp) (J : L2.It) (H1 : Hp) (F : Ck.It → Hh → Rh → Prop) : Prop := ∃ rh1 h1 j, Ext rh H rh1 H1 ∧ Rep D P w rh1 h1 H1 ∧ IRel D P w rh1 j J ∧ F j h1 rh1
theorem q_bI {r : RI} {k : Ck.It → Hh → R} {Q : VK} (q : QE D P w (bI r k) rh H Q E) : QI D P w r rh H (fun J H1 => MidI D P w rh H J H1 fun j h1 rh1 => QE D P w (k j h1) rh1 H1 Q E) E := by
  cases r with
  | ok v h => exact fun rh' H' x e rp vr => ⟨rh', h, v, e, rp, vr, QE.ext (show QE D P w (k v h) rh H Q E from q) e⟩
  | exc C h => exact q
  | no => exact q
theorem q_bIS {r : RI} {k : Ck.It → Hh → RS} {N : Ends} (q : QS D P w (bIS r k) rh H N E) : QI D P w r rh H (fun J H1 => MidI D P w rh H J H1 fun j h1 rh1 => QS D P w (k j h1) rh1 H1 N E) E := by
  cases r with
  | ok v h => exact fun rh' H' x e rp vr => ⟨rh', h, v, e, rp, vr, QS.ext (show QS D P w (k v h) rh H N E from q) e⟩
  | exc C h => exact q
  | no => exact q
/-- a block's first statement: its ends but the first go on -/
theorem q_bS {r : RS} {k : Sg → Hh → RS} {N : Ends} (q : QS D P w (bS r k) rh H N E) :
    QS D P w r rh H { N with nx := fun σ1 H1 => ∃ rh1 h1 s, Ext rh H rh1 H1 ∧ Rep D P w rh1 h1 H1 ∧ SR D rh1 s σ1 ∧ QS D P w (k s h1) rh1 H1 N E } E := by
  cases r with
  | nx s h => exact fun rh' H' x e rp vr => ⟨rh', h, s, e, rp, vr, QS.ext (show QS D P w (k s h) rh H N E from q) e⟩
  | ret v h => exact q
  | exc C h => exact q
  | no => exact q
end
/-! ### soundness of a piece of code, in a context -/
section
variable (T : Nat → FC) (D : Dt) (X : Cx) (E : XK)
def SE (c : IE) (e : PySem.Expr) : Prop := ∀ (n : Nat) (s : Sg) (h : Hh) (σ : L2.St) (H : Hp) (rh : Rh) (Q : VK), SR D rh s σ → Rep D X.prog X.w rh h H → QE D X.prog X.w ((ev T n).e c s h) rh H Q E → wE X e σ H Q
def SL (c : List IE) (es : List PySem.Expr) : Prop := ∀ (n : Nat) (s : Sg) (h : Hh) (σ : L2.St) (H : Hp) (rh : Rh) (Q : List V → Hp → Prop), SR D rh s σ → Rep D X.prog X.w rh h H → QL D X.prog X.w ((ev T n).es c s h) rh H Q E → wA X es σ H Q
def ST (c : IT) (e : PySem.Expr) : Prop := ∀ (n : Nat) (s : Sg) (h : Hh) (σ : L2.St) (H : Hp) (rh : Rh) (Q : Bool → Hp → Prop), SR D rh s σ → Rep D X.prog X.w rh h H → QB D X.prog X.w ((ev T n).t c s h) rh H Q E → wT X e σ H Q
def SW (c : IT) (e : PySem.Expr) : Prop := ∀ (n : Nat) (s : Sg) (h : Hh) (σ : L2.St) (H : Hp) (rh : Rh) (Q : Bool → Hp → Prop), SR D rh s σ → Rep D X.prog X.w rh h H → QB D X.prog X.w ((ev T n).t c s h) rh H Q E → wW X e σ H Q
def SI (c : II) (tg iter : PySem.Expr) : Prop := ∀ (n : Nat) (s : Sg) (h : Hh) (σ : L2.St) (H : Hp) (rh : Rh) (Q : L2.It → Hp → Prop), SR D rh s σ → Rep D X.prog X.w rh h H → QI D X.prog X.w ((ev T n).i c s h) rh H Q E → wI X tg iter σ H Q
def SS (c : IS) (st : Stmt) : Prop := ∀ (n : Nat) (s : Sg) (h : Hh) (σ : L2.St) (H : Hp) (rh : Rh) (N : Ends), SR D rh s σ → Rep D X.prog X.w rh h H → QS D X.prog X.w ((ev T n).s c s h) rh H N E → wS X st N σ H
def SSs (c : List IS) (sts : List Stmt) : Prop := ∀ (n : Nat) (s : Sg) (h : Hh) (σ : L2.St) (H : Hp) (rh : Rh) (N : Ends), SR D rh s σ → Rep D X.prog X.w rh h H → QS D X.prog X.w ((ev T n).ss c s h) rh H N E → wSs X sts N σ H
end
/-- what the rules ask of a context -/
structure CxT (X : Cx) (E : XK) (k : Nat) : Prop where
  tk : Takes X fun c d _ H => E c d H
  hp : PassesOwn (model X.prog X.w) X.A X.env X.xe
  calm : X.calm = true
  nd : X.N.Nodup
  room : Room k X.A
end Ck
-- SD1
set_option Elab.async false
set_option linter.all false
set_option maxRecDepth 100000
set_option maxHeartbeats 4000000
set_option autoImplicit false
namespace Ck
open PySem PySem.Spec PyProof.Rows L2
/-! ### texts -/
theorem strOf_inj {a b : List Nat} (h : strOf a = strOf b) : a = b := by
  unfold strOf at h
  injection h with h
  have := congrArg Array.toList h
  simpa using this
theorem strOf_len (a : List Nat) : (strOf a).length = a.length := by
  show (a.toArray).size = _
  simp
theorem strOf_app (a b : List Nat) : strOf (a ++ b) = strOf a ++ strOf b := by
  show (⟨(a ++ b).toArray⟩ : Str) = ⟨a.toArray ++ b.toArray⟩
  simp
theorem tl_strOf (a : List Nat) : (strOf a).cps.toList = a := by simp [strOf]
theorem nonneg_iff {a : Int} : nonnegI a = true ↔ 0 ≤ a := by
  cases a with
  | ofNat n => simp [nonnegI]
  | negSucc n => simp only [nonnegI]; constructor <;> intro h <;> first | cases h | omega
theorem pos_iff {a : Int} : posI a = true ↔ 0 < a := by
  cases a with
  | ofNat n =>
    simp only [posI, nblt]
    constructor <;> intro h
    · exact Int.natCast_pos.mpr h
    · exact Int.natCast_pos.mp h
  | negSucc n => simp only [posI]; constructor <;> intro h <;> first | cases h | omega
theorem pos_f {a : Int} : posI a = false ↔ a ≤ 0 := by
  constructor
  · intro h
    by_cases z : 0 < a
    · rw [pos_iff.mpr z] at h; cases h
    · omega
  · intro h
    cases e : posI a with
    | false => rfl
    | true => have := pos_iff.mp e; omega
theorem zero_iff {a : Int} : zeroI a = true ↔ a = 0 := by
  cases a with
  | ofNat n =>
    simp only [zeroI, nbeq]
    constructor <;> intro h
    · rw [h]; rfl
    · exact Int.ofNat.inj h
  | negSucc n => simp only [zeroI]; constructor <;> intro h <;> cases h
theorem zero_f {a : Int} : zeroI a = false ↔ a ≠ 0 := by
  constructor
  · intro h z
    rw [zero_iff.mpr z] at h; cases h
  · intro h
    cases e : zeroI a with
    | false => rfl
    | true => exact absurd (zero_iff.mp e) h
theorem eqI_iff {a b : Int} : eqI a b = true ↔ a = b := by
  cases a with
  | ofNat n => cases b with
    | ofNat m => simp only [eqI, nbeq]; exact ⟨fun h => by rw [h], fun h => Int.ofNat.inj h⟩
    | negSucc m => simp [eqI]
  | negSucc n => cases b with
    | ofNat m => simp [eqI]
    | negSucc m => simp only [eqI, nbeq]; exact ⟨fun h => by rw [h], fun h => Int.negSucc.inj h⟩
/-! ### numbers with a letter -/
section
variable {D : Dt} (K : DtOk D)
include K
theorem mul_room {m : Int} : (0 ≤ m → m * 2 ≤ m * D.room ∧ m * D.room ≤ m * 1000000000) ∧ (m ≤ 0 → m * 1000000000 ≤ m * D.room ∧ m * D.room ≤ m * 2) := by
  refine ⟨fun h => ⟨Int.mul_le_mul_of_nonneg_left K.lo h, Int.mul_le_mul_of_nonneg_left K.hi h⟩, fun h => ⟨?_, ?_⟩⟩
  · have := Int.mul_le_mul_of_nonneg_left K.hi (show 0 ≤ -m by omega)
    rw [Int.neg_mul, Int.neg_mul] at this
    omega
  · have := Int.mul_le_mul_of_nonneg_left K.lo (show 0 ≤ -m by omega)
    rw [Int.neg_mul, Int.neg_mul] at this
    omega
theorem posC_ok {c m : Int} {b : Bool} (h : posC c m = some b) : b = decide (0 < c + m * D.room) := by
  unfold posC at h
  cases z : zeroI m with
  | true =>
    rw [z] at h
    have e := zero_iff.mp z
    subst e
    have h := Option.some.inj h
    rw [← h, Int.zero_mul, Int.add_zero]
    cases q : posI c with
    | true => exact (decide_eq_true (pos_iff.mp q)).symm
    | false => exact (decide_eq_false (by have := pos_f.mp q; omega)).symm
  | false =>
    rw [z] at h
    have h : sgnP (c + m * roomMin) (c + m * roomMax) = some b := h
    have e1 : roomMin = 2 := rfl
    have e2 : roomMax = 1000000000 := rfl
    rw [e1, e2] at h
    obtain ⟨k1, k2⟩ := mul_room K (m := m)
    unfold sgnP at h
    cases q1 : posI (c + m * 2) with
    | true =>
      rw [q1] at h
      cases q2 : posI (c + m * 1000000000) with
      | true =>
        rw [q2] at h
        have h := Option.some.inj h
        rw [← h]
        have p1 := pos_iff.mp q1
        have p2 := pos_iff.mp q2
        refine (decide_eq_true ?_).symm
        by_cases s : 0 ≤ m
        · have := k1 s; omega
        · have := k2 (by omega); omega
      | false => rw [q2] at h; cases h
    | false =>
      rw [q1] at h
      cases q2 : posI (c + m * 1000000000) with
      | true => rw [q2] at h; cases h
      | false =>
        rw [q2] at h
        have h := Option.some.inj h
        rw [← h]
        have p1 := pos_f.mp q1
        have p2 := pos_f.mp q2
        refine (decide_eq_false ?_).symm
        by_cases s : 0 ≤ m
        · have := k1 s; omega
        · have := k2 (by omega); omega
theorem zeroC_ok {c m : Int} {b : Bool} (h : zeroC c m = some b) : b = decide (c + m * D.room = 0) := by
  unfold zeroC at h
  cases z : zeroI m with
  | true =>
    rw [z] at h
    have e := zero_iff.mp z
    subst e
    have h := Option.some.inj h
    rw [← h, Int.zero_mul, Int.add_zero]
    cases q : zeroI c with
    | true => exact (decide_eq_true (zero_iff.mp q)).symm
    | false => exact (decide_eq_false (zero_f.mp q)).symm
  | false =>
    rw [z] at h
    cases q : posC c m with
    | none => rw [q] at h; cases h
    | some a =>
      rw [q] at h
      have e := posC_ok K q
      cases a with
      | true =>
        have h := Option.some.inj h
        rw [← h]
        have := of_decide_eq_true e.symm
        exact (decide_eq_false (by omega)).symm
      | false =>
        cases q2 : posC (-c) (-m) with
        | none => rw [q2] at h; cases h
        | some a2 =>
          rw [q2] at h
          have e2 := posC_ok K q2
          cases a2 with
          | true =>
            have h := Option.some.inj h
            rw [← h]
            have := of_decide_eq_true e2.symm
            rw [Int.neg_mul] at this
            exact (decide_eq_false (by omega)).symm
          | false => cases h
end
/-! ### the signs of numbers -/
theorem numC_nat (n : Nat) : numC (n : Int) = TL.numL n := TL.tl_num n
theorem numC_neg (n : Nat) : numC (Int.negSucc n) = 45 :: TL.numL (n + 1) := by
  have e : toString (Int.negSucc n) = "-" ++ toString (n + 1) := rfl
  unfold numC
  rw [e, Str.ofString_eq_toList]
  have h1 := numC_nat (n + 1)
  unfold numC at h1
  have e2 : toString ((n + 1 : Nat) : Int) = toString (n + 1) := rfl
  rw [e2, Str.ofString_eq_toList] at h1
  simp only [List.toList_toArray] at h1 ⊢
  rw [String.toList_append, List.map_append, h1]
  rfl
theorem numC_signs (i : Int) : ∀ c ∈ numC i, isDig c = true ∨ c = 45 := by
  intro c hc
  cases i with
  | ofNat n =>
    have hc : c ∈ numC (n : Int) := hc
    rw [numC_nat] at hc
    have := TL.numL_digits n c hc
    exact .inl (by unfold isDig; rw [Bool.and_eq_true, nble, nble]; exact this)
  | negSucc n =>
    rw [numC_neg] at hc
    rcases List.mem_cons.mp hc with h | h
    · exact .inr h
    · have := TL.numL_digits (n + 1) c h
      exact .inl (by unfold isDig; rw [Bool.and_eq_true, nble, nble]; exact this)
theorem numC_ne (i : Int) : numC i ≠ [] := by
  cases i with
  | ofNat n => intro h; exact TL.numL_ne n ((numC_nat n).symm.trans h)
  | negSucc n => rw [numC_neg]; simp
theorem numC_len {i : Int} (h : i.natAbs < 10 ^ 30) : (numC i).length ≤ 32 := by
  cases i with
  | ofNat n =>
    have e : numC (Int.ofNat n) = TL.numL n := numC_nat n
    rw [e]
    have := TL.numL_len (n := n) (k := 30) (by decide) (by simpa using h)
    omega
  | negSucc n =>
    rw [numC_neg]
    have := TL.numL_len (n := n + 1) (k := 30) (by decide) (by simpa [Int.natAbs] using h)
    simp only [List.length_cons]
    omega
section
variable {D : Dt}
theorem sC_nil : sC D [] = [] := rfl
theorem sC_cons (p : Pc) (s : List Pc) : sC D (p :: s) = pcC D p ++ sC D s := by simp [sC]
theorem sC_cat (s t : List Pc) : sC D (catL s t) = sC D s ++ sC D t := by rw [catL_eq]; simp [sC]
theorem sC_lit (cs : List Nat) : sC D (litS cs) = cs := by
  induction cs with
  | nil => rfl
  | cons c cs ih => show sC D (.l c :: litS cs) = _; rw [sC_cons, ih]; rfl
theorem sV_cat (s t : List Pc) : sV D (catL s t) = sV D s ++ sV D t := by unfold sV; rw [sC_cat, strOf_app]
theorem sV_lit (cs : List Nat) : sV D (litS cs) = strOf cs := by unfold sV; rw [sC_lit]
theorem sC_lits : ∀ {s : List Pc} {cs : List Nat}, lits s = some cs → sC D s = cs
  | [], cs, h => by cases h; rfl
  | .l c :: s, cs, h => by
    unfold lits at h
    cases e : lits s with
    | none => rw [e] at h; cases h
    | some r =>
      rw [e] at h
      cases h
      rw [sC_cons, sC_lits e]
      rfl
  | .nm _ :: _, _, h => by cases h
  | .num _ _ :: _, _, h => by cases h
  | .hd _ _ :: _, _, h => by cases h
variable (K : DtOk D)
include K
theorem okNum_len {c m : Int} (h : okNum c m = true) : (numC (c + m * D.room)).length ≤ 32 := by
  unfold okNum at h
  simp only [Bool.and_eq_true, nonneg_iff] at h
  obtain ⟨⟨h1, h2⟩, h3, h4⟩ := h
  have e : bigI = 1000000000000 := rfl
  rw [e] at h1 h2
  refine numC_len ?_
  obtain ⟨k1, k2⟩ := mul_room K (m := m)
  have : (10 : Nat) ^ 30 = 1000000000000000000000000000000 := by decide
  rw [this]
  by_cases s : 0 ≤ m
  · have := k1 s; omega
  · have := k2 (by omega); omega
theorem pc_ne (p : Pc) : pcC D p ≠ [] := by
  cases p with
  | l c => simp [pcC]
  | nm k => intro h; have := K.one k; rw [show D.nmS k = [] from h] at this; simp at this
  | num c m => exact numC_ne _
  | hd c m =>
    intro h
    have : (numC (c + m * D.room)).take 1 = [] := h
    cases e : numC (c + m * D.room) with
    | nil => exact numC_ne _ e
    | cons a b => rw [e] at this; simp at this
theorem bnd_ok : ∀ s : List Pc, (sC D s).length ≤ bndS s ∨ 1000000 ≤ bndS s
  | [] => .inl (Nat.le_refl _)
  | .l c :: s => by
    rw [sC_cons, List.length_append]
    rcases bnd_ok s with h | h
    · exact .inl (by show 1 + _ ≤ bndS s + 1; omega)
    · exact .inr (by show _ ≤ bndS s + 1; omega)
  | .nm k :: s => by
    rw [sC_cons, List.length_append]
    have hk := K.len k
    rcases bnd_ok s with h | h
    · exact .inl (by show (D.nmS k).length + _ ≤ bndS s + 12; omega)
    · exact .inr (by show _ ≤ bndS s + 12; omega)
  | .num c m :: s => by
    rw [sC_cons, List.length_append]
    unfold bndS
    cases e : okNum c m with
    | true =>
      have hk := okNum_len K e
      rcases bnd_ok s with h | h
      · exact .inl (by show (numC _).length + _ ≤ bndS s + 32; omega)
      · exact .inr (by show _ ≤ bndS s + 32; omega)
    | false => exact .inr (by show _ ≤ bndS s + 1000000; omega)
  | .hd c m :: s => by
    rw [sC_cons, List.length_append]
    have hk : (pcC D (.hd c m)).length ≤ 1 := by show ((numC _).take 1).length ≤ 1; rw [List.length_take]; omega
    rcases bnd_ok s with h | h
    · exact .inl (by show _ ≤ bndS s + 1; omega)
    · exact .inr (by show _ ≤ bndS s + 1; omega)
theorem bnd_le {s : List Pc} (h : Nat.ble (bndS s) most = true) : (sV D s).length ≤ 100000 := by
  have := nble.mp h
  have e : most = 100000 := rfl
  unfold sV
  rw [strOf_len]
  rcases bnd_ok K s with z | z <;> omega
/-- signs that no name is -/
theorem noName_ok {cs : List Nat} (h : noName cs = true) (k : Nat) : cs ≠ D.nmS k := by
  rintro rfl
  unfold noName at h
  simp only [Bool.or_eq_true, Bool.not_eq_true', allB_eq, lenN_eq, nblt, eqN_eq] at h
  rcases h with ((h | h) | h) | h
  · have : (D.nmS k).all isLow = true := List.all_eq_true.mpr (K.low k)
    rw [this] at h; cases h
  · exact K.sea k h
  · have := K.one k; rw [h] at this; simp at this
  · have := K.len k; omega
theorem nm_head (k : Nat) : ∃ a r, D.nmS k = a :: r ∧ isLow a = true := by
  cases e : D.nmS k with
  | nil => have := K.one k; rw [e] at this; simp at this
  | cons a r => exact ⟨a, r, rfl, K.low k a (by rw [e]; simp)⟩
theorem hd_sign (c m : Int) : ∃ a, pcC D (.hd c m) = [a] ∧ (isDig a = true ∨ a = 45) := by
  cases e : numC (c + m * D.room) with
  | nil => exact absurd e (numC_ne _)
  | cons a r => exact ⟨a, by show (numC _).take 1 = _; rw [e]; rfl, numC_signs _ a (by rw [e]; simp)⟩
theorem litNm_ok {a k : Nat} {s t : List Pc} {b : Bool} (h : litNm (.l a :: s) t = some b) : b = decide (sC D (.l a :: s) = sC D (.nm k :: t)) := by
  unfold litNm at h
  cases t with
  | cons _ _ => cases h
  | nil =>
    cases e : lits (.l a :: s) with
    | none => rw [e] at h; cases h
    | some cs =>
      rw [e] at h
      dsimp only at h
      cases q : noName cs with
      | false => rw [q] at h; cases h
      | true =>
        rw [q] at h
        have h := Option.some.inj h
        rw [← h, sC_lits e, sC_cons, sC_nil, List.append_nil]
        exact (decide_eq_false (noName_ok K q k)).symm
theorem dec_app {p q s t : List Nat} (h : p = q) : decide (p ++ s = q ++ t) = decide (s = t) := by
  subst h
  by_cases z : s = t
  · rw [decide_eq_true z, decide_eq_true (by rw [z])]
  · rw [decide_eq_false z, decide_eq_false (fun y => z (List.append_cancel_left y))]
theorem eqS_ok : ∀ (s t : List Pc) {b : Bool}, eqS s t = some b → b = decide (sC D s = sC D t)
  | [], [], b, h => by
    have h := Option.some.inj h
    rw [← h]; simp
  | [], p :: t, b, h => by
    have h := Option.some.inj h
    rw [← h]
    refine (decide_eq_false fun z => ?_).symm
    rw [sC_cons] at z
    exact pc_ne K p (List.append_eq_nil_iff.mp z.symm).1
  | p :: s, [], b, h => by
    cases p <;> (
      have h := Option.some.inj h
      rw [← h]
      refine (decide_eq_false fun z => ?_).symm
      rw [sC_cons] at z
      exact pc_ne K _ (List.append_eq_nil_iff.mp z).1)
  | .l a :: s, .l c :: t, b, h => by
    unfold eqS at h
    rw [sC_cons, sC_cons]
    cases e : Nat.beq a c with
    | true =>
      rw [e] at h
      rw [eqS_ok s t h, dec_app K (by rw [nbeq.mp e])]
    | false =>
      rw [e] at h
      have h := Option.some.inj h
      rw [← h]
      refine (decide_eq_false fun z => nbeq_f.mp e ?_).symm
      exact (List.cons.inj (show a :: sC D s = c :: sC D t from z)).1
  | .nm i :: s, .nm j :: t, b, h => by
    unfold eqS at h
    cases e : Nat.beq i j with
    | true =>
      rw [e] at h
      rw [sC_cons, sC_cons, eqS_ok s t h, dec_app K (by rw [nbeq.mp e])]
    | false =>
      rw [e] at h
      cases q : endsS s t && (Nat.blt i 18 && Nat.blt j 18) with
      | false => rw [q] at h; cases h
      | true =>
        rw [q] at h
        have h := Option.some.inj h
        rw [← h]
        simp only [Bool.and_eq_true, nblt] at q
        obtain ⟨q1, q2, q3⟩ := q
        have es : s = [] ∧ t = [] := by
          cases s with
          | nil => cases t with
            | nil => exact ⟨rfl, rfl⟩
            | cons _ _ => cases q1
          | cons _ _ => cases q1
        obtain ⟨rfl, rfl⟩ := es
        rw [sC_cons, sC_cons, sC_nil, List.append_nil, List.append_nil]
        exact (decide_eq_false fun z => nbeq_f.mp e (K.inj i j q2 q3 z)).symm
  | .num c m :: s, .num d k :: t, b, h => by
    unfold eqS at h
    cases e : eqI c d && eqI m k with
    | true =>
      rw [e] at h
      simp only [Bool.and_eq_true, eqI_iff] at e
      obtain ⟨rfl, rfl⟩ := e
      rw [sC_cons, sC_cons, eqS_ok s t h, dec_app K rfl]
    | false => rw [e] at h; cases h
  | .l a :: s, .nm k :: t, b, h => by
    unfold eqS at h
    cases e : isLow a with
    | true =>
      rw [e] at h
      exact litNm_ok K h
    | false =>
      rw [e] at h
      have h := Option.some.inj h
      rw [← h]
      refine (decide_eq_false fun z => ?_).symm
      obtain ⟨x, r, e1, e2⟩ := nm_head K k
      rw [sC_cons, sC_cons] at z
      have z : a :: sC D s = D.nmS k ++ sC D t := z
      rw [e1] at z
      rw [(List.cons.inj z).1, e2] at e
      cases e
  | .nm k :: t, .l a :: s, b, h => by
    unfold eqS at h
    cases e : isLow a with
    | true =>
      rw [e] at h
      rw [litNm_ok K (k := k) h]
      by_cases z : sC D (.l a :: s) = sC D (.nm k :: t)
      · rw [decide_eq_true z, decide_eq_true z.symm]
      · rw [decide_eq_false z, decide_eq_false fun y => z y.symm]
    | false =>
      rw [e] at h
      have h := Option.some.inj h
      rw [← h]
      refine (decide_eq_false fun z => ?_).symm
      obtain ⟨x, r, e1, e2⟩ := nm_head K k
      rw [sC_cons, sC_cons] at z
      have z : D.nmS k ++ sC D t = a :: sC D s := z
      rw [e1] at z
      rw [← (List.cons.inj z).1, e2] at e
      cases e
  | .l a :: s, .hd c m :: t, b, h => by
    unfold eqS at h
    cases e : isDig a || Nat.beq a 45 with
    | true => rw [e] at h; cases h
    | false =>
      rw [e] at h
      have h := Option.some.inj h
      rw [← h]
      refine (decide_eq_false fun z => ?_).symm
      obtain ⟨x, e1, e2⟩ := hd_sign K c m
      rw [sC_cons, sC_cons, e1] at z
      have z : a :: sC D s = x :: sC D t := z
      rw [← (List.cons.inj z).1] at e2
      simp only [Bool.or_eq_false_iff] at e
      rcases e2 with e2 | e2
      · rw [e2] at e; cases e.1
      · exact nbeq_f.mp e.2 e2
  | .hd c m :: t, .l a :: s, b, h => by
    unfold eqS at h
    cases e : isDig a || Nat.beq a 45 with
    | true => rw [e] at h; cases h
    | false =>
      rw [e] at h
      have h := Option.some.inj h
      rw [← h]
      refine (decide_eq_false fun z => ?_).symm
      obtain ⟨x, e1, e2⟩ := hd_sign K c m
      rw [sC_cons, sC_cons, e1] at z
      have z : x :: sC D t = a :: sC D s := z
      rw [(List.cons.inj z).1] at e2
      simp only [Bool.or_eq_false_iff] at e
      rcases e2 with e2 | e2
      · rw [e2] at e; cases e.1
      · exact nbeq_f.mp e.2 e2
  | .l _ :: _, .num _ _ :: _, _, h => by cases h
  | .nm _ :: _, .num _ _ :: _, _, h => by cases h
  | .nm _ :: _, .hd _ _ :: _, _, h => by cases h
  | .num _ _ :: _, .l _ :: _, _, h => by cases h
  | .num _ _ :: _, .nm _ :: _, _, h => by cases h
  | .num _ _ :: _, .hd _ _ :: _, _, h => by cases h
  | .hd _ _ :: _, .nm _ :: _, _, h => by cases h
  | .hd _ _ :: _, .num _ _ :: _, _, h => by cases h
  | .hd _ _ :: _, .hd _ _ :: _, _, h => by cases h
end
theorem dec_strOf (a b : List Nat) : decide (strOf a = strOf b) = decide (a = b) := by
  by_cases z : a = b
  · rw [decide_eq_true z, decide_eq_true (by rw [z])]
  · rw [decide_eq_false z, decide_eq_false fun y => z (strOf_inj y)]
end Ck
-- SD2
set_option Elab.async false
set_option linter.all false
set_option maxRecDepth 100000
set_option maxHeartbeats 4000000
set_option autoImplicit false
namespace Ck
open PySem PySem.Spec PyProof.Rows L2
/-! ### parted, joined -/
theorem joinL_pre (y x a : List Nat) (r : List (List Nat)) : TL.joinL y ((x ++ a) :: r) = x ++ TL.joinL y (a :: r) := by
  cases r with
  | nil => rfl
  | cons b r => show (x ++ a) ++ (y ++ TL.joinL y (b :: r)) = x ++ (a ++ (y ++ TL.joinL y (b :: r))); rw [List.append_assoc]
theorem joinL_two (y a b : List Nat) (r : List (List Nat)) : TL.joinL y (a :: b :: r) = a ++ (y ++ TL.joinL y (b :: r)) := rfl
section
variable {D : Dt} (K : DtOk D)
include K
theorem sep_out {c : Nat} (h : plainSep c = true) {p : Pc} (n : isSep c p = false) : c ∉ pcC D p := by
  unfold plainSep at h
  simp only [Bool.and_eq_true, Bool.not_eq_true'] at h
  obtain ⟨h1, h2, h3⟩ := h
  have num : ∀ i : Int, c ∉ numC i := fun i z => by
    rcases numC_signs i c z with q | q
    · rw [q] at h2; cases h2
    · exact nbeq_f.mp h3 q
  cases p with
  | l d =>
    intro z
    have e : c = d := by simpa [pcC] using z
    have n : Nat.beq c d = false := n
    exact nbeq_f.mp n e
  | nm k =>
    intro z
    have := K.low k c z
    rw [this] at h1; cases h1
  | num a b => exact num _
  | hd a b => exact fun z => num _ (List.mem_of_mem_take z)
theorem spl_ok {c : Nat} (h : plainSep c = true) : ∀ s : List Pc, TL.joinL [c] (((spl c s).1 :: (spl c s).2).map (sC D)) = sC D s ∧ ∀ x ∈ (spl c s).1 :: (spl c s).2, c ∉ sC D x
  | [] => ⟨rfl, fun x hx => by
    have : x = [] := by simpa [spl] using hx
    rw [this]; simp [sC]⟩
  | p :: s => by
    obtain ⟨i1, i2⟩ := spl_ok h s
    unfold spl
    cases e : isSep c p with
    | true =>
      dsimp only
      have ep : p = .l c := by
        cases p with
        | l d => rw [nbeq.mp (show Nat.beq c d = true from e)]
        | nm k => cases e
        | num a b => cases e
        | hd a b => cases e
      refine ⟨?_, fun x hx => ?_⟩
      · rw [List.map_cons, List.map_cons, joinL_two, ← List.map_cons, i1, ep, sC_cons]
        rfl
      · rcases List.mem_cons.mp hx with z | z
        · rw [z]; simp [sC]
        · exact i2 x z
    | false =>
      dsimp only
      refine ⟨?_, fun x hx => ?_⟩
      · rw [List.map_cons, sC_cons, joinL_pre, ← List.map_cons, i1, sC_cons]
      · rcases List.mem_cons.mp hx with z | z
        · rw [z, sC_cons]
          intro y
          rcases List.mem_append.mp y with y | y
          · exact sep_out K h e y
          · exact i2 _ (List.mem_cons_self) y
        · exact i2 x (List.mem_cons_of_mem _ z)
theorem split_ok {c : Nat} (h : plainSep c = true) (hc : c < 256) (s : List Pc) : Txt.split (sV D s) (strOf [c]) = ((spl c s).1 :: (spl c s).2).map (sV D) := by
  obtain ⟨i1, i2⟩ := spl_ok K h s
  have e : sV D s = Txt.join (strOf [c]) (((spl c s).1 :: (spl c s).2).map (sV D)) := by
    refine TL.ext_tl ?_
    rw [TL.join_eq, TL.tl_join, List.map_map]
    show sC D s = TL.joinL [c] (((spl c s).1 :: (spl c s).2).map (fun x => sC D x))
    exact i1.symm
  rw [e]
  refine TL.split_join (s := c) (S := []) rfl (by simp [strOf, hc]) (by simp) fun p hp => ?_
  obtain ⟨x, hx, rfl⟩ := List.mem_map.mp hp
  exact i2 x hx
end
theorem strAll_vals {D : Dt} {rh : Rh} : ∀ xs : List (List Pc), VRs D rh (strAll xs) ((xs.map (sV D)).map V.str)
  | [] => .nil
  | x :: xs => .cons rfl (strAll_vals xs)
/-- joined -/
theorem joinL_ok {D : Dt} {rh : Rh} {sep : List Nat} : ∀ {xs : List AV} {vs : List V} {t : List Pc}, Ck.joinL (litS sep) xs = some t → VRs D rh xs vs → ∃ ys : List Str, vs = ys.map V.str ∧ sV D t = Txt.join (strOf sep) ys ∧ (sC D t).length + (if ys = [] then 0 else sep.length) = (ys.map (·.length)).sum + ys.length * sep.length
  | [], _, t, h, .nil => by
    cases h
    exact ⟨[], rfl, by rw [TL.join_eq]; rfl, by simp [sC]⟩
  | .str s :: [], _, t, h, .cons r .nil => by
    cases h
    have r : _ = V.str (sV D s) := r
    subst r
    refine ⟨[sV D s], rfl, by rw [TL.join_eq]; rfl, ?_⟩
    simp [sV, strOf_len]
  | .str s :: y :: xs, _, t, h, .cons r rr => by
    unfold Ck.joinL at h
    dsimp only at h
    cases e : Ck.joinL (litS sep) (y :: xs) with
    | none => rw [e] at h; cases h
    | some u =>
      rw [e] at h
      cases h
      obtain ⟨ys, h1, h2, h3⟩ := joinL_ok e rr
      have r : _ = V.str (sV D s) := r
      subst r
      have hne : ys ≠ [] := by
        rintro rfl
        cases rr
        cases h1
      obtain ⟨z, zs, rfl⟩ : ∃ z zs, ys = z :: zs := by
        cases ys with
        | nil => exact absurd rfl hne
        | cons z zs => exact ⟨z, zs, rfl⟩
      refine ⟨sV D s :: z :: zs, by rw [h1]; rfl, ?_, ?_⟩
      · rw [sV_cat, sV_cat, sV_lit, h2, TL.join_eq, TL.join_eq]
        refine TL.ext_tl ?_
        rw [TL.tl_append, TL.tl_append, TL.tl_join, TL.tl_join]
        rfl
      · rw [sC_cat, sC_cat, sC_lit, if_neg (List.cons_ne_nil _ _)]
        rw [if_neg hne] at h3
        simp only [List.length_append, List.map_cons, List.sum_cons, List.length_cons, sV, strOf_len] at h3 ⊢
        rw [Nat.add_mul (zs.length + 1)]
        omega
  | .non :: _, _, _, h, _ => by cases h
  | .bl _ :: _, _, _, h, _ => by cases h
  | .int _ _ :: _, _, _, h, _ => by cases h
  | .ref _ :: _, _, _, h, _ => by cases h
/-! ### parts of a text -/
theorem takeS_ok {D : Dt} : ∀ (k : Nat) {s t : List Pc}, takeS k s = some t → sC D t = (sC D s).take k
  | 0, s, t, h => by cases h; simp [sC]
  | k + 1, [], t, h => by cases h; simp [sC]
  | k + 1, .l c :: s, t, h => by
    unfold takeS at h
    dsimp only at h
    cases e : takeS k s with
    | none => rw [e] at h; cases h
    | some r =>
      rw [e] at h
      cases h
      rw [sC_cons, sC_cons, takeS_ok k e]
      rfl
  | k + 1, .num c m :: s, t, h => by
    unfold takeS at h
    dsimp only at h
    cases e : Nat.beq k 0 with
    | false => rw [e] at h; cases h
    | true =>
      rw [e] at h
      cases h
      have := nbeq.mp e
      subst this
      rw [sC_cons, sC_cons, sC_nil, List.append_nil]
      show (numC _).take 1 = (numC _ ++ _).take 1
      cases q : numC (c + m * D.room) with
      | nil => exact absurd q (numC_ne _)
      | cons a b => rfl
  | k + 1, .nm _ :: _, _, h => by cases h
  | k + 1, .hd _ _ :: _, _, h => by cases h
theorem dropS_ok {D : Dt} : ∀ (k : Nat) {s t : List Pc}, dropS k s = some t → sC D t = (sC D s).drop k
  | 0, s, t, h => by cases h; rfl
  | k + 1, [], t, h => by cases h; simp [sC]
  | k + 1, .l c :: s, t, h => by
    unfold dropS at h
    rw [sC_cons, dropS_ok k h]
    rfl
  | k + 1, .num c m :: s, t, h => by cases h
  | k + 1, .nm _ :: _, _, h => by cases h
  | k + 1, .hd _ _ :: _, _, h => by cases h
theorem cutS_take (z : Str) (k : Nat) : cutS z none (some (k : Int)) = strOf (z.cps.toList.take k) := by
  unfold cutS strOf
  rw [HT.sIx_none, HT.sIx_nat, List.drop_zero, Nat.sub_zero]
  congr 2
  have e : z.length = z.cps.toList.length := by simp [Str.length]
  rw [e, ← List.take_eq_take_min]
theorem cutS_drop (z : Str) (k : Nat) : cutS z (some (k : Int)) none = strOf (z.cps.toList.drop k) := by
  unfold cutS strOf
  rw [HT.sIx_none, HT.sIx_nat]
  congr 1
  have e : z.length = z.cps.toList.length := by simp [Str.length]
  rw [e]
  by_cases h : k ≤ z.cps.toList.length
  · rw [Nat.min_eq_left h, List.take_of_length_le (by rw [List.length_drop]; omega)]
  · rw [Nat.min_eq_right (by omega), List.drop_length, List.drop_eq_nil_of_le (by omega)]
    simp
/-! ### digits -/
theorem digs_ok : ∀ (cs : List Nat) (a : Nat) {r : Nat}, digs cs a = some r → r = cs.foldl (fun acc c => acc * 10 + (c - 48)) a
  | [], a, r, h => by cases h; rfl
  | c :: cs, a, r, h => by
    unfold digs at h
    cases e : isDig c with
    | false => rw [e] at h; cases h
    | true =>
      rw [e] at h
      exact digs_ok cs _ h
theorem digs_some : ∀ (cs : List Nat) (a : Nat), cs.all isDig = true → ∃ r, digs cs a = some r
  | [], a, _ => ⟨a, rfl⟩
  | c :: cs, a, h => by
    rw [List.all_cons, Bool.and_eq_true] at h
    unfold digs
    rw [h.1]
    exact digs_some cs _ h.2
theorem allDig {cs : List Nat} (h : cs.all isDig = true) : NumText.AllDigits cs := fun c hc => by
  have := List.all_eq_true.mp h c hc
  unfold isDig at this
  rw [Bool.and_eq_true, nble, nble] at this
  exact this
theorem int_lit {cs : List Nat} {n : Nat} (h1 : cs.all isDig = true) (h2 : 1 ≤ cs.length) (h3 : cs.length ≤ 640) (h : digs cs 0 = some n) : intText? (strOf cs) = some (n : Int) := by
  have e := intText_digits (x := strOf cs) (by rw [tl_strOf]; exact allDig h1) (by rw [tl_strOf]; intro z; rw [z] at h2; simp at h2) (by rw [strOf_len]; omega)
  rw [tl_strOf] at e
  rw [e, digs_ok cs 0 h]
  rfl
/-- a number's signs begin with no nought but for the nought itself -/
theorem numL_head (n : Nat) (h : 10 ≤ n) : ∃ a r, TL.numL n = a :: r ∧ a ≠ 48 := by
  induction n using Nat.strongRecOn with
  | _ n ih =>
    rw [TL.numL_step h]
    by_cases z : n / 10 < 10
    · rw [TL.numL_lt z]
      exact ⟨48 + n / 10, [48 + n % 10], rfl, by omega⟩
    · obtain ⟨a, r, e, q⟩ := ih (n / 10) (by omega) (by omega)
      rw [e]
      exact ⟨a, r ++ [48 + n % 10], rfl, q⟩
theorem numLit_num {i : Int} (h0 : 0 ≤ i) (h1 : i < 1000000000000) : ∃ n : Nat, numLit (numC i) = some n ∧ (n : Int) = i := by
  obtain ⟨n, rfl⟩ := Int.eq_ofNat_of_zero_le h0
  refine ⟨n, ?_, rfl⟩
  rw [numC_nat]
  have hd : (TL.numL n).all isDig = true := List.all_eq_true.mpr fun c hc => by
    have := TL.numL_digits n c hc
    unfold isDig
    rw [Bool.and_eq_true, nble, nble]
    exact this
  have hl : (TL.numL n).length ≤ 12 := TL.numL_len (by decide) (by
    have : (10 : Nat) ^ 12 = 1000000000000 := by decide
    omega)
  have hp : 1 ≤ (TL.numL n).length := by
    cases e : TL.numL n with
    | nil => exact absurd e (TL.numL_ne n)
    | cons a r => simp
  obtain ⟨m, hm⟩ := digs_some (TL.numL n) 0 hd
  have hv : m = n := by
    rw [digs_ok _ _ hm]
    exact TL.numL_val n
  subst hv
  unfold numLit
  rw [allB_eq, lenN_eq, hd, nble.mpr hp, nble.mpr hl]
  show (match TL.numL m with
    | 48 :: _ :: _ => none
    | _ => digs (TL.numL m) 0) = some m
  by_cases z : m < 10
  · rw [TL.numL_lt z] at hm ⊢
    split
    · rename_i x y q2
      injection q2 with _ q3
      cases q3
    · exact hm
  · obtain ⟨a, r, e, q⟩ := numL_head m (by omega)
    rw [e] at hm ⊢
    split
    · rename_i x y q2
      injection q2 with q3 _
      exact absurd q3 q
    · exact hm
theorem nameLit_nm {D : Dt} (K : DtOk D) (k : Nat) : nameLit (D.nmS k) = true := by
  unfold nameLit
  rw [allB_eq, lenN_eq, List.all_eq_true.mpr (K.low k), nble.mpr (K.one k), nble.mpr (K.len k)]
  rfl
/-! ### texts none like another -/
theorem inA_ok {D : Dt} (K : DtOk D) {rh : Rh} {s : List Pc} : ∀ {xs : List AV} {vs : List V}, apart.inA s xs = some false → VRs D rh xs vs → ∃ ys : List Str, vs = ys.map V.str ∧ sV D s ∉ ys
  | [], _, _, .nil => ⟨[], rfl, by simp⟩
  | .str t :: xs, _, h, .cons r rr => by
    unfold apart.inA at h
    cases e : eqS s t with
    | none => rw [e] at h; cases h
    | some b =>
      rw [e] at h
      cases b with
      | true => cases h
      | false =>
        obtain ⟨ys, h1, h2⟩ := inA_ok K h rr
        have r : _ = V.str (sV D t) := r
        subst r
        refine ⟨sV D t :: ys, by rw [h1]; rfl, fun z => ?_⟩
        rcases List.mem_cons.mp z with z | z
        · have q := eqS_ok K s t e
          exact of_decide_eq_false q.symm (strOf_inj z)
        · exact h2 z
  | .non :: _, _, h, _ => by cases h
  | .bl _ :: _, _, h, _ => by cases h
  | .int _ _ :: _, _, h, _ => by cases h
  | .ref _ :: _, _, h, _ => by cases h
theorem apart_ok {D : Dt} (K : DtOk D) {rh : Rh} : ∀ {xs : List AV} {vs : List V}, apart xs = some true → VRs D rh xs vs → ∃ ys : List Str, vs = ys.map V.str ∧ ys.Nodup
  | [], _, _, .nil => ⟨[], rfl, by simp⟩
  | .str s :: xs, _, h, .cons r rr => by
    unfold apart at h
    cases e : apart.inA s xs with
    | none => rw [e] at h; cases h
    | some b =>
      rw [e] at h
      cases b with
      | true => cases h
      | false =>
        obtain ⟨ys, h1, h2⟩ := apart_ok K h rr
        obtain ⟨zs, h3, h4⟩ := inA_ok K e rr
        have r : _ = V.str (sV D s) := r
        subst r
        have ez : zs = ys := by
          rw [h1] at h3
          exact (List.map_inj_right (fun _ _ q => by injection q)).mp h3.symm
        subst ez
        exact ⟨sV D s :: zs, by rw [h1]; rfl, List.nodup_cons.mpr ⟨h4, h2⟩⟩
  | .non :: _, _, h, _ => by cases h
  | .bl _ :: _, _, h, _ => by cases h
  | .int _ _ :: _, _, h, _ => by cases h
  | .ref _ :: _, _, h, _ => by cases h
end Ck
-- SD3
set_option Elab.async false
set_option linter.all false
set_option maxRecDepth 100000
set_option maxHeartbeats 4000000
set_option autoImplicit false
namespace Ck
open PySem PySem.Spec PyProof.Rows L2
theorem mostLine {n : Nat} (h : n ≤ 200000) : n ≤ sizeLine := by rw [sizeLine_eq]; omega
theorem small_le {α : Type} {xs : List α} (h : small xs = true) : xs.length ≤ 100000 := by
  unfold small at h
  rw [nble, lenN_eq] at h
  exact h
section
variable {T : Nat → FC} {D : Dt} {X : Cx} {E : XK} {k : Nat}
/-! ### one part, two parts -/
theorem one {a : IE} {ea : PySem.Expr} (ha : SE T D X E a ea) {n : Nat} {s : Sg} {h : Hh} {σ : L2.St} {H : Hp} {rh : Rh} {kk : AV → Hh → R} {Q : VK} (sr : SR D rh s σ) (rp : Rep D X.prog X.w rh h H)
    (q : QE D X.prog X.w (b1 ((ev T n).e a s h) kk) rh H Q E) {F : V → Hp → Prop} (f : ∀ x H1 rh1 h1 v, Ext rh H rh1 H1 → Rep D X.prog X.w rh1 h1 H1 → VR D rh1 v x → QE D X.prog X.w (kk v h1) rh1 H1 Q E → F x H1) : wE X ea σ H F :=
  (ha n s h σ H rh _ sr rp (q_b1 q)).mono fun x H1 ⟨rh1, h1, v, e, r, vr, qq⟩ => f x H1 rh1 h1 v e r vr qq
theorem two {a b : IE} {ea eb : PySem.Expr} (ha : SE T D X E a ea) (hb : SE T D X E b eb) {n : Nat} {s : Sg} {h : Hh} {σ : L2.St} {H : Hp} {rh : Rh} {kk : AV → AV → Hh → R} {Q : VK} (sr : SR D rh s σ) (rp : Rep D X.prog X.w rh h H)
    (q : QE D X.prog X.w (b1 ((ev T n).e a s h) fun x h => b1 ((ev T n).e b s h) fun y h => kk x y h) rh H Q E) {F : V → V → Hp → Prop}
    (f : ∀ x y H1 rh1 h1 v u, Rep D X.prog X.w rh1 h1 H1 → VR D rh1 v x → VR D rh1 u y → QE D X.prog X.w (kk v u h1) rh1 H1 Q E → F x y H1) : wE X ea σ H fun x H1 => wE X eb σ H1 fun y H2 => F x y H2 :=
  one ha sr rp q fun x H1 rh1 h1 v e r vr qq => one hb (sr.ext e) r qq fun y H2 rh2 h2 u e2 r2 vr2 q2 => f x y H2 rh2 h2 v u r2 (vr.ext e2) vr2 q2
theorem oneB {a : IE} {ea : PySem.Expr} (ha : SE T D X E a ea) {n : Nat} {s : Sg} {h : Hh} {σ : L2.St} {H : Hp} {rh : Rh} {kk : AV → Hh → RB} {Q : Bool → Hp → Prop} (sr : SR D rh s σ) (rp : Rep D X.prog X.w rh h H)
    (q : QB D X.prog X.w (b1B ((ev T n).e a s h) kk) rh H Q E) {F : V → Hp → Prop} (f : ∀ x H1 rh1 h1 v, Ext rh H rh1 H1 → Rep D X.prog X.w rh1 h1 H1 → VR D rh1 v x → QB D X.prog X.w (kk v h1) rh1 H1 Q E → F x H1) : wE X ea σ H F :=
  (ha n s h σ H rh _ sr rp (q_b1B q)).mono fun x H1 ⟨rh1, h1, v, e, r, vr, qq⟩ => f x H1 rh1 h1 v e r vr qq
theorem oneS {a : IE} {ea : PySem.Expr} (ha : SE T D X E a ea) {n : Nat} {s : Sg} {h : Hh} {σ : L2.St} {H : Hp} {rh : Rh} {kk : AV → Hh → RS} {N : Ends} (sr : SR D rh s σ) (rp : Rep D X.prog X.w rh h H)
    (q : QS D X.prog X.w (b1S ((ev T n).e a s h) kk) rh H N E) {F : V → Hp → Prop} (f : ∀ x H1 rh1 h1 v, Ext rh H rh1 H1 → Rep D X.prog X.w rh1 h1 H1 → VR D rh1 v x → QS D X.prog X.w (kk v h1) rh1 H1 N E → F x H1) : wE X ea σ H F :=
  (ha n s h σ H rh _ sr rp (q_b1S q)).mono fun x H1 ⟨rh1, h1, v, e, r, vr, qq⟩ => f x H1 rh1 h1 v e r vr qq
theorem oneL {a : IE} {ea : PySem.Expr} (ha : SE T D X E a ea) {n : Nat} {s : Sg} {h : Hh} {σ : L2.St} {H : Hp} {rh : Rh} {kk : AV → Hh → RL} {Q : List V → Hp → Prop} (sr : SR D rh s σ) (rp : Rep D X.prog X.w rh h H)
    (q : QL D X.prog X.w (b1L ((ev T n).e a s h) kk) rh H Q E) {F : V → Hp → Prop} (f : ∀ x H1 rh1 h1 v, Ext rh H rh1 H1 → Rep D X.prog X.w rh1 h1 H1 → VR D rh1 v x → QL D X.prog X.w (kk v h1) rh1 H1 Q E → F x H1) : wE X ea σ H F :=
  (ha n s h σ H rh _ sr rp (q_b1L q)).mono fun x H1 ⟨rh1, h1, v, e, r, vr, qq⟩ => f x H1 rh1 h1 v e r vr qq
theorem oneI {a : IE} {ea : PySem.Expr} (ha : SE T D X E a ea) {n : Nat} {s : Sg} {h : Hh} {σ : L2.St} {H : Hp} {rh : Rh} {kk : AV → Hh → RI} {Q : L2.It → Hp → Prop} (sr : SR D rh s σ) (rp : Rep D X.prog X.w rh h H)
    (q : QI D X.prog X.w (b1I ((ev T n).e a s h) kk) rh H Q E) {F : V → Hp → Prop} (f : ∀ x H1 rh1 h1 v, Ext rh H rh1 H1 → Rep D X.prog X.w rh1 h1 H1 → VR D rh1 v x → QI D X.prog X.w (kk v h1) rh1 H1 Q E → F x H1) : wE X ea σ H F :=
  (ha n s h σ H rh _ sr rp (q_b1I q)).mono fun x H1 ⟨rh1, h1, v, e, r, vr, qq⟩ => f x H1 rh1 h1 v e r vr qq
theorem many {a : List IE} {ea : List PySem.Expr} (ha : SL T D X E a ea) {n : Nat} {s : Sg} {h : Hh} {σ : L2.St} {H : Hp} {rh : Rh} {kk : List AV → Hh → R} {Q : VK} (sr : SR D rh s σ) (rp : Rep D X.prog X.w rh h H)
    (q : QE D X.prog X.w (bL ((ev T n).es a s h) kk) rh H Q E) {F : List V → Hp → Prop} (f : ∀ x H1 rh1 h1 v, Ext rh H rh1 H1 → Rep D X.prog X.w rh1 h1 H1 → VRs D rh1 v x → QE D X.prog X.w (kk v h1) rh1 H1 Q E → F x H1) : wA X ea σ H F :=
  (ha n s h σ H rh _ sr rp (q_bL q)).mono fun x H1 ⟨rh1, h1, v, e, r, vr, qq⟩ => f x H1 rh1 h1 v e r vr qq
/-- the end is a value that stands -/
theorem QE.here {P : Program} {w : World} {rh : Rh} {H : Hp} {h : Hh} {v : AV} {x : V} {Q : VK} (rp : Rep D P w rh h H) (vr : VR D rh v x) (q : QE D P w (.ok v h) rh H Q E) : Q x H := q rh H x (Ext.refl _ _) rp vr
theorem QB.here {P : Program} {w : World} {rh : Rh} {H : Hp} {h : Hh} {b : Bool} {Q : Bool → Hp → Prop} (rp : Rep D P w rh h H) (q : QB D P w (.ok b h) rh H Q E) : Q b H := q rh H (Ext.refl _ _) rp
/-- the end is a new object -/
theorem QE.made {P : Program} {w : World} {rh : Rh} {H : Hp} {h : Hh} {o : AO} {Q : VK} (rp : Rep D P w rh h H) (q : QE D P w (.ok (.ref h.n) (h.new o)) rh H Q E) (ho : Addr → HO)
    (x : ∀ p, H p = none → OR D P w (rh ++ [p]) (upd H p (ho p)) p o (ho p)) : ∀ p, H p = none → Q (.ref p) (upd H p (ho p)) := fun p np => by
  obtain ⟨r2, e2⟩ := rp.new np (x p np)
  exact q _ _ _ e2 r2 ⟨p, rfl, by rw [rp.len, List.getElem?_append_right (Nat.le_refl _)]; simp⟩
theorem OR.lstN {P : Program} {w : World} {rh : Rh} {H : Hp} {a : Addr} {xs : List AV} {vs : List V} (r : VRs D rh xs vs) : OR D P w rh H a (.lst xs) (.lst vs) := ⟨vs, rfl, r⟩
theorem OR.tupN {P : Program} {w : World} {rh : Rh} {H : Hp} {a : Addr} {xs : List AV} {vs : List V} (r : VRs D rh xs vs) : OR D P w rh H a (.tup xs) (.tup vs) := ⟨vs, rfl, r⟩
/-! ### names and constants -/
theorem se_var {i : Nat} {e : PySem.Expr} (p : PE X e (tVar i)) : SE T D X E (.var i) e := by
  intro n s h σ H rh Q sr rp q
  cases n with
  | zero => exact q.elim
  | succ n =>
    have q : QE D X.prog X.w (varV s i h) rh H Q E := q
    unfold varV at q
    rw [nth_eq] at q
    cases e1 : s[i]? with
    | none => rw [e1] at q; exact q.elim
    | some o =>
      rw [e1] at q
      cases o with
      | none => exact q.elim
      | some v =>
        obtain ⟨x, h1, h2⟩ := sr.at_ i v e1
        exact of_PE p ⟨x, h1, q.here rp h2⟩
theorem se_cst {v : AV} {x : V} {e : PySem.Expr} (p : PE X e (tC x)) (r : ∀ rh, VR D rh v x) : SE T D X E (.cst v) e := by
  intro n s h σ H rh Q sr rp q
  cases n with
  | zero => exact q.elim
  | succ n => exact of_PE p (show Q x H from QE.here (v := v) rp (r rh) q)
theorem se_int {c i : Int} {j : Nat} {pos : Pos} (e : c = i) : SE T D X E (.cst (.int c 0)) (.Constant (.int i) j pos) := se_cst pe_int fun rh => by
  subst e
  show V.int c = .int (c + 0 * D.room)
  rw [Int.zero_mul, Int.add_zero]
theorem se_str {s : List Pc} {cs : List Nat} {x : Str} {j : Nat} {pos : Pos} (hs : lits s = some cs) (hx : strOf cs = x) : SE T D X E (.cst (.str s)) (.Constant (.str x) j pos) := se_cst pe_str fun rh => by
  show V.str x = .str (sV D s)
  unfold sV
  rw [sC_lits hs, hx]
theorem se_bl {b : Bool} {j : Nat} {pos : Pos} : SE T D X E (.cst (.bl b)) (.Constant (.bool b) j pos) := se_cst pe_bl fun _ => rfl
theorem se_non {j : Nat} {pos : Pos} : SE T D X E (.cst .non) (.Constant .none j pos) := se_cst pe_non fun _ => rfl
/-- a module's number -/
theorem se_glob {c : Int} {x : Str} {pos : Pos} (hg : Gl X x) (hm : ∃ t, X.mg x = some (.int c t)) (hd : (x == ("__debug__" : Str)) = false) : SE T D X E (.cst (.int c 0)) (.Name x pos) := by
  obtain ⟨t, hm⟩ := hm
  refine se_cst (pe_glob (v := .int c) hg hm ⟨t, rfl⟩ hd) fun rh => ?_
  show V.int c = .int (c + 0 * D.room)
  rw [Int.zero_mul, Int.add_zero]
/-! ### lists of parts -/
theorem sl_nil : SL T D X E [] [] := by
  intro n s h σ H rh Q sr rp q
  cases n with
  | zero => exact q.elim
  | succ n => exact of_PA pa_nil (show Q [] H from q rh H [] (Ext.refl _ _) rp .nil)
theorem sl_cons {a : IE} {as : List IE} {e : PySem.Expr} {es : List PySem.Expr} (ha : SE T D X E a e) (hs : SL T D X E as es) (hst : starEach (e :: es) X.env = (false, eval e X.env) :: starEach es X.env) : SL T D X E (a :: as) (e :: es) := by
  intro n s h σ H rh Q sr rp q
  cases n with
  | zero => exact q.elim
  | succ n =>
    refine of_PA (pa_cons pE pA hst) ?_
    refine oneL ha sr rp q fun x H1 rh1 h1 v e1 r1 vr q1 => ?_
    refine (hs n s h1 σ H1 rh1 _ (sr.ext e1) r1 (q_bLL q1)).mono fun xs H2 ⟨rh2, h2, vs, e2, r2, vr2, q2⟩ => ?_
    exact q2 rh2 H2 (x :: xs) (Ext.refl _ _) r2 (.cons (vr.ext e2) vr2)
/-! ### operators -/
theorem se_bin {o : BOp} {op : Operator} {r : R2} {a b : IE} {ea eb : PySem.Expr} {pos : Pos} (hr : OpR X (binaryOp op) r)
    (hv : ∀ x y H1 rh1 h1 v u Q, Rep D X.prog X.w rh1 h1 H1 → VR D rh1 v x → VR D rh1 u y → QE D X.prog X.w (binV o v u h1) rh1 H1 Q E → r x y H1 Q) (ha : SE T D X E a ea) (hb : SE T D X E b eb) : SE T D X E (.bin o a b) (.BinOp ea op eb pos) := by
  intro n s h σ H rh Q sr rp q
  cases n with
  | zero => exact q.elim
  | succ n => exact of_PE (pe_op hr pE pE) (two ha hb sr rp q fun x y H1 rh1 h1 v u r1 vx vy q1 => hv x y H1 rh1 h1 v u Q r1 vx vy q1)
theorem room_sub (c m d k r : Int) : c - d + (m - k) * r = (c + m * r) - (d + k * r) := by rw [Int.sub_mul]; omega
theorem room_add (c m d k r : Int) : c + d + (m + k) * r = (c + m * r) + (d + k * r) := by rw [Int.add_mul]; omega
def rAddAll : R2 := fun x y H Q => (rI0 (fun i j => .int (i + j)) x y H Q ∨ ∃ i j, x = .str i ∧ y = .str j ∧ i.length + j.length ≤ sizeLine ∧ Q (.str (i ++ j)) H) ∨ rCat x y H Q
theorem op_addAll : OpR X (binaryOp .Add) rAddAll := (op_add.or op_add_str).or op_cat
theorem v_add (K : DtOk D) : ∀ x y H1 rh1 h1 v u Q, Rep D X.prog X.w rh1 h1 H1 → VR D rh1 v x → VR D rh1 u y → QE D X.prog X.w (binV .add v u h1) rh1 H1 Q E → rAddAll x y H1 Q := by
  intro x y H1 rh1 h1 v u Q rp vx vy q
  cases v with
  | int c m =>
    cases u with
    | int d k =>
      refine .inl (.inl ⟨_, _, vx, vy, ?_⟩)
      exact QE.here (v := .int (c + d) (m + k)) rp (by show V.int _ = V.int _; rw [room_add]) q
    | _ => exact q.elim
  | str s =>
    cases u with
    | str t =>
      have q : QE D X.prog X.w (match Nat.ble (bndS s + bndS t) most with | true => .ok (.str (catL s t)) h1 | false => .no) rh1 H1 Q E := q
      cases e : Nat.ble (bndS s + bndS t) most with
      | false => rw [e] at q; exact q.elim
      | true =>
        rw [e] at q
        have b := nble.mp e
        have b1 := bnd_le K (s := s) (nble.mpr (by omega))
        have b2 := bnd_le K (s := t) (nble.mpr (by omega))
        refine .inl (.inr ⟨_, _, vx, vy, mostLine (by omega), ?_⟩)
        exact QE.here (v := .str (catL s t)) rp (by show V.str _ = V.str _; rw [sV_cat]) q
    | _ => exact q.elim
  | ref i =>
    cases u with
    | ref j =>
      have q : QE D X.prog X.w (match h1.get i, h1.get j with
        | some (.lst xs), some (.lst ys) => (match small xs && small ys with
          | true => .ok (.ref h1.n) (h1.new (.lst (catL xs ys)))
          | false => .no)
        | _, _ => .no) rh1 H1 Q E := q
      split at q
      · rename_i xs ys e1 e2
        cases e : small xs && small ys with
        | false => rw [e] at q; exact q.elim
        | true =>
          rw [e] at q
          rw [Bool.and_eq_true] at e
          obtain ⟨a, vs, rfl, _, ha, ra⟩ := rp.lst e1 vx
          obtain ⟨b, us, rfl, _, hb, rb⟩ := rp.lst e2 vy
          have l1 := small_le e.1
          have l2 := small_le e.2
          have p1 := pr_length ra
          have p2 := pr_length rb
          exact .inr ⟨a, b, vs, us, rfl, rfl, ha, hb, mostLine (by omega), q.made rp (fun _ => .lst (vs ++ us)) fun p np => OR.lstN (by rw [catL_eq]; exact VRs.mono (pr_append ra rb))⟩
      · exact q.elim
    | _ => exact q.elim
  | _ => exact q.elim
theorem v_sub : ∀ x y H1 rh1 h1 v u Q, Rep D X.prog X.w rh1 h1 H1 → VR D rh1 v x → VR D rh1 u y → QE D X.prog X.w (binV .sub v u h1) rh1 H1 Q E → rI0 (fun i j => .int (i - j)) x y H1 Q := by
  intro x y H1 rh1 h1 v u Q rp vx vy q
  cases v with
  | int c m =>
    cases u with
    | int d k => exact ⟨_, _, vx, vy, QE.here (v := .int (c - d) (m - k)) rp (by show V.int _ = V.int _; rw [room_sub]) q⟩
    | _ => exact q.elim
  | _ => exact q.elim
theorem v_mul : ∀ x y H1 rh1 h1 v u Q, Rep D X.prog X.w rh1 h1 H1 → VR D rh1 v x → VR D rh1 u y → QE D X.prog X.w (binV .mul v u h1) rh1 H1 Q E → rI CMul (fun i j => .int (i * j)) x y H1 Q := by
  intro x y H1 rh1 h1 v u Q rp vx vy q
  cases v with
  | int c m =>
    cases u with
    | int d k =>
      have q2 : QE D X.prog X.w (match zeroI m && zeroI k && (nonnegI c && nonnegI (1000000 - c)) with
        | true => .ok (.int (c * d) 0) h1
        | false => .no) rh1 H1 Q E := q
      clear q
      cases e : zeroI m && zeroI k && (nonnegI c && nonnegI (1000000 - c)) with
      | false => rw [e] at q2; exact q2.elim
      | true =>
        rw [e] at q2
        simp only [Bool.and_eq_true, zero_iff, nonneg_iff] at e
        obtain ⟨⟨rfl, rfl⟩, e3, e4⟩ := e
        have vx : x = .int (c + 0 * D.room) := vx
        have vy : y = .int (d + 0 * D.room) := vy
        rw [Int.zero_mul, Int.add_zero] at vx vy
        refine ⟨c, d, vx, vy, .inl ⟨by omega, by omega⟩, QE.here (v := .int (c * d) 0) rp (by show V.int _ = V.int _; rw [Int.zero_mul, Int.add_zero]) q2⟩
    | _ => exact q.elim
  | _ => exact q.elim
theorem v_mod : ∀ x y H1 rh1 h1 v u Q, Rep D X.prog X.w rh1 h1 H1 → VR D rh1 v x → VR D rh1 u y → QE D X.prog X.w (binV .mod v u h1) rh1 H1 Q E → rI (fun _ j => 0 < j) (fun i j => .int (i % j)) x y H1 Q := by
  intro x y H1 rh1 h1 v u Q rp vx vy q
  cases v with
  | int c m =>
    cases c with
    | negSucc _ => exact q.elim
    | ofNat a =>
      cases u with
      | int d k =>
        cases d with
        | negSucc _ => exact q.elim
        | ofNat b =>
          have q2 : QE D X.prog X.w (match zeroI m && zeroI k && Nat.blt 0 b with
            | true => .ok (.int (.ofNat (a % b)) 0) h1
            | false => .no) rh1 H1 Q E := q
          clear q
          cases e : zeroI m && zeroI k && Nat.blt 0 b with
          | false => rw [e] at q2; exact q2.elim
          | true =>
            rw [e] at q2
            simp only [Bool.and_eq_true, zero_iff, nblt] at e
            obtain ⟨⟨rfl, rfl⟩, e3⟩ := e
            have vx : x = .int (Int.ofNat a + 0 * D.room) := vx
            have vy : y = .int (Int.ofNat b + 0 * D.room) := vy
            rw [Int.zero_mul, Int.add_zero] at vx vy
            refine ⟨_, _, vx, vy, Int.natCast_pos.mpr e3, QE.here (v := .int (.ofNat (a % b)) 0) rp ?_ q2⟩
            show V.int _ = V.int _
            rw [Int.zero_mul, Int.add_zero]
            rfl
      | _ => exact q.elim
  | _ => exact q.elim
theorem se_neg {a : IE} {ea : PySem.Expr} {pos : Pos} (ha : SE T D X E a ea) : SE T D X E (.neg a) (.UnaryOp .USub ea pos) := by
  intro n s h σ H rh Q sr rp q
  cases n with
  | zero => exact q.elim
  | succ n =>
    refine of_PE (pe_un un_neg pE) (one ha sr rp q fun x H1 rh1 h1 v e1 r1 vr q1 => ?_)
    cases v with
    | int c m => exact ⟨_, vr, QE.here (v := .int (-c) (-m)) r1 (by show V.int _ = V.int _; rw [Int.neg_mul]; congr 1; omega) q1⟩
    | _ => exact q1.elim
/-! ### comparisons -/
theorem se_cmp {o : COp} {op : CmpOp} {r : R2} {a b : IE} {ea eb : PySem.Expr} {pos : Pos} (hr : OpR X (compareOp op) r)
    (hv : ∀ x y H1 rh1 h1 v u (c : Bool) (Q : VK), Rep D X.prog X.w rh1 h1 H1 → VR D rh1 v x → VR D rh1 u y → cmpB o v u h1 = some c → Q (.bl c) H1 → r x y H1 Q) (ha : SE T D X E a ea) (hb : SE T D X E b eb) (hm : behindInMarks op eb = false) :
    SE T D X E (.cmp o a b) (.Compare ea [op] [eb] pos) := by
  intro n s h σ H rh Q sr rp q
  cases n with
  | zero => exact q.elim
  | succ n =>
    refine of_PE (pe_cmpR hr pE pE hm) (two ha hb sr rp q fun x y H1 rh1 h1 v u r1 vx vy q1 => ?_)
    cases e : cmpB o v u h1 with
    | none => rw [e] at q1; exact q1.elim
    | some c =>
      rw [e] at q1
      exact hv x y H1 rh1 h1 v u c Q r1 vx vy e (QE.here (v := .bl c) r1 rfl q1)
theorem st_cmp {o : COp} {op : CmpOp} {r : R2} {a b : IE} {ea eb : PySem.Expr} {pos : Pos} (hr : OpR X (compareOp op) r)
    (hv : ∀ x y H1 rh1 h1 v u (c : Bool) (Q : VK), Rep D X.prog X.w rh1 h1 H1 → VR D rh1 v x → VR D rh1 u y → cmpB o v u h1 = some c → Q (.bl c) H1 → r x y H1 Q) (ha : SE T D X E a ea) (hb : SE T D X E b eb) (hm : behindInMarks op eb = false) :
    ST T D X E (.v (.cmp o a b)) (.Compare ea [op] [eb] pos) := by
  intro n s h σ H rh Q sr rp q
  cases n with
  | zero => exact q.elim
  | succ n =>
    have q0 := q_b1B (show QB D X.prog X.w (b1B ((ev T n).e (.cmp o a b) s h) fun v h => match v with | .bl b => .ok b h | _ => .no) rh H Q E from q)
    cases n with
    | zero => exact q0.elim
    | succ n =>
      refine of_PT (pt_cmpR hr pE pE hm) (two ha hb sr rp q0 fun x y H1 rh1 h1 v u r1 vx vy q1 => ?_)
      cases e : cmpB o v u h1 with
      | none => rw [e] at q1; exact q1.elim
      | some c =>
        rw [e] at q1
        obtain ⟨rh2, h2, v2, e2, r2, vr2, q2⟩ := QE.here (v := .bl c) (x := .bl c) r1 rfl q1
        refine hv x y H1 rh1 h1 v u c _ r1 vx vy e ⟨c, rfl, ?_⟩
        cases v2 with
        | bl c2 =>
          have : V.bl c = V.bl c2 := vr2
          injection this with this
          subst this
          exact QB.here r2 q2
        | _ => exact q2.elim
section
variable (K : DtOk D)
include K
theorem dpos {c m d k : Int} {b : Bool} (h : posC (d - c) (k - m) = some b) : b = decide (c + m * D.room < d + k * D.room) := by
  rw [posC_ok K h, room_sub]
  by_cases z : c + m * D.room < d + k * D.room
  · rw [decide_eq_true z, decide_eq_true (by omega)]
  · rw [decide_eq_false z, decide_eq_false (by omega)]
theorem v_lt : ∀ x y H1 rh1 h1 v u (c : Bool) (Q : VK), Rep D X.prog X.w rh1 h1 H1 → VR D rh1 v x → VR D rh1 u y → cmpB .lt v u h1 = some c → Q (.bl c) H1 → rI0 (fun i j => .bl (decide (i < j))) x y H1 Q := by
  intro x y H1 rh1 h1 v u c Q rp vx vy e q
  cases v with
  | int a m => cases u with
    | int d k => exact ⟨_, _, vx, vy, by dsimp only; rw [← dpos K e]; exact q⟩
    | _ => cases e
  | _ => cases e
theorem v_gt : ∀ x y H1 rh1 h1 v u (c : Bool) (Q : VK), Rep D X.prog X.w rh1 h1 H1 → VR D rh1 v x → VR D rh1 u y → cmpB .gt v u h1 = some c → Q (.bl c) H1 → rI0 (fun i j => .bl (decide (j < i))) x y H1 Q := by
  intro x y H1 rh1 h1 v u c Q rp vx vy e q
  cases v with
  | int a m => cases u with
    | int d k => exact ⟨_, _, vx, vy, by dsimp only; rw [← dpos K e]; exact q⟩
    | _ => cases e
  | _ => cases e
theorem notO_some {o : Option Bool} {c : Bool} (h : notO o = some c) : o = some (!c) := by
  cases o with
  | none => cases h
  | some b =>
    have h := Option.some.inj h
    rw [← h, Bool.not_not]
theorem dec_le {i j : Int} {c : Bool} (h : (!c) = decide (j < i)) : c = decide (i ≤ j) := by
  cases c with
  | true =>
    have := of_decide_eq_false h.symm
    exact (decide_eq_true (by omega)).symm
  | false =>
    have := of_decide_eq_true h.symm
    exact (decide_eq_false (by omega)).symm
theorem v_le : ∀ x y H1 rh1 h1 v u (c : Bool) (Q : VK), Rep D X.prog X.w rh1 h1 H1 → VR D rh1 v x → VR D rh1 u y → cmpB .le v u h1 = some c → Q (.bl c) H1 → rI0 (fun i j => .bl (decide (i ≤ j))) x y H1 Q := by
  intro x y H1 rh1 h1 v u c Q rp vx vy e q
  cases v with
  | int a m => cases u with
    | int d k => exact ⟨_, _, vx, vy, by dsimp only; rw [← dec_le K (dpos K (notO_some K e))]; exact q⟩
    | _ => cases e
  | _ => cases e
theorem v_ge : ∀ x y H1 rh1 h1 v u (c : Bool) (Q : VK), Rep D X.prog X.w rh1 h1 H1 → VR D rh1 v x → VR D rh1 u y → cmpB .ge v u h1 = some c → Q (.bl c) H1 → rI0 (fun i j => .bl (decide (j ≤ i))) x y H1 Q := by
  intro x y H1 rh1 h1 v u c Q rp vx vy e q
  cases v with
  | int a m => cases u with
    | int d k => exact ⟨_, _, vx, vy, by dsimp only; rw [← dec_le K (dpos K (notO_some K e))]; exact q⟩
    | _ => cases e
  | _ => cases e
/-- plain values are equal as the evaluator says -/
theorem eq0_ok {rh : Rh} {v u : AV} {x y : V} {c : Bool} (vx : VR D rh v x) (vy : VR D rh u y) (h : eq0 v u = some c) : scal x y = true ∨ (x = .non ∧ y = .non) := by
  cases v with
  | non => cases u with
    | non => exact .inr ⟨vx, vy⟩
    | _ => cases h
  | bl a => cases u with
    | bl b =>
      have vx : x = .bl a := vx
      have vy : y = .bl b := vy
      subst vx vy
      exact .inl rfl
    | _ => cases h
  | int a m => cases u with
    | int d k =>
      have vx : x = .int _ := vx
      have vy : y = .int _ := vy
      subst vx vy
      exact .inl rfl
    | _ => cases h
  | str s => cases u with
    | str t =>
      have vx : x = .str _ := vx
      have vy : y = .str _ := vy
      subst vx vy
      exact .inl rfl
    | _ => cases h
  | ref i => cases u <;> cases h
  | scr => cases u <;> cases h
theorem eq0_dec {rh : Rh} {v u : AV} {x y : V} {c : Bool} (vx : VR D rh v x) (vy : VR D rh u y) (h : eq0 v u = some c) : c = decide (x = y) := by
  cases v with
  | non => cases u with
    | non =>
      have vx : x = .non := vx
      have vy : y = .non := vy
      have h := Option.some.inj h
      rw [← h, vx, vy]; rfl
    | _ => cases h
  | bl a => cases u with
    | bl b =>
      have vx : x = .bl a := vx
      have vy : y = .bl b := vy
      have h := Option.some.inj (show some (a == b) = some c from h)
      rw [← h, vx, vy, dec_bl]
    | _ => cases h
  | int a m => cases u with
    | int d k =>
      have vx : x = .int _ := vx
      have vy : y = .int _ := vy
      have e := zeroC_ok K (show zeroC (a - d) (m - k) = some c from h)
      rw [room_sub] at e
      rw [e, vx, vy, dec_int]
      by_cases z : a + m * D.room = d + k * D.room
      · rw [decide_eq_true (by omega), z]; exact (beq_self_eq_true _).symm
      · rw [decide_eq_false (by omega)]; exact (beq_eq_false_iff_ne.mpr z).symm
    | _ => cases h
  | str s => cases u with
    | str t =>
      have vx : x = .str _ := vx
      have vy : y = .str _ := vy
      have e := eqS_ok K s t (show eqS s t = some c from h)
      rw [e, vx, vy, dec_str, ← dec_strOf]
      by_cases z : sV D s = sV D t
      · rw [decide_eq_true (show strOf (sC D s) = strOf (sC D t) from z), z]; exact (beq_self_eq_true _).symm
      · rw [decide_eq_false (show ¬ strOf (sC D s) = strOf (sC D t) from z)]; exact (beq_eq_false_iff_ne.mpr z).symm
    | _ => cases h
  | ref i => cases u <;> cases h
  | scr => cases u <;> cases h
end
end
end Ck
-- SD4
set_option Elab.async false
set_option linter.all false
set_option maxRecDepth 100000
set_option maxHeartbeats 4000000
set_option autoImplicit false
namespace Ck
open PySem PySem.Spec PyProof.Rows L2
section
variable {T : Nat → FC} {D : Dt} {X : Cx} {E : XK} {k : Nat}
/-! ### == of flat lists and tuples -/
section
variable (K : DtOk D)
include K
theorem okS_str : ∀ {s : List Pc}, okS s = true → PyData.strOk (sV D s) = true := by
  intro s h
  unfold PyData.strOk sV strOf
  rw [List.all_toArray]
  refine List.all_eq_true.mpr fun c hc => ?_
  have key : ∀ (s : List Pc), okS s = true → ∀ c ∈ sC D s, c < 1000 := by
    intro s
    induction s with
    | nil => intro _ c hc; simp [sC] at hc
    | cons p s ih =>
      intro h c hc
      rw [sC_cons] at hc
      have dig : ∀ i : Int, ∀ c ∈ numC i, c < 1000 := fun i c hc => by
        rcases numC_signs i c hc with z | z
        · unfold isDig at z
          rw [Bool.and_eq_true, nble, nble] at z
          omega
        · omega
      cases p with
      | l d =>
        have h : (Nat.blt d 1000 && okS s) = true := h
        rw [Bool.and_eq_true, nblt] at h
        rcases List.mem_append.mp hc with z | z
        · have : c = d := by simpa [pcC] using z
          omega
        · exact ih h.2 c z
      | nm j =>
        rcases List.mem_append.mp hc with z | z
        · have := K.low j c z
          unfold isLow at this
          rw [Bool.and_eq_true, nble, nble] at this
          omega
        · exact ih h c z
      | num a b =>
        rcases List.mem_append.mp hc with z | z
        · exact dig _ c z
        · exact ih h c z
      | hd a b =>
        rcases List.mem_append.mp hc with z | z
        · exact dig _ c (List.mem_of_mem_take z)
        · exact ih h c z
  have := key s h c hc
  exact decide_eq_true (by omega)
/-- flat values as data -/
def datV : V → PyData
  | .int i => .int i
  | .str x => .str x
  | .bl b => .bool b
  | _ => .none
theorem flat_dp {Kf : PySem.W.Frag} {H : Hp} {rh : Rh} {v : AV} {x : V} (h : flat0 v = true) (r : VR D rh v x) : Dp Kf H x (datV x) ∧ (datV x).canLay0 = true ∧ (datV x).depth = 0 ∧ flatV x = true := by
  cases v with
  | int c m =>
    have r : x = .int _ := r
    subst r
    exact ⟨.int _, rfl, by simp [datV, PyData.depth], rfl⟩
  | str s =>
    have r : x = .str _ := r
    subst r
    exact ⟨.str _, by simp only [datV, PyData.canLay0]; exact okS_str K h, by simp [datV, PyData.depth], rfl⟩
  | _ => cases h
theorem flats_dp {Kf : PySem.W.Frag} {H : Hp} {rh : Rh} : ∀ {vs : List AV} {xs : List V}, flats vs = true → VRs D rh vs xs → DpAll Kf H xs (xs.map datV) ∧ PyData.canLayAll0 (xs.map datV) = true ∧ PyData.depthAll (xs.map datV) = 0 ∧ xs.all flatV = true
  | [], _, _, .nil => ⟨.nil, by simp [PyData.canLayAll0], by simp [PyData.depthAll], rfl⟩
  | v :: vs, _, h, .cons r rr => by
    have h : (flat0 v && flats vs) = true := h
    rw [Bool.and_eq_true] at h
    obtain ⟨a1, a2, a3, a4⟩ := flat_dp K (Kf := Kf) (H := H) h.1 r
    obtain ⟨b1, b2, b3, b4⟩ := flats_dp (Kf := Kf) (H := H) h.2 rr
    refine ⟨.cons a1 b1, ?_, ?_, ?_⟩
    · rw [List.map_cons, PyData.canLayAll0, a2, b2]; rfl
    · rw [List.map_cons, PyData.depthAll, a3, b3]; rfl
    · rw [List.all_cons, a4, b4]; rfl
theorem eqv0 {rh : Rh} {v u : AV} {x y : V} {c : Bool} (hv : flat0 v = true) (hu : flat0 u = true) (vx : VR D rh v x) (vy : VR D rh u y) (h : eq0 v u = some c) : PyData.eqv (datV x) (datV y) = c ∧ L2.eqV x y = c := by
  have e := eq0_dec K vx vy h
  cases v with
  | int a m => cases u with
    | int d k =>
      have vx : x = .int _ := vx
      have vy : y = .int _ := vy
      subst vx vy
      rw [e, dec_int]
      exact ⟨by simp only [datV, PyData.eqv], rfl⟩
    | _ => cases h
  | str s => cases u with
    | str t =>
      have vx : x = .str _ := vx
      have vy : y = .str _ := vy
      subst vx vy
      rw [e, dec_str]
      exact ⟨by simp only [datV, PyData.eqv], rfl⟩
    | _ => cases h
  | _ => cases hv
theorem eqv0s {rh : Rh} : ∀ {vs us : List AV} {xs ys : List V} {c : Bool}, flats vs = true → flats us = true → VRs D rh vs xs → VRs D rh us ys → eq0s vs us = some c → PyData.eqvAll (xs.map datV) (ys.map datV) = c
  | [], [], _, _, c, _, _, .nil, .nil, h => by
    have h := Option.some.inj h
    rw [← h]; rfl
  | [], u :: us, _, _, c, _, _, .nil, .cons _ _, h => by
    have h := Option.some.inj h
    rw [← h]; rfl
  | v :: vs, [], _, _, c, _, _, .cons _ _, .nil, h => by
    have h := Option.some.inj h
    rw [← h]; rfl
  | v :: vs, u :: us, _, _, c, hv, hu, .cons r rr, .cons q qq, h => by
    have hv : (flat0 v && flats vs) = true := hv
    have hu : (flat0 u && flats us) = true := hu
    rw [Bool.and_eq_true] at hv hu
    have h : (match eq0 v u with | some true => eq0s vs us | some false => some false | none => none) = some c := h
    rw [List.map_cons, List.map_cons, PyData.eqvAll]
    cases e : eq0 v u with
    | none => rw [e] at h; cases h
    | some b =>
      rw [e] at h
      rw [(eqv0 K hv.1 hu.1 r q e).1]
      cases b with
      | true => rw [Bool.true_and]; exact eqv0s hv.2 hu.2 rr qq h
      | false =>
        have h := Option.some.inj h
        rw [Bool.false_and, h]
def rEqAll (Kf : PySem.W.Frag) : R2 := fun x y H Q => rEq x y H Q ∨ rEqD Kf x y H Q
theorem op_eqAll (hu : X.A.units + 64 < cLine) : OpR X (compareOp .Eq) (rEqAll X.K) := op_eq.or (op_eqD hu)
def rNeAll (Kf : PySem.W.Frag) : R2 := fun x y H Q => rNe x y H Q ∨ rNeD Kf x y H Q
theorem op_neAll (hu : X.A.units + 64 < cLine) : OpR X (compareOp .NotEq) (rNeAll X.K) := op_ne.or (op_neD hu)
theorem eqF_ok {Kf : PySem.W.Frag} {P : Program} {w : World} {H1 : Hp} {rh : Rh} {h : Hh} {v u : AV} {x y : V} {c : Bool} (rp : Rep D P w rh h H1) (vx : VR D rh v x) (vy : VR D rh u y) (e : eqF h v u = some c) :
    (scal x y = true ∧ c = decide (x = y)) ∨ ∃ d d', Dp Kf H1 x d ∧ Dp Kf H1 y d' ∧ SeqAt.shaped d = true ∧ SeqAt.shaped d' = true ∧ c = PyData.eqv d d' := by
  have plain : eq0 v u = some c → (scal x y = true ∧ c = decide (x = y)) ∨ ∃ d d', Dp Kf H1 x d ∧ Dp Kf H1 y d' ∧ SeqAt.shaped d = true ∧ SeqAt.shaped d' = true ∧ c = PyData.eqv d d' := fun e => by
    have e2 := eq0_dec K vx vy e
    rcases eq0_ok K vx vy e with z | ⟨z1, z2⟩
    · exact .inl ⟨z, e2⟩
    · subst z1 z2
      exact .inl ⟨rfl, e2⟩
  cases v with
  | ref i =>
    cases u with
    | ref j =>
      have e : (match h.get i, h.get j with
        | some (.lst xs), some (.lst ys) => eqFs xs ys
        | some (.tup xs), some (.tup ys) => eqFs xs ys
        | _, _ => none) = some c := e
      have fin : ∀ {xs ys : List AV} {vs us : List V}, eqFs xs ys = some c → VRs D rh xs vs → VRs D rh ys us → (DpAll Kf H1 vs (vs.map datV) ∧ DpAll Kf H1 us (us.map datV) ∧ PyData.canLayAll0 (vs.map datV) = true ∧ PyData.canLayAll0 (us.map datV) = true ∧ PyData.depthAll (vs.map datV) = 0 ∧ PyData.depthAll (us.map datV) = 0 ∧ PyData.eqvAll (vs.map datV) (us.map datV) = c) := fun {xs ys vs us} q r1 r2 => by
        unfold eqFs at q
        cases z : flats xs && flats ys with
        | false => rw [z] at q; cases q
        | true =>
          rw [z] at q
          rw [Bool.and_eq_true] at z
          obtain ⟨a1, a2, a3, _⟩ := flats_dp K (Kf := Kf) (H := H1) z.1 r1
          obtain ⟨b1, b2, b3, _⟩ := flats_dp K (Kf := Kf) (H := H1) z.2 r2
          exact ⟨a1, b1, a2, b2, a3, b3, eqv0s K z.1 z.2 r1 r2 q⟩
      split at e
      · rename_i xs ys e1 e2
        obtain ⟨a, vs, rfl, _, ha, ra⟩ := rp.lst e1 vx
        obtain ⟨b, us, rfl, _, hb, rb⟩ := rp.lst e2 vy
        obtain ⟨a1, b1, a2, b2, a3, b3, q⟩ := fin e ra rb
        refine .inr ⟨.list _, .list _, .lst (SqL.of ha) a1, .lst (SqL.of hb) b1, ?_, ?_, by rw [PyData.eqv, q]⟩
        · unfold SeqAt.shaped
          rw [PyData.canLay0, a2, PyData.depth, a3]; rfl
        · unfold SeqAt.shaped
          rw [PyData.canLay0, b2, PyData.depth, b3]; rfl
      · rename_i xs ys e1 e2
        obtain ⟨a, vs, rfl, _, ha, ra⟩ := rp.tup e1 vx
        obtain ⟨b, us, rfl, _, hb, rb⟩ := rp.tup e2 vy
        obtain ⟨a1, b1, a2, b2, a3, b3, q⟩ := fin e ra rb
        refine .inr ⟨.tuple _, .tuple _, .tup (SqT.of ha) a1, .tup (SqT.of hb) b1, ?_, ?_, by rw [PyData.eqv, q]⟩
        · unfold SeqAt.shaped
          rw [PyData.canLay0, a2, PyData.depth, a3]; rfl
        · unfold SeqAt.shaped
          rw [PyData.canLay0, b2, PyData.depth, b3]; rfl
      · cases e
    | _ => cases e
  | _ => exact plain e
end
end
end Ck
-- SD5
set_option Elab.async false
set_option linter.all false
set_option maxRecDepth 100000
set_option maxHeartbeats 4000000
set_option autoImplicit false
namespace Ck
open PySem PySem.Spec PyProof.Rows L2
section
variable {T : Nat → FC} {D : Dt} {X : Cx} {E : XK} {k : Nat}
section
variable (K : DtOk D)
include K
theorem v_eq : ∀ x y H1 rh1 h1 v u (c : Bool) (Q : VK), Rep D X.prog X.w rh1 h1 H1 → VR D rh1 v x → VR D rh1 u y → cmpB .eq v u h1 = some c → Q (.bl c) H1 → rEqAll X.K x y H1 Q := by
  intro x y H1 rh1 h1 v u c Q rp vx vy e q
  rcases eqF_ok K (Kf := X.K) rp vx vy e with ⟨z1, z2⟩ | ⟨d, d', z1, z2, z3, z4, z5⟩
  · exact .inl ⟨z1, by rw [← z2]; exact q⟩
  · exact .inr ⟨d, d', z1, z2, z3, z4, by rw [← z5]; exact q⟩
theorem v_ne : ∀ x y H1 rh1 h1 v u (c : Bool) (Q : VK), Rep D X.prog X.w rh1 h1 H1 → VR D rh1 v x → VR D rh1 u y → cmpB .ne v u h1 = some c → Q (.bl c) H1 → rNeAll X.K x y H1 Q := by
  intro x y H1 rh1 h1 v u c Q rp vx vy e q
  have e := notO_some K (show notO (eqF h1 v u) = some c from e)
  rcases eqF_ok K (Kf := X.K) rp vx vy e with ⟨z1, z2⟩ | ⟨d, d', z1, z2, z3, z4, z5⟩
  · exact .inl ⟨z1, by rw [← z2, Bool.not_not]; exact q⟩
  · exact .inr ⟨d, d', z1, z2, z3, z4, by rw [← z5, Bool.not_not]; exact q⟩
theorem flatV_ok {rh : Rh} {v : AV} {x : V} (h : flat0 v = true) (r : VR D rh v x) : flatV x = true := by
  cases v with
  | int c m => cases (show x = .int _ from r); rfl
  | str s => cases (show x = .str _ from r); rfl
  | _ => cases h
theorem flatVs_ok {rh : Rh} : ∀ {vs : List AV} {xs : List V}, flats vs = true → VRs D rh vs xs → xs.all flatV = true
  | [], _, _, .nil => rfl
  | v :: vs, _, h, .cons r rr => by
    have h : (flat0 v && flats vs) = true := h
    rw [Bool.and_eq_true] at h
    rw [List.all_cons, flatV_ok K h.1 r, flatVs_ok h.2 rr]; rfl
theorem inL_ok {rh : Rh} {v : AV} {x : V} (hv : flat0 v = true) (vx : VR D rh v x) : ∀ {us : List AV} {ys : List V} {c : Bool}, flats us = true → VRs D rh us ys → inL v us = some c → L2.inV x ys = c
  | [], _, c, _, .nil, h => by
    have h := Option.some.inj h
    rw [← h]; rfl
  | u :: us, _, c, hu, .cons r rr, h => by
    have hu : (flat0 u && flats us) = true := hu
    rw [Bool.and_eq_true] at hu
    have h : (match eq0 u v with | some true => some true | some false => inL v us | none => none) = some c := h
    unfold L2.inV
    rw [List.any_cons]
    cases e : eq0 u v with
    | none => rw [e] at h; cases h
    | some b =>
      rw [e] at h
      rw [(eqv0 K hu.1 hv r vx e).2]
      cases b with
      | true =>
        have h := Option.some.inj h
        rw [Bool.true_or, h]
      | false => rw [Bool.false_or]; exact inL_ok hv vx hu.2 rr h
end
/-! ### is None -/
def rIsN : R2 := fun x y H Q => y = .non ∧ Q (.bl (decide (x = .non))) H
def rNotN : R2 := fun x y H Q => y = .non ∧ Q (.bl (!decide (x = .non))) H
theorem isN_ok {rh : Rh} {v : AV} {x : V} (r : VR D rh v x) : decide (x = .non) = (match v with | .non => true | _ => false) := by
  cases v with
  | non => cases (show x = .non from r); rfl
  | bl b => cases (show x = .bl b from r); rfl
  | int c m => cases (show x = .int _ from r); rfl
  | str s => cases (show x = .str _ from r); rfl
  | ref i => obtain ⟨a, e, _⟩ := r; cases e; rfl
  | scr => cases (show x = .ref _ from r); rfl
/-! ### and, or, not as values -/
theorem se_and {a b : IE} {ea eb : PySem.Expr} {rest : List PySem.Expr} {pos : Pos} (ha : SE T D X E a ea) (hb : SE T D X E b (.BoolOp .And (eb :: rest) pos)) : SE T D X E (.andv a b) (.BoolOp .And (ea :: eb :: rest) pos) := by
  intro n s h σ H rh Q sr rp q
  cases n with
  | zero => exact q.elim
  | succ n =>
    refine of_PE (pe_and pE pE) (one ha sr rp q fun x H1 rh1 h1 v e1 r1 vr q1 => ?_)
    cases v with
    | bl c =>
      refine ⟨c, vr, ?_⟩
      cases c with
      | true => exact ite_tt (hb n s h1 σ H1 rh1 Q (sr.ext e1) r1 q1)
      | false => exact ite_ff (QE.here (v := .bl false) r1 rfl q1)
    | _ => exact q1.elim
theorem se_or {a b : IE} {ea eb : PySem.Expr} {rest : List PySem.Expr} {pos : Pos} (ha : SE T D X E a ea) (hb : SE T D X E b (.BoolOp .Or (eb :: rest) pos)) : SE T D X E (.orv a b) (.BoolOp .Or (ea :: eb :: rest) pos) := by
  intro n s h σ H rh Q sr rp q
  cases n with
  | zero => exact q.elim
  | succ n =>
    refine of_PE (pe_or pE pE) (one ha sr rp q fun x H1 rh1 h1 v e1 r1 vr q1 => ?_)
    cases v with
    | bl c =>
      refine ⟨c, vr, ?_⟩
      cases c with
      | true => exact ite_tt (QE.here (v := .bl true) r1 rfl q1)
      | false => exact ite_ff (hb n s h1 σ H1 rh1 Q (sr.ext e1) r1 q1)
    | _ => exact q1.elim
theorem se_lone {a : IE} {ea : PySem.Expr} {op : BoolOp} {pos : Pos} (ha : SE T D X E a ea) : SE T D X E a (.BoolOp op [ea] pos) := by
  intro n s h σ H rh Q sr rp q
  exact of_PE (pe_one pE) (ha n s h σ H rh Q sr rp q)
theorem se_not {a : IE} {ea : PySem.Expr} {pos : Pos} (ha : SE T D X E a ea) : SE T D X E (.notv a) (.UnaryOp .Not ea pos) := by
  intro n s h σ H rh Q sr rp q
  cases n with
  | zero => exact q.elim
  | succ n =>
    refine of_PE (pe_not pE) (one ha sr rp q fun x H1 rh1 h1 v e1 r1 vr q1 => ?_)
    cases v with
    | bl c => exact ⟨c, vr, QE.here (v := .bl (!c)) r1 rfl q1⟩
    | _ => exact q1.elim
/-! ### tests -/
theorem st_val {a : IE} {ea : PySem.Expr} (ha : SE T D X E a ea) (he : ∀ whole, isTrue ea X.env whole = (do let v ← whole; standAt ea.pos; holding [v] (truthy v))) : ST T D X E (.v a) ea := by
  intro n s h σ H rh Q sr rp q
  cases n with
  | zero => exact q.elim
  | succ n =>
    refine of_PT (pt_val pE he) (oneB ha sr rp q fun x H1 rh1 h1 v e1 r1 vr q1 => ?_)
    cases v with
    | bl c => exact ⟨c, vr, QB.here r1 q1⟩
    | _ => exact q1.elim
theorem tru_okV {rh : Rh} {h : Hh} {H : Hp} {v : AV} {x : V} {c : Bool} (rp : Rep D X.prog X.w rh h H) (vr : VR D rh v x) (e : truV v h = some c) : TruV X.K x H c := by
  cases v with
  | bl b =>
    have e := Option.some.inj (show some b = some c from e)
    cases (show x = .bl b from vr)
    exact e.symm
  | ref j =>
    have e : (match h.get j with
      | some (.lst xs) => (match xs with
        | [] => some false
        | _ :: _ => some true)
      | _ => none) = some c := e
    split at e
    · rename_i xs e1
      obtain ⟨a, vs, rfl, _, ha, ra⟩ := rp.lst e1 vr
      refine .inl ⟨vs, .inl (.inl ha), ?_⟩
      cases xs with
      | nil => cases ra; exact (Option.some.inj e).symm
      | cons y ys => cases ra; exact (Option.some.inj e).symm
    · cases e
  | _ => cases e
theorem st_tru {a : IE} {ea : PySem.Expr} (ha : SE T D X E a ea) (he : ∀ whole, isTrue ea X.env whole = (do let v ← whole; standAt ea.pos; holding [v] (truthy v))) : ST T D X E (.tru a) ea := by
  intro n s h σ H rh Q sr rp q
  cases n with
  | zero => exact q.elim
  | succ n =>
    refine of_PT (pt_truth pE he) (oneB ha sr rp q fun x H1 rh1 h1 v e1 r1 vr q1 => ?_)
    cases e : truV v h1 with
    | none => rw [e] at q1; exact q1.elim
    | some c => rw [e] at q1; exact ⟨c, tru_okV r1 vr e, QB.here r1 q1⟩
theorem st_not {a : IT} {ea : PySem.Expr} {pos : Pos} (ha : ST T D X E a ea) : ST T D X E (.not a) (.UnaryOp .Not ea pos) := by
  intro n s h σ H rh Q sr rp q
  cases n with
  | zero => exact q.elim
  | succ n =>
    refine of_PT (pt_not pT) ((ha n s h σ H rh _ sr rp (q_bB q)).mono fun b H1 ⟨rh1, h1, e1, r1, q1⟩ => ?_)
    exact QB.here r1 q1
theorem sw_and1 {a : IT} {ea : PySem.Expr} {pos : Pos} (ha : ST T D X E a ea) : SW T D X E a (.BoolOp .And [ea] pos) := fun n s h σ H rh Q sr rp q => of_PW (pw_and1 pT) (ha n s h σ H rh Q sr rp q)
theorem sw_or1 {a : IT} {ea : PySem.Expr} {pos : Pos} (ha : ST T D X E a ea) : SW T D X E a (.BoolOp .Or [ea] pos) := fun n s h σ H rh Q sr rp q => of_PW (pw_or1 pT) (ha n s h σ H rh Q sr rp q)
theorem sw_and {a b : IT} {ea eb : PySem.Expr} {rest : List PySem.Expr} {pos : Pos} (ha : ST T D X E a ea) (hb : SW T D X E b (.BoolOp .And (eb :: rest) pos)) : SW T D X E (.and a b) (.BoolOp .And (ea :: eb :: rest) pos) := by
  intro n s h σ H rh Q sr rp q
  cases n with
  | zero => exact q.elim
  | succ n =>
    refine of_PW (pw_and pT pW) ((ha n s h σ H rh _ sr rp (q_bB q)).mono fun b H1 ⟨rh1, h1, e1, r1, q1⟩ => ?_)
    cases b with
    | true => exact ite_tt (hb n s h1 σ H1 rh1 Q (sr.ext e1) r1 q1)
    | false => exact ite_ff (QB.here r1 q1)
theorem sw_or {a b : IT} {ea eb : PySem.Expr} {rest : List PySem.Expr} {pos : Pos} (ha : ST T D X E a ea) (hb : SW T D X E b (.BoolOp .Or (eb :: rest) pos)) : SW T D X E (.or a b) (.BoolOp .Or (ea :: eb :: rest) pos) := by
  intro n s h σ H rh Q sr rp q
  cases n with
  | zero => exact q.elim
  | succ n =>
    refine of_PW (pw_or pT pW) ((ha n s h σ H rh _ sr rp (q_bB q)).mono fun b H1 ⟨rh1, h1, e1, r1, q1⟩ => ?_)
    cases b with
    | true => exact ite_tt (QB.here r1 q1)
    | false => exact ite_ff (hb n s h1 σ H1 rh1 Q (sr.ext e1) r1 q1)
theorem pT_W {e : PySem.Expr} : PT X e (wW X e) := ⟨fun pins s σ H Q I h => h _ pins s I⟩
theorem st_of {a : IT} {ea : PySem.Expr} (ha : SW T D X E a ea) : ST T D X E a ea := fun n s h σ H rh Q sr rp q => of_PT pT_W (ha n s h σ H rh Q sr rp q)
end
end Ck
-- SD6
set_option Elab.async false
set_option linter.all false
set_option maxRecDepth 100000
set_option maxHeartbeats 4000000
set_option autoImplicit false
namespace Ck
open PySem PySem.Spec PyProof.Rows L2
/-! ### keys of states -/
section
variable {D : Dt} {X : Cx} {pins : List (Addr × Obj)} {σ : L2.St} {H : Hp} {s : Shared}
mutual
theorem KeyH.nested (I : Inv X pins σ H s) : ∀ {k : NestedKey} {v : V} {u : Value}, KeyH H k v → RelV v u → NestedIs s.heap k u
  | _, _, _, .num i, r => by
    obtain ⟨t, rfl⟩ := r
    exact .int i t
  | _, _, _, .tup e t, r => by
    cases r
    obtain ⟨_, its, rv, o, h1, h2, n, h3⟩ := I.hok _ _ e
    exact .tup h1 h2 h3 (by simpa using KeysH.nested I t rv)
theorem KeysH.nested (I : Inv X pins σ H s) : ∀ {ks : List NestedKey} {vs : List V} {us : List Value}, KeysH H ks vs → Vals vs us → NestedAll s.heap ks us
  | _, _, _, .nil, .nil => .nil
  | _, _, _, .cons a b, .cons r rr => .cons (KeyH.nested I a r) (KeysH.nested I b rr)
end
/-- entries in order -/
def MetE (H : Hp) (xs : List (NestedKey × Addr × Value)) : Prop := (xs.map (·.1)).Nodup ∧ ∀ e ∈ xs, KeyH H e.1 (.ref e.2.1) ∧ e.1.depth ≤ 8
theorem met_at {a : Addr} {xs : List (NestedKey × Addr × Value)} (I : Inv X pins σ H s) (ha : H a = some (metO X.prog X.w a xs)) (e : MetE H xs) : (a == sysModules) = false ∧ s.heap.DictOfH (nestedKind X.prog X.w) a xs := by
  obtain ⟨⟨hs, o, es, ep, h1, h2, h3, h4⟩, _, _⟩ := I.hok _ _ ha
  exact ⟨hs, o, es, ep, h1, h2, h3, h4, fun x hx => ⟨(e.2 x hx).1.nested I rfl, (e.2 x hx).2⟩, e.1⟩
def MetK (P : Program) (w : World) (H : Hp) (x y : V) (a : Addr) (xs : List (NestedKey × Addr × Value)) (k : NestedKey) (b : Addr) : Prop :=
  x = .ref a ∧ y = .ref b ∧ H a = some (metO P w a xs) ∧ MetE H xs ∧ KeyH H k (.ref b) ∧ k.depth ≤ 8
def rMetGet (P : Program) (w : World) : R2 := fun x y H Q => ∃ a xs k b p z, MetK P w H x y a xs k b ∧ atKey xs k = some p ∧ RelV z p.2 ∧ Q z H
theorem roomK (hu : X.A.units + 64 < cLine) : (nestedKind X.prog X.w).room X.A.in1 := by
  show X.A.in1.units + 8 < cLine
  have : X.A.in1.units = X.A.units + 1 := rfl
  omega
theorem ix_met (hu : X.A.units + 64 < cLine) : IxR X (rMetGet X.prog X.w) := by
  intro value slice pins s σ H x y v u Q I rx ry h hs
  obtain ⟨a, xs, k, b, p, z, ⟨rfl, rfl, ha, he, hk, hd⟩, hp, rz, q⟩ := h
  cases rx
  cases ry
  obtain ⟨hm, dd⟩ := met_at I ha he
  exact tail_any dd.typeIs PySem.F.slot_dict_getitem.lookup (wpAny_getItem_heap (roomK hu) ⟨hk.nested I rfl, hd⟩ dd hp ⟨z, H, I.tok _, rz, q⟩) hs
def rMetIn (P : Program) (w : World) (neg : Bool) : R2 := fun x y H Q => ∃ a xs k b, MetK P w H y x a xs k b ∧ Q (.bl (if neg then !(atKey xs k).isSome else (atKey xs k).isSome)) H
theorem op_inM (hu : X.A.units + 64 < cLine) : OpR X (compareOp .In) (rMetIn X.prog X.w false) := by
  intro pins s σ H x y v u Q I rx ry h
  obtain ⟨a, xs, k, b, ⟨rfl, rfl, ha, he, hk, hd⟩, q⟩ := h
  cases rx
  cases ry
  obtain ⟨hm, dd⟩ := met_at I ha he
  exact wpAny_in_heap (roomK hu) ⟨hk.nested I rfl, hd⟩ hm dd ⟨.bl (atKey xs k).isSome, H, I.tok _, rfl, q⟩
theorem op_notInM (hu : X.A.units + 64 < cLine) : OpR X (compareOp .NotIn) (rMetIn X.prog X.w true) := by
  intro pins s σ H x y v u Q I rx ry h
  obtain ⟨a, xs, k, b, ⟨rfl, rfl, ha, he, hk, hd⟩, q⟩ := h
  cases rx
  cases ry
  obtain ⟨hm, dd⟩ := met_at I ha he
  refine notIn_keyed (kvs := pairsH xs) (roomK hu) ⟨hk.nested I rfl, hd⟩ hm ⟨xs, dd, rfl⟩ ?_
  refine ⟨_, H, I.tok _, ?_, q⟩
  rw [valueAt_pairsH, Option.isSome_map]; rfl
def rMetLen (P : Program) (w : World) : List V → Hp → VK → Prop := fun vs H Q => ∃ a xs, vs = [.ref a] ∧ H a = some (metO P w a xs) ∧ MetE H xs ∧ xs.length ≤ sizeLine ∧ Q (.int (xs.length : Nat)) H
theorem call_lenM : CallR X (.builtin "len") (rMetLen X.prog X.w) := by
  intro pins s σ H vs us Q I r h
  obtain ⟨a, xs, rfl, ha, he, hz, q⟩ := h
  rw [Vals.ref1 r]
  obtain ⟨hm, dd⟩ := met_at I ha he
  exact call_len_dictH hm dd (by rw [sizeLine_eq] at hz; omega) ⟨.int (xs.length : Nat), H, I.tok _, ⟨_, rfl⟩, q⟩
def rMetSet (P : Program) (w : World) : TSet := fun x y z H Q => ∃ a xs k b, MetK P w H x y a xs k b ∧ atKey xs k = none ∧ xs.length ≤ 200000 ∧ ∀ u, RelV z u → Q (upd H a (metO P w a (xs ++ [(k, b, u)])))
theorem set_met (hu : X.A.units + 64 < cLine) : PSet X (rMetSet X.prog X.w) := by
  intro pins s σ H x y z ov iv u Q I rx ry rz h
  obtain ⟨a, xs, k, b, ⟨rfl, rfl, ha, he, hk, hd⟩, hn, hz, q⟩ := h
  cases rx
  cases ry
  obtain ⟨hm, dd⟩ := met_at I ha he
  refine wpAny_setItem_heap (roomK hu) ⟨hk.nested I rfl, hd⟩ dd (fun h' dd' sb => ⟨_, ?_, q u rz⟩) (by rw [sizeLine_eq]; omega)
  rw [storedH_new hn] at dd'
  obtain ⟨o, es, ep, h1, h2, h3, h4, _, _⟩ := dd'
  refine I.write (by rw [ha]; exact True.intro) (.inl rfl) (fun c v hc e => (sb.2 c hc).trans e) ⟨o, h1⟩ ?_
  refine ⟨⟨hm, o, es, ep, h1, h2, h3, h4⟩, ⟨o, h1⟩, fun g1 g2 hg hk => ?_⟩
  obtain ⟨hm', o', es', ep', k1, k2, k3, k4⟩ := hg
  exact ⟨hm', o', es', ep', hk o' k1, k2, k3, k4⟩
end
section
variable {T : Nat → FC} {D : Dt} {X : Cx} {E : XK} {k : Nat}
/-- entries told by the evaluator -/
abbrev MetP (D : Dt) (rh : Rh) (H : Hp) : AV × AV → NestedKey × Addr × Value → Prop := fun p q => VR D rh p.1 (.ref q.2.1) ∧ (KeyH H q.1 (.ref q.2.1) ∧ q.1.depth ≤ 8) ∧ ∃ v, VR D rh p.2 v ∧ RelV v q.2.2
theorem metE_of {rh : Rh} {H : Hp} {xs : List (NestedKey × Addr × Value)} (hn : (xs.map (·.1)).Nodup) : ∀ {kvs : List (AV × AV)}, Paired (MetP D rh H) kvs xs → MetE H xs := fun r => ⟨hn, fun e he => by
  clear hn
  induction r with
  | nil => cases he
  | cons a b ih =>
    rcases List.mem_cons.mp he with z | z
    · rw [z]; exact a.2.1
    · exact ih z⟩
section
variable (K : DtOk D)
include K
theorem isK0_ok {rh : Rh} {H : Hp} {v : AV} {x : V} (h : isK0 v = true) (r : VR D rh v x) : ∃ q, KeyH H q x ∧ q.depth = 0 := by
  cases v with
  | int c m =>
    cases (show x = .int _ from r)
    exact ⟨_, .num _, by simp [NestedKey.depth]⟩
  | _ => cases h
theorem isKs_ok {rh : Rh} {H : Hp} {p : AV → Bool} {n : Nat} (hp : ∀ v x, p v = true → VR D rh v x → ∃ q, KeyH H q x ∧ q.depth ≤ n) : ∀ {vs : List AV} {xs : List V}, allA p vs = true → VRs D rh vs xs → ∃ qs, KeysH H qs xs ∧ NestedKey.depthAll qs ≤ n
  | [], _, _, .nil => ⟨[], .nil, by simp [NestedKey.depthAll]⟩
  | v :: vs, _, h, .cons r rr => by
    have h : (p v && allA p vs) = true := h
    rw [Bool.and_eq_true] at h
    obtain ⟨q, h1, h2⟩ := hp _ _ h.1 r
    obtain ⟨qs, h3, h4⟩ := isKs_ok hp h.2 rr
    exact ⟨q :: qs, .cons h1 h3, by simp only [NestedKey.depthAll]; omega⟩
theorem isK1_ok {P : Program} {w : World} {rh : Rh} {h1 : Hh} {H : Hp} (rp : Rep D P w rh h1 H) {v : AV} {x : V} (h : isK1 h1 v = true) (r : VR D rh v x) : ∃ q, KeyH H q x ∧ q.depth ≤ 1 := by
  cases v with
  | int c m =>
    cases (show x = .int _ from r)
    exact ⟨_, .num _, by simp [NestedKey.depth]⟩
  | ref i =>
    have h : (match h1.get i with | some (.tup xs) => allA isK0 xs | _ => false) = true := h
    split at h
    · rename_i xs e
      obtain ⟨a, vs, rfl, _, ha, ra⟩ := rp.tup e r
      obtain ⟨qs, h3, h4⟩ := isKs_ok K (n := 0) (H := H) (fun v x a b => let ⟨q, c, d⟩ := isK0_ok K (H := H) a b; ⟨q, c, by omega⟩) h ra
      exact ⟨.tup qs, .tup ha h3, by simp only [NestedKey.depth]; omega⟩
    · cases h
  | _ => cases h
theorem isK2_ok {P : Program} {w : World} {rh : Rh} {h1 : Hh} {H : Hp} (rp : Rep D P w rh h1 H) {v : AV} {x : V} (h : isK2 h1 v = true) (r : VR D rh v x) : ∃ a q, x = .ref a ∧ KeyH H q x ∧ q.depth ≤ 8 := by
  cases v with
  | ref i =>
    have h : (match h1.get i with | some (.tup xs) => allA (isK1 h1) xs | _ => false) = true := h
    split at h
    · rename_i xs e
      obtain ⟨a, vs, rfl, _, ha, ra⟩ := rp.tup e r
      obtain ⟨qs, h3, h4⟩ := isKs_ok K (n := 1) (H := H) (fun v x a b => isK1_ok K rp a b) h ra
      exact ⟨a, .tup qs, rfl, .tup ha h3, by simp only [NestedKey.depth]; omega⟩
    · cases h
  | _ => cases h
/-- how keys are told apart -/
def EqKOk (D : Dt) (rh : Rh) (H : Hp) (f : AV → AV → Option Bool) : Prop := ∀ v u x y p q c, f v u = some c → VR D rh v x → VR D rh u y → KeyH H p x → KeyH H q y → c = decide (p = q)
theorem eqInt_ok {rh : Rh} {H : Hp} {c m d k : Int} {x y : V} {p q : NestedKey} {b : Bool} (h : zeroC (c - d) (m - k) = some b) (vx : VR D rh (.int c m) x) (vy : VR D rh (.int d k) y) (hp : KeyH H p x) (hq : KeyH H q y) : b = decide (p = q) := by
  cases (show x = .int _ from vx)
  cases (show y = .int _ from vy)
  cases hp
  cases hq
  have e := zeroC_ok K h
  rw [room_sub] at e
  rw [e]
  by_cases z : c + m * D.room = d + k * D.room
  · rw [decide_eq_true (by omega), decide_eq_true (by rw [z])]
  · rw [decide_eq_false (by omega), decide_eq_false (fun n => z (by injection n))]
theorem eqK0_ok {rh : Rh} {H : Hp} : EqKOk D rh H eqK0 := by
  intro v u x y p q c h vx vy hp hq
  cases v with
  | int a m => cases u with
    | int d k => exact eqInt_ok K h vx vy hp hq
    | _ => cases h
  | _ => cases h
theorem eqKs_ok {rh : Rh} {H : Hp} {f : AV → AV → Option Bool} (hf : EqKOk D rh H f) : ∀ {vs us : List AV} {xs ys : List V} {ps qs : List NestedKey} {c : Bool}, eqKs f vs us = some c → VRs D rh vs xs → VRs D rh us ys → KeysH H ps xs → KeysH H qs ys → c = decide (ps = qs)
  | [], [], _, _, _, _, c, h, .nil, .nil, .nil, .nil => by
    have h := Option.some.inj h
    rw [← h]; rfl
  | [], u :: us, _, _, _, _, c, h, .nil, .cons _ _, .nil, .cons _ _ => by
    have h := Option.some.inj h
    rw [← h]; rfl
  | v :: vs, [], _, _, _, _, c, h, .cons _ _, .nil, .cons _ _, .nil => by
    have h := Option.some.inj h
    rw [← h]; rfl
  | v :: vs, u :: us, _, _, _, _, c, h, .cons r rr, .cons t tt, .cons a aa, .cons b bb => by
    have h : (match f v u with | some true => eqKs f vs us | some false => some false | none => none) = some c := h
    cases e : f v u with
    | none => rw [e] at h; cases h
    | some d =>
      rw [e] at h
      have z := hf _ _ _ _ _ _ _ e r t a b
      cases d with
      | true =>
        have z2 := eqKs_ok hf h rr tt aa bb
        have z := of_decide_eq_true z.symm
        rw [z2]
        simp [z]
      | false =>
        have h := Option.some.inj h
        have z := of_decide_eq_false z.symm
        rw [← h]
        simp [z]
theorem eqK1_ok {P : Program} {w : World} {rh : Rh} {h1 : Hh} {H : Hp} (rp : Rep D P w rh h1 H) : EqKOk D rh H (eqK1 h1) := by
  intro v u x y p q c h vx vy hp hq
  cases v with
  | int a m => cases u with
    | int d k => exact eqInt_ok K h vx vy hp hq
    | _ => cases h
  | ref i => cases u with
    | ref j =>
      have h : (match h1.get i, h1.get j with | some (.tup xs), some (.tup ys) => eqKs eqK0 xs ys | _, _ => none) = some c := h
      split at h
      · rename_i xs ys e1 e2
        obtain ⟨a, vs, rfl, _, ha, ra⟩ := rp.tup e1 vx
        obtain ⟨b, us, rfl, _, hb, rb⟩ := rp.tup e2 vy
        cases hp with
        | tup g1 g2 => cases hq with
          | tup g3 g4 =>
            rw [ha] at g1; rw [hb] at g3
            cases g1; cases g3
            rw [eqKs_ok K (eqK0_ok K) h ra rb g2 g4]
            simp
      · cases h
    | _ => cases h
  | _ => cases h
theorem eqK2_ok {P : Program} {w : World} {rh : Rh} {h1 : Hh} {H : Hp} (rp : Rep D P w rh h1 H) : EqKOk D rh H (eqK2 h1) := by
  intro v u x y p q c h vx vy hp hq
  cases v with
  | ref i => cases u with
    | ref j =>
      have h : (match h1.get i, h1.get j with | some (.tup xs), some (.tup ys) => eqKs (eqK1 h1) xs ys | _, _ => none) = some c := h
      split at h
      · rename_i xs ys e1 e2
        obtain ⟨a, vs, rfl, _, ha, ra⟩ := rp.tup e1 vx
        obtain ⟨b, us, rfl, _, hb, rb⟩ := rp.tup e2 vy
        cases hp with
        | tup g1 g2 => cases hq with
          | tup g3 g4 =>
            rw [ha] at g1; rw [hb] at g3
            cases g1; cases g3
            rw [eqKs_ok K (eqK1_ok K rp) h ra rb g2 g4]
            simp
      · cases h
    | _ => cases h
  | _ => cases h
theorem metGet_ok {P : Program} {w : World} {rh : Rh} {h1 : Hh} {H : Hp} (rp : Rep D P w rh h1 H) {key : AV} {y : V} {kk : NestedKey} (vy : VR D rh key y) (hk : KeyH H kk y) : ∀ {kvs : List (AV × AV)} {xs : List (NestedKey × Addr × Value)} {o : Option AV}, metGet h1 key kvs = some o → Paired (MetP D rh H) kvs xs →
    (match o with
      | some v => ∃ p z, atKey xs kk = some p ∧ VR D rh v z ∧ RelV z p.2
      | none => atKey xs kk = none)
  | [], _, o, h, .nil => by
    have h := Option.some.inj h
    subst h
    rfl
  | (q, v) :: r, _, o, h, .cons (b := x) a rr => by
    have h : (match eqK2 h1 q key with | some true => some (some v) | some false => metGet h1 key r | none => none) = some o := h
    cases e : eqK2 h1 q key with
    | none => rw [e] at h; cases h
    | some d =>
      rw [e] at h
      have z := eqK2_ok K rp _ _ _ _ _ _ _ e a.1 vy a.2.1.1 hk
      cases d with
      | true =>
        have h := Option.some.inj h
        subst h
        have z := of_decide_eq_true z.symm
        obtain ⟨z1, z2, z3⟩ := a.2.2
        exact ⟨x.2, z1, by simp [atKey, List.find?_cons, z], z2, z3⟩
      | false =>
        have z := of_decide_eq_false z.symm
        have ih := metGet_ok rp vy hk h rr
        have e2 : ∀ l, atKey (x :: l) kk = atKey l kk := fun l => by simp [atKey, List.find?_cons, z]
        rw [e2]
        exact ih
end
end
end Ck
-- SD7
set_option Elab.async false
set_option linter.all false
set_option maxRecDepth 100000
set_option maxHeartbeats 4000000
set_option autoImplicit false
namespace Ck
open PySem PySem.Spec PyProof.Rows L2
/-- what the classes must have -/
structure KOk (D : Dt) (K : PySem.W.Frag) : Prop where
  cls : ∀ C, C < 6 → Cls K (D.cA C)
  noat : ∀ C f, C < 6 → f < 24 → NoAttr K (D.cA C) (D.fN f)
section
variable {T : Nat → FC} {D : Dt} {X : Cx} {E : XK} {k : Nat}
/-! ### fields -/
abbrev FldP (D : Dt) (rh : Rh) : Nat × AV → Str × V → Prop := fun p q => p.1 < 24 ∧ q.1 = D.fN p.1 ∧ VR D rh p.2 q.2
section
variable (K : DtOk D)
include K
theorem fld_lookup {rh : Rh} {f : Nat} (hf : f < 24) : ∀ {fs : List (Nat × AV)} {ks : List (Str × V)} {v : AV}, Paired (FldP D rh) fs ks → fldGet f fs = some v → ∃ x, ks.lookup (D.fN f) = some x ∧ VR D rh v x
  | (g, w) :: r, _, v, .cons (b := b) a rr, h => by
    have h : (match Nat.beq g f with | true => some w | false => fldGet f r) = some v := h
    obtain ⟨a1, a2, a3⟩ := a
    rw [List.lookup_cons]
    cases e : Nat.beq g f with
    | true =>
      rw [e] at h
      cases h
      have := nbeq.mp e
      subst this
      rw [show (D.fN g == b.1) = true from beq_iff_eq.mpr a2.symm]
      exact ⟨b.2, rfl, a3⟩
    | false =>
      rw [e] at h
      have := nbeq_f.mp e
      rw [show (D.fN f == b.1) = false from beq_eq_false_iff_ne.mpr fun z => this (K.fld g f a1 hf (a2.symm.trans z.symm))]
      exact fld_lookup hf rr h
theorem fld_put {rh : Rh} {f : Nat} (hf : f < 24) {v : AV} {x : V} (r : VR D rh v x) : ∀ {fs : List (Nat × AV)} {ks : List (Str × V)}, Paired (FldP D rh) fs ks → Paired (FldP D rh) (fldSet f v fs) (putF (D.fN f) x ks)
  | [], _, .nil => .cons ⟨hf, rfl, r⟩ .nil
  | (g, w) :: rest, _, .cons (b := b) a rr => by
    obtain ⟨a1, a2, a3⟩ := a
    unfold fldSet putF
    cases e : Nat.beq g f with
    | true =>
      have := nbeq.mp e
      subst this
      dsimp only
      rw [if_pos a2]
      exact .cons ⟨a1, a2, r⟩ rr
    | false =>
      have := nbeq_f.mp e
      dsimp only
      rw [if_neg fun z => this (K.fld g f a1 hf (a2.symm.trans z))]
      exact .cons ⟨a1, a2, a3⟩ (fld_put hf r rr)
end
theorem fld_none {rh : Rh} {m : Str} (hm : ∀ f, f < 24 → D.fN f ≠ m) : ∀ {fs : List (Nat × AV)} {ks : List (Str × V)}, Paired (FldP D rh) fs ks → ks.lookup m = none
  | _, _, .nil => rfl
  | _, _, .cons (b := b) a rr => by
    rw [List.lookup_cons, show (m == b.1) = false from beq_eq_false_iff_ne.mpr fun z => hm _ a.1 (a.2.1.symm.trans z.symm)]
    exact fld_none hm rr
theorem se_attr (K : DtOk D) (KK : KOk D X.K) {f : Nat} (hf : f < 24) {nm : Str} (hn : D.fN f = nm) {a : IE} {ea : PySem.Expr} {pos : Pos} (ha : SE T D X E a ea) (hb : attributeBase ea nm X.env (eval ea X.env) = eval ea X.env) : SE T D X E (.attr a f) (.Attribute ea nm pos) := by
  intro n s h σ H rh Q sr rp q
  cases n with
  | zero => exact q.elim
  | succ n =>
    refine of_PE (pe_fld pE hb) (one ha sr rp q fun x H1 rh1 h1 v e1 r1 vr q1 => ?_)
    cases v with
    | ref j =>
      have q1 : QE D X.prog X.w (match h1.get j with | some (.ins _ fs) => (match fldGet f fs with | some v => .ok v h1 | none => .no) | _ => .no) rh1 H1 Q E := q1
      split at q1
      · rename_i C fs e
        obtain ⟨p, dx, ks, rfl, _, hp, hC, hl, rr⟩ := r1.ins e vr
        cases e2 : fldGet f fs with
        | none => rw [e2] at q1; exact q1.elim
        | some v =>
          rw [e2] at q1
          obtain ⟨y, h1', h2⟩ := fld_lookup K hf rr e2
          exact ⟨p, D.cA C, dx, ks, y, rfl, hp, KK.cls C hC, by rw [← hn]; exact KK.noat C f hC hf, by rw [← hn]; exact h1', QE.here r1 h2 q1⟩
      · exact q1.elim
    | _ => exact q1.elim
/-! ### tuples, lists -/
theorem se_tup {es : List IE} {xs : List PySem.Expr} {x1 : Nat} {pos : Pos} (ha : SL T D X E es xs) : SE T D X E (.tup es) (.Tuple xs x1 pos) := by
  intro n s h σ H rh Q sr rp q
  cases n with
  | zero => exact q.elim
  | succ n =>
    refine of_PE (pe_tup pA) (many ha sr rp q fun vs H1 rh1 h1 xs e1 r1 vr q1 => ?_)
    unfold mkV at q1
    cases e : small xs with
    | false => rw [e] at q1; exact q1.elim
    | true =>
      rw [e] at q1
      have l := small_le e
      have p1 := pr_length vr
      exact ⟨mostLine (by omega), q1.made r1 (fun _ => .tup vs) fun p np => OR.tupN vr.mono⟩
theorem se_lst {es : List IE} {xs : List PySem.Expr} {pos : Pos} (ha : SL T D X E es xs) : SE T D X E (.lst es) (.List xs pos) := by
  intro n s h σ H rh Q sr rp q
  cases n with
  | zero => exact q.elim
  | succ n =>
    refine of_PE (pe_lst pA) (many ha sr rp q fun vs H1 rh1 h1 xs e1 r1 vr q1 => ?_)
    unfold mkV at q1
    cases e : small xs with
    | false => rw [e] at q1; exact q1.elim
    | true =>
      rw [e] at q1
      have l := small_le e
      have p1 := pr_length vr
      exact ⟨mostLine (by omega), q1.made r1 (fun _ => .lst vs) fun p np => OR.lstN vr.mono⟩
/-! ### subscripts -/
def rDctGet : R2 := fun x y H Q => ∃ a kvs z v, x = .ref a ∧ y = .str z ∧ H a = some (.dK kvs) ∧ valV kvs (Sum.inr z) = some v ∧ Q v H
theorem ix_dct (hu : X.A.units + 64 < cLine) : IxR X rDctGet := by
  intro value slice pins s σ H x y v u Q I rx ry h hs
  obtain ⟨a, kvs, z, w, rfl, rfl, ha, hv, q⟩ := h
  cases rx
  have g : DGet H a (.str z) (some w) := by rw [← hv]; exact DGet.k (k := Sum.inr z) ha
  exact tail_any (dict_typeIs I g) PySem.F.slot_dict_getitem.lookup (d_getItem (by omega) I g ry fun w' s' I' r' => ⟨w, H, I', r', q⟩) hs
def rIxAll (K : PySem.W.Frag) (P : Program) (w : World) : R2 := fun x y H Q => (rIx K x y H Q ∨ rDctGet x y H Q) ∨ rMetGet P w x y H Q
theorem ix_all (hu : X.A.units + 64 < cLine) : IxR X (rIxAll X.K X.prog X.w) := (ix_seq.or (ix_dct hu)).or (ix_met hu)
theorem seq_at {P : Program} {w : World} {rh : Rh} {h : Hh} {H : Hp} {xs : List AV} {vs : List V} {c : Int} {Q : VK} (rp : Rep D P w rh h H) (r : VRs D rh xs vs) (q : QE D P w (seqAt xs c h) rh H Q E) : ∃ x, atI vs c = some x ∧ Q x H := by
  unfold seqAt at q
  cases e : ixOf c (lenN xs) with
  | none => rw [e] at q; exact q.elim
  | some i =>
    rw [e] at q
    dsimp only at q
    rw [nth_eq] at q
    cases e2 : xs[i]? with
    | none => rw [e2] at q; exact q.elim
    | some v =>
      rw [e2] at q
      obtain ⟨x, h1, h2⟩ := pr_get r e2
      refine ⟨x, ?_, QE.here rp h2 q⟩
      have hl := pr_length r
      rw [lenN_eq] at e
      unfold ixOf at e
      unfold atI ixN
      cases c with
      | ofNat j =>
        dsimp only at e
        cases z : Nat.blt j xs.length with
        | false => rw [z] at e; cases e
        | true =>
          rw [z] at e
          cases e
          have := nblt.mp z
          rw [if_pos (by simp), if_pos (by simp; omega)]
          simpa using h1
      | negSucc j =>
        dsimp only at e
        cases z : Nat.blt j xs.length with
        | false => rw [z] at e; cases e
        | true =>
          rw [z] at e
          cases e
          have := nblt.mp z
          rw [if_neg (by omega), if_pos (by omega)]
          have e3 : (Int.negSucc j + (vs.length : Int)).toNat = xs.length - (j + 1) := by omega
          show vs[(Int.negSucc j + (vs.length : Int)).toNat]? = some x
          rw [e3]
          exact h1
theorem dct_get (K : DtOk D) {rh : Rh} {s : List Pc} : ∀ {kvs : List (List Nat × AV)} {ks : List (Key × V)} {v : AV}, Paired (fun (p : List Nat × AV) (q : Key × V) => q.1 = Sum.inr (strOf p.1) ∧ VR D rh p.2 q.2) kvs ks → dctGet s kvs = some v → ∃ x, valV ks (Sum.inr (sV D s)) = some x ∧ VR D rh v x
  | (c, w) :: r, _, v, .cons (b := b) a rr, h => by
    have h : (match eqS (litS c) s with | some true => some w | some false => dctGet s r | none => none) = some v := h
    cases e : eqS (litS c) s with
    | none => rw [e] at h; cases h
    | some d =>
      rw [e] at h
      have z := eqS_ok K _ _ e
      rw [sC_lit] at z
      cases d with
      | true =>
        cases h
        have z := of_decide_eq_true z.symm
        exact ⟨b.2, valV_pos (by rw [a.1, z]; rfl), a.2⟩
      | false =>
        have z := of_decide_eq_false z.symm
        obtain ⟨x, h1, h2⟩ := dct_get K rr h
        refine ⟨x, ?_, h2⟩
        rw [valV_neg (fun y => z ?_)]
        · exact h1
        · rw [a.1] at y
          exact strOf_inj (Sum.inr.inj y)
theorem ix_ok (K : DtOk D) {rh1 : Rh} {h1 : Hh} {H1 : Hp} {v u : AV} {x y : V} {Q : VK} (r1 : Rep D X.prog X.w rh1 h1 H1) (vx : VR D rh1 v x) (vy : VR D rh1 u y) (q : QE D X.prog X.w (idxV v u h1) rh1 H1 Q E) : rIxAll X.K X.prog X.w x y H1 Q := by
  cases v with
  | ref j =>
    unfold idxV at q
    dsimp only at q
    have q2 := q
    clear q
    have int_at : ∀ {c m : Int}, zeroI m = true → VR D rh1 (.int c m) y → y = .int c := fun {c m} z r => by
      have := zero_iff.mp z
      subst this
      have r : y = .int (c + 0 * D.room) := r
      rw [Int.zero_mul, Int.add_zero] at r
      exact r
    split at q2
    · rename_i xs e
      obtain ⟨a, vs, rfl, _, ha, ra⟩ := r1.lst e vx
      cases u with
      | int c m =>
        dsimp only at q2
        cases z : zeroI m with
        | false => rw [z] at q2; exact q2.elim
        | true =>
          rw [z] at q2
          obtain ⟨w, e1, e2⟩ := seq_at r1 ra q2
          exact .inl (.inl (.inl ⟨a, vs, c, w, rfl, int_at z vy, .inl (.inl ha), e1, e2⟩))
      | _ => exact q2.elim
    · rename_i xs e
      obtain ⟨a, vs, rfl, _, ha, ra⟩ := r1.tup e vx
      cases u with
      | int c m =>
        dsimp only at q2
        cases z : zeroI m with
        | false => rw [z] at q2; exact q2.elim
        | true =>
          rw [z] at q2
          obtain ⟨w, e1, e2⟩ := seq_at r1 ra q2
          exact .inl (.inl (.inr (.inl ⟨a, vs, c, w, rfl, int_at z vy, .inl (.inl ha), e1, e2⟩)))
      | _ => exact q2.elim
    · rename_i kvs e
      obtain ⟨a, ho, rfl, _, ha, ks, rfl, rr⟩ := r1.obj e vx
      cases u with
      | str s =>
        dsimp only at q2
        cases z : dctGet s kvs with
        | none => rw [z] at q2; exact q2.elim
        | some w =>
          rw [z] at q2
          obtain ⟨x, e1, e2⟩ := dct_get K rr z
          exact .inl (.inr ⟨a, ks, _, x, rfl, vy, ha, e1, QE.here r1 e2 q2⟩)
      | _ => exact q2.elim
    · rename_i kvs e
      obtain ⟨a, ho, rfl, _, ha, xs, rfl, hn, hz, rr⟩ := r1.obj e vx
      cases z : isK2 h1 u with
      | false => rw [z] at q2; exact q2.elim
      | true =>
        rw [z] at q2
        obtain ⟨b, kk, rfl, hk, hd⟩ := isK2_ok K r1 z vy
        cases z2 : metGet h1 u kvs with
        | none => rw [z2] at q2; exact q2.elim
        | some o =>
          rw [z2] at q2
          cases o with
          | none => exact q2.elim
          | some w =>
            obtain ⟨p, t, e1, e2, e3⟩ := metGet_ok K r1 vy hk z2 rr
            exact .inr ⟨a, xs, kk, b, p, t, ⟨rfl, rfl, ha, metE_of hn rr, hk, hd⟩, e1, e3, QE.here r1 e2 q2⟩
    · exact q2.elim
  | str s =>
    cases u with
    | int c m =>
      cases c with
      | negSucc _ => exact q.elim
      | ofNat i =>
        unfold idxV at q
        dsimp only at q
        have q2 := q
        clear q
        split at q2
        · rename_i cs e1 e2
          rw [nth_eq] at q2
          cases z : cs[i]? with
          | none => rw [z] at q2; exact q2.elim
          | some c =>
            rw [z] at q2
            rw [Bool.and_eq_true] at e1
            have := zero_iff.mp e1.1
            subst this
            have vy : y = .int (Int.ofNat i + 0 * D.room) := vy
            rw [Int.zero_mul, Int.add_zero] at vy
            have ec := sC_lits (D := D) e2
            have li := (List.getElem?_eq_some_iff.mp z).1
            have lz : (sV D s).length ≤ sizeLine := mostLine (by have := bnd_le K e1.2; omega)
            refine .inl (.inl (.inr (.inr ⟨sV D s, _, c, vx, vy, lz, ?_, QE.here (v := .str [.l c]) r1 ?_ q2⟩)))
            · exact atI_nat (by rw [show (sV D s).cps.toList = sC D s from tl_strOf _, ec]; exact z)
            · show V.str _ = V.str _
              rfl
        · exact q2.elim
    | _ => exact q.elim
  | _ => exact q.elim
theorem se_idx (K : DtOk D) (hu : X.A.units + 64 < cLine) {a b : IE} {ea eb : PySem.Expr} {pos : Pos} (ha : SE T D X E a ea) (hb : SE T D X E b eb) (hs : PlainIx eb) : SE T D X E (.idx a b) (.Subscript ea eb pos) := by
  intro n s h σ H rh Q sr rp q
  cases n with
  | zero => exact q.elim
  | succ n => exact of_PE (pe_ix (ix_all hu) pE pE hs) (two ha hb sr rp q fun x y H1 rh1 h1 v u r1 vx vy q1 => ix_ok K r1 vx vy q1)
end
end Ck
-- SD8
set_option Elab.async false
set_option linter.all false
set_option maxRecDepth 100000
set_option maxHeartbeats 4000000
set_option autoImplicit false
namespace Ck
open PySem PySem.Spec PyProof.Rows L2
section
variable {T : Nat → FC} {D : Dt} {X : Cx} {E : XK} {k : Nat}
/-! ### in, not in -/
def rInAll (K : PySem.W.Frag) (P : Program) (w : World) (neg : Bool) : R2 := fun x y H Q => rIn K neg x y H Q ∨ rMetIn P w neg x y H Q
theorem op_inAll (hu : X.A.units + 64 < cLine) : OpR X (compareOp .In) (rInAll X.K X.prog X.w false) := op_in_seq.or (op_inM hu)
theorem op_notInAll (hu : X.A.units + 64 < cLine) : OpR X (compareOp .NotIn) (rInAll X.K X.prog X.w true) := op_notIn_seq.or (op_notInM hu)
theorem in_ok (K : DtOk D) {neg : Bool} {x y : V} {H1 : Hp} {rh1 : Rh} {h1 : Hh} {v u : AV} {c : Bool} {Q : VK} (rp : Rep D X.prog X.w rh1 h1 H1) (vx : VR D rh1 v x) (vy : VR D rh1 u y) (e : Ck.inV h1 v u = some c) (q : Q (.bl (if neg then !c else c)) H1) : rInAll X.K X.prog X.w neg x y H1 Q := by
  cases u with
  | ref j =>
    unfold Ck.inV at e
    dsimp only at e
    split at e
    · rename_i xs e1
      obtain ⟨a, vs, rfl, _, ha, ra⟩ := rp.lst e1 vy
      cases z : flat0 v && flats xs with
      | false => rw [z] at e; cases e
      | true =>
        rw [z] at e
        rw [Bool.and_eq_true] at z
        refine .inl ⟨a, vs, rfl, .inl (.inl (.inl ha)), flatV_ok K z.1 vx, flatVs_ok K z.2 ra, ?_⟩
        rw [inL_ok K z.1 vx z.2 ra e]
        exact q
    · rename_i xs e1
      obtain ⟨a, vs, rfl, _, ha, ra⟩ := rp.tup e1 vy
      cases z : flat0 v && flats xs with
      | false => rw [z] at e; cases e
      | true =>
        rw [z] at e
        rw [Bool.and_eq_true] at z
        refine .inl ⟨a, vs, rfl, .inr (.inl (.inl ha)), flatV_ok K z.1 vx, flatVs_ok K z.2 ra, ?_⟩
        rw [inL_ok K z.1 vx z.2 ra e]
        exact q
    · rename_i kvs e1
      obtain ⟨a, ho, rfl, _, ha, xs, rfl, hn, hz, rr⟩ := rp.obj e1 vy
      cases z : isK2 h1 v with
      | false => rw [z] at e; cases e
      | true =>
        rw [z] at e
        dsimp only at e
        obtain ⟨b, kk, rfl, hk, hd⟩ := isK2_ok K rp z vx
        refine .inr ⟨a, xs, kk, b, ⟨rfl, rfl, ha, metE_of hn rr, hk, hd⟩, ?_⟩
        cases z2 : metGet h1 v kvs with
        | none => rw [z2] at e; cases e
        | some o =>
          rw [z2] at e
          have m := metGet_ok K rp vx hk z2 rr
          cases o with
          | none =>
            cases e
            rw [show atKey xs kk = none from m]
            exact q
          | some w =>
            cases e
            obtain ⟨p, t, e1, _, _⟩ := m
            rw [e1]
            exact q
    · cases e
  | _ => cases e
theorem v_in (K : DtOk D) : ∀ x y H1 rh1 h1 v u (c : Bool) (Q : VK), Rep D X.prog X.w rh1 h1 H1 → VR D rh1 v x → VR D rh1 u y → cmpB .isin v u h1 = some c → Q (.bl c) H1 → rInAll X.K X.prog X.w false x y H1 Q :=
  fun x y H1 rh1 h1 v u c Q rp vx vy e q => in_ok K rp vx vy e q
theorem v_notin (K : DtOk D) : ∀ x y H1 rh1 h1 v u (c : Bool) (Q : VK), Rep D X.prog X.w rh1 h1 H1 → VR D rh1 v x → VR D rh1 u y → cmpB .notin v u h1 = some c → Q (.bl c) H1 → rInAll X.K X.prog X.w true x y H1 Q := by
  intro x y H1 rh1 h1 v u c Q rp vx vy e q
  exact in_ok K rp vx vy (notO_some K (show notO (Ck.inV h1 v u) = some c from e)) (by simpa using q)
theorem v_isN : ∀ x y H1 rh1 h1 v u (c : Bool) (Q : VK), Rep D X.prog X.w rh1 h1 H1 → VR D rh1 v x → VR D rh1 u y → cmpB .isN v u h1 = some c → Q (.bl c) H1 → y = V.non ∧ Q (.bl (decide (x = V.non))) H1 := by
  intro x y H1 rh1 h1 v u c Q rp vx vy e q
  cases u with
  | non =>
    refine ⟨vy, ?_⟩
    rw [isN_ok vx]
    cases v <;> (cases e; exact q)
  | _ => cases e
theorem v_notN : ∀ x y H1 rh1 h1 v u (c : Bool) (Q : VK), Rep D X.prog X.w rh1 h1 H1 → VR D rh1 v x → VR D rh1 u y → cmpB .notN v u h1 = some c → Q (.bl c) H1 → y = V.non ∧ Q (.bl (!decide (x = V.non))) H1 := by
  intro x y H1 rh1 h1 v u c Q rp vx vy e q
  cases u with
  | non =>
    refine ⟨vy, ?_⟩
    rw [isN_ok vx]
    cases v <;> (cases e; exact q)
  | _ => cases e
/-- in a tuple of the module -/
theorem se_inG (K : DtOk D) {neg : Bool} {vs : List AV} {xs : List V} {a : IE} {ea eb : PySem.Expr} {op : CmpOp} {pos : Pos} {g : Addr} (hop : OpR X (compareOp op) (rIn X.K neg)) (hm : behindInMarks op eb = false)
    (hb : PE X eb (tC (.ref g))) (hg : ∀ H, SqT X.K H g xs) (hv : ∀ rh, VRs D rh vs xs) (ha : SE T D X E a ea) : SE T D X E (.inG neg a vs) (.Compare ea [op] [eb] pos) := by
  intro n s h σ H rh Q sr rp q
  cases n with
  | zero => exact q.elim
  | succ n =>
    refine of_PE (pe_cmpR hop pE hb hm) (one ha sr rp q fun x H1 rh1 h1 v e1 r1 vr q1 => ?_)
    cases z : flat0 v && flats vs with
    | false => rw [z] at q1; exact q1.elim
    | true =>
      rw [z] at q1
      dsimp only at q1
      rw [Bool.and_eq_true] at z
      cases e : inL v vs with
      | none => rw [e] at q1; exact q1.elim
      | some b =>
        rw [e] at q1
        refine ⟨g, xs, rfl, .inr (hg _), flatV_ok K z.1 vr, flatVs_ok K z.2 (hv rh1), ?_⟩
        rw [inL_ok K z.1 vr z.2 (hv rh1) e]
        cases neg with
        | true => exact QE.here (v := .bl (xor true b)) r1 (by cases b <;> rfl) q1
        | false => exact QE.here (v := .bl (xor false b)) r1 (by cases b <;> rfl) q1
/-! ### chains -/
theorem chain_go {o1 o2 : COp} {op op' : CmpOp} {r r' : R2} {a b c : IE} {ea eb ec : PySem.Expr}
    (hv : ∀ x y H1 rh1 h1 v u (c : Bool) (Q : VK), Rep D X.prog X.w rh1 h1 H1 → VR D rh1 v x → VR D rh1 u y → cmpB o1 v u h1 = some c → Q (.bl c) H1 → r x y H1 Q)
    (hv' : ∀ x y H1 rh1 h1 v u (c : Bool) (Q : VK), Rep D X.prog X.w rh1 h1 H1 → VR D rh1 v x → VR D rh1 u y → cmpB o2 v u h1 = some c → Q (.bl c) H1 → r' x y H1 Q)
    (ha : SE T D X E a ea) (hb : SE T D X E b eb) (hc : SE T D X E c ec) {n : Nat} {s : Sg} {h : Hh} {σ : L2.St} {H : Hp} {rh : Rh} {Q : VK} (sr : SR D rh s σ) (rp : Rep D X.prog X.w rh h H)
    (q : QE D X.prog X.w (eChain (ev T n) o1 o2 a b c s h) rh H Q E) : tChain r r' (wE X ea) (wE X eb) (wE X ec) σ H Q := by
  refine one ha sr rp q fun x H1 rh1 h1 v e1 r1 vx q1 => one hb (sr.ext e1) r1 q1 fun y H2 rh2 h2 u e2 r2 vy q2 => ?_
  cases e : cmpB o1 v u h2 with
  | none => rw [e] at q2; exact q2.elim
  | some d =>
    rw [e] at q2
    refine hv x y H2 rh2 h2 v u d _ r2 (vx.ext e2) vy e ⟨d, rfl, ?_⟩
    cases d with
    | false => exact ite_ff (QE.here (v := .bl false) r2 rfl q2)
    | true =>
      refine ite_tt (one hc ((sr.ext e1).ext e2) r2 q2 fun z H3 rh3 h3 w e3 r3 vz q3 => ?_)
      cases e' : cmpB o2 u w h3 with
      | none => rw [e'] at q3; exact q3.elim
      | some d =>
        rw [e'] at q3
        exact hv' y z H3 rh3 h3 u w d _ r3 (vy.ext e3) vz e' (QE.here (v := .bl d) r3 rfl q3)
theorem se_chain {o1 o2 : COp} {op op' : CmpOp} {r r' : R2} {a b c : IE} {ea eb ec : PySem.Expr} {pos : Pos} (ho : OpR X (compareOp op) r) (ho' : OpR X (compareOp op') r')
    (hv : ∀ x y H1 rh1 h1 v u (c : Bool) (Q : VK), Rep D X.prog X.w rh1 h1 H1 → VR D rh1 v x → VR D rh1 u y → cmpB o1 v u h1 = some c → Q (.bl c) H1 → r x y H1 Q)
    (hv' : ∀ x y H1 rh1 h1 v u (c : Bool) (Q : VK), Rep D X.prog X.w rh1 h1 H1 → VR D rh1 v x → VR D rh1 u y → cmpB o2 v u h1 = some c → Q (.bl c) H1 → r' x y H1 Q)
    (ha : SE T D X E a ea) (hb : SE T D X E b eb) (hc : SE T D X E c ec) (hm : lastMarks [op, op'] [eb, ec] = false) : SE T D X E (.chain o1 o2 a b c) (.Compare ea [op, op'] [eb, ec] pos) := by
  intro n s h σ H rh Q sr rp q
  cases n with
  | zero => exact q.elim
  | succ n => exact of_PE (pe_chain ho ho' pE pE pE hm) (chain_go (op := op) (op' := op') hv hv' ha hb hc sr rp q)
/-! ### slices -/
def SO (T : Nat → FC) (D : Dt) (X : Cx) (E : XK) : Option IE → Option PySem.Expr → Prop
  | none, none => True
  | some a, some e => SE T D X E a e
  | _, _ => False
def wO (X : Cx) : Option PySem.Expr → TO
  | none => tNoPart
  | some e => tPart (wE X e)
theorem pO {e : Option PySem.Expr} : PO X e (wO X e) := by
  cases e with
  | none => exact po_none
  | some e => exact po_some pE
theorem part_go (K : DtOk D) {o : Option IE} {e : Option PySem.Expr} (ho : SO T D X E o e) {n : Nat} {s : Sg} {h : Hh} {σ : L2.St} {H : Hp} {rh : Rh} {kk : Option Nat → Hh → R} {Q : VK} (sr : SR D rh s σ) (rp : Rep D X.prog X.w rh h H)
    (q : QE D X.prog X.w (optE (ev T n) o s h kk) rh H Q E) {F : Option Int → Hp → Prop} (f : ∀ (j : Option Nat) H1 rh1 h1, Ext rh H rh1 H1 → Rep D X.prog X.w rh1 h1 H1 → QE D X.prog X.w (kk j h1) rh1 H1 Q E → F (j.map fun (i : Nat) => (i : Int)) H1) : wO X e σ H F := by
  cases o with
  | none =>
    cases e with
    | none => exact f none H rh h (Ext.refl _ _) rp q
    | some e => exact ho.elim
  | some a =>
    cases e with
    | none => exact ho.elim
    | some e =>
      refine one (show SE T D X E a e from ho) sr rp q fun x H1 rh1 h1 v e1 r1 vr q1 => ?_
      cases z : natV v with
      | none => rw [z] at q1; exact q1.elim
      | some j =>
        rw [z] at q1
        refine ⟨(j : Int), ?_, f (some j) H1 rh1 h1 e1 r1 q1⟩
        cases v with
        | int c m =>
          cases c with
          | negSucc _ => cases z
          | ofNat i =>
            have z : (match zeroI m with | true => some i | false => none) = some j := z
            cases y : zeroI m with
            | false => rw [y] at z; cases z
            | true =>
              rw [y] at z
              cases z
              have := zero_iff.mp y
              subst this
              have vr : x = .int (Int.ofNat j + 0 * D.room) := vr
              rw [Int.zero_mul, Int.add_zero] at vr
              exact vr
        | _ => cases z
theorem slL_len (xs : List AV) (l u : Option Nat) : ∀ (vs : List V) (rh : Rh), VRs D rh xs vs → VRs D rh (slL xs l u) (cutV vs (l.map fun (i : Nat) => (i : Int)) (u.map fun (i : Nat) => (i : Int))) := by
  intro vs rh r
  unfold cutV slL
  have full : ∀ (l : List V) (i j : Nat), (l.drop (min i l.length)).take (min j l.length - min i l.length) = (l.take j).drop i := fun l i j => by
    rw [List.drop_take]
    by_cases h : i ≤ l.length
    · rw [Nat.min_eq_left h, List.take_eq_take_iff, List.length_drop]
      omega
    · have e1 : List.drop i l = [] := List.drop_eq_nil_of_le (by omega)
      have e2 : List.drop (min i l.length) l = [] := List.drop_eq_nil_of_le (by omega)
      rw [e1, e2, List.take_nil, List.take_nil]
  cases l with
  | none =>
    cases u with
    | none =>
      show VRs D rh xs _
      simp only [Option.map_none, HT.sIx_none, List.drop_zero, Nat.sub_zero, List.take_length]
      exact r
    | some k =>
      show VRs D rh (takeL k xs) _
      rw [takeL_eq]
      simp only [Option.map_none, Option.map_some, HT.sIx_none, HT.sIx_nat, List.drop_zero, Nat.sub_zero]
      rw [show List.take (min k vs.length) vs = vs.take k from by rw [List.take_eq_take_iff]; omega]
      exact pr_take k r
  | some j =>
    cases u with
    | none =>
      show VRs D rh (dropL j xs) _
      rw [dropL_eq]
      simp only [Option.map_none, Option.map_some, HT.sIx_none, HT.sIx_nat]
      have := full vs j vs.length
      rw [Nat.min_self, List.take_length] at this
      rw [this]
      exact pr_drop j r
    | some k =>
      show VRs D rh (dropL j (takeL k xs)) _
      rw [dropL_eq, takeL_eq]
      simp only [Option.map_some, HT.sIx_nat]
      rw [full]
      exact pr_drop j (pr_take k r)
def rSlAll (K : PySem.W.Frag) : V → Option Int → Option Int → Hp → VK → Prop := fun x lo hi H Q => rSlL K x lo hi H Q ∨ rSlS x lo hi H Q
theorem se_slc (K : DtOk D) {a : IE} {lo hi : Option IE} {ea : PySem.Expr} {el eu : Option PySem.Expr} {pos p2 : Pos} (ha : SE T D X E a ea) (hl : SO T D X E lo el) (hh : SO T D X E hi eu) : SE T D X E (.slc a lo hi) (.Subscript ea (.Slice el eu none p2) pos) := by
  intro n s h σ H rh Q sr rp q
  cases n with
  | zero => exact q.elim
  | succ n =>
    refine of_PE (pe_slice (r := rSlAll X.K) (sl_list.or sl_str) pE pO pO) (one ha sr rp q fun x H1 rh1 h1 v e1 r1 vr q1 => ?_)
    refine part_go K hl (sr.ext e1) r1 q1 fun l H2 rh2 h2 e2 r2 q2 => part_go K hh ((sr.ext e1).ext e2) r2 q2 fun u H3 rh3 h3 e3 r3 q3 => ?_
    have vr := (vr.ext e2).ext e3
    cases v with
    | ref j =>
      unfold slV at q3
      dsimp only at q3
      split at q3
      · rename_i xs e
        obtain ⟨b, vs, rfl, _, hb, rb⟩ := r3.lst e vr
        exact .inl ⟨b, vs, rfl, .inl (.inl hb), q3.made r3 (fun _ => .lst _) fun p np => OR.lstN (slL_len xs l u vs _ rb).mono⟩
      · exact q3.elim
    | str t =>
      unfold slV at q3
      dsimp only at q3
      split at q3
      · rename_i kk e
        have lz : (sV D t).length ≤ sizeLine := mostLine (by have := bnd_le K e; omega)
        cases z : takeS kk t with
        | none => rw [z] at q3; exact q3.elim
        | some y =>
          rw [z] at q3
          refine .inr ⟨_, vr, lz, QE.here (v := .str y) r3 ?_ q3⟩
          show V.str _ = V.str _
          have e2 := takeS_ok (D := D) kk z
          have e3 : cutS (sV D t) none (some (kk : Int)) = _ := cutS_take _ _
          show V.str (cutS (sV D t) none (some (kk : Int))) = _
          rw [e3, show (sV D t).cps.toList = sC D t from tl_strOf _, ← e2]
          rfl
      · rename_i kk e
        have lz : (sV D t).length ≤ sizeLine := mostLine (by have := bnd_le K e; omega)
        cases z : dropS kk t with
        | none => rw [z] at q3; exact q3.elim
        | some y =>
          rw [z] at q3
          refine .inr ⟨_, vr, lz, QE.here (v := .str y) r3 ?_ q3⟩
          show V.str _ = V.str _
          have e2 := dropS_ok (D := D) kk z
          have e3 : cutS (sV D t) (some (kk : Int)) none = _ := cutS_drop _ _
          show V.str (cutS (sV D t) (some (kk : Int)) none) = _
          rw [e3, show (sV D t).cps.toList = sC D t from tl_strOf _, ← e2]
          rfl
      · exact q3.elim
    | _ => exact q3.elim
end
end Ck
-- SD9
set_option Elab.async false
set_option linter.all false
set_option maxRecDepth 100000
set_option maxHeartbeats 4000000
set_option autoImplicit false
namespace Ck
open PySem PySem.Spec PyProof.Rows L2
section
variable {T : Nat → FC} {D : Dt} {X : Cx} {E : XK} {k : Nat}
/-! ### dict displays with texts as keys -/
inductive DJ (T : Nat → FC) (D : Dt) (X : Cx) (E : XK) : List (List Nat) → List IE → List (Option PySem.Expr) → List PySem.Expr → List (TE × TE) → Prop
  | nil : DJ T D X E [] [] [] [] []
  | cons {cs : List Nat} {ks : List (List Nat)} {a : IE} {as : List IE} {e v : PySem.Expr} {es : List (Option PySem.Expr)} {vs : List PySem.Expr} {trs : List (TE × TE)} (hk : PE X e (tC (.str (strOf cs)))) (ha : SE T D X E a v) (r : DJ T D X E ks as es vs trs) :
      DJ T D X E (cs :: ks) (a :: as) (some e :: es) (v :: vs) ((tC (.str (strOf cs)), wE X v) :: trs)
theorem DJ.pps {ks : List (List Nat)} {as : List IE} {es : List (Option PySem.Expr)} {vs : List PySem.Expr} {trs : List (TE × TE)} {pos : Pos} (d : DJ T D X E ks as es vs trs) : PPs X pos es vs trs := by
  induction d with
  | nil => exact pps_nil
  | cons hk ha r ih => exact pps_cons hk pE ih
def zipV : List (List Nat) → List V → List (Key × V)
  | c :: ks, x :: xs => (Sum.inr (strOf c), x) :: zipV ks xs
  | _, _ => []
theorem zipV_len : ∀ (ks : List (List Nat)) (xs : List V), (zipV ks xs).length ≤ ks.length
  | [], _ => by simp [zipV]
  | _ :: _, [] => by simp [zipV]
  | _ :: ks, _ :: xs => by
    have := zipV_len ks xs
    simp only [zipV, List.length_cons]; omega
theorem zip_ok {rh : Rh} : ∀ (ks : List (List Nat)) {vs : List AV} {xs : List V}, VRs D rh vs xs → Paired (fun (p : List Nat × AV) (q : Key × V) => q.1 = Sum.inr (strOf p.1) ∧ VR D rh p.2 q.2) (zipK ks vs) (zipV ks xs)
  | [], _, _, r => by cases r <;> exact .nil
  | _ :: _, _, _, .nil => .nil
  | c :: ks, _, _, .cons a r => .cons ⟨rfl, a⟩ (zip_ok ks r)
theorem DJ.go {ks : List (List Nat)} {as : List IE} {es : List (Option PySem.Expr)} {vs : List PySem.Expr} {trs : List (TE × TE)} (d : DJ T D X E ks as es vs trs) : ∀ (n : Nat) (s : Sg) (h : Hh) (σ : L2.St) (H : Hp) (rh : Rh) (Q : List V → Hp → Prop) (F : List (V × V) → Hp → Prop), SR D rh s σ → Rep D X.prog X.w rh h H → QL D X.prog X.w ((ev T n).es as s h) rh H Q E →
    (∀ xs H1, Q xs H1 → F ((zipV ks xs).map (fun kv => (kV kv.1, kv.2))) H1) → tPairs trs σ H F := by
  induction d with
  | nil =>
    intro n s h σ H rh Q F sr rp q f
    cases n with
    | zero => exact q.elim
    | succ n => exact f [] H (q rh H [] (Ext.refl _ _) rp .nil)
  | cons hk ha r ih =>
    intro n s h σ H rh Q F sr rp q f
    cases n with
    | zero => exact q.elim
    | succ n =>
      refine oneL ha sr rp q fun x H1 rh1 h1 v e1 r1 vr q1 => ?_
      refine ih n s h1 σ H1 rh1 _ _ (sr.ext e1) r1 (q_bLL q1) fun xs H2 ⟨rh2, h2, ws, e3, r2, vr2, q2⟩ => ?_
      exact f (x :: xs) H2 (q2 rh2 H2 (x :: xs) (Ext.refl _ _) r2 (.cons (vr.ext e3) vr2))
theorem mergeK_new : ∀ (kvs acc : List (Key × V)), ((acc ++ kvs).map (·.1)).Nodup → mergeK acc kvs = acc ++ kvs
  | [], acc, _ => by simp [mergeK]
  | (c, x) :: r, acc, h => by
    have e : acc ++ (c, x) :: r = (acc ++ [(c, x)]) ++ r := by simp
    have nv : valV acc c = none := by
      unfold valV
      rw [List.find?_eq_none.mpr fun p hp => ?_]
      · rfl
      · rw [List.map_append, List.nodup_append] at h
        have := h.2.2 p.1 (List.mem_map.mpr ⟨p, hp, rfl⟩) c (by simp)
        simpa using this
    show mergeK (putK acc c x) r = _
    rw [putK_new x nv, e]
    exact mergeK_new r _ (by rw [← e]; exact h)
theorem zipV_keys : ∀ (ks : List (List Nat)) (xs : List V), (((zipV ks xs).map (·.1))).Sublist (ks.map fun c => (Sum.inr (strOf c) : Key))
  | [], _ => by simp [zipV]
  | _ :: _, [] => by simp [zipV]
  | c :: ks, x :: xs => by
    simp only [zipV, List.map_cons]
    exact (zipV_keys ks xs).cons₂ _
/-- the place that a new object took -/
theorem ext_at {rh rh1 : Rh} {H H1 : Hp} {p : Addr} (e : Ext (rh ++ [p]) H rh1 H1) : rh1[rh.length]? = some p := by
  obtain ⟨more, q⟩ := e.pre
  rw [q, List.getElem?_append_left (by simp), List.getElem?_append_right (Nat.le_refl _)]
  simp
theorem se_dct {ks : List (List Nat)} {as : List IE} {es : List (Option PySem.Expr)} {vs : List PySem.Expr} {trs : List (TE × TE)} {pos : Pos} (d : DJ T D X E ks as es vs trs) (hall : es.all (·.isSome) = true) (hl : es.length = vs.length) (h0 : es ≠ []) (h15 : es.length ≤ 15) (hk : ks.length ≤ 15)
    (hnd : (ks.map fun c => (Sum.inr (strOf c) : Key)).Nodup) : SE T D X E (.dct ks as) (.Dict es vs pos) := by
  intro n s h σ H rh Q sr rp q
  cases n with
  | zero => exact q.elim
  | succ n =>
    refine of_PE (pe_disp d.pps hall hl h0 h15) fun p np => ?_
    obtain ⟨r0, e0⟩ := rp.new (o := .dct []) (ho := .dK []) np ⟨[], rfl, .nil⟩
    have q1 := q_bL (QE.ext (show QE D X.prog X.w (eDct (ev T n) ks as s h) rh H Q E from q) e0)
    refine d.go n s _ σ _ _ _ _ (sr.ext e0) r0 q1 fun xs H2 ⟨rh2, h2, ws, e2, r2, vr, q2⟩ => ?_
    have at_ := ext_at e2
    rw [← rp.len] at at_
    dsimp only at q2
    split at q2
    · rename_i e3
      obtain ⟨a, ho, h1, h2', kvs, rfl, h4⟩ := r2.at_ _ _ e3
      rw [at_] at h1
      cases h1
      cases h4
      refine ⟨h2', zipV ks xs, rfl, Nat.le_trans (zipV_len _ _) hk, ?_⟩
      have em : mergeK [] (zipV ks xs) = zipV ks xs := mergeK_new (zipV ks xs) [] ((zipV_keys ks xs).nodup hnd)
      rw [em]
      obtain ⟨r3, e3⟩ := r2.set (o := .dct (zipK ks ws)) (ho := .dK (zipV ks xs)) at_ h2' (fun _ z => by cases z) fun H' eH eE => ⟨zipV ks xs, rfl, zip_ok ks vr⟩
      exact q2 _ _ _ e3 r3 ⟨p, rfl, at_⟩
    · exact q2.elim
/-! ### a dict of states with one entry -/
def tMet1 (P : Program) (w : World) (tk tv : TE) : TE := fun σ H Q => ∀ p, H p = none → tk σ (upd H p (metO P w p [])) fun x H1 => tv σ H1 fun y H2 => ∃ b kk, x = .ref b ∧ H2 p = some (metO P w p []) ∧ KeyH H2 kk x ∧ kk.depth ≤ 8 ∧ ∀ u, RelV y u → Q (.ref p) (upd H2 p (metO P w p [(kk, b, u)]))
theorem met_ok {P : Program} {w : World} {H : Hp} {h : Heap} {a : Addr} {xs : List (NestedKey × Addr × Value)} (hs : (a == sysModules) = false) (m : h.DictOfH (nestedKind P w) a xs) : ObjOk P w H h a (metO P w a xs) := by
  obtain ⟨o, es, ep, h1, h2, h3, h4, _, _⟩ := m
  refine ⟨⟨hs, o, es, ep, h1, h2, h3, h4⟩, ⟨o, h1⟩, fun g1 g2 hg hk => ?_⟩
  obtain ⟨hm', o', es', ep', k1, k2, k3, k4⟩ := hg
  exact ⟨hm', o', es', ep', hk o' k1, k2, k3, k4⟩
theorem pe_met1 (hu : X.A.units + 64 < cLine) {ek ev : PySem.Expr} {tk tv : TE} {pos : Pos} (hk : PE X ek tk) (hv : PE X ev tv) : PE X (.Dict [some ek] [ev] pos) (tMet1 X.prog X.w tk tv) := by
  refine ⟨fun pins s σ H Q I q => ?_⟩
  have hn := I.hok.fresh (Nat.le_refl s.heap.objs.size)
  have hsm : (s.heap.objs.size == sysModules) = false := by
    have := I.big
    exact beq_eq_false_iff_ne.mpr (Nat.ne_of_gt this)
  have I1 := I.laid (a := s.heap.objs.size) (o := metO X.prog X.w s.heap.objs.size []) (h' := s.heap.push { cls := .type "dict", data := .dict #[] }) (t' := s.toks) (fun _ _ q => Heap.get?_push_of_some _ q) (Nat.le_refl _) (met_ok hsm (Heap.DictOfH.new s.heap))
  have shape := zip_pairTrees [some ek] [ev] X.env pos rfl rfl
  rw [arm_eval_Dict, shape, dictDisplay_pairs _ (by simp [pairTrees]) (by simp [pairTrees])]
  refine wpAny_bind (wpAny_standAt (wpAny_bind (wpAny_subDictH (knd := nestedKind X.prog X.w) (Q := fun d s' => wpAny (model X.prog X.w) X.A (pure (Value.ref d)) (EP X pins σ Q) X.xe s') (show X.A.units + 8 < cLine by omega) (by simp [pairTrees]) ?_)))
  have qq := q _ hn
  refine pairTrees_cons_walk (thn (hk.run pins _ σ _ _ I1 qq) fun kv s1 ⟨x, H1, I2, rx, q1⟩ => thn (hv.run pins s1 σ H1 _ I2 q1) fun vv s2 ⟨y, H2, I3, ry, b, kk, ex, hp, hkk, hd, q2⟩ => pairTrees_nil_walk ?_)
  subst ex
  cases rx
  obtain ⟨_, dd⟩ := met_at I3 hp ⟨List.nodup_nil, fun _ h => by cases h⟩
  refine ⟨[(kk, b, vv)], ⟨rfl, rfl, ⟨hkk.nested I3 rfl, hd⟩, True.intro⟩, dd, fun h' tk' dd' sb => wpAny_pure ⟨.ref s.heap.objs.size, _, ?_, rfl, q2 vv ry⟩⟩
  have dd' : h'.DictOfH (nestedKind X.prog X.w) s.heap.objs.size [(kk, b, vv)] := dd'
  have heo : ∃ o, h'.get? s.heap.objs.size = some o := let ⟨o, _, _, h1, _⟩ := dd'; ⟨o, h1⟩
  exact I3.write (by rw [hp]; exact True.intro) (.inl rfl) (fun c v hc e => (sb.2 c hc).trans e) heo (met_ok hsm dd')
theorem se_met (K : DtOk D) (hu : X.A.units + 64 < cLine) {a b : IE} {ea eb : PySem.Expr} {pos : Pos} (ha : SE T D X E a ea) (hb : SE T D X E b eb) : SE T D X E (.met a b) (.Dict [some ea] [eb] pos) := by
  intro n s h σ H rh Q sr rp q
  cases n with
  | zero => exact q.elim
  | succ n =>
    refine of_PE (pe_met1 hu pE pE) fun p np => ?_
    obtain ⟨r0, e0⟩ := rp.new (o := .met []) (ho := metO X.prog X.w p []) np ⟨[], rfl, List.nodup_nil, Nat.zero_le _, .nil⟩
    refine one ha (sr.ext e0) r0 (QE.ext (show QE D X.prog X.w (eMet (ev T n) a b s h) rh H Q E from q) e0) fun x H1 rh1 h1 v e1 r1 vx q1 => one hb ((sr.ext e0).ext e1) r1 q1 fun y H2 rh2 h2 u e2 r2 vy q2 => ?_
    have at_ := ext_at (e1.trans e2)
    rw [← rp.len] at at_
    split at q2
    · rename_i e3
      obtain ⟨a', ho, h1', h2', xs, rfl, h4, h5, h6⟩ := r2.at_ _ _ e3
      rw [at_] at h1'
      cases h1'
      cases h6
      have vx2 := vx.ext e2
      cases z : isK2 h2 v with
      | false => rw [z] at q2; exact q2.elim
      | true =>
        rw [z] at q2
        obtain ⟨b', kk, ex, hk, hd⟩ := isK2_ok K r2 z vx2
        subst ex
        refine ⟨b', kk, rfl, h2', hk, hd, fun uu ru => ?_⟩
        obtain ⟨r3, e3⟩ := r2.set (nf := ⟨fun _ => metO_ne, fun _ => metO_ne2⟩) (o := .met [(v, u)]) (ho := metO X.prog X.w p [(kk, b', uu)]) at_ h2' (fun _ z => by cases z) fun H' eH eE => ⟨_, rfl, by simp, by simp, .cons ⟨vx2, ⟨hk.mono eE.tups, hd⟩, y, vy, ru⟩ .nil⟩
        exact q2 _ _ _ e3 r3 ⟨p, rfl, at_⟩
    · exact q2.elim
end
end Ck
-- SD10
set_option Elab.async false
set_option linter.all false
set_option maxRecDepth 100000
set_option maxHeartbeats 4000000
set_option autoImplicit false
namespace Ck
open PySem PySem.Spec PyProof.Rows L2
section
variable {T : Nat → FC} {D : Dt} {X : Cx} {E : XK} {k : Nat}
/-- a built-in's name -/
structure Bn (X : Cx) (x : Str) : Prop where
  g : Gl X x
  m : X.mg x = none
/-- one plain argument, two -/
abbrev St1 (X : Cx) (a : PySem.Expr) : Prop := starEach [a] X.env = (false, eval a X.env) :: starEach [] X.env
abbrev St2 (X : Cx) (a b : PySem.Expr) : Prop := starEach [a, b] X.env = (false, eval a X.env) :: starEach [b] X.env
theorem pa1 {a : PySem.Expr} (h : St1 X a) : PA X [a] (tCons (wE X a) tNil) := pa_cons pE pa_nil h
theorem pa2 {a b : PySem.Expr} (h : St2 X a b) (h2 : St1 X b) : PA X [a, b] (tCons (wE X a) (tCons (wE X b) tNil)) := pa_cons pE (pa1 h2) h
theorem lenV_ok (K : DtOk D) {rh1 : Rh} {h1 : Hh} {H1 : Hp} {v : AV} {x : V} {Q : VK} (r1 : Rep D X.prog X.w rh1 h1 H1) (vx : VR D rh1 v x) (q : QE D X.prog X.w (lenV v h1) rh1 H1 Q E) :
    (∃ y n, [x] = [y] ∧ LenV X.K y H1 n ∧ Q (.int (n : Nat)) H1) ∨ rMetLen X.prog X.w [x] H1 Q := by
  cases v with
  | ref j =>
    unfold lenV at q
    dsimp only at q
    split at q
    · rename_i xs e
      obtain ⟨a, vs, rfl, _, ha, ra⟩ := r1.lst e vx
      rw [lenN_eq] at q
      refine .inl ⟨_, _, rfl, .inl ⟨vs, .inl (.inl ha), rfl⟩, ?_⟩
      rw [← pr_length ra]
      exact QE.here (v := .int (.ofNat xs.length) 0) r1 (by show V.int _ = V.int _; rw [Int.zero_mul, Int.add_zero]; rfl) q
    · rename_i xs e
      obtain ⟨a, vs, rfl, _, ha, ra⟩ := r1.tup e vx
      rw [lenN_eq] at q
      refine .inl ⟨_, _, rfl, .inr ⟨vs, .inl (.inl ha), rfl⟩, ?_⟩
      rw [← pr_length ra]
      exact QE.here (v := .int (.ofNat xs.length) 0) r1 (by show V.int _ = V.int _; rw [Int.zero_mul, Int.add_zero]; rfl) q
    · rename_i kvs e
      obtain ⟨a, ho, rfl, _, ha, xs, rfl, hn, hz, rr⟩ := r1.obj e vx
      rw [lenN_eq] at q
      refine .inr ⟨a, xs, rfl, ha, metE_of hn rr, mostLine hz, ?_⟩
      rw [← pr_length rr]
      exact QE.here (v := .int (.ofNat kvs.length) 0) r1 (by show V.int _ = V.int _; rw [Int.zero_mul, Int.add_zero]; rfl) q
    · exact q.elim
  | _ => exact q.elim
theorem se_len (K : DtOk D) {a : IE} {ea : PySem.Expr} {p pos : Pos} (ha : SE T D X E a ea) (B : Bn X "len") (hs : St1 X ea) : SE T D X E (.len a) (.Call (.Name "len" p) [ea] [] pos) := by
  intro n s h σ H rh Q sr rp q
  cases n with
  | zero => exact q.elim
  | succ n => exact of_PE (pe_callB (call_len.or call_lenM) B.g B.m rfl (pa1 hs) (by decide) (by decide) hs rfl) (one ha sr rp q fun x H1 rh1 h1 v e1 r1 vr q1 => lenV_ok K r1 vr q1)
theorem se_list {a : IE} {ea : PySem.Expr} {p pos : Pos} (ha : SE T D X E a ea) (B : Bn X "list") (hs : St1 X ea) : SE T D X E (.list a) (.Call (.Name "list" p) [ea] [] pos) := by
  intro n s h σ H rh Q sr rp q
  cases n with
  | zero => exact q.elim
  | succ n =>
    refine of_PE (pe_callTy call_list_of B.g B.m rfl (pa1 hs) (by decide) (by decide) hs rfl) (one ha sr rp q fun x H1 rh1 h1 v e1 r1 vr q1 => ?_)
    cases v with
    | ref j =>
      unfold lstV at q1
      dsimp only at q1
      split at q1
      · rename_i xs e
        obtain ⟨a, vs, rfl, _, ha, ra⟩ := r1.lst e vr
        exact ⟨a, vs, rfl, .inl (.inl (.inl ha)), q1.made r1 (fun _ => .lst vs) fun p np => OR.lstN ra.mono⟩
      · rename_i xs e
        obtain ⟨a, vs, rfl, _, ha, ra⟩ := r1.tup e vr
        exact ⟨a, vs, rfl, .inr (.inl (.inl ha)), q1.made r1 (fun _ => .lst vs) fun p np => OR.lstN ra.mono⟩
      · exact q1.elim
    | _ => exact q1.elim
theorem se_tuple {a : IE} {ea : PySem.Expr} {p pos : Pos} (ha : SE T D X E a ea) (B : Bn X "tuple") (hs : St1 X ea) : SE T D X E (.tuple a) (.Call (.Name "tuple" p) [ea] [] pos) := by
  intro n s h σ H rh Q sr rp q
  cases n with
  | zero => exact q.elim
  | succ n =>
    refine of_PE (pe_callTy call_tuple_of B.g B.m rfl (pa1 hs) (by decide) (by decide) hs rfl) (one ha sr rp q fun x H1 rh1 h1 v e1 r1 vr q1 => ?_)
    cases v with
    | ref j =>
      unfold tupV at q1
      dsimp only at q1
      split at q1
      · rename_i xs e
        obtain ⟨a, vs, rfl, _, ha, ra⟩ := r1.lst e vr
        exact ⟨a, vs, rfl, .inl ⟨.inl (.inl ha), q1.made r1 (fun _ => .tup vs) fun p np => OR.tupN ra.mono⟩⟩
      · rename_i xs e
        obtain ⟨a, vs, ex, _, ha, ra⟩ := r1.tup e vr
        subst ex
        exact ⟨a, vs, rfl, .inr ⟨.inl (.inl ha), QE.here r1 vr q1⟩⟩
      · exact q1.elim
    | _ => exact q1.elim
theorem se_mx (K : DtOk D) (hc : X.calm = true) {a b : IE} {ea eb : PySem.Expr} {p pos : Pos} (ha : SE T D X E a ea) (hb : SE T D X E b eb) (B : Bn X "max") (hs : St2 X ea eb) (hs2 : St1 X eb) (hpl : (backTo pos (starEach [eb] X.env)).any (·.1) = false) : SE T D X E (.mx a b) (.Call (.Name "max" p) [ea, eb] [] pos) := by
  intro n s h σ H rh Q sr rp q
  cases n with
  | zero => exact q.elim
  | succ n =>
    refine of_PE (pe_callB (call_max2 hc) B.g B.m rfl (pa2 hs hs2) (by decide) (by decide) hs hpl) (two ha hb sr rp q fun x y H1 rh1 h1 v u r1 vx vy q1 => ?_)
    cases v with
    | int c m => cases u with
      | int d k =>
        have q1 : QE D X.prog X.w (match posC (d - c) (k - m) with | some true => .ok (.int d k) h1 | some false => .ok (.int c m) h1 | none => .no) rh1 H1 Q E := q1
        have vx : x = .int _ := vx
        have vy : y = .int _ := vy
        subst vx vy
        refine ⟨_, _, rfl, ?_⟩
        cases e : posC (d - c) (k - m) with
        | none => rw [e] at q1; exact q1.elim
        | some t =>
          rw [e] at q1
          have z := dpos K e
          cases t with
          | true =>
            rw [if_pos (of_decide_eq_true z.symm)]
            exact QE.here (v := .int d k) r1 rfl q1
          | false =>
            rw [if_neg (of_decide_eq_false z.symm)]
            exact QE.here (v := .int c m) r1 rfl q1
      | _ => exact q1.elim
    | _ => exact q1.elim
theorem se_mn (K : DtOk D) (hc : X.calm = true) {a b : IE} {ea eb : PySem.Expr} {p pos : Pos} (ha : SE T D X E a ea) (hb : SE T D X E b eb) (B : Bn X "min") (hs : St2 X ea eb) (hs2 : St1 X eb) (hpl : (backTo pos (starEach [eb] X.env)).any (·.1) = false) : SE T D X E (.mn a b) (.Call (.Name "min" p) [ea, eb] [] pos) := by
  intro n s h σ H rh Q sr rp q
  cases n with
  | zero => exact q.elim
  | succ n =>
    refine of_PE (pe_callB (call_min2 hc) B.g B.m rfl (pa2 hs hs2) (by decide) (by decide) hs hpl) (two ha hb sr rp q fun x y H1 rh1 h1 v u r1 vx vy q1 => ?_)
    cases v with
    | int c m => cases u with
      | int d k =>
        have q1 : QE D X.prog X.w (match posC (c - d) (m - k) with | some true => .ok (.int d k) h1 | some false => .ok (.int c m) h1 | none => .no) rh1 H1 Q E := q1
        have vx : x = .int _ := vx
        have vy : y = .int _ := vy
        subst vx vy
        refine ⟨_, _, rfl, ?_⟩
        cases e : posC (c - d) (m - k) with
        | none => rw [e] at q1; exact q1.elim
        | some t =>
          rw [e] at q1
          have z := dpos K e
          cases t with
          | true =>
            rw [if_pos (of_decide_eq_true z.symm)]
            exact QE.here (v := .int d k) r1 rfl q1
          | false =>
            rw [if_neg (of_decide_eq_false z.symm)]
            exact QE.here (v := .int c m) r1 rfl q1
      | _ => exact q1.elim
    | _ => exact q1.elim
/-! ### texts of numbers -/
section
variable (K : DtOk D)
include K
theorem num_log {c m : Int} (h : okNum c m = true) : (c + m * D.room).natAbs.log2 < 1920 := by
  unfold okNum at h
  simp only [Bool.and_eq_true, nonneg_iff] at h
  obtain ⟨⟨h1, h2⟩, h3, h4⟩ := h
  have hb : bigI = 1000000000000 := rfl
  rw [hb] at h1 h2
  have r := mul_room K (m := m)
  have lo := K.lo
  have hi := K.hi
  have hz : (c + m * D.room).natAbs < 2 ^ 64 := by
    rcases Int.le_total 0 m with z | z
    · have := r.1 z; omega
    · have := r.2 z; omega
  by_cases z : (c + m * D.room).natAbs = 0
  · rw [z]; decide
  · have := (Nat.log2_lt z).mpr (Nat.lt_of_lt_of_le hz (Nat.pow_le_pow_right (by decide) (show 64 ≤ 1920 by decide)))
    exact this
theorem tostr_ok {rh1 : Rh} {h1 : Hh} {H1 : Hp} {v : AV} {x : V} {Q : VK} {kk : AV → Hh → R} (vx : VR D rh1 v x) (q : QE D X.prog X.w (b1 (tostrV v h1) kk) rh1 H1 Q E) : ∃ c m, v = .int c m ∧ x = .int (c + m * D.room) ∧ (c + m * D.room).natAbs.log2 < 1920 ∧ okNum c m = true ∧ QE D X.prog X.w (kk (.str [.num c m]) h1) rh1 H1 Q E := by
  cases v with
  | int c m =>
    have q : QE D X.prog X.w (b1 (match okNum c m with | true => .ok (.str [.num c m]) h1 | false => .no) kk) rh1 H1 Q E := q
    cases e : okNum c m with
    | false => rw [e] at q; exact q.elim
    | true => rw [e] at q; exact ⟨c, m, rfl, vx, num_log K e, e, q⟩
  | _ => exact q.elim
theorem num_str (c m : Int) : (toString (c + m * D.room) : Str) = sV D [.num c m] := by
  unfold sV
  rw [sC_cons, sC_nil, List.append_nil]
  show _ = strOf (numC (c + m * D.room))
  exact (TL.mk_tl _).symm
end
theorem b1_ok {r : R} : b1 r .ok = r := by cases r <;> rfl
theorem se_tostr (K : DtOk D) {a : IE} {ea : PySem.Expr} {p pos : Pos} (ha : SE T D X E a ea) (B : Bn X "str") (hs : St1 X ea) : SE T D X E (.tostr a) (.Call (.Name "str" p) [ea] [] pos) := by
  intro n s h σ H rh Q sr rp q
  cases n with
  | zero => exact q.elim
  | succ n =>
    refine of_PE (pe_callTy call_str_int B.g B.m rfl (pa1 hs) (by decide) (by decide) hs rfl) (one ha sr rp q fun x H1 rh1 h1 v e1 r1 vr q1 => ?_)
    obtain ⟨c, m, rfl, rfl, h3, _, q2⟩ := tostr_ok K vr (kk := .ok) (by rw [b1_ok]; exact q1)
    refine ⟨_, rfl, h3, ?_⟩
    rw [num_str K]
    exact QE.here (v := .str [.num c m]) r1 rfl q2
theorem se_toint (K : DtOk D) {a : IE} {ea : PySem.Expr} {p pos : Pos} (ha : SE T D X E a ea) (B : Bn X "int") (hs : St1 X ea) : SE T D X E (.toint a) (.Call (.Name "int" p) [ea] [] pos) := by
  intro n s h σ H rh Q sr rp q
  cases n with
  | zero => exact q.elim
  | succ n =>
    refine of_PE (pe_callTy call_int_str B.g B.m rfl (pa1 hs) (by decide) (by decide) hs rfl) (one ha sr rp q fun x H1 rh1 h1 v e1 r1 vr q1 => ?_)
    cases v with
    | str t =>
      unfold tointV at q1
      dsimp only at q1
      cases e : lits t with
      | none => rw [e] at q1; exact q1.elim
      | some cs =>
        rw [e] at q1
        dsimp only at q1
        cases z : allB isDig cs && (Nat.ble 1 (lenN cs) && Nat.ble (lenN cs) 12) with
        | false => rw [z] at q1; exact q1.elim
        | true =>
          rw [z] at q1
          dsimp only at q1
          simp only [Bool.and_eq_true, nble, lenN_eq, allB_eq] at z
          cases y : digs cs 0 with
          | none => rw [y] at q1; exact q1.elim
          | some i =>
            rw [y] at q1
            have ec := sC_lits (D := D) e
            refine ⟨sV D t, (i : Int), by rw [show x = _ from vr], ?_, ?_, QE.here (v := .int (.ofNat i) 0) r1 (by show V.int _ = V.int _; rw [Int.zero_mul, Int.add_zero]; rfl) q1⟩
            · unfold sV; rw [ec]; exact int_lit z.1 z.2.1 (by omega) y
            · unfold sV; rw [ec, strOf_len]; omega
    | _ => exact q1.elim
/-! ### split, join -/
theorem se_split (K : DtOk D) {a : IE} {c : Nat} {ea : PySem.Expr} {x : Str} {j : Nat} {cp apos pos : Pos} (ha : SE T D X E a ea) (hx : strOf [c] = x)
    (hs : starEach [.Constant (.str x) j cp] X.env = [(false, eval (.Constant (.str x) j cp) X.env)]) (hbase : attributeBase ea "split" X.env (eval ea X.env) = eval ea X.env) (hline : (apos.endLine == pos.line) = true) :
    SE T D X E (.split a c) (.Call (.Attribute ea "split" apos) [.Constant (.str x) j cp] [] pos) := by
  intro n s h σ H rh Q sr rp q
  cases n with
  | zero => exact q.elim
  | succ n =>
    refine of_PE (pe_split pE pe_str hs hbase hline) (one ha sr rp q fun x H1 rh1 h1 v e1 r1 vr q1 => ?_)
    cases v with
    | str t =>
      unfold splitV at q1
      dsimp only at q1
      cases z : Nat.ble (bndS t) most && (plainSep c && Nat.blt c 256) with
      | false => rw [z] at q1; exact q1.elim
      | true =>
        rw [z] at q1
        dsimp only at q1
        simp only [Bool.and_eq_true, nblt] at z
        have vr : x = .str _ := vr
        subst vr hx
        have := bnd_le K z.1
        refine ⟨⟨_, rfl⟩, _, _, rfl, rfl, rfl, mostLine (by omega), ?_⟩
        rw [split_ok K z.2.1 z.2.2]
        exact q1.made r1 (fun _ => .lst _) fun p np => OR.lstN (.cons rfl (by simpa using strAll_vals (rh := rh1 ++ [p]) (spl c t).2))
    | _ => exact q1.elim
theorem se_join (K : DtOk D) {a : IE} {sep : List Nat} {ea : PySem.Expr} {x : Str} {j : Nat} {cp apos pos : Pos} (ha : SE T D X E a ea) (hx : strOf sep = x)
    (hs : starEach [ea] X.env = [(false, eval ea X.env)]) (hbase : attributeBase (.Constant (.str x) j cp) "join" X.env (eval (.Constant (.str x) j cp) X.env) = eval (.Constant (.str x) j cp) X.env) (hline : (apos.endLine == pos.line) = true) :
    SE T D X E (.join sep a) (.Call (.Attribute (.Constant (.str x) j cp) "join" apos) [ea] [] pos) := by
  intro n s h σ H rh Q sr rp q
  cases n with
  | zero => exact q.elim
  | succ n =>
    refine of_PE (pe_join pe_str pE hs hbase hline) ⟨⟨_, rfl⟩, one ha sr rp q fun x H1 rh1 h1 v e1 r1 vr q1 => ?_⟩
    cases v with
    | ref i =>
      unfold joinV at q1
      dsimp only at q1
      split at q1
      · rename_i xs e
        obtain ⟨b, vs, rfl, _, hb, rb⟩ := r1.lst e vr
        cases z : Ck.joinL (litS sep) xs with
        | none => rw [z] at q1; exact q1.elim
        | some t =>
          rw [z] at q1
          dsimp only at q1
          cases y : Nat.ble (bndS t) most && Nat.ble (lenN sep) 100 with
          | false => rw [y] at q1; exact q1.elim
          | true =>
            rw [y] at q1
            dsimp only at q1
            rw [Bool.and_eq_true] at y
            have y2 := nble.mp y.2
            rw [lenN_eq] at y2
            obtain ⟨ys, e1, e2, e3⟩ := joinL_ok z rb
            subst hx
            have hb2 := bnd_le K y.1
            rw [show (sV D t).length = (sC D t).length from strOf_len _] at hb2
            refine ⟨_, b, ys, rfl, rfl, .inl (.inl (.inl (by rw [hb, e1]))), ?_, ?_⟩
            · rw [strOf_len, ← e3]
              split <;> omega
            · rw [← e2]; exact QE.here (v := .str t) r1 rfl q1
      · exact q1.elim
    | _ => exact q1.elim
end
end Ck
-- SD11
set_option Elab.async false
set_option linter.all false
set_option maxRecDepth 100000
set_option maxHeartbeats 4000000
set_option autoImplicit false
namespace Ck
open PySem PySem.Spec PyProof.Rows L2
theorem es_len {T : Nat → FC} : ∀ {as : List IE} {n : Nat} {s : Sg} {h : Hh} {vs : List AV} {h' : Hh}, (ev T n).es as s h = .ok vs h' → vs.length = as.length
  | as, 0, s, h, vs, h', e => by cases e
  | [], n + 1, s, h, vs, h', e => by cases e; rfl
  | a :: as, n + 1, s, h, vs, h', e => by
    have e : b1L ((ev T n).e a s h) (fun v h => bLL ((ev T n).es as s h) fun vs h => .ok (v :: vs) h) = .ok vs h' := e
    cases e1 : (ev T n).e a s h with
    | ok v h1 =>
      rw [e1] at e
      have e : bLL ((ev T n).es as s h1) (fun vs h => .ok (v :: vs) h) = .ok vs h' := e
      cases e2 : (ev T n).es as s h1 with
      | ok us h2 =>
        rw [e2] at e
        cases e
        rw [List.length_cons, List.length_cons, es_len e2]
      | exc C h2 => rw [e2] at e; cases e
      | no => rw [e2] at e; cases e
    | exc C h1 => rw [e1] at e; cases e
    | no => rw [e1] at e; cases e
/-- what a def promises: what its code's evaluation comes to -/
def spF (T : Nat → FC) (D : Dt) (P : Program) (w : World) (code : FC) (np : Nat) : Sp := fun vs H Q E => vs.length = np ∧ ∃ n rh h avs, VRs D rh avs vs ∧ Rep D P w rh h H ∧ QE D P w ((ev T n).f code avs h) rh H Q E
section
variable {T : Nat → FC} {D : Dt} {X : Cx} {E : XK} {k : Nat}
/-- as many, the count kept -/
theorem manyN {a : List IE} {ea : List PySem.Expr} (ha : SL T D X E a ea) {n : Nat} {s : Sg} {h : Hh} {σ : L2.St} {H : Hp} {rh : Rh} {kk : List AV → Hh → R} {Q : VK} (sr : SR D rh s σ) (rp : Rep D X.prog X.w rh h H)
    (q : QE D X.prog X.w (bL ((ev T n).es a s h) kk) rh H Q E) {F : List V → Hp → Prop} (f : ∀ x H1 rh1 h1 v, v.length = a.length → Ext rh H rh1 H1 → Rep D X.prog X.w rh1 h1 H1 → VRs D rh1 v x → QE D X.prog X.w (kk v h1) rh1 H1 Q E → F x H1) : wA X ea σ H F := by
  refine (ha n s h σ H rh (fun x H1 => ∃ rh1 h1 v, v.length = a.length ∧ Ext rh H rh1 H1 ∧ Rep D X.prog X.w rh1 h1 H1 ∧ VRs D rh1 v x ∧ QE D X.prog X.w (kk v h1) rh1 H1 Q E) sr rp ?_).mono fun x H1 ⟨rh1, h1, v, l, e, r, vr, qq⟩ => f x H1 rh1 h1 v l e r vr qq
  cases e : (ev T n).es a s h with
  | ok v h1 =>
    rw [e] at q
    have q : QE D X.prog X.w (kk v h1) rh H Q E := q
    exact fun rh' H' x e2 r2 vr => ⟨rh', h1, v, es_len e, e2, r2, vr, q.ext e2⟩
  | exc C h1 => rw [e] at q; exact q
  | no => rw [e] at q; exact q
theorem es_snoc {v : AV} : ∀ {as : List IE} {n : Nat} {s : Sg} {h : Hh}, (ev T n).es (as ++ [.cst v]) s h = .no ∨ (∃ vs h', (ev T n).es as s h = .ok vs h' ∧ (ev T n).es (as ++ [.cst v]) s h = .ok (vs ++ [v]) h') ∨ ∃ C h', (ev T n).es as s h = .exc C h' ∧ (ev T n).es (as ++ [.cst v]) s h = .exc C h'
  | as, 0, s, h => .inl rfl
  | [], n + 1, s, h => by
    cases n with
    | zero => exact .inl rfl
    | succ n => exact .inr (.inl ⟨[], h, rfl, rfl⟩)
  | a :: as, n + 1, s, h => by
    show b1L ((ev T n).e a s h) (fun u h => bLL ((ev T n).es (as ++ [.cst v]) s h) fun vs h => .ok (u :: vs) h) = .no ∨ (∃ vs h', b1L ((ev T n).e a s h) (fun u h => bLL ((ev T n).es as s h) fun vs h => .ok (u :: vs) h) = .ok vs h' ∧ b1L ((ev T n).e a s h) (fun u h => bLL ((ev T n).es (as ++ [.cst v]) s h) fun vs h => .ok (u :: vs) h) = .ok (vs ++ [v]) h') ∨
      ∃ C h', b1L ((ev T n).e a s h) (fun u h => bLL ((ev T n).es as s h) fun vs h => .ok (u :: vs) h) = .exc C h' ∧ b1L ((ev T n).e a s h) (fun u h => bLL ((ev T n).es (as ++ [.cst v]) s h) fun vs h => .ok (u :: vs) h) = .exc C h'
    cases e1 : (ev T n).e a s h with
    | ok u h1 =>
      rcases es_snoc (as := as) (n := n) (s := s) (h := h1) (v := v) with z | ⟨vs, h', z1, z2⟩ | ⟨C, h', z1, z2⟩
      · exact .inl (by dsimp only [b1L]; rw [z]; rfl)
      · exact .inr (.inl ⟨u :: vs, h', by dsimp only [b1L]; rw [z1]; rfl, by dsimp only [b1L]; rw [z2]; rfl⟩)
      · exact .inr (.inr ⟨C, h', by dsimp only [b1L]; rw [z1]; rfl, by dsimp only [b1L]; rw [z2]; rfl⟩)
    | exc C h1 => exact .inr (.inr ⟨C, h1, rfl, rfl⟩)
    | no => exact .inl rfl
theorem manyD {a : List IE} {d : AV} {ea : List PySem.Expr} (ha : SL T D X E a ea) {n : Nat} {s : Sg} {h : Hh} {σ : L2.St} {H : Hp} {rh : Rh} {kk : List AV → Hh → R} {Q : VK} (sr : SR D rh s σ) (rp : Rep D X.prog X.w rh h H)
    (q : QE D X.prog X.w (bL ((ev T n).es (a ++ [.cst d]) s h) kk) rh H Q E) {F : List V → Hp → Prop} (f : ∀ x H1 rh1 h1 v, v.length = a.length → Ext rh H rh1 H1 → Rep D X.prog X.w rh1 h1 H1 → VRs D rh1 v x → QE D X.prog X.w (kk (v ++ [d]) h1) rh1 H1 Q E → F x H1) : wA X ea σ H F := by
  refine (ha n s h σ H rh (fun x H1 => ∃ rh1 h1 v, v.length = a.length ∧ Ext rh H rh1 H1 ∧ Rep D X.prog X.w rh1 h1 H1 ∧ VRs D rh1 v x ∧ QE D X.prog X.w (kk (v ++ [d]) h1) rh1 H1 Q E) sr rp ?_).mono fun x H1 ⟨rh1, h1, v, l, e, r, vr, qq⟩ => f x H1 rh1 h1 v l e r vr qq
  rcases es_snoc (T := T) (as := a) (n := n) (s := s) (h := h) (v := d) with z | ⟨vs, h', z1, z2⟩ | ⟨C, h', z1, z2⟩
  · rw [z] at q; exact q.elim
  · rw [z2] at q
    rw [z1]
    have q : QE D X.prog X.w (kk (vs ++ [d]) h') rh H Q E := q
    exact fun rh' H' x e2 r2 vr => ⟨rh', h', vs, es_len z1, e2, r2, vr, q.ext e2⟩
  · rw [z2] at q
    rw [z1]
    exact q
/-- what expressions ask of a context -/
structure CxE (X : Cx) (E : XK) (k : Nat) : Prop where
  calm : X.calm = true
  nd : X.N.Nodup
  room : Room k X.A
  ps : Passes (L2.CX X.prog X.w) X E
theorem CxE.hu {j : Nat} (c : CxE X E j) : X.A.units + 64 < cLine := c.room.units
/-- a def as it is called -/
structure FnC (T : Nat → FC) (D : Dt) (P : Program) (w : World) (K : PySem.W.Frag) (mg : Str → Option Value) (base : Heap) (k : Nat) (f : Addr) (np : Nat) (code : FC) (ds : List Value) (dvs : List V) : Prop where
  ok : ∃ fd ps, ps.length = np ∧ FnOk P w K mg base (L2.CX P w) k f fd ps (spF T D P w code np) ∧ Binds K fd ps ds ∧ Vals dvs ds
theorem se_call {j f np : Nat} {code : FC} {x : Str} {p pos : Pos} {a : IE} {as : List IE} {e : PySem.Expr} {es : List PySem.Expr} (cx : CxE X E k) (F : FnC T D X.prog X.w X.K X.mg X.base j f np code [] []) (hj : j ≤ k) (hg : Gl X x) (hm : X.mg x = some (.ref f)) (hk : PySem.W.keepIn X.K (.ref f) = true)
    (ha : SL T D X E (a :: as) (e :: es)) (hn : (a :: as).length = np) (hdb : (x == ("__debug__" : Str)) = false) (he : starEach (e :: es) X.env = (false, eval e X.env) :: starEach es X.env) (hpl : (backTo pos (starEach es X.env)).any (·.1) = false) : SE T D X E (.call code (a :: as)) (.Call (.Name x p) (e :: es) [] pos) := by
  intro n s h σ H rh Q sr rp q
  cases n with
  | zero => exact q.elim
  | succ n =>
    obtain ⟨fd, ps, hp, F, B, vd⟩ := F.ok
    refine of_PE (pe_call F (cx.room.mono hj) hg hm hk B vd cx.ps pA hdb he hpl) (manyN ha sr rp q fun vs H1 rh1 h1 us l e1 r1 vr q1 => ?_)
    show spF T D X.prog X.w code np (vs ++ []) H1 Q E
    rw [List.append_nil]
    exact ⟨by rw [← hn, ← l, pr_length vr], n, rh1, h1, us, vr, r1, q1⟩
theorem se_callD {j f np : Nat} {code : FC} {x : Str} {p pos : Pos} {a : IE} {as : List IE} {d : AV} {dv : V} {du : Value} {e : PySem.Expr} {es : List PySem.Expr} (cx : CxE X E k) (F : FnC T D X.prog X.w X.K X.mg X.base j f np code [du] [dv]) (hj : j ≤ k) (hg : Gl X x) (hm : X.mg x = some (.ref f)) (hk : PySem.W.keepIn X.K (.ref f) = true)
    (hd : ∀ rh, VR D rh d dv) (ha : SL T D X E (a :: as) (e :: es)) (hn : (a :: as).length + 1 = np) (hdb : (x == ("__debug__" : Str)) = false) (he : starEach (e :: es) X.env = (false, eval e X.env) :: starEach es X.env) (hpl : (backTo pos (starEach es X.env)).any (·.1) = false) : SE T D X E (.call code ((a :: as) ++ [.cst d])) (.Call (.Name x p) (e :: es) [] pos) := by
  intro n s h σ H rh Q sr rp q
  cases n with
  | zero => exact q.elim
  | succ n =>
    obtain ⟨fd, ps, hp, F, B, vd⟩ := F.ok
    refine of_PE (pe_call F (cx.room.mono hj) hg hm hk B vd cx.ps pA hdb he hpl) (manyD ha sr rp q fun vs H1 rh1 h1 us l e1 r1 vr q1 => ?_)
    exact ⟨by rw [List.length_append, ← hn, ← l, pr_length vr]; rfl, n, rh1, h1, us ++ [d], pr_append vr (.cons (hd rh1) .nil), r1, q1⟩
/-- a method as it is called -/
structure MtC (K : PySem.W.Frag) (D : Dt) (C : Nat) (m : Str) (f : Addr) : Prop where
  c : Cls K (D.cA C)
  mt : Meth K (D.cA C) m f
  no : ∀ g, g < 24 → D.fN g ≠ m
theorem cls_go {rh1 : Rh} {h1 : Hh} {H1 : Hp} {v : AV} {x : V} {C : Nat} {m : Str} {f : Addr} {kk : R} {Q : VK} (M : MtC X.K D C m f) (r1 : Rep D X.prog X.w rh1 h1 H1) (vx : VR D rh1 v x) (q : QE D X.prog X.w (match clsOf h1 v with | some D => (match Nat.beq D C with | true => kk | false => .no) | none => .no) rh1 H1 Q E) :
    ∃ a dx fs, x = .ref a ∧ H1 a = some (.ins (D.cA C) dx fs) ∧ fs.lookup m = none ∧ QE D X.prog X.w kk rh1 H1 Q E := by
  cases v with
  | ref j =>
    unfold clsOf at q
    dsimp only at q
    cases e : h1.get j with
    | none => rw [e] at q; exact q.elim
    | some o =>
      rw [e] at q
      cases o with
      | ins C' fs =>
        dsimp only at q
        obtain ⟨a, dx, ks, ex, _, ha, hC, hl, rr⟩ := r1.ins e vx
        cases z : Nat.beq C' C with
        | false => rw [z] at q; exact q.elim
        | true =>
          rw [z] at q
          have := nbeq.mp z
          subst this
          exact ⟨a, dx, ks, ex, ha, fld_none M.no rr, q⟩
      | _ => exact q.elim
  | _ => exact q.elim
theorem se_meth {j f np C : Nat} {code : FC} {m : Str} {apos pos : Pos} {o a : IE} {as : List IE} {eo e : PySem.Expr} {es : List PySem.Expr} {pl : Sem Bool} (cx : CxE X E k) (F : FnC T D X.prog X.w X.K X.mg X.base j f np code [] []) (hj : j ≤ k) (M : MtC X.K D C m f)
    (ho : SE T D X E o eo) (ha : SL T D X E (a :: as) (e :: es)) (hn : (a :: as).length + 1 = np) (hst : starEach (e :: es) X.env = (false, eval e X.env) :: starEach es X.env) (hpl : (backTo pos (starEach es X.env)).any (·.1) = false)
    (ht : eval (.Call (.Attribute eo m apos) (e :: es) [] pos) X.env = (do
      let ov ← eval eo X.env
      standAt apos.atName
      let (f, first) ← holding [ov] (getMethod ov m pl)
      callWith pos f first (backTo pos (starEach (e :: es) X.env)) (backToKw pos (keywordEach [] X.env)))) : SE T D X E (.meth C code o (a :: as)) (.Call (.Attribute eo m apos) (e :: es) [] pos) := by
  intro n s h σ H rh Q sr rp q
  cases n with
  | zero => exact q.elim
  | succ n =>
    obtain ⟨fd, ps, hp, F, B, vd⟩ := F.ok
    refine of_PE (pe_meth pE M.c M.mt F (cx.room.mono hj) B vd cx.ps pA hst hpl ht) (one ho sr rp (show QE D X.prog X.w (eMeth (ev T n) C code o (a :: as) s h) rh H Q E from q) fun x H1 rh1 h1 v e1 r1 vx q1 => ?_)
    obtain ⟨b, dx, fs, rfl, hb, hl, q1⟩ := cls_go M r1 vx q1
    refine ⟨b, dx, fs, rfl, hb, hl, manyN ha (sr.ext e1) r1 q1 fun vs H2 rh2 h2 us l e2 r2 vr q2 => ?_⟩
    show spF T D X.prog X.w code np (.ref b :: (vs ++ [])) H2 Q E
    rw [List.append_nil]
    exact ⟨by rw [List.length_cons, ← hn, ← l, pr_length vr], n, rh2, h2, v :: us, .cons (vx.ext e2) vr, r2, q2⟩
theorem se_meth0 {j f C : Nat} {code : FC} {m : Str} {apos pos : Pos} {o : IE} {eo : PySem.Expr} {pl : Sem Bool} (cx : CxE X E k) (F : FnC T D X.prog X.w X.K X.mg X.base j f 1 code [] []) (hj : j ≤ k) (M : MtC X.K D C m f)
    (ho : SE T D X E o eo) (ht : eval (.Call (.Attribute eo m apos) [] [] pos) X.env = (do
      let ov ← eval eo X.env
      standAt apos.atName
      let (f, first) ← holding [ov] (getMethod ov m pl)
      callWith pos f first (backTo pos (starEach [] X.env)) (backToKw pos (keywordEach [] X.env)))) : SE T D X E (.meth C code o []) (.Call (.Attribute eo m apos) [] [] pos) := by
  intro n s h σ H rh Q sr rp q
  cases n with
  | zero => exact q.elim
  | succ n =>
    obtain ⟨fd, ps, hp, F, B, vd⟩ := F.ok
    refine of_PE (pe_meth0 pE M.c M.mt F (cx.room.mono hj) B vd cx.ps ht) (one ho sr rp (show QE D X.prog X.w (eMeth (ev T n) C code o [] s h) rh H Q E from q) fun x H1 rh1 h1 v e1 r1 vx q1 => ?_)
    obtain ⟨b, dx, fs, rfl, hb, hl, q1⟩ := cls_go M r1 vx q1
    refine ⟨b, dx, fs, rfl, hb, hl, ?_⟩
    show spF T D X.prog X.w code 1 [.ref b] H1 Q E
    refine ⟨rfl, n, rh1, h1, [v], .cons vx .nil, r1, ?_⟩
    cases n with
    | zero => exact q1.elim
    | succ n => exact q1
/-- a class's name called -/
theorem make_go {j f np C : Nat} {code : FC} (hC : C < 6) {rh1 : Rh} {h1 : Hh} {H1 : Hp} {us : List AV} {vs : List V} {n : Nat} {Q : VK} (hn : vs.length + 1 = np) (r1 : Rep D X.prog X.w rh1 h1 H1) (vr : VRs D rh1 us vs)
    (q1 : QE D X.prog X.w (b1 ((ev T n).f code (.ref h1.n :: us) (h1.new (.ins C []))) fun v h2 => match v with | .non => .ok (.ref h1.n) h2 | _ => .no) rh1 H1 Q E) (x dx : Addr) (nx : H1 x = none) (nd : H1 dx = none) (ne : dx ≠ x) :
    spF T D X.prog X.w code np (.ref x :: vs) (upd (upd H1 dx (.own x)) x (.ins (D.cA C) dx [])) (fun v H2 => v = .non ∧ Q (.ref x) H2) E := by
  obtain ⟨r2, e2⟩ := r1.side (q := dx) (o := .own x) nd
  have nx2 : upd H1 dx (.own x) x = none := by rw [upd_ne (Ne.symm ne)]; exact nx
  obtain ⟨r3, e3⟩ := r2.new (q := x) (o := .ins C []) (ho := .ins (D.cA C) dx []) nx2 ⟨dx, [], rfl, hC, Nat.zero_le _, .nil⟩
  have ix : (rh1 ++ [x])[h1.n]? = some x := by rw [r1.len, List.getElem?_append_right (Nat.le_refl _)]; simp
  refine ⟨by rw [List.length_cons]; exact hn, n, _, _, .ref h1.n :: us, .cons ⟨x, rfl, ix⟩ ((vr.ext e2).ext e3), r3, ?_⟩
  have q2 := q_b1 (QE.ext (QE.ext q1 e2) e3)
  cases e : (ev T n).f code (.ref h1.n :: us) (h1.new (.ins C [])) with
  | ok v h2 =>
    rw [e] at q2
    intro rh' H' y e4 r4 vy
    obtain ⟨rh5, h5, v5, e5, r5, vr5, q5⟩ := q2 rh' H' y e4 r4 vy
    cases v5 with
    | non => exact ⟨vr5, q5 _ _ _ (Ext.refl _ _) r5 ⟨x, rfl, by
        obtain ⟨more, em⟩ := e5.pre
        rw [em, List.getElem?_append_left (List.getElem?_eq_some_iff.mp ix).1]; exact ix⟩⟩
    | _ => exact q5.elim
  | exc C h2 => rw [e] at q2; exact q2
  | no => rw [e] at q2; exact q2
theorem se_make {j f np C : Nat} {code : FC} {x : Str} {p pos : Pos} {a : IE} {as : List IE} {e : PySem.Expr} {es : List PySem.Expr} (cx : CxE X E k) (F : FnC T D X.prog X.w X.K X.mg X.base j f np code [] []) (hj : j + 1 ≤ k) (hC : C < 6) (M : Mk X.K (D.cA C) f) (hg : Gl X x) (hm : X.mg x = some (.ref (D.cA C)))
    (ha : SL T D X E (a :: as) (e :: es)) (hn : (a :: as).length + 1 = np) (hdb : (x == ("__debug__" : Str)) = false) (he : starEach (e :: es) X.env = (false, eval e X.env) :: starEach es X.env) (hpl : (backTo pos (starEach es X.env)).any (·.1) = false) : SE T D X E (.make C code (a :: as)) (.Call (.Name x p) (e :: es) [] pos) := by
  intro n s h σ H rh Q sr rp q
  cases n with
  | zero => exact q.elim
  | succ n =>
    obtain ⟨fd, ps, hp, F, B, vd⟩ := F.ok
    refine of_PE (pe_make M F (cx.room.mono hj) hg hm B vd cx.ps pA hdb he hpl) (manyN ha sr rp (show QE D X.prog X.w (eMake (ev T n) C code (a :: as) s h) rh H Q E from q) fun vs H1 rh1 h1 us l e1 r1 vr q1 => ?_)
    intro y dx ny nd ne
    show spF T D X.prog X.w code np (.ref y :: (vs ++ [])) _ _ E
    rw [List.append_nil]
    exact make_go (j := j) (f := f) hC (by rw [← hn, ← l, pr_length vr]) r1 vr q1 y dx ny nd ne
end
end Ck
-- SD12
set_option Elab.async false
set_option linter.all false
set_option maxRecDepth 100000
set_option maxHeartbeats 4000000
set_option autoImplicit false
namespace Ck
open PySem PySem.Spec PyProof.Rows L2
section
variable {T : Nat → FC} {D : Dt} {X : Cx} {E : XK} {k : Nat}
theorem QI.here {P : Program} {w : World} {rh : Rh} {H : Hp} {h : Hh} {j : Ck.It} {J : L2.It} {Q : L2.It → Hp → Prop} (rp : Rep D P w rh h H) (i : IRel D P w rh j J) (q : QI D P w (.ok j h) rh H Q E) : Q J H := q rh H J (Ext.refl _ _) rp i
theorem ix_more {rh0 rh : Rh} {j : Nat} {a : Addr} (e : rh0[j]? = some a) (m : ∃ more, rh = rh0 ++ more) : rh[j]? = some a := by
  obtain ⟨more, q⟩ := m
  rw [q, List.getElem?_append_left (List.getElem?_eq_some_iff.mp e).1]
  exact e
theorem irel_lst {Kf : PySem.W.Frag} {P : Program} {w : World} {rh0 : Rh} {j : Nat} {a : Addr} (e : rh0[j]? = some a) : IRel D P w rh0 (.lst j) (Itl Kf a) := by
  intro i rh h H more rp
  unfold itNext
  dsimp only
  have ea := ix_more e more
  cases eo : h.get j with
  | none => trivial
  | some o =>
    cases o with
    | lst xs =>
      obtain ⟨a', ho, h1, h2, vs, rfl, h3⟩ := rp.at_ j _ eo
      rw [ea] at h1
      cases h1
      dsimp only
      rw [nth_eq]
      cases ei : xs[i]? with
      | none =>
        refine ⟨rfl, vs, .inl (.inl h2), ?_⟩
        have := List.getElem?_eq_none_iff.mp ei
        rw [← pr_length h3]; exact this
      | some v =>
        obtain ⟨x, g1, g2⟩ := pr_get h3 ei
        refine ⟨⟨vs, x, .inl (.inl h2), g1⟩, fun y H1 ⟨e1, e2⟩ => ?_⟩
        subst e1
        have := e2 vs (.inl (.inl h2))
        rw [g1] at this
        cases this
        exact ⟨rh, Ext.refl _ _, rp, g2⟩
    | _ => trivial
theorem irel_tup {Kf : PySem.W.Frag} {P : Program} {w : World} {rh0 : Rh} {j : Nat} {a : Addr} (e : rh0[j]? = some a) : IRel D P w rh0 (.tup j) (Itt Kf a) := by
  intro i rh h H more rp
  unfold itNext
  dsimp only
  have ea := ix_more e more
  cases eo : h.get j with
  | none => trivial
  | some o =>
    cases o with
    | tup xs =>
      obtain ⟨a', ho, h1, h2, vs, rfl, h3⟩ := rp.at_ j _ eo
      rw [ea] at h1
      cases h1
      dsimp only
      rw [nth_eq]
      cases ei : xs[i]? with
      | none =>
        refine ⟨rfl, vs, .inl (.inl h2), ?_⟩
        have := List.getElem?_eq_none_iff.mp ei
        rw [← pr_length h3]; exact this
      | some v =>
        obtain ⟨x, g1, g2⟩ := pr_get h3 ei
        refine ⟨⟨vs, x, .inl (.inl h2), g1⟩, fun y H1 ⟨e1, e2⟩ => ?_⟩
        subst e1
        have := e2 vs (.inl (.inl h2))
        rw [g1] at this
        cases this
        exact ⟨rh, Ext.refl _ _, rp, g2⟩
    | _ => trivial
theorem irel_enum {Kf : PySem.W.Frag} {P : Program} {w : World} {rh0 : Rh} {j : Nat} {a : Addr} (e : rh0[j]? = some a) : IRel D P w rh0 (.enum j) (Ite Kf a) := by
  intro i rh h H more rp
  unfold itNext
  dsimp only
  have ea := ix_more e more
  cases eo : h.get j with
  | none => trivial
  | some o =>
    cases o with
    | lst xs =>
      obtain ⟨a', ho, h1, h2, vs, rfl, h3⟩ := rp.at_ j _ eo
      rw [ea] at h1
      cases h1
      dsimp only
      rw [nth_eq]
      cases ei : xs[i]? with
      | none =>
        refine ⟨rfl, vs, .inl (.inl h2), ?_⟩
        have := List.getElem?_eq_none_iff.mp ei
        rw [← pr_length h3]; exact this
      | some v =>
        obtain ⟨x, g1, g2⟩ := pr_get h3 ei
        refine ⟨⟨vs, x, .inl (.inl h2), g1⟩, fun y H1 ⟨p, z, ey, np, eH, e2⟩ => ?_⟩
        subst eH ey
        have := e2 vs (.inl (.inl h2))
        rw [g1] at this
        cases this
        obtain ⟨r2, e3⟩ := rp.new (q := p) (o := .tup [.int (.ofNat i) 0, v]) (ho := .tup [.int (i : Nat), x]) np (OR.tupN (.cons (by show V.int _ = V.int _; rw [Int.zero_mul, Int.add_zero]; rfl) (.cons g2.mono .nil)))
        exact ⟨_, e3, r2, p, rfl, by rw [rp.len, List.getElem?_append_right (Nat.le_refl _)]; simp⟩
    | _ => trivial
theorem irel_rng {P : Program} {w : World} {rh0 : Rh} {lo c : Int} {n : Nat} : IRel D P w rh0 (.rng lo c n) (Itc lo c n) := by
  intro i rh h H more rp
  unfold itNext
  dsimp only
  cases e : Nat.blt i n with
  | false => exact ⟨rfl, nblt_f.mp e⟩
  | true =>
    refine ⟨nblt.mp e, fun y H1 ⟨e1, e2⟩ => ?_⟩
    subst e1 e2
    exact ⟨rh, Ext.refl _ _, rp, by show V.int _ = V.int _; rw [Int.zero_mul, Int.add_zero]; rfl⟩
theorem irel_rng1 {P : Program} {w : World} {rh0 : Rh} {lo : Int} {n : Nat} : IRel D P w rh0 (.rng lo 1 n) (Itr lo n) := by
  intro i rh h H more rp
  unfold itNext
  dsimp only
  cases e : Nat.blt i n with
  | false => exact ⟨rfl, nblt_f.mp e⟩
  | true =>
    refine ⟨nblt.mp e, fun y H1 ⟨e1, e2⟩ => ?_⟩
    subst e1 e2
    exact ⟨rh, Ext.refl _ _, rp, by show V.int _ = V.int _; rw [Int.zero_mul, Int.add_zero, Int.mul_one]; rfl⟩
theorem lstI_ok {P : Program} {w : World} {mk : Nat → Ck.It} {J : Addr → L2.It} {rh1 : Rh} {h1 : Hh} {H1 : Hp} {v : AV} {x : V} {Q : L2.It → Hp → Prop} (ir : ∀ j a, rh1[j]? = some a → IRel D P w rh1 (mk j) (J a)) (r1 : Rep D P w rh1 h1 H1) (vx : VR D rh1 v x) (q : QI D P w (lstI mk v h1) rh1 H1 Q E) : ∃ a xs, x = .ref a ∧ H1 a = some (.lst xs) ∧ Q (J a) H1 := by
  cases v with
  | ref j =>
    unfold lstI at q
    dsimp only at q
    split at q
    · rename_i xs e
      obtain ⟨a, vs, rfl, ia, ha, ra⟩ := r1.lst e vx
      exact ⟨a, vs, rfl, ha, QI.here r1 (ir j a ia) q⟩
    · exact q.elim
  | _ => exact q.elim
theorem si_lst {a : IE} {tg ea : PySem.Expr} (ha : SE T D X E a ea) : SI T D X E (.lst a) tg ea := by
  intro n s h σ H rh Q sr rp q
  cases n with
  | zero => exact q.elim
  | succ n =>
    refine of_PI (pi_list pE) (oneI ha sr rp q fun x H1 rh1 h1 v e1 r1 vr q1 => ?_)
    obtain ⟨b, xs, rfl, hb, q2⟩ := lstI_ok (J := Itl X.K) (fun j a ia => irel_lst ia) r1 vr q1
    exact ⟨b, rfl, ⟨xs, .inl (.inl hb)⟩, q2⟩
theorem si_tup {a : IE} {tg ea : PySem.Expr} (ha : SE T D X E a ea) : SI T D X E (.tup a) tg ea := by
  intro n s h σ H rh Q sr rp q
  cases n with
  | zero => exact q.elim
  | succ n =>
    refine of_PI (pi_tup pE) (oneI ha sr rp q fun x H1 rh1 h1 v e1 r1 vr q1 => ?_)
    cases v with
    | ref j =>
      unfold tupI at q1
      dsimp only at q1
      split at q1
      · rename_i xs e
        obtain ⟨b, vs, rfl, ib, hb, rb⟩ := r1.tup e vr
        exact ⟨b, rfl, ⟨vs, .inl (.inl hb)⟩, QI.here r1 (irel_tup ib) q1⟩
      · exact q1.elim
    | _ => exact q1.elim
theorem si_enum {a : IE} {ea : PySem.Expr} {p pos tpos : Pos} {elts : List PySem.Expr} {kk : Nat} (ha : SE T D X E a ea) (B : Bn X "enumerate") (hs : St1 X ea) : SI T D X E (.enum a) (.Tuple elts kk tpos) (.Call (.Name "enumerate" p) [ea] [] pos) := by
  intro n s h σ H rh Q sr rp q
  cases n with
  | zero => exact q.elim
  | succ n =>
    refine of_PI (pi_enum B.g B.m (pa1 hs) hs) (oneI ha sr rp q fun x H1 rh1 h1 v e1 r1 vr q1 => ?_)
    obtain ⟨b, xs, rfl, hb, q2⟩ := lstI_ok (J := Ite X.K) (fun j a ia => irel_enum ia) r1 vr q1
    exact ⟨b, xs, rfl, .inl (.inl hb), q2⟩
theorem cstI_ok {rh : Rh} {v : AV} {x : V} {c : Int} (h : cstI v = some c) (r : VR D rh v x) : x = .int c := by
  cases v with
  | int a m =>
    have h : (match zeroI m with | true => some a | false => none) = some c := h
    cases z : zeroI m with
    | false => rw [z] at h; cases h
    | true =>
      rw [z] at h
      cases h
      have := zero_iff.mp z
      subst this
      have r : x = .int (c + 0 * D.room) := r
      rw [Int.zero_mul, Int.add_zero] at r
      exact r
  | _ => cases h
theorem small_i {a : Int} (h : smallI a = true) : -1000000 ≤ a ∧ a ≤ 1000000 := by
  unfold smallI at h
  simp only [Bool.and_eq_true, nonneg_iff] at h
  omega
theorem toNatI_eq (a : Int) : toNatI a = a.toNat := by cases a <;> rfl
theorem rgC {lo hi : Int} {c : Nat} (c1 : 1 ≤ c) (c2 : c ≤ 3) (h1 : -1000000 ≤ lo ∧ lo ≤ 1000000) (h2 : -1000000 ≤ hi ∧ hi ≤ 1000000) : RgC lo hi (c : Int) ((hi - lo + c - 1).toNat / c) := by
  have e : Builtin.Range.rangeSize lo hi (c : Int) = (((hi - lo + c - 1).toNat / c : Nat) : Int) := by
    unfold Builtin.Range.rangeSize
    rw [if_pos (by omega)]
    have : c = 1 ∨ c = 2 ∨ c = 3 := by omega
    rcases this with rfl | rfl | rfl <;> split <;> omega
  refine ⟨by omega, by omega, ?_, e⟩
  unfold Builtin.Range.small
  rw [e]
  have hc : (c : Int) > 0 := by omega
  simp only [Builtin.Range.rangeFitsLong, Bool.and_eq_true, Bool.or_eq_true, decide_eq_true_eq, beq_iff_eq, hc, if_true]
  have : c = 1 ∨ c = 2 ∨ c = 3 := by omega
  rcases this with rfl | rfl | rfl <;> refine ⟨?_, ?_⟩ <;> omega
theorem rng_ok {P : Program} {w : World} {rh1 : Rh} {h1 : Hh} {H1 : Hp} {v u : AV} {x y : V} {c : Int} {Q : L2.It → Hp → Prop} (r1 : Rep D P w rh1 h1 H1) (vx : VR D rh1 v x) (vy : VR D rh1 u y) (q : QI D P w (rngV v u c h1) rh1 H1 Q E) : ∃ lo hi n, x = .int lo ∧ y = .int hi ∧ (-1000000 ≤ lo ∧ lo ≤ 1000000) ∧ (-1000000 ≤ hi ∧ hi ≤ 1000000) ∧ RgC lo hi c n ∧ (c = 1 → n = (hi - lo).toNat) ∧ QI D P w (.ok (.rng lo c n) h1) rh1 H1 Q E := by
  unfold rngV at q
  cases e1 : cstI v with
  | none => rw [e1] at q; exact q.elim
  | some lo =>
    cases e2 : cstI u with
    | none => rw [e1, e2] at q; exact q.elim
    | some hi =>
      rw [e1, e2] at q
      dsimp only at q
      unfold rngI at q
      cases z : smallI lo && smallI hi with
      | false => rw [z] at q; exact q.elim
      | true =>
        rw [z] at q
        dsimp only at q
        rw [Bool.and_eq_true] at z
        have s1 := small_i z.1
        have s2 := small_i z.2
        have go : ∀ n, RgC lo hi c n → (c = 1 → n = (hi - lo).toNat) → QI D P w (.ok (.rng lo c n) h1) rh1 H1 Q E → ∃ lo hi n, x = .int lo ∧ y = .int hi ∧ (-1000000 ≤ lo ∧ lo ≤ 1000000) ∧ (-1000000 ≤ hi ∧ hi ≤ 1000000) ∧ RgC lo hi c n ∧ (c = 1 → n = (hi - lo).toNat) ∧ QI D P w (.ok (.rng lo c n) h1) rh1 H1 Q E :=
          fun n g1 g2 g3 => ⟨lo, hi, n, cstI_ok e1 vx, cstI_ok e2 vy, s1, s2, g1, g2, g3⟩
        split at q
        · rw [toNatI_eq] at q
          refine go _ ?_ (fun _ => rfl) q
          have := rgC (c := 1) (by omega) (by omega) s1 s2
          have e : (hi - lo + ((1 : Nat) : Int) - 1).toNat / 1 = (hi - lo).toNat := by omega
          rw [e] at this
          exact this
        · rw [toNatI_eq] at q
          exact go _ (RgC.neg (by omega) (by omega) (by omega) (by omega)) (fun z => by cases z) q
        · rw [toNatI_eq] at q
          refine go _ ?_ (fun z => by cases z) q
          have := rgC (c := 2) (by omega) (by omega) s1 s2
          have e : (hi - lo + ((2 : Nat) : Int) - 1).toNat / 2 = (hi - lo + 1).toNat / 2 := by omega
          rw [e] at this
          exact this
        · rw [toNatI_eq] at q
          refine go _ ?_ (fun z => by cases z) q
          have := rgC (c := 3) (by omega) (by omega) s1 s2
          have e : (hi - lo + ((3 : Nat) : Int) - 1).toNat / 3 = (hi - lo + 2).toNat / 3 := by omega
          rw [e] at this
          exact this
        · exact q.elim
theorem si_r1 {a : IE} {tg ea : PySem.Expr} {p pos : Pos} (ha : SE T D X E a ea) (B : Bn X "range") (hs : St1 X ea) : SI T D X E (.r1 a) tg (.Call (.Name "range" p) [ea] [] pos) := by
  intro n s h σ H rh Q sr rp q
  cases n with
  | zero => exact q.elim
  | succ n =>
    refine of_PI (pi_range1 B.g B.m (pa1 hs) hs) (oneI ha sr rp q fun x H1 rh1 h1 v e1 r1 vr q1 => ?_)
    obtain ⟨lo, hi, m, g1, g2, g3, g4, g5, g6, q2⟩ := rng_ok (x := .int 0) r1 (by show V.int _ = V.int _; rw [Int.zero_mul, Int.add_zero]) vr q1
    cases g1
    subst g2
    have := g6 rfl
    rw [Int.sub_zero] at this
    subst this
    exact ⟨hi, rfl, by omega, by omega, QI.here r1 irel_rng1 q2⟩
theorem PE.imp {e : PySem.Expr} {t t' : TE} (p : PE X e t) (f : ∀ σ H Q, t' σ H Q → t σ H Q) : PE X e t' := ⟨fun pins s σ H Q I h => p.run pins s σ H Q I (f σ H Q h)⟩
theorem si_r3 {a b : IE} {c : Int} {tg ea eb ec : PySem.Expr} {p pos : Pos} (ha : SE T D X E a ea) (hb : SE T D X E b eb) (hc : PE X ec (tC (.int c))) (B : Bn X "range") (hs : starEach [ea, eb, ec] X.env = (false, eval ea X.env) :: starEach [eb, ec] X.env) (hs2 : starEach [eb, ec] X.env = (false, eval eb X.env) :: starEach [ec] X.env) (hs3 : St1 X ec)
    (hpl : (backTo pos (starEach [eb, ec] X.env)).any (·.1) = false) : SI T D X E (.r3 a b c) tg (.Call (.Name "range" p) [ea, eb, ec] [] pos) := by
  intro n s h σ H rh Q sr rp q
  cases n with
  | zero => exact q.elim
  | succ n =>
    refine of_PI (pi_range3 B.g B.m (pa_cons pE (pa_cons pE (pa_cons hc pa_nil hs3) hs2) hs) hs hpl) (oneI ha sr rp q fun x H1 rh1 h1 v e1 r1 vx q1 => oneI hb (sr.ext e1) r1 q1 fun y H2 rh2 h2 u e2 r2 vy q2 => ?_)
    obtain ⟨lo, hi, m, rfl, rfl, g3, g4, g5, g6, q3⟩ := rng_ok r2 (vx.ext e2) vy q2
    exact ⟨lo, hi, c, m, rfl, g5, QI.here r2 irel_rng q3⟩
/-! ### targets -/
def gNames : List Nat → TGs
  | [] => gNil
  | i :: is => gCons (gName i) (gNames is)
def gOf (K : PySem.W.Frag) : Tg → TG
  | .nm i => gName i
  | .tup is => gTup K is.length (gNames is)
def tgs : Tg → List Nat
  | .nm i => [i]
  | .tup is => is
/-- the slots but vs stand as they stood -/
structure Same (vs : List Nat) (σ σ' : L2.St) : Prop where
  len : σ'.length = σ.length
  at_ : ∀ i, i ∉ vs → σ'[i]? = σ[i]?
theorem Same.refl (vs : List Nat) (σ : L2.St) : Same vs σ σ := ⟨rfl, fun _ _ => rfl⟩
theorem Same.set {vs : List Nat} {σ σ' : L2.St} (x : Same vs σ σ') {i : Nat} (h : i ∈ vs) (v : Option V) : Same vs σ (σ'.set i v) :=
  ⟨by rw [List.length_set]; exact x.len, fun j hj => by rw [List.getElem?_set_ne (fun z => hj (by rw [← z]; exact h))]; exact x.at_ j hj⟩
theorem wipe_get (σ : L2.St) (i : Nat) : ∀ vs : List Nat, (L2.wipe σ vs)[i]? = if i ∈ vs ∧ i < σ.length then some none else σ[i]?
  | [] => by simp [L2.wipe]
  | v :: vs => by
    unfold L2.wipe
    by_cases z : v = i
    · subst z
      by_cases l : v < σ.length
      · rw [List.getElem?_set_self (by rw [wipe_length]; exact l), if_pos ⟨List.mem_cons_self, l⟩]
      · rw [List.getElem?_eq_none (by rw [List.length_set, wipe_length]; omega), if_neg (fun y => l y.2), List.getElem?_eq_none (by omega)]
    · rw [List.getElem?_set_ne z, wipe_get σ i vs]
      by_cases y : i ∈ vs ∧ i < σ.length
      · rw [if_pos y, if_pos ⟨List.mem_cons_of_mem _ y.1, y.2⟩]
      · rw [if_neg y, if_neg fun q => y ⟨(List.mem_cons.mp q.1).resolve_left (fun e => z e.symm), q.2⟩]
theorem wipe_same {vs : List Nat} {σ σ' : L2.St} (x : Same vs (L2.wipe σ vs) σ') : L2.wipe σ' vs = L2.wipe σ vs := by
  refine List.ext_getElem? fun i => ?_
  rw [wipe_get, wipe_get]
  have l : σ'.length = σ.length := by rw [x.len, wipe_length]
  by_cases z : i ∈ vs
  · by_cases y : i < σ.length
    · rw [if_pos ⟨z, by omega⟩, if_pos ⟨z, y⟩]
    · rw [if_neg (fun q => y (by omega)), if_neg (fun q => y q.2), List.getElem?_eq_none (by omega), List.getElem?_eq_none (by omega)]
  · rw [if_neg fun q => z q.1, if_neg fun q => z q.1, x.at_ i z, wipe_get, if_neg fun q => z q.1]
theorem names_go {rh : Rh} {vs : List Nat} {F : L2.St → Hp → Prop} {H : Hp} : ∀ (is : List Nat) {xs : List AV} {ys : List V} {s s2 : Sg} {σ0 σ : L2.St}, (∀ i ∈ is, i ∈ vs) → setAll s is xs = some s2 → VRs D rh xs ys → SR D rh s σ → Same vs σ0 σ → (∀ σ2, SR D rh s2 σ2 → Same vs σ0 σ2 → F σ2 H) → ys.length = is.length ∧ gNames is ys σ H F
  | [], [], _, s, s2, σ0, σ, hv, e, .nil, sr, sm, f => by
    cases e
    exact ⟨rfl, rfl, f σ sr sm⟩
  | [], _ :: _, _, s, s2, σ0, σ, hv, e, r, sr, sm, f => by cases e
  | _ :: _, [], _, s, s2, σ0, σ, hv, e, r, sr, sm, f => by cases e
  | i :: is, x :: xs, _, s, s2, σ0, σ, hv, e, .cons (b := b) r rr, sr, sm, f => by
    have e : setAll (setN s i (some x)) is xs = some s2 := e
    obtain ⟨g1, g2⟩ := names_go is (fun j hj => hv j (List.mem_cons_of_mem _ hj)) e rr (sr.set i r) (sm.set (hv i List.mem_cons_self) _) f
    exact ⟨by simp [g1], b, _, rfl, g2⟩
theorem tg_go {Kf : PySem.W.Frag} {P : Program} {w : World} {g : Tg} {v : AV} {x : V} {vs : List Nat} {s s2 : Sg} {h : Hh} {rh : Rh} {σ : L2.St} {H : Hp} {F : L2.St → Hp → Prop} (hv : ∀ i ∈ tgs g, i ∈ vs) (e : setTg g v s h = some s2) (rp : Rep D P w rh h H) (vx : VR D rh v x) (sr : SR D rh s σ)
    (f : ∀ σ2, SR D rh s2 σ2 → Same vs σ σ2 → F σ2 H) : gOf Kf g x σ H F := by
  cases g with
  | nm i =>
    cases e
    exact f _ (sr.set i vx) ((Same.refl vs σ).set (hv i (by simp [tgs])) _)
  | tup is =>
    cases v with
    | ref j =>
      unfold setTg at e
      dsimp only at e
      split at e
      · rename_i xs eo
        obtain ⟨a, ys, rfl, _, ha, ra⟩ := rp.tup eo vx
        obtain ⟨g1, g2⟩ := names_go (F := F) (H := H) is hv e ra sr (Same.refl vs σ) f
        exact ⟨a, ys, rfl, .inl (.inl ha), g1, g2⟩
      · cases e
    | _ => cases e
end
end Ck
-- SD13
set_option Elab.async false
set_option linter.all false
set_option maxRecDepth 100000
set_option maxHeartbeats 4000000
set_option autoImplicit false
namespace Ck
open PySem PySem.Spec PyProof.Rows L2
def Ex0 : XK := fun _ _ _ => False
section
variable {T : Nat → FC} {D : Dt} {X : Cx} {E : XK} {k : Nat}
theorem passes_blk {s : Shared} {H : Hp} {scope : Scope} {ce : Env} {fp : List Addr} : Passes (L2.CX X.prog X.w) (X.blk s H scope ce fp) Ex0 := fun _ _ _ _ _ _ _ h => by
  obtain ⟨_, _, _, _, _, _, _, _, _, _, _, _, z⟩ := h
  exact z
theorem CxE.blk (c : CxE X E k) {s : Shared} {H : Hp} {scope : Scope} {ce : Env} {fp : List Addr} : CxE (X.blk s H scope ce fp) Ex0 k := ⟨c.calm, c.nd, c.room, passes_blk⟩
abbrev bk (X : Cx) (scope : Scope) (s : Shared) (H : Hp) (C : Addr) (cl : List (Str × Addr)) (fp : List Addr) : Cx := X.blk s H scope (compEnvC scope cl C X.env) fp
def ttB (X : Cx) (scope : Scope) : List PySem.Expr → TT
  | [f] => fun σ H Q => ∀ s H0 C cl fp, wT (bk X scope s H0 C cl fp) f σ H Q
  | _ => tYes
def teB (X : Cx) (scope : Scope) (elt : PySem.Expr) : TE := fun σ H Q => ∀ s H0 C cl fp, wE (bk X scope s H0 C cl fp) elt σ H Q
theorem pe_teB {scope : Scope} {elt : PySem.Expr} (s : Shared) (H : Hp) (C : Addr) (cl : List (Str × Addr)) (fp : List Addr) : PE (bk X scope s H C cl fp) elt (teB X scope elt) := ⟨fun pins s' σ H' Q I h => h s H C cl fp pins s' I⟩
theorem pt_ttB {scope : Scope} {f : PySem.Expr} (s : Shared) (H : Hp) (C : Addr) (cl : List (Str × Addr)) (fp : List Addr) : PT (bk X scope s H C cl fp) f (ttB X scope [f]) := ⟨fun pins s' σ H' Q I h => h s H C cl fp pins s' I⟩
/-- the tests of a clause: none, or one -/
def TestsOk (T : Nat → FC) (D : Dt) (X : Cx) (scope : Scope) : Option IT → List PySem.Expr → Prop
  | none, [] => True
  | some c, [f] => ∀ s H C cl fp, ST T D (bk X scope s H C cl fp) Ex0 c f
  | _, _ => False
theorem pts_B {scope : Scope} {t : Option IT} {ifs : List PySem.Expr} (h : TestsOk T D X scope t ifs) (s : Shared) (H : Hp) (C : Addr) (cl : List (Str × Addr)) (fp : List Addr) : PTs (bk X scope s H C cl fp) ifs (ttB X scope ifs) := by
  cases t with
  | none =>
    cases ifs with
    | nil => exact pts_nil
    | cons a r => exact h.elim
  | some c =>
    cases ifs with
    | nil => exact h.elim
    | cons a r =>
      cases r with
      | nil => exact pts_one (pt_ttB s H C cl fp)
      | cons b r => exact h.elim
theorem q_b1x {P : Program} {w : World} {rh : Rh} {H : Hp} {r : R} {kk : AV → Hh → R} {Q : VK} (q : QE D P w (b1 (noX false r) kk) rh H Q E) : QE D P w r rh H (fun x H1 => Mid D P w rh H x H1 fun v h1 rh1 => QE D P w (kk v h1) rh1 H1 Q E) Ex0 := by
  cases r with
  | ok v h => exact fun rh' H' x e rp vr => ⟨rh', h, v, e, rp, vr, QE.ext (show QE D P w (kk v h) rh H Q E from q) e⟩
  | exc C h => exact q.elim
  | no => exact q.elim
theorem q_bBRx {P : Program} {w : World} {rh : Rh} {H : Hp} {r : RB} {kk : Bool → Hh → R} {Q : VK} (q : QE D P w (bBR (noXB false r) kk) rh H Q E) : QB D P w r rh H (fun x H1 => MidB D P w rh H H1 fun h1 rh1 => QE D P w (kk x h1) rh1 H1 Q E) Ex0 := by
  cases r with
  | ok v h => exact fun rh' H' e rp => ⟨rh', h, e, rp, QE.ext (show QE D P w (kk v h) rh H Q E from q) e⟩
  | exc C h => exact q.elim
  | no => exact q.elim
theorem more_ext {rh0 rh rh1 : Rh} {H H1 : Hp} (m : ∃ more, rh = rh0 ++ more) (e : Ext rh H rh1 H1) : ∃ more, rh1 = rh0 ++ more := by
  obtain ⟨a, z⟩ := m
  obtain ⟨b, y⟩ := e.pre
  exact ⟨a ++ b, by rw [y, z, List.append_assoc]⟩
theorem app_go {P : Program} {w : World} {d : Nat} {p : Addr} {v : AV} {y : V} {kk : Hh → R} {rh : Rh} {h : Hh} {H : Hp} {Q : VK} (rp : Rep D P w rh h H) (ip : rh[d]? = some p) (vy : VR D rh v y) (q : QE D P w (cApp d v h kk) rh H Q E) :
    ∃ acc, H p = some (.lst acc) ∧ acc.length ≤ 100000 ∧ ∃ h', Ext rh H rh (upd H p (.lst (acc ++ [y]))) ∧ Rep D P w rh h' (upd H p (.lst (acc ++ [y]))) ∧ QE D P w (kk h') rh (upd H p (.lst (acc ++ [y]))) Q E := by
  unfold cApp at q
  cases e : h.get d with
  | none => rw [e] at q; exact q.elim
  | some o =>
    rw [e] at q
    cases o with
    | lst xs =>
      dsimp only at q
      cases z : small xs with
      | false => rw [z] at q; exact q.elim
      | true =>
        rw [z] at q
        dsimp only at q
        obtain ⟨a, ho, h1, h2, vs, rfl, rr⟩ := rp.at_ d _ e
        rw [ip] at h1
        cases h1
        have l := small_le z
        rw [pr_length rr] at l
        obtain ⟨r2, e2⟩ := rp.set (o := .lst (catL xs [v])) (ho := .lst (vs ++ [y])) ip h2 (fun _ z => by cases z) fun H' _ _ => OR.lstN (by rw [catL_eq]; exact pr_append rr (.cons vy .nil))
        exact ⟨vs, h2, l, _, e2, r2, q.ext e2⟩
    | _ => exact q.elim
theorem comp_go {g : Tg} {it : II} {t : Option IT} {e : IE} {own : List Nat} {elt tg iter : PySem.Expr} {ifs : List PySem.Expr} {scope : Scope} (hi : SI T D X E it tg iter) (htg : ∀ i ∈ tgs g, i ∈ own) (ht : TestsOk T D X scope t ifs) (he : ∀ s H C cl fp, SE T D (bk X scope s H C cl fp) Ex0 e elt)
    {n : Nat} {s : Sg} {h : Hh} {σ : L2.St} {H : Hp} {rh : Rh} {Q : VK} (sr : SR D rh s σ) (rp : Rep D X.prog X.w rh h H) (q : QE D X.prog X.w (eComp (ev T n) false g it t e own s h) rh H Q E) : tLc (wI X tg iter) (gOf X.K g) (ttB X scope ifs) (teB X scope elt) own σ H Q := by
  refine (hi n s h σ H rh _ sr rp (q_bI q)).mono fun J H1 ⟨rh1, h1, j, e1, r1, ir, q1⟩ => fun p np => ?_
  obtain ⟨r2, e2⟩ := r1.new (o := .lst []) (ho := .lst []) np (OR.lstN .nil)
  have ip : (rh1 ++ [p])[h1.n]? = some p := by rw [r1.len, List.getElem?_append_right (Nat.le_refl _)]; simp
  refine ⟨fun i m H' => ∃ rh' h', Rep D X.prog X.w rh' h' H' ∧ SR D rh' s σ ∧ rh'[h1.n]? = some p ∧ (∃ more, rh' = rh1 ++ more) ∧ QE D X.prog X.w ((ev T m).cl false g j t e own h1.n i s h') rh' H' Q E, ⟨n, _, _, r2, (sr.ext e1).ext e2, ip, ⟨[p], rfl⟩, q1.ext e2⟩, ?_⟩
  rintro i m H2 ⟨rh2, h2, r2, sr2, ip2, more, q2⟩
  cases m with
  | zero => exact q2.elim
  | succ m =>
    have q2 : QE D X.prog X.w (stepCl (ev T m) false g j t e own h1.n i s h2) rh2 H2 Q E := q2
    unfold stepCl at q2
    have ix := ir i rh2 h2 H2 more r2
    cases en : itNext j i h2 with
    | no => rw [en] at q2; exact q2.elim
    | done h3 =>
      rw [en] at q2 ix
      dsimp only at ix q2
      obtain ⟨z1, z2⟩ := ix
      rw [z1] at q2
      exact .inl ⟨z2, QE.here (v := .ref h1.n) r2 ⟨p, rfl, ip2⟩ q2⟩
    | item v h3 =>
      rw [en] at q2 ix
      dsimp only at ix q2
      obtain ⟨z1, z2⟩ := ix
      cases es : setTg g v (wipeL s own) h3 with
      | none => rw [es] at q2; exact q2.elim
      | some s2 =>
        rw [es] at q2
        dsimp only at q2
        refine .inr ⟨z1, fun H' => ∃ rh' h', Rep D X.prog X.w rh' h' H' ∧ SR D rh' s σ ∧ rh'[h1.n]? = some p ∧ (∃ more, rh' = rh1 ++ more) ∧ QE D X.prog X.w ((ev T m).cl false g j t e own h1.n (i + 1) s h') rh' H' Q E, fun H' w => ⟨m, Nat.lt_succ_self m, w⟩, fun x H3 y3 => ?_⟩
        obtain ⟨rh3, e3, r3, vx⟩ := z2 x H3 y3
        have ip3 := ix_more ip2 e3.pre
        refine tg_go (vs := own) htg es r3 vx (sr2.ext e3).wipe fun σ2 sr3 same => ⟨wipe_same same, ?_⟩
        have q3 := q2.ext e3
        -- behind the test
        have body : ∀ (b : Bool) (rh4 : Rh) (h4 : Hh) (H4 : Hp), Ext rh3 H3 rh4 H4 → Rep D X.prog X.w rh4 h4 H4 → QE D X.prog X.w (match b with | true => b1 (noX false ((ev T m).e e s2 h4)) fun y h => cApp h1.n y h fun h => (ev T m).cl false g j t e own h1.n (i + 1) s h | false => (ev T m).cl false g j t e own h1.n (i + 1) s h4) rh4 H4 Q E →
            if b = true then teB X scope elt σ2 H4 fun y H5 => ∃ acc, H5 p = some (.lst acc) ∧ acc.length < sizeLine ∧ ∃ rh' h', Rep D X.prog X.w rh' h' (upd H5 p (.lst (acc ++ [y]))) ∧ SR D rh' s σ ∧ rh'[h1.n]? = some p ∧ (∃ more, rh' = rh1 ++ more) ∧ QE D X.prog X.w ((ev T m).cl false g j t e own h1.n (i + 1) s h') rh' (upd H5 p (.lst (acc ++ [y]))) Q E
            else ∃ rh' h', Rep D X.prog X.w rh' h' H4 ∧ SR D rh' s σ ∧ rh'[h1.n]? = some p ∧ (∃ more, rh' = rh1 ++ more) ∧ QE D X.prog X.w ((ev T m).cl false g j t e own h1.n (i + 1) s h') rh' H4 Q E := fun b rh4 h4 H4 e4 r4 q4 => by
          cases b with
          | false => exact ite_ff ⟨rh4, h4, r4, (sr2.ext e3).ext e4, ix_more ip3 e4.pre, more_ext (more_ext more e3) e4, q4⟩
          | true =>
            refine ite_tt fun s0 H0 C cl fp => ((he s0 H0 C cl fp) m s2 h4 σ2 H4 rh4 _ (sr3.ext e4) r4 (q_b1x q4)).mono fun y H5 ⟨rh5, h5, u, e5, r5, vy, q5⟩ => ?_
            have ip5 := ix_more (ix_more ip3 e4.pre) e5.pre
            obtain ⟨acc, g1, g2, h6, e6, r6, q6⟩ := app_go r5 ip5 vy q5
            exact ⟨acc, g1, by rw [sizeLine_eq]; omega, rh5, h6, r6, (((sr2.ext e3).ext e4).ext e5).ext e6, ip5, more_ext (more_ext (more_ext more e3) e4) e5, q6⟩
        unfold cTest at q3
        cases t with
        | none =>
          cases ifs with
          | nil => exact body true rh3 h3 H3 (Ext.refl _ _) r3 q3
          | cons a r => exact ht.elim
        | some c =>
          cases ifs with
          | nil => exact ht.elim
          | cons f r =>
            cases r with
            | nil =>
              intro s0 H0 C cl fp
              exact ((show ∀ s H C cl fp, ST T D (bk X scope s H C cl fp) Ex0 c f from ht) s0 H0 C cl fp m s2 h3 σ2 H3 rh3 _ sr3 r3 (q_bBRx q3)).mono fun b H4 ⟨rh4, h4, e4, r4, q4⟩ => body b rh4 h4 H4 e4 r4 q4
            | cons b r => exact ht.elim
theorem se_comp {g : Tg} {it : II} {t : Option IT} {e : IE} {own : List Nat} {elt tg iter : PySem.Expr} {ifs : List PySem.Expr} {scope : Scope} {ow : List (Str × Nat)} {pos : Pos} (cx : CxE X E k) (hi : SI T D X E it tg iter) (ok : BlkOk X.N X.env.scope scope ow) (hown : ow.map (·.2) = own) (htg : ∀ i ∈ tgs g, i ∈ own)
    (hg : ∀ s H C cl fp, PG (bk X scope s H C cl fp) tg (gOf X.K g)) (ht : TestsOk T D X scope t ifs) (he : ∀ s H C cl fp, SE T D (bk X scope s H C cl fp) Ex0 e elt) (hs : ∀ x, foldedSetIterable iter X.env x = pure x) : SE T D X E (.comp g it t e own) (.ListComp elt [⟨tg, iter, ifs, 0⟩] scope pos) := by
  intro n s h σ H rh Q sr rp q
  cases n with
  | zero => exact q.elim
  | succ n =>
    refine of_PE (pe_lc cx.calm cx.nd pI ok hg (pts_B ht) (pe_teB) hs) ?_
    rw [hown]
    exact comp_go hi htg ht he sr rp q
end
end Ck
-- SD14
set_option Elab.async false
set_option linter.all false
set_option maxRecDepth 100000
set_option maxHeartbeats 4000000
set_option autoImplicit false
namespace Ck
open PySem PySem.Spec PyProof.Rows L2
section
variable {T : Nat → FC} {D : Dt} {X : Cx} {E : XK} {k : Nat}
theorem CxT.ex (c : CxT X E k) : CxE X E k := ⟨c.calm, c.nd, c.room, fun pins σ H s e s' I h => passes_call c.tk (fun _ _ _ _ h => h) pins σ H s e s' I h⟩
theorem CxT.nox (c : CxT X E k) : CxT X.nox Ex0 k := ⟨fun u s' x => by
  obtain ⟨_, _, _, _, _, _, _, _, _, _, _, _, _, _, _, _, w⟩ := x
  exact w, PassesOwn.never, c.calm, c.nd, c.room⟩
theorem se_dead {e : PySem.Expr} : SE T D X E .dead e := by
  intro n s h σ H rh Q sr rp q
  cases n <;> exact q.elim
theorem ss_dead {i : Nat} {st : Stmt} : SS T D X E (.set i .dead) st := by
  intro n s h σ H rh Q sr rp q
  cases n with
  | zero => exact q.elim
  | succ n => cases n <;> exact q.elim
theorem QE.imp {P : Program} {w : World} {r : R} {rh : Rh} {H : Hp} {Q Q' : VK} (q : QE D P w r rh H Q E) (f : ∀ x H1, Q x H1 → Q' x H1) : QE D P w r rh H Q' E := by
  cases r with
  | ok v h => exact fun rh' H' x e rp vr => f _ _ (q rh' H' x e rp vr)
  | exc C h => exact q
  | no => exact q
theorem QS.nxt {P : Program} {w : World} {rh : Rh} {H : Hp} {h : Hh} {s : Sg} {σ : L2.St} {N : Ends} (rp : Rep D P w rh h H) (sr : SR D rh s σ) (q : QS D P w (.nx s h) rh H N E) : N.nx σ H := q rh H σ (Ext.refl _ _) rp sr
theorem QS.rtn {P : Program} {w : World} {rh : Rh} {H : Hp} {h : Hh} {v : AV} {x : V} {N : Ends} (rp : Rep D P w rh h H) (vx : VR D rh v x) (q : QS D P w (.ret v h) rh H N E) : N.rt x H := q rh H x (Ext.refl _ _) rp vx
/-! ### blocks -/
theorem sss_nil : SSs T D X E [] [] := by
  intro n s h σ H rh N sr rp q
  cases n with
  | zero => exact q.elim
  | succ n => exact of_PSs pss_nil (show N.nx σ H from QS.nxt rp sr q)
theorem wS.mono {st : Stmt} {N N' : Ends} {σ : L2.St} {H : Hp} (h : wS X st N σ H) (f1 : ∀ a b, N.nx a b → N'.nx a b) (f2 : ∀ a b, N.rt a b → N'.rt a b) (f3 : ∀ a b, N.bk a b → N'.bk a b) (f4 : ∀ a b, N.ct a b → N'.ct a b) : wS X st N' σ H := fun pins s I => thn (h pins s I) fun f s1 q => by
  cases f with
  | next => obtain ⟨σ', H', I', q⟩ := q; exact ⟨σ', H', I', f1 _ _ q⟩
  | ret v => obtain ⟨x, σ', H', I', r, q⟩ := q; exact ⟨x, σ', H', I', r, f2 _ _ q⟩
  | brk => obtain ⟨σ', H', I', q⟩ := q; exact ⟨σ', H', I', f3 _ _ q⟩
  | cont => obtain ⟨σ', H', I', q⟩ := q; exact ⟨σ', H', I', f4 _ _ q⟩
theorem sss_cons {a : IS} {as : List IS} {st : Stmt} {sts : List Stmt} (ha : SS T D X E a st) (hs : SSs T D X E as sts) : SSs T D X E (a :: as) (st :: sts) := by
  intro n s h σ H rh N sr rp q
  cases n with
  | zero => exact q.elim
  | succ n =>
    refine of_PSs (pss_cons pS pSs) ?_
    show wS X st { N with nx := fun σ1 H1 => wSs X sts N σ1 H1 } σ H
    refine (ha n s h σ H rh _ sr rp (q_bS q)).mono (fun σ1 H1 ⟨rh1, h1, s1, e, r, sr1, q1⟩ => hs n s1 h1 σ1 H1 rh1 N sr1 r q1) (fun _ _ z => z) (fun _ _ z => z) (fun _ _ z => z)
/-! ### statements -/
theorem ss_set {i : Nat} {e : IE} {x : Str} {ex : PySem.Expr} {p pos : Pos} (cx : CxT X E k) (hi : X.N[i]? = some x) (hx : Loc X.env.scope x) (he : SE T D X E e ex) (hs : swapsWith ex (some (.Name x p)) pos.line X.env = pure false) (hf : X.fn x = true ∨ X.env.scope.names.lookup x = some .local) : SS T D X E (.set i e) (.Assign [.Name x p] ex pos) := by
  intro n s h σ H rh N sr rp q
  cases n with
  | zero => exact q.elim
  | succ n => exact of_PS (ps_set cx.nd hi hx pE hs hf) (oneS he sr rp q fun x H1 rh1 h1 v e1 r1 vr q1 => QS.nxt r1 ((sr.ext e1).set i vr) q1)
theorem ss_setLc {i : Nat} {g : Tg} {it : II} {t : Option IT} {e : IE} {own : List Nat} {elt tg iter : PySem.Expr} {ifs : List PySem.Expr} {scope : Scope} {ow : List (Str × Nat)} {y : Str} {py pos spos : Pos} (cx : CxT X E k) (hy : X.N[i]? = some y) (hyl : X.env.scope.names.lookup y = some .local) (hsw : swapsWith (.ListComp elt [⟨tg, iter, ifs, 0⟩] scope pos) (some (.Name y py)) spos.line X.env = pure true)
    (hi : SI T D X E it tg iter) (ok : BlkOk X.N X.env.scope scope ow) (hown : ow.map (·.2) = own) (htg : ∀ i ∈ tgs g, i ∈ own)
    (hg : ∀ s H C cl fp, PG (bk X scope s H C cl fp) tg (gOf X.K g)) (ht : TestsOk T D X scope t ifs) (he : ∀ s H C cl fp, SE T D (bk X scope s H C cl fp) Ex0 e elt) (hs : ∀ x, foldedSetIterable iter X.env x = pure x) : SS T D X E (.set i (.comp g it t e own)) (.Assign [.Name y py] (.ListComp elt [⟨tg, iter, ifs, 0⟩] scope pos) spos) := by
  intro n s h σ H rh N sr rp q
  cases n with
  | zero => exact q.elim
  | succ n =>
    refine of_PS (ps_setLc cx.calm cx.nd hy hyl hsw pI ok hg (pts_B ht) (pe_teB) hs) ?_
    have q0 := q_b1S (show QS D X.prog X.w (b1S ((ev T n).e (.comp g it t e own) s h) fun v h => .nx (setN s i (some v)) h) rh H N E from q)
    cases n with
    | zero => exact q0.elim
    | succ n =>
      rw [hown]
      show tLc _ _ _ _ _ σ H fun x H1 => N.nx (σ.set i (some x)) H1
      exact comp_go hi htg ht he sr rp (QE.imp (show QE D X.prog X.w (eComp (ev T n) false g it t e own s h) rh H _ E from q0) fun x H1 ⟨rh1, h1, v, e1, r1, vr, q1⟩ => QS.nxt r1 ((sr.ext e1).set i vr) q1)
theorem ss_setF (K : DtOk D) (KK : KOk D X.K) {f : Nat} (hf : f < 24) {nm : Str} (hn : D.fN f = nm) {o e : IE} {eo ee : PySem.Expr} {p pos : Pos} (ho : SE T D X E o eo) (he : SE T D X E e ee) (hs : swapsWith ee (some (.Attribute eo nm p)) pos.line X.env = pure false) : SS T D X E (.setF o f e) (.Assign [.Attribute eo nm p] ee pos) := by
  intro n s h σ H rh N sr rp q
  cases n with
  | zero => exact q.elim
  | succ n =>
    refine of_PS (ps_fld pE pE hs) (oneS he sr rp q fun y H1 rh1 h1 u e1 r1 vy q1 => oneS ho (sr.ext e1) r1 q1 fun x H2 rh2 h2 v e2 r2 vx q2 => ?_)
    cases v with
    | ref j =>
      unfold setFV at q2
      dsimp only at q2
      split at q2
      · rename_i C fs eo
        obtain ⟨a, dx, ks, rfl, ia, ha, hC, hl, rr⟩ := r2.ins eo vx
        have pl := pr_length rr
        have rr2 := fld_put K hf (vy.ext e2) rr
        cases z : Nat.ble (lenN fs) 23 with
        | false => rw [z] at q2; exact q2.elim
        | true =>
          rw [z] at q2
          have z := nble.mp z
          rw [lenN_eq] at z
          have l2 : (fldSet f u fs).length ≤ 24 := by
            have : ∀ fs : List (Nat × AV), (fldSet f u fs).length ≤ fs.length + 1 := by
              intro fs
              induction fs with
              | nil => simp [fldSet]
              | cons p r ih =>
                obtain ⟨g, w⟩ := p
                unfold fldSet
                cases Nat.beq g f <;> (simp only [List.length_cons]; omega)
            have := this fs
            omega
          refine ⟨a, D.cA C, dx, ks, rfl, ha, KK.cls C hC, by rw [← hn]; exact KK.noat C f hC hf, by omega, ?_⟩
          obtain ⟨r3, e3⟩ := r2.set (o := .ins C (fldSet f u fs)) (ho := .ins (D.cA C) dx (putF nm y ks)) ia ha (fun _ z => by cases z) fun H' _ _ => ⟨dx, _, rfl, hC, l2, by rw [← hn]; exact rr2⟩
          exact QS.nxt r3 (((sr.ext e1).ext e2).ext e3) (q2.ext e3)
      · exact q2.elim
    | _ => exact q2.elim
/-! ### items -/
theorem PSet.or {t t' : TSet} (h : PSet X t) (h' : PSet X t') : PSet X (fun o i v H Q => t o i v H Q ∨ t' o i v H Q) := by
  intro pins s σ H o i v ov iv u Q I ro ri rv q
  rcases q with q | q
  · exact h pins s σ H o i v ov iv u Q I ro ri rv q
  · exact h' pins s σ H o i v ov iv u Q I ro ri rv q
def rSetAll (P : Program) (w : World) : TSet := fun o i v H Q => rSetL o i v H Q ∨ rMetSet P w o i v H Q
theorem ixOf_ixN {c : Int} {n i : Nat} (h : ixOf c n = some i) : ixN n c = some i ∧ i < n := by
  unfold ixOf at h
  unfold ixN
  cases c with
  | ofNat j =>
    dsimp only at h
    cases z : Nat.blt j n with
    | false => rw [z] at h; cases h
    | true =>
      rw [z] at h
      cases h
      have := nblt.mp z
      rw [if_pos (by simp), if_pos (by simp; omega)]
      exact ⟨rfl, this⟩
  | negSucc j =>
    dsimp only at h
    cases z : Nat.blt j n with
    | false => rw [z] at h; cases h
    | true =>
      rw [z] at h
      cases h
      have := nblt.mp z
      rw [if_neg (by omega), if_pos (by omega)]
      exact ⟨by congr 1; omega, by omega⟩
theorem ss_setI (K : DtOk D) (cx : CxT X E k) {o i e : IE} {eo ei ee : PySem.Expr} {p pos : Pos} (ho : SE T D X E o eo) (hi : SE T D X E i ei) (he : SE T D X E e ee) (hsw : swapsWithSole [.Subscript eo ei p] ee pos.line X.env = pure false) (hw : swappedStores [.Subscript eo ei p] ee X.env = pure none) (h1 : (assignEach [.Subscript eo ei p] X.env).map (·.2) = [assign (.Subscript eo ei p) X.env])
    (ha : ∀ v, assign (.Subscript eo ei p) X.env v = (do
      let ov ← holding [v] (eval eo X.env)
      let iv ← holding [v, ov] (eval ei X.env)
      standAt p
      holding [v, ov, iv] (setItem ov iv v)
      release [v, ov, iv] [])) : SS T D X E (.setI o i e) (.Assign [.Subscript eo ei p] ee pos) := by
  intro n s h σ H rh N sr rp q
  cases n with
  | zero => exact q.elim
  | succ n =>
    refine of_PS (ps_asg pE (pg_sub (t := rSetAll X.prog X.w) pE pE (Ck.PSet.or L2.set_list (Ck.set_met cx.ex.hu)) ha) hsw hw h1) (oneS he sr rp q fun z' H1 rh1 h1 u e1 r1 vz q1 => oneS ho (sr.ext e1) r1 q1 fun x H2 rh2 h2 v e2 r2 vx q2 => oneS hi ((sr.ext e1).ext e2) r2 q2 fun y H3 rh3 h3 w e3 r3 vy q3 => ?_)
    have vx := vx.ext e3
    have vz := (vz.ext e2).ext e3
    have sr3 := ((sr.ext e1).ext e2).ext e3
    cases v with
    | ref j =>
      unfold setIV at q3
      dsimp only at q3
      split at q3
      · rename_i xs eo
        obtain ⟨a, vs, rfl, ia, ha, ra⟩ := r3.lst eo vx
        cases w with
        | int c m =>
          dsimp only at q3
          split at q3
          · rename_i kk z1 z2
            have := zero_iff.mp z1
            subst this
            have vy : y = .int (c + 0 * D.room) := vy
            rw [Int.zero_mul, Int.add_zero] at vy
            rw [lenN_eq] at z2
            obtain ⟨g1, g2⟩ := ixOf_ixN z2
            rw [pr_length ra] at g1
            refine .inl ⟨a, vs, c, kk, rfl, vy, ha, g1, ?_⟩
            obtain ⟨r4, e4⟩ := r3.set (o := .lst (setN xs kk u)) (ho := .lst (vs.set kk z')) ia ha (fun _ z => by cases z) fun H' _ _ => OR.lstN (by rw [setN_eq]; exact pr_set vz kk ra)
            exact QS.nxt r4 (sr3.ext e4) (q3.ext e4)
          · exact q3.elim
        | _ => exact q3.elim
      · rename_i kvs eo
        obtain ⟨a, ho, rfl, ia, ha, xs, rfl, hn, hz, rr⟩ := r3.obj eo vx
        cases z : isK2 h3 w && small kvs with
        | false => rw [z] at q3; exact q3.elim
        | true =>
          rw [z] at q3
          dsimp only at q3
          rw [Bool.and_eq_true] at z
          obtain ⟨b, kk, rfl, hk, hd⟩ := isK2_ok K r3 z.1 vy
          split at q3
          · rename_i z2
            have nk : atKey xs kk = none := metGet_ok K r3 vy hk z2 rr
            have l := small_le z.2
            have pl := pr_length rr
            refine .inr ⟨a, xs, kk, b, ⟨rfl, rfl, ha, metE_of hn rr, hk, hd⟩, nk, by omega, fun uu ru => ?_⟩
            obtain ⟨r4, e4⟩ := r3.set (nf := ⟨fun _ => metO_ne, fun _ => metO_ne2⟩) (o := .met (catL kvs [(w, u)])) (ho := metO X.prog X.w a (xs ++ [(kk, b, uu)])) ia ha (fun _ z => by cases z) fun H' _ E => ⟨_, rfl, by
              rw [List.map_append, List.nodup_append]
              refine ⟨hn, by simp, fun p hp q hq => ?_⟩
              have hq : q = kk := by simpa using hq
              subst hq
              intro e
              subst e
              obtain ⟨t, ht, e⟩ := List.mem_map.mp hp
              have nk : (xs.find? fun x => decide (x.1 = p)) = none := by
                unfold atKey at nk
                exact Option.map_eq_none_iff.mp nk
              have := List.find?_eq_none.mp nk t ht
              exact this (by simp [e]), by rw [List.length_append]; simp; omega, by
              rw [catL_eq]
              refine pr_append (pr_mono (fun p q z => ⟨z.1, ⟨z.2.1.1.mono E.tups, z.2.1.2⟩, z.2.2⟩) rr) (.cons ⟨vy, ⟨hk.mono E.tups, hd⟩, z', vz, ru⟩ .nil)⟩
            exact QS.nxt r4 (sr3.ext e4) (q3.ext e4)
          · exact q3.elim
      · exact q3.elim
    | _ => exact q3.elim
end
end Ck
-- SD15
set_option Elab.async false
set_option linter.all false
set_option maxRecDepth 100000
set_option maxHeartbeats 4000000
set_option autoImplicit false
namespace Ck
open PySem PySem.Spec PyProof.Rows L2
section
variable {T : Nat → FC} {D : Dt} {X : Cx} {E : XK} {k : Nat}
theorem isLst_ok {P : Program} {w : World} {rh : Rh} {h : Hh} {H : Hp} {v : AV} {x : V} {kk : RS} {N : Ends} (rp : Rep D P w rh h H) (vx : VR D rh v x) (q : QS D P w (isLst v h kk) rh H N E) : (∃ a vs, x = .ref a ∧ H a = some (.lst vs)) ∧ QS D P w kk rh H N E := by
  cases v with
  | ref j =>
    unfold isLst at q
    dsimp only at q
    split at q
    · rename_i xs e
      obtain ⟨a, vs, ex, ia, ha, ra⟩ := rp.lst e vx
      exact ⟨⟨a, vs, ex, ha⟩, q⟩
    · exact q.elim
  | _ => exact q.elim
theorem ss_app {o e : IE} {eo ee : PySem.Expr} {apos cpos pos : Pos} (ho : SE T D X E o eo) (he : SE T D X E e ee) (hbase : attributeBase eo "append" X.env (eval eo X.env) = eval eo X.env)
    (hfew : ((backTo cpos (starEach [ee] X.env)).all (fun x => !x.1) && (backToKw cpos (keywordEach [] X.env)).all (fun x => x.1.isSome)
      && decide (([ee] : List PySem.Expr).length + ([] : List Keyword).length + (if ([] : List Keyword).isEmpty then 0 else 1) < 30)) = true) (hline : (apos.endLine == cpos.line) = true) (hs : St1 X ee)
    (hsw : swapsWith (.Call (.Attribute eo "append" apos) [ee] [] cpos) none pos.line X.env = pure false) : SS T D X E (.app o e) (.Expr (.Call (.Attribute eo "append" apos) [ee] [] cpos) pos) := by
  intro n s h σ H rh N sr rp q
  cases n with
  | zero => exact q.elim
  | succ n =>
    refine of_PS (ps_expr (pe_bm PySem.F.plainAttrs_list PySem.F.slot_list_append PySem.F.type_list_append mt_append pE (pa1 hs) hbase hfew hline hs rfl) hsw) (oneS ho sr rp q fun x H1 rh1 h1 v e1 r1 vx q1 => ?_)
    obtain ⟨⟨a, vs, ex, ha⟩, q2⟩ := isLst_ok r1 vx q1
    refine ⟨by subst ex; exact .inl ⟨rfl, vs, .inl (.inl ha)⟩, oneS he (sr.ext e1) r1 q2 fun y H2 rh2 h2 u e2 r2 vy q3 => ?_⟩
    have vx := vx.ext e2
    cases v with
    | ref j =>
      unfold appV at q3
      dsimp only at q3
      split at q3
      · rename_i xs eo
        obtain ⟨b, ws, rfl, ib, hb, rb⟩ := r2.lst eo vx
        cases z : small xs with
        | false => rw [z] at q3; exact q3.elim
        | true =>
          rw [z] at q3
          have l := small_le z
          rw [pr_length rb] at l
          obtain ⟨r3, e3⟩ := r2.set (o := .lst (catL xs [u])) (ho := .lst (ws ++ [y])) ib hb (fun _ z => by cases z) fun H' _ _ => OR.lstN (by rw [catL_eq]; exact pr_append rb (.cons vy .nil))
          exact ⟨b, ws, y, rfl, rfl, hb, by rw [sizeLine_eq]; omega, QS.nxt r3 (((sr.ext e1).ext e2).ext e3) (q3.ext e3)⟩
      · exact q3.elim
    | _ => exact q3.elim
theorem ss_rev {o : IE} {eo : PySem.Expr} {apos cpos pos : Pos} (ho : SE T D X E o eo) (hbase : attributeBase eo "reverse" X.env (eval eo X.env) = eval eo X.env) (hline : (apos.endLine == cpos.line) = true)
    (hsw : swapsWith (.Call (.Attribute eo "reverse" apos) [] [] cpos) none pos.line X.env = pure false) : SS T D X E (.rev o) (.Expr (.Call (.Attribute eo "reverse" apos) [] [] cpos) pos) := by
  intro n s h σ H rh N sr rp q
  cases n with
  | zero => exact q.elim
  | succ n =>
    refine of_PS (ps_expr (pe_bm0 PySem.F.plainAttrs_list PySem.F.slot_list_reverse PySem.F.type_list_reverse mt_reverse pE hbase hline) hsw) (oneS ho sr rp q fun x H1 rh1 h1 v e1 r1 vx q1 => ?_)
    cases v with
    | ref j =>
      unfold revV at q1
      dsimp only at q1
      split at q1
      · rename_i xs eo
        obtain ⟨b, ws, rfl, ib, hb, rb⟩ := r1.lst eo vx
        obtain ⟨r3, e3⟩ := r1.set (o := .lst (revL xs [])) (ho := .lst ws.reverse) ib hb (fun _ z => by cases z) fun H' _ _ => OR.lstN (by rw [revL_eq, List.append_nil]; exact pr_rev rb)
        exact ⟨.inl ⟨rfl, ws, .inl (.inl hb)⟩, b, ws, rfl, rfl, hb, QS.nxt r3 ((sr.ext e1).ext e3) (q1.ext e3)⟩
      · exact q1.elim
    | _ => exact q1.elim
theorem ss_ex {e : IE} {ee : PySem.Expr} {pos : Pos} (he : SE T D X E e ee) (hsw : swapsWith ee none pos.line X.env = pure false) : SS T D X E (.ex e) (.Expr ee pos) := by
  intro n s h σ H rh N sr rp q
  cases n with
  | zero => exact q.elim
  | succ n => exact of_PS (ps_expr pE hsw) (oneS he sr rp q fun x H1 rh1 h1 v e1 r1 vx q1 => QS.nxt r1 (sr.ext e1) q1)
theorem ss_pass {pos : Pos} : SS T D X E (.ex (.cst .non)) (.Pass pos) := by
  intro n s h σ H rh N sr rp q
  cases n with
  | zero => exact q.elim
  | succ n =>
    cases n with
    | zero => exact q.elim
    | succ n => exact of_PS ps_pass (QS.nxt rp sr (show QS D X.prog X.w (.nx s h) rh H N E from q))
theorem ss_ret {e : IE} {ee : PySem.Expr} {pos : Pos} (he : SE T D X E e ee) : SS T D X E (.ret e) (.Return (some ee) pos) := by
  intro n s h σ H rh N sr rp q
  cases n with
  | zero => exact q.elim
  | succ n => exact of_PS (ps_ret pE) (oneS he sr rp q fun x H1 rh1 h1 v e1 r1 vx q1 => QS.rtn r1 vx q1)
theorem ss_iff {t : IT} {a b : List IS} {et : PySem.Expr} {sa sb : List Stmt} {pos : Pos} (ht : ST T D X E t et) (ha : SSs T D X E a sa) (hb : SSs T D X E b sb) : SS T D X E (.iff t a b) (.If et sa sb pos) := by
  intro n s h σ H rh N sr rp q
  cases n with
  | zero => exact q.elim
  | succ n =>
    refine of_PS (ps_if pT pSs pSs) ((ht n s h σ H rh _ sr rp (q_bBS (show QS D X.prog X.w (bBS ((ev T n).t t s h) fun c h => match c with | true => (ev T n).ss a s h | false => (ev T n).ss b s h) rh H N E from q))).mono fun c H1 ⟨rh1, h1, e1, r1, q1⟩ => ?_)
    cases c with
    | true => exact ite_tt (ha n s h1 σ H1 rh1 N (sr.ext e1) r1 q1)
    | false => exact ite_ff (hb n s h1 σ H1 rh1 N (sr.ext e1) r1 q1)
theorem ss_for (cx : CxT X E k) {g : Tg} {it : II} {b : List IS} {tg iter : PySem.Expr} {body : List Stmt} {pos : Pos} (hi : SI T D X E it tg iter) (hg : PG X tg (gOf X.K g)) (hb : SSs T D X E b body) (hs : ∀ x, foldedSetIterable iter X.env x = pure x) : SS T D X E (.forr g it b) (.For tg iter body [] pos) := by
  intro n s h σ H rh N sr rp q
  cases n with
  | zero => exact q.elim
  | succ n =>
    refine of_PS (ps_for cx.hp cx.calm pI hg pSs hs) ((hi n s h σ H rh _ sr rp (q_bIS (show QS D X.prog X.w (bIS ((ev T n).i it s h) fun j h => (ev T n).lp g j b 0 s h) rh H N E from q))).mono fun J H1 ⟨rh1, h1, j, e1, r1, ir, q1⟩ => ?_)
    refine ⟨fun i m σ' H' => ∃ rh' h' s', Rep D X.prog X.w rh' h' H' ∧ SR D rh' s' σ' ∧ (∃ more, rh' = rh1 ++ more) ∧ QS D X.prog X.w ((ev T m).lp g j b i s' h') rh' H' N E, ⟨n, rh1, h1, s, r1, sr.ext e1, ⟨[], by simp⟩, q1⟩, ?_⟩
    rintro i m σ2 H2 ⟨rh2, h2, s2, r2, sr2, more, q2⟩
    cases m with
    | zero => exact q2.elim
    | succ m =>
      have q2 : QS D X.prog X.w (stepLp (ev T m) g j b i s2 h2) rh2 H2 N E := q2
      unfold stepLp at q2
      have ix := ir i rh2 h2 H2 more r2
      cases en : itNext j i h2 with
      | no => rw [en] at q2; exact q2.elim
      | done h3 =>
        rw [en] at q2 ix
        dsimp only at ix q2
        obtain ⟨z1, z2⟩ := ix
        rw [z1] at q2
        exact .inl ⟨z2, QS.nxt r2 sr2 q2⟩
      | item v h3 =>
        rw [en] at q2 ix
        dsimp only at ix q2
        obtain ⟨z1, z2⟩ := ix
        cases es : setTg g v s2 h3 with
        | none => rw [es] at q2; exact q2.elim
        | some s3 =>
          rw [es] at q2
          dsimp only at q2
          refine .inr ⟨z1, fun σ' H' => ∃ rh' h' s', Rep D X.prog X.w rh' h' H' ∧ SR D rh' s' σ' ∧ (∃ more, rh' = rh1 ++ more) ∧ QS D X.prog X.w ((ev T m).lp g j b (i + 1) s' h') rh' H' N E, fun σ' H' w => ⟨m, Nat.lt_succ_self m, w⟩, fun x H3 y3 => ?_⟩
          obtain ⟨rh3, e3, r3, vx⟩ := z2 x H3 y3
          refine tg_go (vs := tgs g) (fun _ h => h) es r3 vx (sr2.ext e3) fun σ3 sr3 _ => ?_
          refine hb m s3 h3 σ3 H3 rh3 _ sr3 r3 ?_
          have q3 := q_bS (q2.ext e3)
          cases er : (ev T m).ss b s3 h3 with
          | nx s4 h4 =>
            rw [er] at q3
            intro rh4 H4 σ4 e4 r4 sr4
            obtain ⟨rh5, h5, s5, e5, r5, sr5, q5⟩ := q3 rh4 H4 σ4 e4 r4 sr4
            exact ⟨rh5, h5, s5, r5, sr5, more_ext (more_ext more e3) e5, q5⟩
          | ret v h4 => rw [er] at q3; exact q3
          | exc C h4 => rw [er] at q3; exact q3
          | no => rw [er] at q3; exact q3
theorem ss_while (cx : CxT X E k) {t : IT} {b : List IS} {et : PySem.Expr} {body : List Stmt} {pos : Pos} (ht : ST T D X E t et) (hb : SSs T D X E b body) : SS T D X E (.whil t b) (.While et body [] pos) := by
  intro n s h σ H rh N sr rp q
  refine of_PS (ps_while cx.hp pT pSs) ⟨fun m σ' H' => ∃ rh' h' s', Rep D X.prog X.w rh' h' H' ∧ SR D rh' s' σ' ∧ QS D X.prog X.w ((ev T m).s (.whil t b) s' h') rh' H' N E, ⟨n, rh, h, s, rp, sr, q⟩, ?_⟩
  rintro m σ2 H2 ⟨rh2, h2, s2, r2, sr2, q2⟩
  cases m with
  | zero => exact q2.elim
  | succ m =>
    refine (ht m s2 h2 σ2 H2 rh2 _ sr2 r2 (q_bBS (show QS D X.prog X.w (sWhil (ev T m) t b (.whil t b) s2 h2) rh2 H2 N E from q2))).mono fun c H3 ⟨rh3, h3, e3, r3, q3⟩ => ?_
    cases c with
    | false => exact ite_ff (QS.nxt r3 (sr2.ext e3) q3)
    | true =>
      refine ite_tt ⟨fun σ' H' => ∃ rh' h' s', Rep D X.prog X.w rh' h' H' ∧ SR D rh' s' σ' ∧ QS D X.prog X.w ((ev T m).s (.whil t b) s' h') rh' H' N E, fun σ' H' w => ⟨m, Nat.lt_succ_self m, w⟩, ?_⟩
      refine hb m s2 h3 σ2 H3 rh3 _ (sr2.ext e3) r3 ?_
      have q4 := q_bS q3
      cases er : (ev T m).ss b s2 h3 with
      | nx s4 h4 =>
        rw [er] at q4
        intro rh4 H4 σ4 e4 r4 sr4
        obtain ⟨rh5, h5, s5, e5, r5, sr5, q5⟩ := q4 rh4 H4 σ4 e4 r4 sr4
        exact ⟨rh5, h5, s5, r5, sr5, q5⟩
      | ret v h4 => rw [er] at q4; exact q4
      | exc C h4 => rw [er] at q4; exact q4
      | no => rw [er] at q4; exact q4
theorem ss_raise (cx : CxT X E k) {C : Nat} {e : PySem.Expr} {pos : Pos} (hm : PMk X e (fun _ H Q => Q (.ref (D.xA C)) none H)) : SS T D X E (.raise C) (.Raise (some e) none pos) := by
  intro n s h σ H rh N sr rp q
  cases n with
  | zero => exact q.elim
  | succ n => exact of_PS (ps_raise cx.calm cx.tk hm) (show E (.ref (D.xA C)) none H from q rh H (Ext.refl _ _) rp)
theorem ss_thru {b : List IS} {body : List Stmt} {h₀ : ExceptHandler} {hs : List ExceptHandler} {pos : Pos} (hb : SSs T D X.nox Ex0 b body) : SS T D X E (.thru b) (.Try body (h₀ :: hs) [] [] pos) := by
  intro n s h σ H rh N sr rp q
  cases n with
  | zero => exact q.elim
  | succ n =>
    refine of_PS (ps_try_thru0 pSs) (hb n s h σ H rh N sr rp ?_)
    have q : QS D X.prog X.w (match (ev T n).ss b s h with | .nx s h => .nx s h | .ret v h => .ret v h | _ => .no) rh H N E := q
    cases e : (ev T n).ss b s h with
    | nx s4 h4 => rw [e] at q; exact q
    | ret v h4 => rw [e] at q; exact q
    | exc C h4 => rw [e] at q; exact q.elim
    | no => rw [e] at q; exact q.elim
end
end Ck
-- SE1
set_option Elab.async false
set_option linter.all false
set_option maxRecDepth 100000
set_option maxHeartbeats 4000000
set_option autoImplicit false
namespace Ck
open PySem PySem.Spec PyProof.Rows L2 Lk
/-! ### closures: their words, by number -/
def inDef (st : Stmt) : Stmt := (C8.fnBody st).getD 0 (.Pass ⟨0, 0, 0, 0⟩)
abbrev s_ahead : Stmt := inDef s_choices_in
abbrev s_ended_home : Stmt := inDef s_home_in
abbrev s_ended_knot : Stmt := inDef s_knot_in
def nfW : Nat → List (Str × Addr) → Addr → NdefX.NF
  | 0 => NdefX.NF.of s_ahead "ahead" "choices_in.<locals>.ahead"
  | 1 => NdefX.NF.of s_ended_home "ended" "home_in.<locals>.ended"
  | _ => NdefX.NF.of s_ended_knot "ended" "knot_in.<locals>.ended"
def frW : Nat → List Str
  | 0 => ["canal", "ways"]
  | 1 => ["ways"]
  | _ => ["canal", "ways"]
def nmW (l _c : Nat) : Str := if l = 537 then "choices_in.<locals>.ahead" else if l = 542 then "home_in.<locals>.ended" else "knot_in.<locals>.ended"
/-- the world of the program -/
structure Wd where
  P : Program
  w : World
  K : PySem.W.Frag
  mg : Str → Option Value
  base : Heap
  D : Dt
structure WdOk (W : Wd) : Prop where
  dt : DtOk W.D
  kk : KOk W.D W.K
  kin : W.K.In W.base
  G : W.base.Ns mainGlobals W.mg
  fact : ∀ (i : Nat) {f : He.Fa}, fa[i]? = some f → f.ok W.K = true
  def_ : ∀ (i : Nat) {d : He.DefD}, fn[i]? = some d → ∃ fd, FunD W.K d.name d.qual d.params d.body d.scope (d.dvs W.K) (d.kws W.K) (He.fAd W.K d.at_) fd
  cA : ∀ C x, cnL[C]? = some x → W.D.cA C = He.ga W.K x
  xA : ∀ C x, xnL[C]? = some x → W.D.xA C = He.ga W.K x
  fN : ∀ f x, fnL[f]? = some x → W.D.fN f = x
  ways : ∀ H, SqT W.K H (He.ga W.K "WAYS") [.str "up", .str "down"]
  more : ex W.K = true
  clo : (W.D.nf, W.D.fr) = (nfW, frW)
  T : W.D.T = tf.map fun p => ((He.cT W.K p).2, nmW)
  tb : ∀ p ∈ tf, LamX.TabB W.base W.mg (He.cT W.K p).1 (He.cT W.K p).2
/-- the context of a def's body -/
abbrev cxW (W : Wd) (N : List Str) (d : He.DefD) (f : Addr) (cdv : Value) (A : Around) (outer : List Env) (s : Shared) (H : Hp) (E : XK) : Cx := cxOf (L2.CX W.P W.w) W.P W.w W.K W.mg W.base N d.qual d.scope f cdv A outer s H E
section
variable {W : Wd} {N ps : List Str} {d : He.DefD} {f : Addr} {cdv : Value} {A : Around} {outer : List Env} {s : Shared} {H : Hp} {E : XK} {k : Nat}
theorem cxW_ok (nd : N.Nodup) (hr : Room k (A.deeper (envOfC d.qual d.scope s.heap.objs.size f cdv))) : CxT (cxW W N d f cdv A outer s H E) E k where
  tk := takes_of rfl rfl rfl rfl
  hp := passes_of rfl
  calm := rfl
  nd := nd
  room := hr
theorem bF_q {D : Dt} {P : Program} {w : World} {rh : Rh} {H : Hp} {r : RS} {Q : VK} (q : QE D P w (bF r) rh H Q E) : QS D P w r rh H { nx := fun _ H' => Q .non H', rt := Q } E := by
  cases r with
  | nx s h => exact fun rh' H' σ' e rp sr => q rh' H' .non e rp rfl
  | ret v h => exact q
  | exc C h => exact q
  | no => exact q
/-- a def keeps its promise: what its body's code comes to -/
theorem fnC {code : List IS} {nn np : Nat} {fd : FuncData} {ds : List Value} {dvs dvs' : List V} {kws : List (Str × V)} (F : FunD W.K d.name d.qual d.params d.body d.scope dvs' kws f fd) (Sc : FnScope N ps d.scope) (hN : N.length = nn) (hp : ps.length = np) (hle : np ≤ nn) (hB : PySem.W.keepIn W.K (.ref f) = true → L2.Binds W.K fd ps ds) (hV : Vals dvs ds)
    (hb : ∀ (cdv : Value) (A : Around) (outer : List Env) (s : Shared) (H : Hp) (E : XK), CxT (cxW W N d f cdv A outer s H E) E k → SSs clos W.D (cxW W N d f cdv A outer s H E) E code d.body) : FnC clos W.D W.P W.w W.K W.mg W.base (k + 1) f np (.mk nn code) ds dvs := by
  refine ⟨fd, ps, hp, ?_, hB F.kp, hV⟩
  refine F.ok Sc (fun vs H Q E h => by rw [h.1, hp]) fun cdv A outer s H vs Q E hr hs => ?_
  obtain ⟨hl, n, rh, h, avs, vr, rp, q⟩ := hs
  refine ⟨_, pSs, ?_⟩
  cases n with
  | zero => exact q.elim
  | succ n =>
    have q : QE W.D W.P W.w (bF ((ev clos n).ss code (pad nn avs) h)) rh H Q E := q
    have la : avs.length ≤ N.length := by rw [pr_length vr, hl, hN]; exact hle
    have sr : SR W.D rh (pad nn avs) (L2.start N vs) := by rw [← hN]; exact SR.start vr la
    exact hb cdv A outer s H E (cxW_ok Sc.nd hr) n _ h _ H rh _ sr rp (bF_q q)
end
end Ck
-- SE2
set_option Elab.async false
set_option linter.all false
set_option maxRecDepth 100000
set_option maxHeartbeats 4000000
set_option autoImplicit false
namespace Ck
open PySem PySem.Spec PyProof.Rows L2 Lk
set_option autoImplicit true in
theorem stE_Name {a b} {es : List PySem.Expr} {env : Env} : starEach ((PySem.Expr.Name a b) :: es) env = (false, eval (PySem.Expr.Name a b) env) :: starEach es env := rfl
set_option autoImplicit true in
theorem stE_Constant {a b c} {es : List PySem.Expr} {env : Env} : starEach ((PySem.Expr.Constant a b c) :: es) env = (false, eval (PySem.Expr.Constant a b c) env) :: starEach es env := rfl
set_option autoImplicit true in
theorem stE_List {a b} {es : List PySem.Expr} {env : Env} : starEach ((PySem.Expr.List a b) :: es) env = (false, eval (PySem.Expr.List a b) env) :: starEach es env := rfl
set_option autoImplicit true in
theorem stE_Tuple {a b c} {es : List PySem.Expr} {env : Env} : starEach ((PySem.Expr.Tuple a b c) :: es) env = (false, eval (PySem.Expr.Tuple a b c) env) :: starEach es env := rfl
set_option autoImplicit true in
theorem stE_Subscript {a b c} {es : List PySem.Expr} {env : Env} : starEach ((PySem.Expr.Subscript a b c) :: es) env = (false, eval (PySem.Expr.Subscript a b c) env) :: starEach es env := rfl
set_option autoImplicit true in
theorem stE_Attribute {a b c} {es : List PySem.Expr} {env : Env} : starEach ((PySem.Expr.Attribute a b c) :: es) env = (false, eval (PySem.Expr.Attribute a b c) env) :: starEach es env := rfl
set_option autoImplicit true in
theorem stE_Call {a b c d} {es : List PySem.Expr} {env : Env} : starEach ((PySem.Expr.Call a b c d) :: es) env = (false, eval (PySem.Expr.Call a b c d) env) :: starEach es env := rfl
set_option autoImplicit true in
theorem stE_BinOp {a b c d} {es : List PySem.Expr} {env : Env} : starEach ((PySem.Expr.BinOp a b c d) :: es) env = (false, eval (PySem.Expr.BinOp a b c d) env) :: starEach es env := rfl
set_option autoImplicit true in
theorem stE_UnaryOp {a b c} {es : List PySem.Expr} {env : Env} : starEach ((PySem.Expr.UnaryOp a b c) :: es) env = (false, eval (PySem.Expr.UnaryOp a b c) env) :: starEach es env := rfl
set_option autoImplicit true in
theorem stE_ListComp {a b c d} {es : List PySem.Expr} {env : Env} : starEach ((PySem.Expr.ListComp a b c d) :: es) env = (false, eval (PySem.Expr.ListComp a b c d) env) :: starEach es env := rfl
set_option autoImplicit true in
theorem stE_Compare {a b c d} {es : List PySem.Expr} {env : Env} : starEach ((PySem.Expr.Compare a b c d) :: es) env = (false, eval (PySem.Expr.Compare a b c d) env) :: starEach es env := rfl
theorem WdOk.kp {W : Wd} (ok : WdOk W) (i : Nat) {d : He.DefD} (h : fn[i]? = some d) : PySem.W.keepIn W.K (.ref (He.fAd W.K d.at_)) = true := by
  obtain ⟨_, F⟩ := ok.def_ i h
  exact F.kp
theorem fnL_get : ∀ g, g < 24 → ∃ x, fnL[g]? = some x := fun g hg => by
  have : fnL.length = 24 := by rfl
  exact ⟨fnL[g]'(by omega), List.getElem?_eq_getElem (by omega)⟩
theorem WdOk.met {W : Wd} (ok : WdOk W) (C : Nat) {m c : Str} {f : Addr} (hm : (fnL.all fun x => !decide (x = m)) = true) (hC : cnL[C]? = some c) (h1 : Cls W.K (He.ga W.K c)) (h2 : Meth W.K (He.ga W.K c) m f) : MtC W.K W.D C m f := by
  refine ⟨by rw [ok.cA C _ hC]; exact h1, by rw [ok.cA C _ hC]; exact h2, fun g hg e => ?_⟩
  obtain ⟨x, hx⟩ := fnL_get g hg
  have := List.all_eq_true.mp hm x (List.mem_of_getElem? hx)
  rw [ok.fN g x hx] at e
  rw [e] at this
  simp at this
theorem raise_ok {W : Wd} (ok : WdOk W) {X : Cx} (hX : (X.K, X.mg) = (W.K, W.mg)) {x m : Str} {j C : Nat} {p p2 pos : Pos} (h1 : (He.Fa.exc x).ok W.K = true) (h2 : (He.Fa.glo x).ok W.K = true) (hC : W.D.xA C = He.ga W.K x) (hg : Gl X x) (hdb : (x == ("__debug__" : Str)) = false) :
    PMk X (.Call (.Name x p) [.Constant (.str m) j p2] [] pos) (fun _ H Q => Q (.ref (W.D.xA C)) none H) := by
  have hK : X.K = W.K := congrArg Prod.fst hX
  have hM : X.mg = W.mg := congrArg Prod.snd hX
  obtain ⟨a, b, c, d⟩ := He.exc_ok h1
  rw [hC]
  refine pmk_own (C := He.ga W.K x) PySem.F.excBase_ValueError (by rw [hK]; exact a) (by rw [hM]; exact He.glo_ok ok.kin ok.G h2) (by rw [hK]; exact b) (raises_own (by rw [hK]; exact c) (by rw [hK]; exact d)) hg hdb
theorem binds_all {K : PySem.W.Frag} {x qual : Str} {params : Arguments} {body : List Stmt} {scope : Scope} {dvs : List V} {f : Addr} {fd : FuncData} {ps : List Str} (F : FunD K x qual params body scope dvs [] f fd) (hd : dvs ≠ [])
    (h : ∀ (T : Addr) (kV doc pm : Value) (an : Option Addr) (cdv ct : Value) (us its : List Value), us.length = ps.length → its.length = dvs.length →
      ∃ k, bindArgs (PySem.W.fnOf x qual params body scope (.ref T) kV doc pm an cdv ct) ⟨us, []⟩ = seqItems? (.ref T) >>= k ∧ k (some its.toArray) = pure (ps.zip us)) : L2.Binds K fd ps [] := by
  obtain ⟨ds, v, b⟩ := F.binds1 (ps := ps) ps.length dvs.length hd (by omega) fun T kV doc pm an cdv ct us its hl hi => by
    obtain ⟨k, e1, e2⟩ := h T kV doc pm an cdv ct us its hl hi
    exact ⟨k, e1, by rw [e2, ← hi, List.drop_length, List.append_nil]⟩
  rw [List.drop_length] at v
  cases v
  exact b
theorem binds_dflt {K : PySem.W.Frag} {x qual : Str} {params : Arguments} {body : List Stmt} {scope : Scope} {v : V} {f : Addr} {fd : FuncData} {ps : List Str} {u : Value} (F : FunD K x qual params body scope [v] [] f fd) (n : Nat) (hn : n + 1 = ps.length) (hu : ∀ u', RelV v u' → u' = u)
    (h : ∀ (T : Addr) (kV doc pm : Value) (an : Option Addr) (cdv ct : Value) (us its : List Value), us.length = n → its.length = 1 →
      ∃ k, bindArgs (PySem.W.fnOf x qual params body scope (.ref T) kV doc pm an cdv ct) ⟨us, []⟩ = seqItems? (.ref T) >>= k ∧ k (some its.toArray) = pure (ps.zip (us ++ its))) : L2.Binds K fd ps [u] := by
  obtain ⟨ds, v, b⟩ := F.binds1 (ps := ps) n 0 (List.cons_ne_nil _ _) (by simpa using hn) fun T kV doc pm an cdv ct us its hl hi => h T kV doc pm an cdv ct us its hl hi
  cases v with
  | cons r rr =>
    cases rr
    rw [hu _ r] at b
    exact b
section
variable {T : Nat → FC} {D : Dt} {X : Cx} {E : XK} {k : Nat}
theorem pe_strC {cs : List Nat} {x : Str} {j : Nat} {pos : Pos} (h : strOf cs = x) : PE X (.Constant (.str x) j pos) (tC (.str (strOf cs))) := by
  rw [h]; exact pe_str
theorem pe_negC {i c : Int} {j : Nat} {p pos : Pos} (h : -i = c) : PE X (.UnaryOp .USub (.Constant (.int i) j p) pos) (tC (.int c)) :=
  PE.imp (pe_un un_neg pe_int) fun σ H Q q => ⟨i, rfl, by dsimp only; rw [h]; exact q⟩
/-- a list of two texts -/
theorem se_pair {ca cb : List Nat} {sa sb : List Pc} {a b : Str} {j j' : Nat} {p p' pos : Pos} (h1 : (lits sa, strOf ca) = (some ca, a)) (h2 : (lits sb, strOf cb) = (some cb, b)) : SE T D X E (.lst [.cst (.str sa), .cst (.str sb)]) (.List [.Constant (.str a) j p, .Constant (.str b) j' p'] pos) :=
  se_lst (sl_cons (se_str (congrArg Prod.fst h1) (congrArg Prod.snd h1)) (sl_cons (se_str (congrArg Prod.fst h2) (congrArg Prod.snd h2)) sl_nil rfl) rfl)
/-! ### f'..' of a text and a number -/
theorem se_fstr (K : DtOk D) {p : List Nat} {a : IE} {x : Str} {ea : PySem.Expr} {j : Nat} {p1 p2 pos : Pos} (hl : p.length ≤ 100) (hx : strOf p = x) (ha : SE T D X E a ea) : SE T D X E (.fstr p a) (.JoinedStr [.Constant (.str x) j p1, .FormattedValue ea (-1) none p2] pos) := by
  intro n s h σ H rh Q sr rp q
  cases n with
  | zero => exact q.elim
  | succ n =>
    refine of_PE (pe_joined (.cons pe_str (.cons (pe_fmt pE) .nil))) ?_
    subst hx
    refine ⟨strOf p, rfl, mostLine (by rw [show (Str.empty ++ strOf p).length = p.length from by rw [show (Str.empty : Str) = strOf [] from rfl, ← strOf_app, strOf_len]; simp]; omega), ?_⟩
    refine one ha sr rp (show QE D X.prog X.w (b1 ((ev T n).e a s h) fun x h => fstrV p x h) rh H Q E from q) fun y H1 rh1 h1 v e1 r1 vr q1 => ?_
    unfold fstrV at q1
    cases v with
    | int c m =>
      have q1 : QE D X.prog X.w (match (match okNum c m with | true => R.ok (.str [.num c m]) h1 | false => .no) with | .ok (.str t) h => .ok (.str (catL (litS p) t)) h | _ => .no) rh1 H1 Q E := q1
      cases z : okNum c m with
      | false => rw [z] at q1; exact q1.elim
      | true =>
        rw [z] at q1
        refine .inr ⟨_, vr, num_log K z, _, rfl, ?_, ?_⟩
        · rw [num_str K, show (Str.empty ++ strOf p : Str) = strOf p from by rw [show (Str.empty : Str) = strOf [] from rfl, ← strOf_app]; rfl]
          have : (strOf p ++ sV D [.num c m]).length = p.length + (sV D [.num c m]).length := by
            show (strOf p ++ strOf (sC D [.num c m])).length = p.length + (strOf (sC D [.num c m])).length
            rw [← strOf_app, strOf_len, strOf_len, List.length_append]
          rw [this]
          have l := okNum_len K z
          have : (sV D [.num c m]).length ≤ 32 := by
            unfold sV; rw [strOf_len, sC_cons, sC_nil, List.append_nil]; exact l
          exact mostLine (by omega)
        · rw [num_str K, show (Str.empty ++ strOf p : Str) = strOf p from by rw [show (Str.empty : Str) = strOf [] from rfl, ← strOf_app]; rfl]
          exact QE.here (v := .str (catL (litS p) [.num c m])) r1 (by show V.str _ = V.str _; rw [sV_cat, sV_lit]) q1
    | _ => exact q1.elim
/-! ### isinstance(x, str) of a text -/
theorem se_isstr {a : IE} {ea : PySem.Expr} {p p2 pos : Pos} (ha : SE T D X E a ea) (B : Bn X "isinstance") (B2 : Bn X "str") (hs : St2 X ea (.Name "str" p2)) : SE T D X E (.isstr a) (.Call (.Name "isinstance" p) [ea, .Name "str" p2] [] pos) := by
  intro n s h σ H rh Q sr rp q
  cases n with
  | zero => exact q.elim
  | succ n =>
    have pst : PE X (.Name "str" p2) (tC (.ty "str")) := pe_bltn B2.g B2.m rfl rfl (by decide) (by decide)
    refine of_PE (pe_callB (r := fun xs H Q => ∃ x, xs = [.str x, .ty "str"] ∧ Q (.bl true) H) ?_ B.g B.m rfl (pa_cons pE (pa_cons pst pa_nil rfl) hs) (by decide) (by decide) hs rfl) (one ha sr rp q fun x H1 rh1 h1 v e1 r1 vr q1 => ?_)
    · intro pins s σ H xs us Q I r hh
      obtain ⟨x, rfl, qq⟩ := hh
      obtain ⟨u, w', rfl, r1, r2⟩ := vals2 r
      cases (show w' = Value.type "str" from r2)
      exact isinst_ok I r1 (.str x) (b := true) (by kernel_rfl) fun tk => ⟨.bl true, H, I.kept (t' := tk) fun _ _ z => z, rfl, qq⟩
    · cases v with
      | str t => exact ⟨_, by rw [show x = _ from vr], QE.here (v := .bl true) r1 rfl q1⟩
      | _ => exact q1.elim
end
end Ck
-- SE3
set_option Elab.async false
set_option linter.all false
set_option maxRecDepth 100000
set_option maxHeartbeats 4000000
set_option autoImplicit false
namespace Ck
open PySem PySem.Spec PyProof.Rows L2 Lk
theorem glo_boats_at {W : Wd} (ok : WdOk W) : W.mg (PySem.Str.ofString "boats_at") = some (.ref (He.ga W.K (PySem.Str.ofString "boats_at"))) := He.glo_ok ok.kin ok.G (ok.fact 0 rfl)
theorem glo_place_of {W : Wd} (ok : WdOk W) : W.mg (PySem.Str.ofString "place_of") = some (.ref (He.ga W.K (PySem.Str.ofString "place_of"))) := He.glo_ok ok.kin ok.G (ok.fact 1 rfl)
theorem glo_advice {W : Wd} (ok : WdOk W) : W.mg (PySem.Str.ofString "advice") = some (.ref (He.ga W.K (PySem.Str.ofString "advice"))) := He.glo_ok ok.kin ok.G (ok.fact 2 rfl)
theorem glo_deed_shown {W : Wd} (ok : WdOk W) : W.mg (PySem.Str.ofString "deed_shown") = some (.ref (He.ga W.K (PySem.Str.ofString "deed_shown"))) := He.glo_ok ok.kin ok.G (ok.fact 3 rfl)
theorem glo_deeds_shown {W : Wd} (ok : WdOk W) : W.mg (PySem.Str.ofString "deeds_shown") = some (.ref (He.ga W.K (PySem.Str.ofString "deeds_shown"))) := He.glo_ok ok.kin ok.G (ok.fact 4 rfl)
theorem glo_worded {W : Wd} (ok : WdOk W) : W.mg (PySem.Str.ofString "worded") = some (.ref (He.ga W.K (PySem.Str.ofString "worded"))) := He.glo_ok ok.kin ok.G (ok.fact 5 rfl)
theorem glo_answer_shown {W : Wd} (ok : WdOk W) : W.mg (PySem.Str.ofString "answer_shown") = some (.ref (He.ga W.K (PySem.Str.ofString "answer_shown"))) := He.glo_ok ok.kin ok.G (ok.fact 6 rfl)
theorem glo_parted {W : Wd} (ok : WdOk W) : W.mg (PySem.Str.ofString "parted") = some (.ref (He.ga W.K (PySem.Str.ofString "parted"))) := He.glo_ok ok.kin ok.G (ok.fact 7 rfl)
theorem glo_most_of {W : Wd} (ok : WdOk W) : W.mg (PySem.Str.ofString "most_of") = some (.ref (He.ga W.K (PySem.Str.ofString "most_of"))) := He.glo_ok ok.kin ok.G (ok.fact 8 rfl)
theorem glo_poured_all {W : Wd} (ok : WdOk W) : W.mg (PySem.Str.ofString "poured_all") = some (.ref (He.ga W.K (PySem.Str.ofString "poured_all"))) := He.glo_ok ok.kin ok.G (ok.fact 9 rfl)
theorem glo_passing {W : Wd} (ok : WdOk W) : W.mg (PySem.Str.ofString "passing") = some (.ref (He.ga W.K (PySem.Str.ofString "passing"))) := He.glo_ok ok.kin ok.G (ok.fact 10 rfl)
theorem glo_filling {W : Wd} (ok : WdOk W) : W.mg (PySem.Str.ofString "filling") = some (.ref (He.ga W.K (PySem.Str.ofString "filling"))) := He.glo_ok ok.kin ok.G (ok.fact 11 rfl)
theorem glo_letting {W : Wd} (ok : WdOk W) : W.mg (PySem.Str.ofString "letting") = some (.ref (He.ga W.K (PySem.Str.ofString "letting"))) := He.glo_ok ok.kin ok.G (ok.fact 12 rfl)
theorem glo_held_behind {W : Wd} (ok : WdOk W) : W.mg (PySem.Str.ofString "held_behind") = some (.ref (He.ga W.K (PySem.Str.ofString "held_behind"))) := He.glo_ok ok.kin ok.G (ok.fact 13 rfl)
theorem glo_passage {W : Wd} (ok : WdOk W) : W.mg (PySem.Str.ofString "passage") = some (.ref (He.ga W.K (PySem.Str.ofString "passage"))) := He.glo_ok ok.kin ok.G (ok.fact 14 rfl)
theorem glo_linked {W : Wd} (ok : WdOk W) : W.mg (PySem.Str.ofString "linked") = some (.ref (He.ga W.K (PySem.Str.ofString "linked"))) := He.glo_ok ok.kin ok.G (ok.fact 15 rfl)
theorem glo_over {W : Wd} (ok : WdOk W) : W.mg (PySem.Str.ofString "over") = some (.ref (He.ga W.K (PySem.Str.ofString "over"))) := He.glo_ok ok.kin ok.G (ok.fact 16 rfl)
theorem glo_spilled {W : Wd} (ok : WdOk W) : W.mg (PySem.Str.ofString "spilled") = some (.ref (He.ga W.K (PySem.Str.ofString "spilled"))) := He.glo_ok ok.kin ok.G (ok.fact 17 rfl)
theorem glo_settled {W : Wd} (ok : WdOk W) : W.mg (PySem.Str.ofString "settled") = some (.ref (He.ga W.K (PySem.Str.ofString "settled"))) := He.glo_ok ok.kin ok.G (ok.fact 18 rfl)
theorem glo_begun {W : Wd} (ok : WdOk W) : W.mg (PySem.Str.ofString "begun") = some (.ref (He.ga W.K (PySem.Str.ofString "begun"))) := He.glo_ok ok.kin ok.G (ok.fact 19 rfl)
theorem glo_reach_of {W : Wd} (ok : WdOk W) : W.mg (PySem.Str.ofString "reach_of") = some (.ref (He.ga W.K (PySem.Str.ofString "reach_of"))) := He.glo_ok ok.kin ok.G (ok.fact 20 rfl)
theorem glo_lying {W : Wd} (ok : WdOk W) : W.mg (PySem.Str.ofString "lying") = some (.ref (He.ga W.K (PySem.Str.ofString "lying"))) := He.glo_ok ok.kin ok.G (ok.fact 21 rfl)
theorem glo_all_home {W : Wd} (ok : WdOk W) : W.mg (PySem.Str.ofString "all_home") = some (.ref (He.ga W.K (PySem.Str.ofString "all_home"))) := He.glo_ok ok.kin ok.G (ok.fact 22 rfl)
theorem glo_spills {W : Wd} (ok : WdOk W) : W.mg (PySem.Str.ofString "spills") = some (.ref (He.ga W.K (PySem.Str.ofString "spills"))) := He.glo_ok ok.kin ok.G (ok.fact 23 rfl)
theorem glo_weir_pours {W : Wd} (ok : WdOk W) : W.mg (PySem.Str.ofString "weir_pours") = some (.ref (He.ga W.K (PySem.Str.ofString "weir_pours"))) := He.glo_ok ok.kin ok.G (ok.fact 24 rfl)
theorem glo_night_pours {W : Wd} (ok : WdOk W) : W.mg (PySem.Str.ofString "night_pours") = some (.ref (He.ga W.K (PySem.Str.ofString "night_pours"))) := He.glo_ok ok.kin ok.G (ok.fact 25 rfl)
theorem glo_wet_enough {W : Wd} (ok : WdOk W) : W.mg (PySem.Str.ofString "wet_enough") = some (.ref (He.ga W.K (PySem.Str.ofString "wet_enough"))) := He.glo_ok ok.kin ok.G (ok.fact 26 rfl)
theorem glo_numbered {W : Wd} (ok : WdOk W) : W.mg (PySem.Str.ofString "numbered") = some (.ref (He.ga W.K (PySem.Str.ofString "numbered"))) := He.glo_ok ok.kin ok.G (ok.fact 27 rfl)
theorem glo_pass_pours {W : Wd} (ok : WdOk W) : W.mg (PySem.Str.ofString "pass_pours") = some (.ref (He.ga W.K (PySem.Str.ofString "pass_pours"))) := He.glo_ok ok.kin ok.G (ok.fact 28 rfl)
theorem glo_let_pours {W : Wd} (ok : WdOk W) : W.mg (PySem.Str.ofString "let_pours") = some (.ref (He.ga W.K (PySem.Str.ofString "let_pours"))) := He.glo_ok ok.kin ok.G (ok.fact 29 rfl)
theorem glo_too_dry {W : Wd} (ok : WdOk W) : W.mg (PySem.Str.ofString "too_dry") = some (.ref (He.ga W.K (PySem.Str.ofString "too_dry"))) := He.glo_ok ok.kin ok.G (ok.fact 30 rfl)
theorem glo_why_no_pass {W : Wd} (ok : WdOk W) : W.mg (PySem.Str.ofString "why_no_pass") = some (.ref (He.ga W.K (PySem.Str.ofString "why_no_pass"))) := He.glo_ok ok.kin ok.G (ok.fact 31 rfl)
theorem glo_why_not {W : Wd} (ok : WdOk W) : W.mg (PySem.Str.ofString "why_not") = some (.ref (He.ga W.K (PySem.Str.ofString "why_not"))) := He.glo_ok ok.kin ok.G (ok.fact 32 rfl)
theorem glo_pours {W : Wd} (ok : WdOk W) : W.mg (PySem.Str.ofString "pours") = some (.ref (He.ga W.K (PySem.Str.ofString "pours"))) := He.glo_ok ok.kin ok.G (ok.fact 33 rfl)
theorem glo_after {W : Wd} (ok : WdOk W) : W.mg (PySem.Str.ofString "after") = some (.ref (He.ga W.K (PySem.Str.ofString "after"))) := He.glo_ok ok.kin ok.G (ok.fact 34 rfl)
theorem glo_may {W : Wd} (ok : WdOk W) : W.mg (PySem.Str.ofString "may") = some (.ref (He.ga W.K (PySem.Str.ofString "may"))) := He.glo_ok ok.kin ok.G (ok.fact 35 rfl)
theorem glo_boat_at {W : Wd} (ok : WdOk W) : W.mg (PySem.Str.ofString "boat_at") = some (.ref (He.ga W.K (PySem.Str.ofString "boat_at"))) := He.glo_ok ok.kin ok.G (ok.fact 36 rfl)
theorem glo_way_of {W : Wd} (ok : WdOk W) : W.mg (PySem.Str.ofString "way_of") = some (.ref (He.ga W.K (PySem.Str.ofString "way_of"))) := He.glo_ok ok.kin ok.G (ok.fact 37 rfl)
theorem glo_name_of {W : Wd} (ok : WdOk W) : W.mg (PySem.Str.ofString "name_of") = some (.ref (He.ga W.K (PySem.Str.ofString "name_of"))) := He.glo_ok ok.kin ok.G (ok.fact 38 rfl)
theorem glo_pairs_of {W : Wd} (ok : WdOk W) : W.mg (PySem.Str.ofString "pairs_of") = some (.ref (He.ga W.K (PySem.Str.ofString "pairs_of"))) := He.glo_ok ok.kin ok.G (ok.fact 39 rfl)
theorem glo_steps_of {W : Wd} (ok : WdOk W) : W.mg (PySem.Str.ofString "steps_of") = some (.ref (He.ga W.K (PySem.Str.ofString "steps_of"))) := He.glo_ok ok.kin ok.G (ok.fact 40 rfl)
theorem glo_weather_of_journal {W : Wd} (ok : WdOk W) : W.mg (PySem.Str.ofString "weather_of_journal") = some (.ref (He.ga W.K (PySem.Str.ofString "weather_of_journal"))) := He.glo_ok ok.kin ok.G (ok.fact 41 rfl)
theorem glo_entry_of {W : Wd} (ok : WdOk W) : W.mg (PySem.Str.ofString "entry_of") = some (.ref (He.ga W.K (PySem.Str.ofString "entry_of"))) := He.glo_ok ok.kin ok.G (ok.fact 42 rfl)
theorem glo_next_layer {W : Wd} (ok : WdOk W) : W.mg (PySem.Str.ofString "next_layer") = some (.ref (He.ga W.K (PySem.Str.ofString "next_layer"))) := He.glo_ok ok.kin ok.G (ok.fact 43 rfl)
theorem glo_first_ended {W : Wd} (ok : WdOk W) : W.mg (PySem.Str.ofString "first_ended") = some (.ref (He.ga W.K (PySem.Str.ofString "first_ended"))) := He.glo_ok ok.kin ok.G (ok.fact 44 rfl)
theorem glo_row_to {W : Wd} (ok : WdOk W) : W.mg (PySem.Str.ofString "row_to") = some (.ref (He.ga W.K (PySem.Str.ofString "row_to"))) := He.glo_ok ok.kin ok.G (ok.fact 45 rfl)
theorem glo_layered {W : Wd} (ok : WdOk W) : W.mg (PySem.Str.ofString "layered") = some (.ref (He.ga W.K (PySem.Str.ofString "layered"))) := He.glo_ok ok.kin ok.G (ok.fact 46 rfl)
theorem glo_choices_in {W : Wd} (ok : WdOk W) : W.mg (PySem.Str.ofString "choices_in") = some (.ref (He.ga W.K (PySem.Str.ofString "choices_in"))) := He.glo_ok ok.kin ok.G (ok.fact 47 rfl)
theorem glo_home_in {W : Wd} (ok : WdOk W) : W.mg (PySem.Str.ofString "home_in") = some (.ref (He.ga W.K (PySem.Str.ofString "home_in"))) := He.glo_ok ok.kin ok.G (ok.fact 48 rfl)
theorem glo_is_knot {W : Wd} (ok : WdOk W) : W.mg (PySem.Str.ofString "is_knot") = some (.ref (He.ga W.K (PySem.Str.ofString "is_knot"))) := He.glo_ok ok.kin ok.G (ok.fact 49 rfl)
theorem glo_knot_in {W : Wd} (ok : WdOk W) : W.mg (PySem.Str.ofString "knot_in") = some (.ref (He.ga W.K (PySem.Str.ofString "knot_in"))) := He.glo_ok ok.kin ok.G (ok.fact 50 rfl)
theorem glo_look {W : Wd} (ok : WdOk W) : W.mg (PySem.Str.ofString "look") = some (.ref (He.ga W.K (PySem.Str.ofString "look"))) := He.glo_ok ok.kin ok.G (ok.fact 51 rfl)
theorem glo_look_for_knot {W : Wd} (ok : WdOk W) : W.mg (PySem.Str.ofString "look_for_knot") = some (.ref (He.ga W.K (PySem.Str.ofString "look_for_knot"))) := He.glo_ok ok.kin ok.G (ok.fact 52 rfl)
theorem glo_names_hold {W : Wd} (ok : WdOk W) : W.mg (PySem.Str.ofString "names_hold") = some (.ref (He.ga W.K (PySem.Str.ofString "names_hold"))) := He.glo_ok ok.kin ok.G (ok.fact 53 rfl)
theorem glo_reach_read {W : Wd} (ok : WdOk W) : W.mg (PySem.Str.ofString "reach_read") = some (.ref (He.ga W.K (PySem.Str.ofString "reach_read"))) := He.glo_ok ok.kin ok.G (ok.fact 54 rfl)
theorem glo_extra_read {W : Wd} (ok : WdOk W) : W.mg (PySem.Str.ofString "extra_read") = some (.ref (He.ga W.K (PySem.Str.ofString "extra_read"))) := He.glo_ok ok.kin ok.G (ok.fact 55 rfl)
theorem glo_lock_read {W : Wd} (ok : WdOk W) : W.mg (PySem.Str.ofString "lock_read") = some (.ref (He.ga W.K (PySem.Str.ofString "lock_read"))) := He.glo_ok ok.kin ok.G (ok.fact 56 rfl)
theorem glo_night_read {W : Wd} (ok : WdOk W) : W.mg (PySem.Str.ofString "night_read") = some (.ref (He.ga W.K (PySem.Str.ofString "night_read"))) := He.glo_ok ok.kin ok.G (ok.fact 57 rfl)
theorem glo_weather_of_reading {W : Wd} (ok : WdOk W) : W.mg (PySem.Str.ofString "weather_of_reading") = some (.ref (He.ga W.K (PySem.Str.ofString "weather_of_reading"))) := He.glo_ok ok.kin ok.G (ok.fact 58 rfl)
theorem glo_canal_of {W : Wd} (ok : WdOk W) : W.mg (PySem.Str.ofString "canal_of") = some (.ref (He.ga W.K (PySem.Str.ofString "canal_of"))) := He.glo_ok ok.kin ok.G (ok.fact 59 rfl)
theorem glo__law_named {W : Wd} (ok : WdOk W) : W.mg (PySem.Str.ofString "_law_named") = some (.ref (He.ga W.K (PySem.Str.ofString "_law_named"))) := He.glo_ok ok.kin ok.G (ok.fact 60 rfl)
theorem glo__law_faults {W : Wd} (ok : WdOk W) : W.mg (PySem.Str.ofString "_law_faults") = some (.ref (He.ga W.K (PySem.Str.ofString "_law_faults"))) := He.glo_ok ok.kin ok.G (ok.fact 61 rfl)
theorem glo__law_yes {W : Wd} (ok : WdOk W) : W.mg (PySem.Str.ofString "_law_yes") = some (.ref (He.ga W.K (PySem.Str.ofString "_law_yes"))) := He.glo_ok ok.kin ok.G (ok.fact 62 rfl)
theorem glo__law_begun {W : Wd} (ok : WdOk W) : W.mg (PySem.Str.ofString "_law_begun") = some (.ref (He.ga W.K (PySem.Str.ofString "_law_begun"))) := He.glo_ok ok.kin ok.G (ok.fact 63 rfl)
theorem glo_made_of {W : Wd} (ok : WdOk W) : W.mg (PySem.Str.ofString "made_of") = some (.ref (He.ga W.K (PySem.Str.ofString "made_of"))) := He.glo_ok ok.kin ok.G (ok.fact 64 rfl)
theorem glo_is_name {W : Wd} (ok : WdOk W) : W.mg (PySem.Str.ofString "is_name") = some (.ref (He.ga W.K (PySem.Str.ofString "is_name"))) := He.glo_ok ok.kin ok.G (ok.fact 65 rfl)
theorem glo_number_of {W : Wd} (ok : WdOk W) : W.mg (PySem.Str.ofString "number_of") = some (.ref (He.ga W.K (PySem.Str.ofString "number_of"))) := He.glo_ok ok.kin ok.G (ok.fact 66 rfl)
theorem glo_refusal_shown {W : Wd} (ok : WdOk W) : W.mg (PySem.Str.ofString "refusal_shown") = some (.ref (He.ga W.K (PySem.Str.ofString "refusal_shown"))) := He.glo_ok ok.kin ok.G (ok.fact 67 rfl)
theorem glo__law_cell_at {W : Wd} (ok : WdOk W) : W.mg (PySem.Str.ofString "_law_cell_at") = some (.ref (He.ga W.K (PySem.Str.ofString "_law_cell_at"))) := He.glo_ok ok.kin ok.G (ok.fact 68 rfl)
theorem glo__law_name {W : Wd} (ok : WdOk W) : W.mg (PySem.Str.ofString "_law_name") = some (.ref (He.ga W.K (PySem.Str.ofString "_law_name"))) := He.glo_ok ok.kin ok.G (ok.fact 69 rfl)
theorem glo_law {W : Wd} (ok : WdOk W) : W.mg (PySem.Str.ofString "law") = some (.ref (He.ga W.K (PySem.Str.ofString "law"))) := He.glo_ok ok.kin ok.G (ok.fact 70 rfl)
theorem glo_CanalError {W : Wd} (ok : WdOk W) : W.mg (PySem.Str.ofString "CanalError") = some (.ref (He.ga W.K (PySem.Str.ofString "CanalError"))) := He.glo_ok ok.kin ok.G (ok.fact 77 rfl)
theorem glo_BadRow {W : Wd} (ok : WdOk W) : W.mg (PySem.Str.ofString "BadRow") = some (.ref (He.ga W.K (PySem.Str.ofString "BadRow"))) := He.glo_ok ok.kin ok.G (ok.fact 78 rfl)
theorem glo_NotNow {W : Wd} (ok : WdOk W) : W.mg (PySem.Str.ofString "NotNow") = some (.ref (He.ga W.K (PySem.Str.ofString "NotNow"))) := He.glo_ok ok.kin ok.G (ok.fact 79 rfl)
theorem glo_BadNumber {W : Wd} (ok : WdOk W) : W.mg (PySem.Str.ofString "BadNumber") = some (.ref (He.ga W.K (PySem.Str.ofString "BadNumber"))) := He.glo_ok ok.kin ok.G (ok.fact 80 rfl)
theorem glo_Twice {W : Wd} (ok : WdOk W) : W.mg (PySem.Str.ofString "Twice") = some (.ref (He.ga W.K (PySem.Str.ofString "Twice"))) := He.glo_ok ok.kin ok.G (ok.fact 81 rfl)
theorem glo_Unknown {W : Wd} (ok : WdOk W) : W.mg (PySem.Str.ofString "Unknown") = some (.ref (He.ga W.K (PySem.Str.ofString "Unknown"))) := He.glo_ok ok.kin ok.G (ok.fact 82 rfl)
theorem glo_TooMany {W : Wd} (ok : WdOk W) : W.mg (PySem.Str.ofString "TooMany") = some (.ref (He.ga W.K (PySem.Str.ofString "TooMany"))) := He.glo_ok ok.kin ok.G (ok.fact 83 rfl)
theorem glo_NotLinked {W : Wd} (ok : WdOk W) : W.mg (PySem.Str.ofString "NotLinked") = some (.ref (He.ga W.K (PySem.Str.ofString "NotLinked"))) := He.glo_ok ok.kin ok.G (ok.fact 84 rfl)
theorem glo_TooWide {W : Wd} (ok : WdOk W) : W.mg (PySem.Str.ofString "TooWide") = some (.ref (He.ga W.K (PySem.Str.ofString "TooWide"))) := He.glo_ok ok.kin ok.G (ok.fact 85 rfl)
theorem glo_TooDry {W : Wd} (ok : WdOk W) : W.mg (PySem.Str.ofString "TooDry") = some (.ref (He.ga W.K (PySem.Str.ofString "TooDry"))) := He.glo_ok ok.kin ok.G (ok.fact 86 rfl)
theorem glo_Torn {W : Wd} (ok : WdOk W) : W.mg (PySem.Str.ofString "Torn") = some (.ref (He.ga W.K (PySem.Str.ofString "Torn"))) := He.glo_ok ok.kin ok.G (ok.fact 87 rfl)
theorem glo_WAYS {W : Wd} (ok : WdOk W) : W.mg (PySem.Str.ofString "WAYS") = some (.ref (He.ga W.K (PySem.Str.ofString "WAYS"))) := He.glo_ok ok.kin ok.G (ok.fact 180 rfl)
theorem fr_len {W : Wd} (ok : WdOk W) : W.mg (PySem.Str.ofString "len") = none := He.free_ok ok.kin ok.G (ok.fact 88 rfl)
theorem fr_list {W : Wd} (ok : WdOk W) : W.mg (PySem.Str.ofString "list") = none := He.free_ok ok.kin ok.G (ok.fact 89 rfl)
theorem fr_tuple {W : Wd} (ok : WdOk W) : W.mg (PySem.Str.ofString "tuple") = none := He.free_ok ok.kin ok.G (ok.fact 90 rfl)
theorem fr_range {W : Wd} (ok : WdOk W) : W.mg (PySem.Str.ofString "range") = none := He.free_ok ok.kin ok.G (ok.fact 91 rfl)
theorem fr_max {W : Wd} (ok : WdOk W) : W.mg (PySem.Str.ofString "max") = none := He.free_ok ok.kin ok.G (ok.fact 92 rfl)
theorem fr_min {W : Wd} (ok : WdOk W) : W.mg (PySem.Str.ofString "min") = none := He.free_ok ok.kin ok.G (ok.fact 93 rfl)
theorem fr_int {W : Wd} (ok : WdOk W) : W.mg (PySem.Str.ofString "int") = none := He.free_ok ok.kin ok.G (ok.fact 94 rfl)
theorem fr_str {W : Wd} (ok : WdOk W) : W.mg (PySem.Str.ofString "str") = none := He.free_ok ok.kin ok.G (ok.fact 95 rfl)
theorem fr_isinstance {W : Wd} (ok : WdOk W) : W.mg (PySem.Str.ofString "isinstance") = none := He.free_ok ok.kin ok.G (ok.fact 96 rfl)
theorem fr_enumerate {W : Wd} (ok : WdOk W) : W.mg (PySem.Str.ofString "enumerate") = none := He.free_ok ok.kin ok.G (ok.fact 97 rfl)
theorem fr_set {W : Wd} (ok : WdOk W) : W.mg (PySem.Str.ofString "set") = none := He.free_ok ok.kin ok.G (ok.fact 98 rfl)
theorem int_MOST_BOATS {W : Wd} (ok : WdOk W) : ∃ t, W.mg (PySem.Str.ofString "MOST_BOATS") = some (.int 9 t) := He.int_ok ok.kin ok.G (ok.fact 99 rfl)
theorem int_MOST_REACHES {W : Wd} (ok : WdOk W) : ∃ t, W.mg (PySem.Str.ofString "MOST_REACHES") = some (.int 8 t) := He.int_ok ok.kin ok.G (ok.fact 100 rfl)
theorem int_MOST_LOCKS {W : Wd} (ok : WdOk W) : ∃ t, W.mg (PySem.Str.ofString "MOST_LOCKS") = some (.int 8 t) := He.int_ok ok.kin ok.G (ok.fact 101 rfl)
theorem int_MOST_NIGHTS {W : Wd} (ok : WdOk W) : ∃ t, W.mg (PySem.Str.ofString "MOST_NIGHTS") = some (.int 6 t) := He.int_ok ok.kin ok.G (ok.fact 102 rfl)
theorem int_MOST_BERTHS {W : Wd} (ok : WdOk W) : ∃ t, W.mg (PySem.Str.ofString "MOST_BERTHS") = some (.int 9 t) := He.int_ok ok.kin ok.G (ok.fact 103 rfl)
theorem int_USUAL {W : Wd} (ok : WdOk W) : ∃ t, W.mg (PySem.Str.ofString "USUAL") = some (.int 200 t) := He.int_ok ok.kin ok.G (ok.fact 104 rfl)
theorem int_GREATEST {W : Wd} (ok : WdOk W) : ∃ t, W.mg (PySem.Str.ofString "GREATEST") = some (.int 1000 t) := He.int_ok ok.kin ok.G (ok.fact 105 rfl)
theorem int_LONGEST {W : Wd} (ok : WdOk W) : ∃ t, W.mg (PySem.Str.ofString "LONGEST") = some (.int 12 t) := He.int_ok ok.kin ok.G (ok.fact 106 rfl)
theorem fld_locks {W : Wd} (ok : WdOk W) : W.D.fN 0 = (PySem.Str.ofString "locks") := ok.fN 0 _ rfl
theorem fld_name {W : Wd} (ok : WdOk W) : W.D.fN 1 = (PySem.Str.ofString "name") := ok.fN 1 _ rfl
theorem fld_low {W : Wd} (ok : WdOk W) : W.D.fN 2 = (PySem.Str.ofString "low") := ok.fN 2 _ rfl
theorem fld_high {W : Wd} (ok : WdOk W) : W.D.fN 3 = (PySem.Str.ofString "high") := ok.fN 3 _ rfl
theorem fld_reaches {W : Wd} (ok : WdOk W) : W.D.fN 4 = (PySem.Str.ofString "reaches") := ok.fN 4 _ rfl
theorem fld_least {W : Wd} (ok : WdOk W) : W.D.fN 5 = (PySem.Str.ofString "least") := ok.fN 5 _ rfl
theorem fld_berths {W : Wd} (ok : WdOk W) : W.D.fN 6 = (PySem.Str.ofString "berths") := ok.fN 6 _ rfl
theorem fld_nights {W : Wd} (ok : WdOk W) : W.D.fN 7 = (PySem.Str.ofString "nights") := ok.fN 7 _ rfl
theorem fld_house {W : Wd} (ok : WdOk W) : W.D.fN 8 = (PySem.Str.ofString "house") := ok.fN 8 _ rfl
theorem fld_called {W : Wd} (ok : WdOk W) : W.D.fN 9 = (PySem.Str.ofString "called") := ok.fN 9 _ rfl
theorem fld_courses {W : Wd} (ok : WdOk W) : W.D.fN 10 = (PySem.Str.ofString "courses") := ok.fN 10 _ rfl
theorem fld_standing {W : Wd} (ok : WdOk W) : W.D.fN 11 = (PySem.Str.ofString "standing") := ok.fN 11 _ rfl
theorem fld_moved {W : Wd} (ok : WdOk W) : W.D.fN 12 = (PySem.Str.ofString "moved") := ok.fN 12 _ rfl
theorem fld_gatewords {W : Wd} (ok : WdOk W) : W.D.fN 13 = (PySem.Str.ofString "gatewords") := ok.fN 13 _ rfl
theorem fld_told {W : Wd} (ok : WdOk W) : W.D.fN 14 = (PySem.Str.ofString "told") := ok.fN 14 _ rfl
theorem fld_kept {W : Wd} (ok : WdOk W) : W.D.fN 15 = (PySem.Str.ofString "kept") := ok.fN 15 _ rfl
theorem fld_bound {W : Wd} (ok : WdOk W) : W.D.fN 16 = (PySem.Str.ofString "bound") := ok.fN 16 _ rfl
theorem fld_coming {W : Wd} (ok : WdOk W) : W.D.fN 17 = (PySem.Str.ofString "coming") := ok.fN 17 _ rfl
theorem fld_room {W : Wd} (ok : WdOk W) : W.D.fN 18 = (PySem.Str.ofString "room") := ok.fN 18 _ rfl
theorem fld_crest {W : Wd} (ok : WdOk W) : W.D.fN 19 = (PySem.Str.ofString "crest") := ok.fN 19 _ rfl
theorem fld_water {W : Wd} (ok : WdOk W) : W.D.fN 20 = (PySem.Str.ofString "water") := ok.fN 20 _ rfl
theorem fld_target {W : Wd} (ok : WdOk W) : W.D.fN 21 = (PySem.Str.ofString "target") := ok.fN 21 _ rfl
theorem fld_land {W : Wd} (ok : WdOk W) : W.D.fN 22 = (PySem.Str.ofString "land") := ok.fN 22 _ rfl
theorem fld_master {W : Wd} (ok : WdOk W) : W.D.fN 23 = (PySem.Str.ofString "master") := ok.fN 23 _ rfl
theorem cls_Book {W : Wd} (ok : WdOk W) : W.mg (PySem.Str.ofString "Book") = some (.ref (W.D.cA 0)) := by rw [ok.cA 0 _ rfl]; exact He.glo_ok ok.kin ok.G (ok.fact 71 rfl)
theorem mkr_Book {W : Wd} (ok : WdOk W) : Mk W.K (W.D.cA 0) (He.ma W.K (He.ga W.K (PySem.Str.ofString "Book")) "__init__") := by rw [ok.cA 0 _ rfl]; exact He.mkr_ok (ok.fact 115 rfl)
theorem cls_Keeper {W : Wd} (ok : WdOk W) : W.mg (PySem.Str.ofString "Keeper") = some (.ref (W.D.cA 1)) := by rw [ok.cA 1 _ rfl]; exact He.glo_ok ok.kin ok.G (ok.fact 72 rfl)
theorem mkr_Keeper {W : Wd} (ok : WdOk W) : Mk W.K (W.D.cA 1) (He.ma W.K (He.ga W.K (PySem.Str.ofString "Keeper")) "__init__") := by rw [ok.cA 1 _ rfl]; exact He.mkr_ok (ok.fact 116 rfl)
theorem cls_PlainLock {W : Wd} (ok : WdOk W) : W.mg (PySem.Str.ofString "PlainLock") = some (.ref (W.D.cA 2)) := by rw [ok.cA 2 _ rfl]; exact He.glo_ok ok.kin ok.G (ok.fact 73 rfl)
theorem mkr_PlainLock {W : Wd} (ok : WdOk W) : Mk W.K (W.D.cA 2) (He.ma W.K (He.ga W.K (PySem.Str.ofString "PlainLock")) "__init__") := by rw [ok.cA 2 _ rfl]; exact He.mkr_ok (ok.fact 117 rfl)
theorem cls_Reach {W : Wd} (ok : WdOk W) : W.mg (PySem.Str.ofString "Reach") = some (.ref (W.D.cA 3)) := by rw [ok.cA 3 _ rfl]; exact He.glo_ok ok.kin ok.G (ok.fact 74 rfl)
theorem mkr_Reach {W : Wd} (ok : WdOk W) : Mk W.K (W.D.cA 3) (He.ma W.K (He.ga W.K (PySem.Str.ofString "Reach")) "__init__") := by rw [ok.cA 3 _ rfl]; exact He.mkr_ok (ok.fact 118 rfl)
theorem cls_Canal {W : Wd} (ok : WdOk W) : W.mg (PySem.Str.ofString "Canal") = some (.ref (W.D.cA 4)) := by rw [ok.cA 4 _ rfl]; exact He.glo_ok ok.kin ok.G (ok.fact 75 rfl)
theorem mkr_Canal {W : Wd} (ok : WdOk W) : Mk W.K (W.D.cA 4) (He.ma W.K (He.ga W.K (PySem.Str.ofString "Canal")) "__init__") := by rw [ok.cA 4 _ rfl]; exact He.mkr_ok (ok.fact 119 rfl)
theorem cls_House {W : Wd} (ok : WdOk W) : W.mg (PySem.Str.ofString "House") = some (.ref (W.D.cA 5)) := by rw [ok.cA 5 _ rfl]; exact He.glo_ok ok.kin ok.G (ok.fact 76 rfl)
theorem mkr_House {W : Wd} (ok : WdOk W) : Mk W.K (W.D.cA 5) (He.ma W.K (He.ga W.K (PySem.Str.ofString "House")) "__init__") := by rw [ok.cA 5 _ rfl]; exact He.mkr_ok (ok.fact 120 rfl)
theorem met_Book_ways {W : Wd} (ok : WdOk W) : MtC W.K W.D 0 (PySem.Str.ofString "ways") (He.ma W.K (He.ga W.K (PySem.Str.ofString "Book")) (PySem.Str.ofString "ways")) := ok.met 0 (by decide +kernel) (c := (PySem.Str.ofString "Book")) rfl (He.cls_ok (ok.fact 109 rfl)) (He.meth_ok (ok.fact 121 rfl))
theorem met_Book_state {W : Wd} (ok : WdOk W) : MtC W.K W.D 0 (PySem.Str.ofString "state") (He.ma W.K (He.ga W.K (PySem.Str.ofString "Book")) (PySem.Str.ofString "state")) := ok.met 0 (by decide +kernel) (c := (PySem.Str.ofString "Book")) rfl (He.cls_ok (ok.fact 109 rfl)) (He.meth_ok (ok.fact 122 rfl))
theorem met_Book_canal {W : Wd} (ok : WdOk W) : MtC W.K W.D 0 (PySem.Str.ofString "canal") (He.ma W.K (He.ga W.K (PySem.Str.ofString "Book")) (PySem.Str.ofString "canal")) := ok.met 0 (by decide +kernel) (c := (PySem.Str.ofString "Book")) rfl (He.cls_ok (ok.fact 109 rfl)) (He.meth_ok (ok.fact 123 rfl))
theorem met_Book_names {W : Wd} (ok : WdOk W) : MtC W.K W.D 0 (PySem.Str.ofString "names") (He.ma W.K (He.ga W.K (PySem.Str.ofString "Book")) (PySem.Str.ofString "names")) := ok.met 0 (by decide +kernel) (c := (PySem.Str.ofString "Book")) rfl (He.cls_ok (ok.fact 109 rfl)) (He.meth_ok (ok.fact 124 rfl))
theorem met_Book_copied {W : Wd} (ok : WdOk W) : MtC W.K W.D 0 (PySem.Str.ofString "copied") (He.ma W.K (He.ga W.K (PySem.Str.ofString "Book")) (PySem.Str.ofString "copied")) := ok.met 0 (by decide +kernel) (c := (PySem.Str.ofString "Book")) rfl (He.cls_ok (ok.fact 109 rfl)) (He.meth_ok (ok.fact 125 rfl))
theorem met_Book_deed_of {W : Wd} (ok : WdOk W) : MtC W.K W.D 0 (PySem.Str.ofString "deed_of") (He.ma W.K (He.ga W.K (PySem.Str.ofString "Book")) (PySem.Str.ofString "deed_of")) := ok.met 0 (by decide +kernel) (c := (PySem.Str.ofString "Book")) rfl (He.cls_ok (ok.fact 109 rfl)) (He.meth_ok (ok.fact 126 rfl))
theorem met_Book_why_no_come {W : Wd} (ok : WdOk W) : MtC W.K W.D 0 (PySem.Str.ofString "why_no_come") (He.ma W.K (He.ga W.K (PySem.Str.ofString "Book")) (PySem.Str.ofString "why_no_come")) := ok.met 0 (by decide +kernel) (c := (PySem.Str.ofString "Book")) rfl (He.cls_ok (ok.fact 109 rfl)) (He.meth_ok (ok.fact 127 rfl))
theorem met_Book_why_no_night {W : Wd} (ok : WdOk W) : MtC W.K W.D 0 (PySem.Str.ofString "why_no_night") (He.ma W.K (He.ga W.K (PySem.Str.ofString "Book")) (PySem.Str.ofString "why_no_night")) := ok.met 0 (by decide +kernel) (c := (PySem.Str.ofString "Book")) rfl (He.cls_ok (ok.fact 109 rfl)) (He.meth_ok (ok.fact 128 rfl))
theorem met_Book_fault {W : Wd} (ok : WdOk W) : MtC W.K W.D 0 (PySem.Str.ofString "fault") (He.ma W.K (He.ga W.K (PySem.Str.ofString "Book")) (PySem.Str.ofString "fault")) := ok.met 0 (by decide +kernel) (c := (PySem.Str.ofString "Book")) rfl (He.cls_ok (ok.fact 109 rfl)) (He.meth_ok (ok.fact 129 rfl))
theorem met_Book_pours_of {W : Wd} (ok : WdOk W) : MtC W.K W.D 0 (PySem.Str.ofString "pours_of") (He.ma W.K (He.ga W.K (PySem.Str.ofString "Book")) (PySem.Str.ofString "pours_of")) := ok.met 0 (by decide +kernel) (c := (PySem.Str.ofString "Book")) rfl (He.cls_ok (ok.fact 109 rfl)) (He.meth_ok (ok.fact 130 rfl))
theorem met_Book_behind {W : Wd} (ok : WdOk W) : MtC W.K W.D 0 (PySem.Str.ofString "behind") (He.ma W.K (He.ga W.K (PySem.Str.ofString "Book")) (PySem.Str.ofString "behind")) := ok.met 0 (by decide +kernel) (c := (PySem.Str.ofString "Book")) rfl (He.cls_ok (ok.fact 109 rfl)) (He.meth_ok (ok.fact 131 rfl))
theorem met_Book_words_of {W : Wd} (ok : WdOk W) : MtC W.K W.D 0 (PySem.Str.ofString "words_of") (He.ma W.K (He.ga W.K (PySem.Str.ofString "Book")) (PySem.Str.ofString "words_of")) := ok.met 0 (by decide +kernel) (c := (PySem.Str.ofString "Book")) rfl (He.cls_ok (ok.fact 109 rfl)) (He.meth_ok (ok.fact 132 rfl))
theorem met_Book_do {W : Wd} (ok : WdOk W) : MtC W.K W.D 0 (PySem.Str.ofString "do") (He.ma W.K (He.ga W.K (PySem.Str.ofString "Book")) (PySem.Str.ofString "do")) := ok.met 0 (by decide +kernel) (c := (PySem.Str.ofString "Book")) rfl (He.cls_ok (ok.fact 109 rfl)) (He.meth_ok (ok.fact 133 rfl))
theorem met_Keeper_plan {W : Wd} (ok : WdOk W) : MtC W.K W.D 1 (PySem.Str.ofString "plan") (He.ma W.K (He.ga W.K (PySem.Str.ofString "Keeper")) (PySem.Str.ofString "plan")) := ok.met 1 (by decide +kernel) (c := (PySem.Str.ofString "Keeper")) rfl (He.cls_ok (ok.fact 110 rfl)) (He.meth_ok (ok.fact 134 rfl))
theorem met_Keeper_book {W : Wd} (ok : WdOk W) : MtC W.K W.D 1 (PySem.Str.ofString "book") (He.ma W.K (He.ga W.K (PySem.Str.ofString "Keeper")) (PySem.Str.ofString "book")) := ok.met 1 (by decide +kernel) (c := (PySem.Str.ofString "Keeper")) rfl (He.cls_ok (ok.fact 110 rfl)) (He.meth_ok (ok.fact 135 rfl))
theorem met_Keeper_begins_with {W : Wd} (ok : WdOk W) : MtC W.K W.D 1 (PySem.Str.ofString "begins_with") (He.ma W.K (He.ga W.K (PySem.Str.ofString "Keeper")) (PySem.Str.ofString "begins_with")) := ok.met 1 (by decide +kernel) (c := (PySem.Str.ofString "Keeper")) rfl (He.cls_ok (ok.fact 110 rfl)) (He.meth_ok (ok.fact 136 rfl))
theorem met_Keeper_taken {W : Wd} (ok : WdOk W) : MtC W.K W.D 1 (PySem.Str.ofString "taken") (He.ma W.K (He.ga W.K (PySem.Str.ofString "Keeper")) (PySem.Str.ofString "taken")) := ok.met 1 (by decide +kernel) (c := (PySem.Str.ofString "Keeper")) rfl (He.cls_ok (ok.fact 110 rfl)) (He.meth_ok (ok.fact 137 rfl))
theorem met_Keeper_wish {W : Wd} (ok : WdOk W) : MtC W.K W.D 1 (PySem.Str.ofString "wish") (He.ma W.K (He.ga W.K (PySem.Str.ofString "Keeper")) (PySem.Str.ofString "wish")) := ok.met 1 (by decide +kernel) (c := (PySem.Str.ofString "Keeper")) rfl (He.cls_ok (ok.fact 110 rfl)) (He.meth_ok (ok.fact 138 rfl))
theorem met_Keeper_work {W : Wd} (ok : WdOk W) : MtC W.K W.D 1 (PySem.Str.ofString "work") (He.ma W.K (He.ga W.K (PySem.Str.ofString "Keeper")) (PySem.Str.ofString "work")) := ok.met 1 (by decide +kernel) (c := (PySem.Str.ofString "Keeper")) rfl (He.cls_ok (ok.fact 110 rfl)) (He.meth_ok (ok.fact 139 rfl))
theorem met_PlainLock_fill_parts {W : Wd} (ok : WdOk W) : MtC W.K W.D 2 (PySem.Str.ofString "fill_parts") (He.ma W.K (He.ga W.K (PySem.Str.ofString "PlainLock")) (PySem.Str.ofString "fill_parts")) := ok.met 2 (by decide +kernel) (c := (PySem.Str.ofString "PlainLock")) rfl (He.cls_ok (ok.fact 111 rfl)) (He.meth_ok (ok.fact 140 rfl))
theorem met_PlainLock_let_parts {W : Wd} (ok : WdOk W) : MtC W.K W.D 2 (PySem.Str.ofString "let_parts") (He.ma W.K (He.ga W.K (PySem.Str.ofString "PlainLock")) (PySem.Str.ofString "let_parts")) := ok.met 2 (by decide +kernel) (c := (PySem.Str.ofString "PlainLock")) rfl (He.cls_ok (ok.fact 111 rfl)) (He.meth_ok (ok.fact 141 rfl))
theorem met_PlainLock_kind {W : Wd} (ok : WdOk W) : MtC W.K W.D 2 (PySem.Str.ofString "kind") (He.ma W.K (He.ga W.K (PySem.Str.ofString "PlainLock")) (PySem.Str.ofString "kind")) := ok.met 2 (by decide +kernel) (c := (PySem.Str.ofString "PlainLock")) rfl (He.cls_ok (ok.fact 111 rfl)) (He.meth_ok (ok.fact 142 rfl))
theorem met_PlainLock_extra {W : Wd} (ok : WdOk W) : MtC W.K W.D 2 (PySem.Str.ofString "extra") (He.ma W.K (He.ga W.K (PySem.Str.ofString "PlainLock")) (PySem.Str.ofString "extra")) := ok.met 2 (by decide +kernel) (c := (PySem.Str.ofString "PlainLock")) rfl (He.cls_ok (ok.fact 111 rfl)) (He.meth_ok (ok.fact 143 rfl))
theorem met_Canal_lock_at {W : Wd} (ok : WdOk W) : MtC W.K W.D 4 (PySem.Str.ofString "lock_at") (He.ma W.K (He.ga W.K (PySem.Str.ofString "Canal")) (PySem.Str.ofString "lock_at")) := ok.met 4 (by decide +kernel) (c := (PySem.Str.ofString "Canal")) rfl (He.cls_ok (ok.fact 113 rfl)) (He.meth_ok (ok.fact 144 rfl))
theorem met_Canal_sea {W : Wd} (ok : WdOk W) : MtC W.K W.D 4 (PySem.Str.ofString "sea") (He.ma W.K (He.ga W.K (PySem.Str.ofString "Canal")) (PySem.Str.ofString "sea")) := ok.met 4 (by decide +kernel) (c := (PySem.Str.ofString "Canal")) rfl (He.cls_ok (ok.fact 113 rfl)) (He.meth_ok (ok.fact 145 rfl))
theorem met_Canal_sky {W : Wd} (ok : WdOk W) : MtC W.K W.D 4 (PySem.Str.ofString "sky") (He.ma W.K (He.ga W.K (PySem.Str.ofString "Canal")) (PySem.Str.ofString "sky")) := ok.met 4 (by decide +kernel) (c := (PySem.Str.ofString "Canal")) rfl (He.cls_ok (ok.fact 113 rfl)) (He.meth_ok (ok.fact 146 rfl))
theorem met_Canal_many {W : Wd} (ok : WdOk W) : MtC W.K W.D 4 (PySem.Str.ofString "many") (He.ma W.K (He.ga W.K (PySem.Str.ofString "Canal")) (PySem.Str.ofString "many")) := ok.met 4 (by decide +kernel) (c := (PySem.Str.ofString "Canal")) rfl (He.cls_ok (ok.fact 113 rfl)) (He.meth_ok (ok.fact 147 rfl))
theorem met_Canal_weirs {W : Wd} (ok : WdOk W) : MtC W.K W.D 4 (PySem.Str.ofString "weirs") (He.ma W.K (He.ga W.K (PySem.Str.ofString "Canal")) (PySem.Str.ofString "weirs")) := ok.met 4 (by decide +kernel) (c := (PySem.Str.ofString "Canal")) rfl (He.cls_ok (ok.fact 113 rfl)) (He.meth_ok (ok.fact 148 rfl))
theorem met_Canal_start {W : Wd} (ok : WdOk W) : MtC W.K W.D 4 (PySem.Str.ofString "start") (He.ma W.K (He.ga W.K (PySem.Str.ofString "Canal")) (PySem.Str.ofString "start")) := ok.met 4 (by decide +kernel) (c := (PySem.Str.ofString "Canal")) rfl (He.cls_ok (ok.fact 113 rfl)) (He.meth_ok (ok.fact 149 rfl))
theorem met_Canal_chamber {W : Wd} (ok : WdOk W) : MtC W.K W.D 4 (PySem.Str.ofString "chamber") (He.ma W.K (He.ga W.K (PySem.Str.ofString "Canal")) (PySem.Str.ofString "chamber")) := ok.met 4 (by decide +kernel) (c := (PySem.Str.ofString "Canal")) rfl (He.cls_ok (ok.fact 113 rfl)) (He.meth_ok (ok.fact 150 rfl))
theorem met_Canal_basin {W : Wd} (ok : WdOk W) : MtC W.K W.D 4 (PySem.Str.ofString "basin") (He.ma W.K (He.ga W.K (PySem.Str.ofString "Canal")) (PySem.Str.ofString "basin")) := ok.met 4 (by decide +kernel) (c := (PySem.Str.ofString "Canal")) rfl (He.cls_ok (ok.fact 113 rfl)) (He.meth_ok (ok.fact 151 rfl))
theorem met_Canal_full {W : Wd} (ok : WdOk W) : MtC W.K W.D 4 (PySem.Str.ofString "full") (He.ma W.K (He.ga W.K (PySem.Str.ofString "Canal")) (PySem.Str.ofString "full")) := ok.met 4 (by decide +kernel) (c := (PySem.Str.ofString "Canal")) rfl (He.cls_ok (ok.fact 113 rfl)) (He.meth_ok (ok.fact 152 rfl))
theorem met_Canal_reach_at {W : Wd} (ok : WdOk W) : MtC W.K W.D 4 (PySem.Str.ofString "reach_at") (He.ma W.K (He.ga W.K (PySem.Str.ofString "Canal")) (PySem.Str.ofString "reach_at")) := ok.met 4 (by decide +kernel) (c := (PySem.Str.ofString "Canal")) rfl (He.cls_ok (ok.fact 113 rfl)) (He.meth_ok (ok.fact 153 rfl))
theorem met_House_answered {W : Wd} (ok : WdOk W) : MtC W.K W.D 5 (PySem.Str.ofString "answered") (He.ma W.K (He.ga W.K (PySem.Str.ofString "House")) (PySem.Str.ofString "answered")) := ok.met 5 (by decide +kernel) (c := (PySem.Str.ofString "House")) rfl (He.cls_ok (ok.fact 114 rfl)) (He.meth_ok (ok.fact 154 rfl))
theorem met_House_planned {W : Wd} (ok : WdOk W) : MtC W.K W.D 5 (PySem.Str.ofString "planned") (He.ma W.K (He.ga W.K (PySem.Str.ofString "House")) (PySem.Str.ofString "planned")) := ok.met 5 (by decide +kernel) (c := (PySem.Str.ofString "House")) rfl (He.cls_ok (ok.fact 114 rfl)) (He.meth_ok (ok.fact 155 rfl))
theorem met_House_waters {W : Wd} (ok : WdOk W) : MtC W.K W.D 5 (PySem.Str.ofString "waters") (He.ma W.K (He.ga W.K (PySem.Str.ofString "House")) (PySem.Str.ofString "waters")) := ok.met 5 (by decide +kernel) (c := (PySem.Str.ofString "House")) rfl (He.cls_ok (ok.fact 114 rfl)) (He.meth_ok (ok.fact 156 rfl))
theorem met_House_knots {W : Wd} (ok : WdOk W) : MtC W.K W.D 5 (PySem.Str.ofString "knots") (He.ma W.K (He.ga W.K (PySem.Str.ofString "House")) (PySem.Str.ofString "knots")) := ok.met 5 (by decide +kernel) (c := (PySem.Str.ofString "House")) rfl (He.cls_ok (ok.fact 114 rfl)) (He.meth_ok (ok.fact 157 rfl))
theorem met_House_reply {W : Wd} (ok : WdOk W) : MtC W.K W.D 5 (PySem.Str.ofString "reply") (He.ma W.K (He.ga W.K (PySem.Str.ofString "House")) (PySem.Str.ofString "reply")) := ok.met 5 (by decide +kernel) (c := (PySem.Str.ofString "House")) rfl (He.cls_ok (ok.fact 114 rfl)) (He.meth_ok (ok.fact 158 rfl))
theorem met_House_ask {W : Wd} (ok : WdOk W) : MtC W.K W.D 5 (PySem.Str.ofString "ask") (He.ma W.K (He.ga W.K (PySem.Str.ofString "House")) (PySem.Str.ofString "ask")) := ok.met 5 (by decide +kernel) (c := (PySem.Str.ofString "House")) rfl (He.cls_ok (ok.fact 114 rfl)) (He.meth_ok (ok.fact 159 rfl))
theorem raise_BadRow {W : Wd} (ok : WdOk W) {X : Cx} (hX : (X.K, X.mg) = (W.K, W.mg)) {m : Str} {j : Nat} {p p2 pos : Pos} (hg : Gl X (PySem.Str.ofString "BadRow")) : PMk X (.Call (.Name (PySem.Str.ofString "BadRow") p) [.Constant (.str m) j p2] [] pos) (fun _ H Q => Q (.ref (W.D.xA 1)) none H) := raise_ok ok hX (ok.fact 160 rfl) (ok.fact 78 rfl) (ok.xA 1 _ rfl) hg (by decide)
theorem raise_NotNow {W : Wd} (ok : WdOk W) {X : Cx} (hX : (X.K, X.mg) = (W.K, W.mg)) {m : Str} {j : Nat} {p p2 pos : Pos} (hg : Gl X (PySem.Str.ofString "NotNow")) : PMk X (.Call (.Name (PySem.Str.ofString "NotNow") p) [.Constant (.str m) j p2] [] pos) (fun _ H Q => Q (.ref (W.D.xA 2)) none H) := raise_ok ok hX (ok.fact 162 rfl) (ok.fact 79 rfl) (ok.xA 2 _ rfl) hg (by decide)
theorem raise_BadNumber {W : Wd} (ok : WdOk W) {X : Cx} (hX : (X.K, X.mg) = (W.K, W.mg)) {m : Str} {j : Nat} {p p2 pos : Pos} (hg : Gl X (PySem.Str.ofString "BadNumber")) : PMk X (.Call (.Name (PySem.Str.ofString "BadNumber") p) [.Constant (.str m) j p2] [] pos) (fun _ H Q => Q (.ref (W.D.xA 3)) none H) := raise_ok ok hX (ok.fact 164 rfl) (ok.fact 80 rfl) (ok.xA 3 _ rfl) hg (by decide)
theorem raise_Twice {W : Wd} (ok : WdOk W) {X : Cx} (hX : (X.K, X.mg) = (W.K, W.mg)) {m : Str} {j : Nat} {p p2 pos : Pos} (hg : Gl X (PySem.Str.ofString "Twice")) : PMk X (.Call (.Name (PySem.Str.ofString "Twice") p) [.Constant (.str m) j p2] [] pos) (fun _ H Q => Q (.ref (W.D.xA 4)) none H) := raise_ok ok hX (ok.fact 166 rfl) (ok.fact 81 rfl) (ok.xA 4 _ rfl) hg (by decide)
theorem raise_Unknown {W : Wd} (ok : WdOk W) {X : Cx} (hX : (X.K, X.mg) = (W.K, W.mg)) {m : Str} {j : Nat} {p p2 pos : Pos} (hg : Gl X (PySem.Str.ofString "Unknown")) : PMk X (.Call (.Name (PySem.Str.ofString "Unknown") p) [.Constant (.str m) j p2] [] pos) (fun _ H Q => Q (.ref (W.D.xA 5)) none H) := raise_ok ok hX (ok.fact 168 rfl) (ok.fact 82 rfl) (ok.xA 5 _ rfl) hg (by decide)
theorem raise_TooMany {W : Wd} (ok : WdOk W) {X : Cx} (hX : (X.K, X.mg) = (W.K, W.mg)) {m : Str} {j : Nat} {p p2 pos : Pos} (hg : Gl X (PySem.Str.ofString "TooMany")) : PMk X (.Call (.Name (PySem.Str.ofString "TooMany") p) [.Constant (.str m) j p2] [] pos) (fun _ H Q => Q (.ref (W.D.xA 6)) none H) := raise_ok ok hX (ok.fact 170 rfl) (ok.fact 83 rfl) (ok.xA 6 _ rfl) hg (by decide)
theorem raise_NotLinked {W : Wd} (ok : WdOk W) {X : Cx} (hX : (X.K, X.mg) = (W.K, W.mg)) {m : Str} {j : Nat} {p p2 pos : Pos} (hg : Gl X (PySem.Str.ofString "NotLinked")) : PMk X (.Call (.Name (PySem.Str.ofString "NotLinked") p) [.Constant (.str m) j p2] [] pos) (fun _ H Q => Q (.ref (W.D.xA 7)) none H) := raise_ok ok hX (ok.fact 172 rfl) (ok.fact 84 rfl) (ok.xA 7 _ rfl) hg (by decide)
theorem raise_TooWide {W : Wd} (ok : WdOk W) {X : Cx} (hX : (X.K, X.mg) = (W.K, W.mg)) {m : Str} {j : Nat} {p p2 pos : Pos} (hg : Gl X (PySem.Str.ofString "TooWide")) : PMk X (.Call (.Name (PySem.Str.ofString "TooWide") p) [.Constant (.str m) j p2] [] pos) (fun _ H Q => Q (.ref (W.D.xA 8)) none H) := raise_ok ok hX (ok.fact 174 rfl) (ok.fact 85 rfl) (ok.xA 8 _ rfl) hg (by decide)
theorem raise_TooDry {W : Wd} (ok : WdOk W) {X : Cx} (hX : (X.K, X.mg) = (W.K, W.mg)) {m : Str} {j : Nat} {p p2 pos : Pos} (hg : Gl X (PySem.Str.ofString "TooDry")) : PMk X (.Call (.Name (PySem.Str.ofString "TooDry") p) [.Constant (.str m) j p2] [] pos) (fun _ H Q => Q (.ref (W.D.xA 9)) none H) := raise_ok ok hX (ok.fact 176 rfl) (ok.fact 86 rfl) (ok.xA 9 _ rfl) hg (by decide)
theorem raise_Torn {W : Wd} (ok : WdOk W) {X : Cx} (hX : (X.K, X.mg) = (W.K, W.mg)) {m : Str} {j : Nat} {p p2 pos : Pos} (hg : Gl X (PySem.Str.ofString "Torn")) : PMk X (.Call (.Name (PySem.Str.ofString "Torn") p) [.Constant (.str m) j p2] [] pos) (fun _ H Q => Q (.ref (W.D.xA 10)) none H) := raise_ok ok hX (ok.fact 178 rfl) (ok.fact 87 rfl) (ok.xA 10 _ rfl) hg (by decide)
end Ck
-- SEa
set_option Elab.async false
set_option linter.all false
set_option maxRecDepth 100000
set_option maxHeartbeats 4000000
set_option autoImplicit false
namespace Ck
open PySem PySem.Spec PyProof.Rows L2 Lk
/-- a def with a promise of its own -/
structure FnP (P : Program) (w : World) (K : PySem.W.Frag) (mg : Str → Option Value) (base : Heap) (k : Nat) (f : Addr) (sp : Sp) : Prop where
  ok : ∃ fd ps, FnOk P w K mg base (L2.CX P w) k f fd ps sp ∧ L2.Binds K fd ps []
theorem fnP {W : Wd} {N ps : List Str} {d : He.DefD} {f : Addr} {k : Nat} {fd : FuncData} {dvs' : List V} {kws : List (Str × V)} {sp : Sp} (F : FunD W.K d.name d.qual d.params d.body d.scope dvs' kws f fd) (Sc : FnScope N ps d.scope) (hB : L2.Binds W.K fd ps []) (hl : ∀ vs H Q E, sp vs H Q E → vs.length = ps.length)
    (hb : ∀ (cdv : Value) (A : Around) (outer : List Env) (s : Shared) (H : Hp) (E : XK), CxT (cxW W N d f cdv A outer s H E) E k → ∃ t : TS, PSs (cxW W N d f cdv A outer s H E) d.body t ∧ ∀ vs Q, sp vs H Q E → t { nx := fun _ H' => Q .non H', rt := Q } (L2.start N vs) H) : FnP W.P W.w W.K W.mg W.base (k + 1) f sp := by
  refine ⟨fd, ps, F.ok Sc hl fun cdv A outer s H vs Q E hr hs => ?_, hB⟩
  obtain ⟨t, h1, h2⟩ := hb cdv A outer s H E (cxW_ok Sc.nd hr)
  exact ⟨t, h1, h2 vs Q hs⟩
def letters : Str := PySem.Str.ofString "abcdefghijklmnopqrstuvwxyz"
def figures : Str := PySem.Str.ofString "0123456789"
def spMade : Sp := fun vs H Q E => ∃ x z : Str, vs = [.str x, .str z] ∧ x.length ≤ 100000 ∧ Q (.bl (x.cps.toList.all (fun c => decide (c ∈ z.cps.toList)) && (decide (1 ≤ x.length) && decide (x.length ≤ 12)))) H
theorem f_made_of (W : Wd) (ok : WdOk W) : FnP W.P W.w W.K W.mg W.base 1 (He.fAd W.K d_made_of.at_) spMade := by
  obtain ⟨fd, F⟩ := ok.def_ (109) (d := d_made_of) rfl
  refine fnP (W := W) (N := ["word", "signs", "sign"]) (ps := ["word", "signs"]) (d := d_made_of) (k := 0) F (C8.fnScope_by (by kernel_rfl)) (F.bindsN fun kV doc pm an cdv ct us hl => by
    match us, hl with
    | [_, _], _ => rfl) (fun vs H Q E h => by obtain ⟨x, z, rfl, _⟩ := h; rfl) fun cdv A outer s H E cx => ⟨_, pss_cons (ps_for cx.hp cx.calm (pi_str (pe_var (i := 0) rfl (.inl rfl))) (pg_name (i := 2) cx.nd rfl (.inl rfl) (.inr rfl)) (pss_one (ps_if (pt_cmpR op_notIn_sign (pe_var (i := 2) rfl (.inl rfl)) (pe_var (i := 1) rfl (.inl rfl)) (by with_unfolding_all rfl)) (pss_one (ps_ret pe_bl)) pss_nil)) (fun _ => rfl))
      (pss_one (ps_ret (pe_chain op_le op_le pe_int (pe_callB call_len_str rfl (fr_len ok) rfl (pa_cons (pe_var (i := 0) rfl (.inl rfl)) pa_nil rfl) (by decide) (by decide) rfl rfl) (C8.pe_gc (v := .int 12) rfl (let ⟨t, h⟩ := int_LONGEST ok; ⟨_, h, ⟨t, rfl⟩⟩) (by decide)) (by with_unfolding_all rfl)))), fun vs Q hs => ?_⟩
  obtain ⟨x, z, rfl, hx, q⟩ := hs
  have hsz : x.cps.size = x.cps.toList.length := by simp
  have hlen : x.length = x.cps.size := rfl
  refine ⟨.str x, rfl, x, rfl, fun i m σ H' => m = x.cps.size - i ∧ i ≤ x.cps.size ∧ H' = H ∧ σ[0]? = some (some (.str x)) ∧ σ[1]? = some (some (.str z)) ∧ σ.length = 3 ∧ ∀ c ∈ x.cps.toList.take i, c ∈ z.cps.toList, ⟨x.cps.size, by omega, Nat.zero_le _, rfl, rfl, rfl, rfl, by simp⟩, ?_⟩
  rintro i m σ H' ⟨hm, hi, rfl, h0, h1, hl, hall⟩
  by_cases hlt : i < x.cps.size
  · refine .inr ⟨hlt, fun σ' H'' => i + 1 ≤ x.cps.size ∧ H'' = H' ∧ σ'[0]? = some (some (.str x)) ∧ σ'[1]? = some (some (.str z)) ∧ σ'.length = 3 ∧ ∀ c ∈ x.cps.toList.take (i + 1), c ∈ z.cps.toList, fun σ' H'' w => ⟨x.cps.size - (i + 1), by omega, rfl, w⟩, fun v H2 ⟨e1, c, hc, ev⟩ => ?_⟩
    subst e1 ev
    have hc' : x.cps.toList[i]? = some c := by simpa using hc
    refine ⟨.str ⟨#[c]⟩, List.getElem?_set_self (by omega), .str z, by rw [List.getElem?_set_ne (by decide)]; exact h1, c, z, rfl, rfl, _, rfl, ?_⟩
    by_cases hin : c ∈ z.cps.toList
    · rw [decide_eq_true hin]
      refine ite_ff ⟨hlt, rfl, by rw [List.getElem?_set_ne (by decide)]; exact h0, by rw [List.getElem?_set_ne (by decide)]; exact h1, by rw [List.length_set]; exact hl, fun d hd => ?_⟩
      rw [List.take_add_one, hc', Option.toList_some, List.mem_append] at hd
      rcases hd with hd | hd
      · exact hall d hd
      · rw [List.mem_singleton.mp hd]; exact hin
    · rw [decide_eq_false hin]
      refine ite_tt ?_
      have : (x.cps.toList.all fun c => decide (c ∈ z.cps.toList)) = false := by
        refine Bool.eq_false_iff.mpr fun ha => hin ?_
        exact of_decide_eq_true (List.all_eq_true.mp ha c (List.mem_of_getElem? hc'))
      rw [this, Bool.false_and] at q
      exact q
  · have e : i = x.cps.size := by omega
    subst e
    rw [hsz, List.take_length] at hall
    have ha : (x.cps.toList.all fun c => decide (c ∈ z.cps.toList)) = true := List.all_eq_true.mpr fun c hc => decide_eq_true (hall c hc)
    rw [ha, Bool.true_and] at q
    refine .inl ⟨Nat.le_refl _, ?_⟩
    refine ⟨.str x, h0, x, rfl, mostLine (by omega), 1, (x.length : Int), rfl, rfl, _, rfl, ?_⟩
    by_cases h1 : 1 ≤ x.length
    · rw [decide_eq_true (show (1 : Int) ≤ (x.length : Int) by omega)]
      rw [decide_eq_true h1, Bool.true_and] at q
      refine ite_tt ⟨(x.length : Int), 12, rfl, rfl, ?_⟩
      show Q (.bl (decide ((x.length : Int) ≤ 12))) H'
      rw [show decide ((x.length : Int) ≤ 12) = decide (x.length ≤ 12) from by rw [decide_eq_decide]; omega]
      exact q
    · rw [decide_eq_false (show ¬ (1 : Int) ≤ (x.length : Int) by omega)]
      rw [decide_eq_false h1, Bool.false_and] at q
      exact ite_ff q
theorem pt_pw {X : Cx} {e : PySem.Expr} {t : TT} (h : PW X e t) : PT X e t := ⟨fun pins s σ H Q I hh => h.run _ pins s σ H Q I hh⟩
theorem letters_low (c : Nat) : decide (c ∈ letters.cps.toList) = isLow c := by
  have e : letters.cps.toList = [97, 98, 99, 100, 101, 102, 103, 104, 105, 106, 107, 108, 109, 110, 111, 112, 113, 114, 115, 116, 117, 118, 119, 120, 121, 122] := by kernel_rfl
  rw [e]
  unfold isLow
  rw [Bool.eq_iff_iff, decide_eq_true_iff, Bool.and_eq_true, nble, nble]
  simp only [List.mem_cons, List.not_mem_nil, or_false]
  omega
theorem figures_dig (c : Nat) : decide (c ∈ figures.cps.toList) = isDig c := by
  have e : figures.cps.toList = [48, 49, 50, 51, 52, 53, 54, 55, 56, 57] := by kernel_rfl
  rw [e]
  unfold isDig
  rw [Bool.eq_iff_iff, decide_eq_true_iff, Bool.and_eq_true, nble, nble]
  simp only [List.mem_cons, List.not_mem_nil, or_false]
  omega
theorem made_name (x : Str) : (x.cps.toList.all (fun c => decide (c ∈ letters.cps.toList)) && (decide (1 ≤ x.length) && decide (x.length ≤ 12))) = nameLit x.cps.toList := by
  have hl : x.length = x.cps.toList.length := by simp [Str.length]
  have ea : (x.cps.toList.all fun c => decide (c ∈ letters.cps.toList)) = x.cps.toList.all isLow := by congr 1; funext c; exact letters_low c
  unfold nameLit
  rw [ea, allB_eq, lenN_eq, hl]
  congr 1
  congr 1
  · rw [Bool.eq_iff_iff, decide_eq_true_iff, nble]
  · rw [Bool.eq_iff_iff, decide_eq_true_iff, nble]
def spName : Sp := fun vs H Q E => ∃ x : Str, vs = [.str x] ∧ x.length ≤ 100000 ∧ Q (.bl (nameLit x.cps.toList)) H
theorem f_is_name (W : Wd) (ok : WdOk W) : FnP W.P W.w W.K W.mg W.base 3 (He.fAd W.K d_is_name.at_) spName := by
  obtain ⟨fd, F⟩ := ok.def_ (110) (d := d_is_name) rfl
  obtain ⟨fdm, psm, Fm, Bm⟩ := (f_made_of W ok).ok
  refine fnP (W := W) (N := ["word"]) (ps := ["word"]) (d := d_is_name) (k := 2) F (C8.fnScope_by (by kernel_rfl)) (F.bindsN fun kV doc pm an cdv ct us hl => by
    match us, hl with
    | [_], _ => rfl) (fun vs H Q E h => by obtain ⟨x, rfl, _⟩ := h; rfl) fun cdv A outer s H E cx => ⟨_, pss_one (ps_ret (pe_call Fm (cx.room.mono (by decide)) rfl (glo_made_of ok) (ok.kp 109 rfl) Bm .nil cx.ex.ps (pa_cons (pe_var (i := 0) rfl (.inl rfl)) (pa_cons (C8.pe_gc (v := .str letters) rfl (let ⟨t, h⟩ := He.str_ok ok.kin ok.G (ok.fact 107 (f := .str "LETTERS" letters) rfl); ⟨_, h, ⟨t, rfl⟩⟩) (by decide)) pa_nil rfl) rfl) (by decide) rfl rfl)), fun vs Q hs => ?_⟩
  obtain ⟨x, rfl, hx, q⟩ := hs
  refine ⟨.str x, rfl, x, letters, rfl, hx, ?_⟩
  rw [made_name]
  exact q
def spNum (xB : Addr) : Sp := fun vs H Q E => ∃ x : Str, vs = [.str x] ∧ x.length ≤ 100000 ∧ match numLit x.cps.toList with
  | some n => Q (.int (n : Nat)) H
  | none => E (.ref xB) none H
theorem f_number_of (W : Wd) (ok : WdOk W) : FnP W.P W.w W.K W.mg W.base 3 (He.fAd W.K d_number_of.at_) (spNum (W.D.xA badRow)) := by
  obtain ⟨fd, F⟩ := ok.def_ (111) (d := d_number_of) rfl
  obtain ⟨fdm, psm, Fm, Bm⟩ := (f_made_of W ok).ok
  refine fnP (W := W) (N := ["word"]) (ps := ["word"]) (d := d_number_of) (k := 2) F (C8.fnScope_by (by kernel_rfl)) (F.bindsN fun kV doc pm an cdv ct us hl => by
    match us, hl with
    | [_], _ => rfl) (fun vs H Q E h => by obtain ⟨x, rfl, _⟩ := h; rfl) fun cdv A outer s H E cx => ⟨_, pss_cons (ps_if (pt_not (pt_val (pe_call Fm (cx.room.mono (by decide)) rfl (glo_made_of ok) (ok.kp 109 rfl) Bm .nil cx.ex.ps (pa_cons (pe_var (i := 0) rfl (.inl rfl)) (pa_cons (C8.pe_gc (v := .str figures) rfl (let ⟨t, h⟩ := He.str_ok ok.kin ok.G (ok.fact 108 (f := .str "FIGURES" figures) rfl); ⟨_, h, ⟨t, rfl⟩⟩) (by decide)) pa_nil rfl) rfl) (by decide) rfl rfl) (fun _ => rfl))) (pss_one (ps_raise cx.calm cx.tk (raise_BadRow ok rfl rfl))) pss_nil)
      (pss_cons (ps_if (pt_pw (pw_and (pt_cmpR op_eq (pe_ix ix_str (pe_var (i := 0) rfl (.inl rfl)) pe_int (fun _ _ => rfl)) pe_str (nomark _)) (pw_and1 (pt_cmpR op_gt (pe_callB call_len_str rfl (fr_len ok) rfl (pa_cons (pe_var (i := 0) rfl (.inl rfl)) pa_nil rfl) (by decide) (by decide) rfl rfl) pe_int (nomark _))))) (pss_one (ps_raise cx.calm cx.tk (raise_BadRow ok rfl rfl))) pss_nil)
      (pss_one (ps_ret (pe_callTy call_int_str rfl (fr_int ok) rfl (pa_cons (pe_var (i := 0) rfl (.inl rfl)) pa_nil rfl) (by decide) (by decide) rfl rfl)))), fun vs Q hs => ?_⟩
  obtain ⟨x, rfl, hx, q⟩ := hs
  have hl : x.length = x.cps.toList.length := by simp [Str.length]
  have ex : strOf x.cps.toList = x := TL.mk_tl x
  refine ⟨.str x, rfl, x, figures, rfl, hx, _, rfl, ?_⟩
  have ea : (x.cps.toList.all fun c => decide (c ∈ figures.cps.toList)) = x.cps.toList.all isDig := by congr 1; funext c; exact figures_dig c
  have em : (x.cps.toList.all (fun c => decide (c ∈ figures.cps.toList)) && (decide (1 ≤ x.length) && decide (x.length ≤ 12))) = (allB isDig x.cps.toList && (Nat.ble 1 (lenN x.cps.toList) && Nat.ble (lenN x.cps.toList) 12)) := by
    rw [ea, allB_eq, lenN_eq, hl]
    congr 1
    congr 1
    · rw [Bool.eq_iff_iff, decide_eq_true_iff, nble]
    · rw [Bool.eq_iff_iff, decide_eq_true_iff, nble]
  rw [em]
  unfold numLit at q
  cases hm : allB isDig x.cps.toList && (Nat.ble 1 (lenN x.cps.toList) && Nat.ble (lenN x.cps.toList) 12) with
  | false =>
    rw [hm] at q
    exact ite_tt q
  | true =>
    rw [hm] at q
    dsimp only at q
    refine ite_ff ?_
    rw [Bool.and_eq_true, Bool.and_eq_true, nble, nble, allB_eq, lenN_eq] at hm
    obtain ⟨hd, h1, h2⟩ := hm
    have last : ∀ n, digs x.cps.toList 0 = some n → Q (.int (n : Nat)) H → ∃ y, some (some (V.str x)) = some (some y) ∧ (∃ a n, [y] = [V.str a] ∧ intText? a = some n ∧ a.length ≤ 640 ∧ Q (.int n) H) := fun n hn qq => ⟨.str x, rfl, x, n, rfl, by have := int_lit hd h1 (by omega) hn; rwa [ex] at this, by omega, qq⟩
    have lz : x.length ≤ sizeLine := mostLine (by omega)
    have zz : (PySem.Str.ofString "0" : Str) = ⟨#[48]⟩ := by kernel_rfl
    obtain ⟨n, hn⟩ := digs_some x.cps.toList 0 hd
    cases hc : x.cps.toList with
    | nil => rw [hc] at h1; simp at h1
    | cons c r =>
      have hat : atI x.cps.toList (0 : Int) = some c := by
        have := atI_nat (xs := x.cps.toList) (j := 0) (v := c) (by rw [hc]; rfl)
        simpa using this
      refine ⟨.str x, rfl, x, 0, c, rfl, rfl, lz, hat, rfl, _, rfl, ?_⟩
      have hq : c ≠ 48 ∨ r = [] → Q (.int (n : Nat)) H := fun hor => by
        rw [hc] at q hn
        split at q
        · rename_i heq
          split at heq
          · rename_i d r' e2
            cases e2
            rcases hor with z | z
            · exact absurd rfl z
            · cases z
          · rw [hn] at heq
            cases heq
            exact q
        · rename_i heq
          split at heq
          · rename_i d r' e2
            cases e2
            rcases hor with z | z
            · exact absurd rfl z
            · cases z
          · rw [hn] at heq; cases heq
      by_cases h48 : c = 48
      · have e1 : decide (V.str ⟨#[c]⟩ = V.str (PySem.Str.ofString "0")) = true := decide_eq_true (by rw [zz, h48])
        rw [e1]
        refine ite_tt ⟨.str x, rfl, x, rfl, lz, _, _, rfl, rfl, _, rfl, ?_⟩
        have hlr : x.length = r.length + 1 := by rw [hl, hc]; simp
        cases r with
        | nil =>
          have e2 : decide ((1 : Int) < (x.length : Nat)) = false := decide_eq_false (by rw [hlr]; simp)
          show if decide ((1 : Int) < (x.length : Nat)) = true then _ else _
          rw [e2]
          exact ite_ff (last n hn (hq (.inr rfl)))
        | cons d r' =>
          have e2 : decide ((1 : Int) < (x.length : Nat)) = true := decide_eq_true (by rw [hlr, List.length_cons]; omega)
          show if decide ((1 : Int) < (x.length : Nat)) = true then _ else _
          rw [e2]
          refine ite_tt ?_
          rw [hc, h48] at q
          exact q
      · have e1 : decide (V.str ⟨#[c]⟩ = V.str (PySem.Str.ofString "0")) = false := decide_eq_false (fun z => h48 (by
          rw [zz] at z
          simpa using z))
        rw [e1]
        exact ite_ff (ite_ff (last n hn (hq (.inl h48))))
end Ck
-- LS
set_option Elab.async false
set_option linter.all false
set_option maxRecDepth 100000
set_option maxHeartbeats 4000000
set_option autoImplicit false
/-! LS: set() over a list of texts no two of which are the same. -/
namespace Ck
open PySem PySem.Spec PyProof.Rows
def emptySet (led : Bool) : Obj := { cls := .type "set", dict := none, data := .set #[] 0 (.fresh 0 0 led) }
/-- the set at S holds the first i of xs -/
def HoldsOf (P : Program) (w : World) (S : Addr) (xs : List Str) (i : Nat) (h : Heap) : Prop := h.SetOf (PySem.strKind P w) S (fun y => decide (y ∈ xs.take i)) i
theorem HoldsOf.at {P : Program} {w : World} {S : Addr} {xs : List Str} {i : Nat} {h h2 : Heap} (a : HoldsOf P w S xs i h) (k : ∀ o, h.get? S = some o → h2.get? S = some o) : HoldsOf P w S xs i h2 := by
  obtain ⟨o, e, p, t, z, r⟩ := a
  exact ⟨o, e, p, t, k o z, r⟩
theorem mem_step {xs : List Str} {i : Nat} {x : Str} (e : xs[i]? = some x) (y : Str) : (decide (y ∈ xs.take i) || decide (y = x)) = decide (y ∈ xs.take (i + 1)) := by
  rw [List.take_add_one, e, Option.toList_some, ← Bool.decide_or]
  simp
theorem not_yet {xs : List Str} (nd : xs.Nodup) {i : Nat} {x : Str} (e : xs[i]? = some x) : decide (x ∈ xs.take i) = false := by
  refine decide_eq_false fun m => ?_
  obtain ⟨j, l, z⟩ := List.getElem_of_mem m
  rw [List.length_take] at l
  rw [List.getElem_take] at z
  obtain ⟨l2, z2⟩ := List.getElem?_eq_some_iff.mp e
  exact List.pairwise_iff_getElem.mp nd j i (by omega) l2 (by omega) (z.trans z2.symm)
section
variable {P : Program} {w : World} {A : Around} {R : Result → Shared → Prop} {I S : Addr} {fp wr : List Addr} {G : Array GenState → Array GenState → Prop} {n : Nat} {Pv : Nat → Value → Prop} {St : Nat → Shared → Prop} {xs : List Str}
/-- the loop of set's update, over a walk that gives the texts xs -/
theorem fill_run (W : WalksS P w A.in1 I fp wr G n Pv St) (nf : S ∉ fp) (nd : xs.Nodup) (few : n + 1 < scanBound)
    (gives : ∀ i v, Pv i v → ∃ x t, xs[i]? = some x ∧ v = .str x t) {s0 : Shared} (fin : ∀ z, Moved (S :: wr) G s0 z → HoldsOf P w S xs n z.heap → R (.ok (.ret .none)) z) :
    ∀ (d i : Nat) (s : Shared), i + d = n → St i s → Moved (S :: wr) G s0 s → HoldsOf P w S xs i s.heap → codeAny (model P w) A (.builtin "set.update.loop" ⟨[.ref S, .ref I], []⟩) R s
  | d, i, s, c, st, mv, ho => by
    have out : S ∉ wr := fun z => nf (W.sub _ z)
    refine codeAny_builtin PyProof.Rows.F.entry_set_update_loop ?_
    rw [Around.under_plainId PyProof.Rows.F.plain_set_update_loop _]
    refine wpAny_bind ?_
    cases d with
    | zero =>
      have : i = n := c
      subst this
      exact W.done s _ _ st fun z m => wpAny_pure (fin z (mv.trans W.gtrans (m.mono fun b => List.mem_cons_of_mem _)) (ho.at (m.heap S · out)))
    | succ d =>
      refine W.item i s _ _ (by omega) st fun v z pv st2 m => ?_
      obtain ⟨x, t, ex, rfl⟩ := gives i v pv
      refine wpAny_bind (wpAny_holding ?_)
      unfold setAdd
      refine wpAny_holding (wpAny_bind ((PySem.strKind P w).pyHash (k := x) (strKind_is _ _ _ _) ?_))
      refine wpAny_setAddHashed_of (knd := PySem.strKind P w) (s := { z with toks := z.toks + 1 }) (strKind_is _ _ _ _) rfl (ho.at (m.heap S · out)) (by omega) fun h2 same h2s => ?_
      have mv2 : Moved (S :: wr) G s0 { z with heap := h2, toks := z.toks + 1 } := (mv.trans W.gtrans (m.mono fun b => List.mem_cons_of_mem _)).then_heap (Nat.le_succ _) fun b o nb e => by
        rw [same.2 b fun q => nb (q ▸ List.mem_cons_self)]
        exact e
      refine wpAny_pure ⟨plainId_quiet PyProof.Rows.F.plain_set_update_loop _, fill_run W nf nd few gives fin d (i + 1) _ (by omega) (W.frame _ z _ _ st2 (Nat.le_succ _) fun b hb o e => ?_) mv2 ?_⟩
      · rw [same.2 b fun q => nf (q ▸ hb)]
        exact e
      · exact SetOf_congr h2s (mem_step ex) (by rw [not_yet nd ex]; rfl)
end
/-! set(xs), the call -/
section
variable {P : Program} {w : World} {A : Around} {xs : List Str} {l : Addr} {its : Array Value}
theorem gives_of : ∀ {us : List Value} {ys : List Str}, StrsAre us ys → ∀ (i : Nat) (v : Value), us[i]? = some v → ∃ x t, ys[i]? = some x ∧ v = .str x t
  | _, _, .nil, _, _, e => nomatch e
  | _, _, .cons x t r, 0, _, e => ⟨x, t, rfl, (Option.some.inj e).symm⟩
  | _, _, .cons x t r, i + 1, _, e => gives_of r i _ e
/-- set.__init__(S, xs): S is new and empty, xs the list at l -/
theorem init_run {s : Shared} {led : Bool} {E : Value → Shared → Prop} {Q : Value → Shared → Prop} {S : Addr} (hS : s.heap.get? S = some (emptySet led)) (hl : s.heap.IsList l its) (ne : l ≠ S) (ar : StrsAre its.toList xs) (nd : xs.Nodup) (few : xs.length + 1 < scanBound) (hh : A.handled = none)
    (fin : ∀ (h2 : Heap) (tk : Nat), HoldsOf P w S xs xs.length h2 → (∀ b o, b ≠ S → s.heap.get? b = some o → h2.get? b = some o) → Q .none { s with heap := h2, toks := tk }) :
    codeAny (model P w) A (.call (.builtin "set.__init__") ⟨[.ref S, .ref l], []⟩) (wants Q E) s := by
  obtain ⟨⟨cl, dc, dt, sl⟩, ho, hc, m, hd⟩ := id hl
  dsimp only at hc hd
  subst hc hd
  have ls := PySem.F.sub_list_set
  have lf := PySem.F.sub_list_frozenset
  have ld : (Value.type "list" == Value.type "dict") = false := by decide
  refine codeAny_call_builtin PySem.F.called_set.init.plain PySem.F.entry_set_init (check_set_init_1 ⟨_, hS, rfl⟩ ?_)
  unfold Builtin.«set.__init__» noKeywords Builtin.Frozenset.updateFrom
  generalize e : pyIter = it
  wp_walk
  subst e
  refine wpAny_pyIter_list hl (wpAny_bind (wpAny_runValue ?_))
  have big : ∀ {b o}, s.heap.get? b = some o → b < s.heap.objs.size := fun e => Heap.lt_size e
  have iS : S ∉ [s.heap.objs.size, l] := fun q => by
    rcases List.mem_cons.mp q with q | q
    · exact absurd q (Nat.ne_of_lt (big hS))
    · exact ne (List.mem_singleton.mp q).symm
  have n1 : its.size = xs.length := by
    have := StrsAre.len_eq ar
    rw [Array.length_toList] at this
    exact this
  refine fill_run (n := its.size) (Walks.list (by simp [hh]) s.heap.objs.size l (Nat.ne_of_lt (big ho)) its).toS iS nd (by omega) (fun i v q => gives_of ar i v (by rw [Array.getElem?_toList]; exact q)) (fun z mv hz => ?_) its.size 0 _ (by omega)
    ⟨⟨_, Heap.get?_push_size _ rfl, rfl, rfl⟩, hl.push _⟩ (Moved.refl fun _ => rfl) ?_
  · obtain ⟨zh, zg, zd, zt, zo⟩ := z
    obtain ⟨k1, k2, k3, k4, k5⟩ := mv
    dsimp only at k1 k2 k3 k4 k5 hz
    subst k2 k3 k4
    refine wpAny_pure (wpAny_pure (fin zh zt (n1 ▸ hz) fun b o ne2 q => k1 b o (fun w => ?_) (Heap.get?_push_of_some _ q)))
    rcases List.mem_cons.mp w with w | w
    · exact ne2 w
    · exact absurd (List.mem_singleton.mp w) (Nat.ne_of_lt (big q))
  · exact SetOf_congr ((setObjOf_fresh (knd := PySem.strKind P w) led).setOf (Heap.get?_push_of_some _ hS) (by unfold scanBound; omega)) (fun _ => rfl) rfl
/-- set(xs), xs the list of texts at l -/
theorem set_of_texts {s : Shared} {E : Value → Shared → Prop} {Q : Value → Shared → Prop} (hl : s.heap.IsList l its) (ar : StrsAre its.toList xs) (nd : xs.Nodup) (few : xs.length + 1 < scanBound) (hh : A.handled = none)
    (fin : ∀ (h2 : Heap) (tk : Nat), HoldsOf P w s.heap.objs.size xs xs.length h2 → (∀ b o, s.heap.get? b = some o → h2.get? b = some o) → Q (.ref s.heap.objs.size) { s with heap := h2, toks := tk }) :
    wpAny (model P w) A (call (.type "set") [.ref l]) Q E s := by
  obtain ⟨c0, tl, mro⟩ := PySem.F.called_set.mro
  have made := PySem.F.called_set.made
  have sub := PySem.F.called_set.sub
  have f1 := PySem.F.called_set.notType
  have f2 := PySem.F.called_set.canCreate
  have f3 := PySem.F.typeCall_set_1 (.ref l)
  have f4 := PySem.F.called_set.init.lookup
  refine wpAny_call (codeAny_of_tree (wpAny_pure ⟨Code.quiet_builtin _ (by decide +kernel), codeAny_builtin PySem.F.entry_type_call ?_⟩))
  rw [Around.under_plain (weight_type_call_type "set" [.ref l] []) rfl]
  repeat (any_goals first | wp_step | assumption)
  refine codeAny_mono (code_set_new_1 (.ref l) (E := E) (Q₁ := fun v z => ∃ led : Bool, v = .ref s.heap.objs.size ∧ z = { s with heap := s.heap.push (emptySet led) }) fun led => ⟨led, rfl, rfl⟩) fun r z hz => ?_
  match r, hz with
  | .error _, hz => exact hz
  | .ok (.ret _), ⟨led, e1, e2⟩ =>
    subst e1 e2
    have f5 := PySem.F.called_set.init.bind (.ref s.heap.objs.size)
    have new : (s.heap.push (emptySet led)).get? s.heap.objs.size = some (emptySet led) := Heap.get?_push_size _ rfl
    have f6 : Shared.TypeIs { s with heap := s.heap.push (emptySet led) } (.ref s.heap.objs.size) "set" := ⟨_, new, rfl⟩
    repeat (any_goals first | wp_step | assumption)
    have b2 : ∀ {b o}, s.heap.get? b = some o → b ≠ s.heap.objs.size := fun q => Nat.ne_of_lt (Heap.lt_size q)
    have hl2 : (s.heap.push (emptySet led)).IsList l its := hl.push _
    obtain ⟨ol, hol, _⟩ := id hl
    refine codeAny_mono (init_run (P := P) (w := w) (E := E) (Q := fun v z => v = .none ∧ ∃ h2 tk, z = { s with heap := h2, toks := tk } ∧ HoldsOf P w s.heap.objs.size xs xs.length h2 ∧ ∀ b o, s.heap.get? b = some o → h2.get? b = some o) new hl2 (b2 hol) ar nd few (by simp [hh]) fun h2 tk hz k => ⟨rfl, h2, tk, rfl, hz, fun b o q => k b o (b2 q) (Heap.get?_push_of_some _ q)⟩) fun r3 z3 h3 => ?_
    match r3, h3 with
    | .error _, h3 => exact h3
    | .ok (.ret _), ⟨e3, h2, tk, e4, hz, k⟩ =>
      subst e3 e4
      repeat (any_goals first | wp_step | assumption)
      exact fin h2 tk hz k
end
end Ck
-- SQ
set_option Elab.async false
set_option linter.all false
set_option maxRecDepth 100000
set_option maxHeartbeats 4000000
set_option autoImplicit false
/-! SQ: an exception leaves a list comprehension. -/
namespace Ck
open PySem PySem.Spec PyProof.Rows L2
/-- how a comprehension's block ends -/
def CEnd (M : Model) (A : Around) (E : Value → Shared → Prop) (Q : Value → Shared → Prop) (acc : Value) (ce : Env) (r : Result) (s : Shared) : Prop := match r with
  | .ok _ => ∃ m, s.heap.Ns ce.locals m ∧ ∀ g, Heap.SameBut ce.locals s.heap g → Q acc { s with heap := g }
  | .error x => ∃ m, s.heap.Ns ce.locals m ∧ ∀ g, Heap.SameBut ce.locals s.heap g → wpAny M A (passOn "comprehension.variables-let-go" x ce : Sem Value) (fun _ _ => False) E { s with heap := g }
section
variable {M : Model} {A : Around} {E : Value → Shared → Prop} {s : Shared}
theorem comp_wp {e : PySem.Expr} {scope : Scope} {env : Env} {pos : Pos} {mkAcc first : Sem Value} {g : Comprehension} {gs : List Comprehension} {cl : List (Str × Addr)} {Q : Value → Shared → Prop}
    (hcl : clausesOf e = g :: gs) (hs : ∀ x, foldedSetIterable g.iter env x = pure x) (hclos : closureFor scope env = pure cl) (hkind : scope.kind = .function) (hnames : ∀ x ∈ scope.names, x.2 = .local → scope.names.lookup x.1 = some .local)
    (h : wpAny M A first (fun x s1 => wpAny M A (pyIter x) (fun it s2 => wpAny M A mkAcc (fun acc s3 => wpAny M A (newFunctionEnv scope env.globals cl [] env.qual none .none (some env)) (fun ce s4 =>
      codeAny M A (.compStart e 0 it acc { ce with scope := relabel scope env }) (CEnd M A E Q acc { ce with scope := relabel scope env }) s4) E s3) E s2) E s1) E s) :
    wpAny M A (comprehension e scope env pos mkAcc false first none) Q E s := by
  unfold comprehension
  rw [hclos, hcl]
  refine wpAny_bind (wpAny_mono h (fun x s1 h1 => ?_) fun _ _ z => z)
  refine wpAny_bind (wpAny_standAt (wpAny_bind (wpAny_of_eq (hs x) ?_)))
  refine wpAny_bind (wpAny_holding (wpAny_mono h1 (fun it s2 h2 => ?_) fun _ _ z => z))
  refine wpAny_standIf (wpAny_bind (wpAny_mono h2 (fun acc s3 h3 => ?_) fun _ _ z => z))
  refine wpAny_bind (wpAny_pure (wpAny_bind (wpAny_mono h3 (fun ce s4 h4 => ?_) fun _ _ z => z)))
  dsimp only
  have loc : ∀ l : List (Str × NameKind), (∀ x ∈ l, x ∈ scope.names) → ∀ x ∈ l, x.2 = .local → Env.kindOf { ce with scope := relabel scope env } x.1 = some .local := fun l sub x hx hl => lookup_relabel_local (hnames x (sub x hx) hl)
  refine wpAny_holding (wpAny_bind (wpAny_attempt (wpAny_holding (wpAny_run (codeAny_mono h4 fun r s5 hr => ?_)))))
  cases r with
  | ok f =>
    obtain ⟨m, hn, hr⟩ := hr
    refine wpAny_bind (wpAny_holding (wpAny_comp_letGo (cenv := { ce with scope := relabel scope env }) hkind _ s5 m (loc _ fun x hx => (List.mem_filter.mp (List.mem_reverse.mp hx)).1) hn fun g m2 _ sb => ?_))
    exact wpAny_pure (hr g sb)
  | error x =>
    obtain ⟨m, hn, hr⟩ := hr
    refine wpAny_bind (wpAny_holding (wpAny_comp_letGo (cenv := { ce with scope := relabel scope env }) hkind _ s5 m (loc _ fun x hx => (List.mem_filter.mp (List.mem_reverse.mp hx)).1) hn fun g m2 _ sb => ?_))
    exact wpAny_mono (hr g sb) (fun _ _ z => z.elim) fun _ _ z => z
end
theorem note_frame {a : Value} {e1 e2 : Env} (h : e1.frame = e2.frame) : noteFrame a e1 = noteFrame a e2 := by
  unfold noteFrame PySem.frameOf
  rw [h]
theorem ff_hide {B h g : Heap} {C : Addr} (sb : Heap.SameBut C h g) : ∀ {l : List Env}, (∀ L ∈ frs l, L ≠ C) → h.FunFrames B l → g.FunFrames (PySem.W.hideAll B [C]) l
  | [], _, _ => trivial
  | env :: l, hn, ⟨hk, ⟨L, o, hf, hb, ho, hd⟩, hr⟩ => by
    have m : L ∈ frs (env :: l) := List.mem_filterMap.mpr ⟨env, List.mem_cons_self, hf⟩
    refine ⟨hk, ⟨L, o, hf, ?_, (sb.2 L (hn L m)).trans ho, hd⟩, ff_hide sb (fun L2 h2 => hn L2 ?_) hr⟩
    · cases q : (PySem.W.hideAll B [C]).get? L with
      | none => rfl
      | some u =>
        have := PySem.W.of_hideAll [C] q
        rw [hb] at this
        cases this
    · obtain ⟨e2, h3, h4⟩ := List.mem_filterMap.mp h2
      exact List.mem_filterMap.mpr ⟨e2, List.mem_cons_of_mem _ h3, h4⟩
section
variable {X : Cx} {E : XK} {k : Nat}
/-- an exception that a call in the block let out goes on to the def -/
theorem block_exc {pins pins' : List (Addr × Obj)} {σ0 σ1 : L2.St} {H3 H5 : Hp} {s3 s5 s6 : Shared} {scope : Scope} {cl : List (Str × Addr)} {fp : List Addr} {E2 : Value → Shared → Prop} {Q : Value → Shared → Prop} {acc u : Value} (tk : Takes X fun c d _ H => E c d H) (hstk : X.stack = X.env :: X.outer) (hf : X.env.frame = some X.env.locals)
    (I3 : Inv X pins σ0 H3 s3) (f3 : ∀ b ∈ fp, FpOk X pins H3 b) (I5 : Inv ((bk X scope s3 H3 s3.heap.objs.size cl fp).wish E2) pins' σ1 H5 s5) (c : L2.CX X.prog X.w X.stack H5 s5 E u s6) :
    notedBy (model X.prog X.w) X.A (compEnvC scope cl s3.heap.objs.size X.env) (fun e s' => CEnd (model X.prog X.w) X.A X.xe Q acc (compEnvC scope cl s3.heap.objs.size X.env) (.error e) s') u s6 := by
  obtain ⟨a, B, H6, cls, d, rfl, fl, hok, ub, na, os, ag, hE⟩ := c
  generalize hC : s3.heap.objs.size = C at I5 ⊢
  have hfr : X.A.frames = some (X.env :: X.outer) := by rw [I3.ok.frames, hstk]
  have frC : ∀ L ∈ frs X.stack, L ≠ C := fun L hL z => by
    obtain ⟨_, o, ho, _⟩ := I3.stack.mem hL
    have := Heap.lt_size ho
    rw [hC, z] at this
    exact absurd this (Nat.lt_irrefl _)
  obtain ⟨m, ⟨oC, es, ep, hoC, hdC, hm⟩, _⟩ := I5.loc
  have hoC : s5.heap.get? C = some oC := hoC
  have nC5 : H5 C = none := I5.free
  have bC : B.get? C = some oC := ub.keep C oC hoC nC5 fun z => frC C z rfl
  have nC6 : H6 C = none := ub.free C oC hoC nC5
  have fl' : HandSPX.FlyingZ B (X.env :: X.outer) a (Zc cls d) s6.heap := by rw [← hstk]; exact fl
  show wpAny _ X.A (noteFrame (.ref a) (compEnvC scope cl C X.env)) _ _ s6
  rw [note_frame (show (compEnvC scope cl C X.env).frame = X.env.frame from rfl)]
  refine HandSPX.looks_onZ Zc.steady hfr hf fl' fun h1 hh up => ?_
  obtain ⟨k1, k2, k3, oe, vs, T, oT, ts, he, hz, hd, h1e, hnT, hTe, hT, hdT, h3⟩ := hh
  refine ⟨m, ⟨oC, es, ep, k1 C oC bC, hdC, hm⟩, fun g sb => ?_⟩
  have sb : Heap.SameBut C h1 g := sb
  have ne : ∀ {b}, B.get? b = none → b ≠ C := fun {b} e z => by rw [z, bC] at e; cases e
  have outB : ∀ {b o}, (PySem.W.hideAll B [C]).get? b = some o → B.get? b = some o ∧ b ≠ C := fun {b o} e => ⟨PySem.W.of_hideAll [C] e, fun z => by
    rw [z, PySem.W.hideAll_none [C] (List.mem_singleton.mpr rfl)] at e
    cases e⟩
  have noneB : ∀ {b}, B.get? b = none → (PySem.W.hideAll B [C]).get? b = none := fun {b} e => by
    cases q : (PySem.W.hideAll B [C]).get? b with
    | none => rfl
    | some o =>
      rw [(outB q).1] at e
      cases e
  have held : HandSPX.HeldZ (PySem.W.hideAll B [C]) (X.env :: X.outer) a (Zc cls d) X.env.locals g := by
    refine ⟨fun b o e => ?_, noneB k2, ff_hide sb (by rw [← hstk]; exact frC) k3, oe, vs, T, oT, ts, (sb.2 a (ne k2)).trans he, hz, hd, h1e, noneB hnT, hTe, (sb.2 T (ne hnT)).trans hT, hdT, h3⟩
    obtain ⟨e1, e2⟩ := outB e
    exact (sb.2 b e2).trans (k1 b o e1)
  unfold PySem.passOn
  refine wpAny_bind (wpAny_field (held.2.2.2.elim fun _ _ => (sb.2 a (ne k2)).trans he) hd h1e ?_)
  rw [if_neg (show ¬ ((Value.ref T == Value.none) = true) from by simp)]
  have fin : wpAny (model X.prog X.w) X.A (setFlight (.ref a) (compEnvC scope cl C X.env).frame) (fun _ s4 => wpAny (model X.prog X.w) X.A (throw (.ref a) : Sem Value) (fun _ _ => False) X.xe s4) X.xe { s6 with heap := g } := by
    rw [show (compEnvC scope cl C X.env).frame = some X.env.locals from hf]
    refine HandSPX.setFlight_onZ held fun g2 held2 up2 => wpAny_throw (tk _ _ ?_)
    -- the state without the exception, the block's dict hidden
    obtain ⟨G, g1, g2'⟩ := restrict s6.heap fun b => ((B.get? b).isSome && decide (b ≠ C)) || decide (b ∈ frs X.stack)
    have gB : ∀ b o, b ≠ C → B.get? b = some o → G.get? b = some o := fun b o n e => by
      rw [g1 b (by simp [e, n])]
      exact fl.1 b o e
    have gF : ∀ b, b ∈ frs X.stack → G.get? b = s6.heap.get? b := fun b hb => g1 b (by simp [hb])
    have og : ∀ b o, G.get? b = some o → s6.heap.get? b = some o ∧ ((b ≠ C ∧ (B.get? b).isSome = true) ∨ b ∈ frs X.stack) := fun b o e => by
      cases q : (((B.get? b).isSome && decide (b ≠ C)) || decide (b ∈ frs X.stack)) with
      | false => rw [g2' b q] at e; cases e
      | true =>
        rw [g1 b q] at e
        refine ⟨e, ?_⟩
        rw [Bool.or_eq_true, Bool.and_eq_true, decide_eq_true_eq, decide_eq_true_eq] at q
        exact q.imp (fun z => ⟨z.2, z.1⟩) id
    have hokG : HOk X.prog X.w H6 G := fun b o q => (hok b o q).stay (fun z u hc r => gB z u (fun y => by
      subst y
      rcases hc with hc | hc
      · rw [hc, q] at nC6; cases nC6
      · rw [hc] at nC6; cases nC6) r) (fun _ r => r) fun _ _ r => r
    have ltC : ∀ b o, s3.heap.get? b = some o → b ≠ C := fun b o e z => by
      have := Heap.lt_size e
      rw [hC, z] at this
      exact absurd this (Nat.lt_irrefl _)
    have bs : Un (frs X.stack) fp H3 H5 s3.heap s5.heap := I5.base
    have J : Inv X pins σ0 H6 { s6 with heap := G } := by
      refine I3.call' (ch := fp) (os.trans I5.os) ⟨fun b o e n hb hx => ?_, fun b o e n hb hx => ?_, fun b o e n hx => ?_, fun b o e hx => ?_, fun b xs e => ub.tups b xs (bs.tups b xs e), fun b o v e => ub.frzs b o v (bs.frzs b o v e), fun b ps e => ?_⟩ hokG ag fun b hb => ⟨(f3 b hb).2.2.2.1, (f3 b hb).2.1, (f3 b hb).2.2.2.2.1, (f3 b hb).2.2.2.2.2⟩
      · exact gB b o (ltC b o e) (ub.keep b o (bs.keep b o e n hb hx) (bs.free b o e n hx) hb)
      · obtain ⟨sl, e1⟩ := bs.slot b o e n hb hx
        obtain ⟨sl2, e2⟩ := ub.slot b _ e1 hb
        exact ⟨sl2, (gF b hb).trans e2⟩
      · obtain ⟨o', e1⟩ := bs.there b o e hx
        exact ub.free b o' e1 (bs.free b o e n hx)
      · obtain ⟨o', e1⟩ := bs.there b o e hx
        by_cases hb : b ∈ frs X.stack
        · obtain ⟨sl2, e2⟩ := ub.slot b _ e1 hb
          exact ⟨_, (gF b hb).trans e2⟩
        · obtain ⟨o2, e2⟩ := ub.there b o' e1 hb
          exact ⟨o2, gB b o2 (ltC b o e) e2⟩
      · obtain ⟨m1, e1⟩ := bs.tbls b ps e
        obtain ⟨m2, e2⟩ := ub.tbls b _ e1
        exact ⟨m1 ++ m2, by rw [e2, Array.append_assoc]⟩
    have up1 : G.UpToSlots h1 := (Heap.UpToSlots.of_keeps fun b o e => (og b o e).1).trans up
    have upG : G.UpToSlots g := fun b o e nf => by
      have nb : b ≠ C := by
        rcases (og b o e).2 with z | z
        · exact z.1
        · exact frC b z
      obtain ⟨sl, q⟩ := up1 b o e nf
      exact ⟨sl, (sb.2 b nb).trans q⟩
    refine ⟨a, PySem.W.hideAll B [C], { s6 with heap := G }, pins, σ0, H6, cls, d, rfl, J, fun b o e hb => ?_, upG.trans up2, .inr (.inr (by rw [hstk]; exact held2)), na, rfl, ag, hE⟩
    obtain ⟨e1, e2⟩ := og b o e
    rcases e2 with ⟨e2, e3⟩ | e2
    · obtain ⟨o2, e4⟩ := Option.isSome_iff_exists.mp e3
      have := fl.1 b o2 e4
      rw [e1] at this
      cases this
      exact PySem.W.hideAll_get [C] e4 fun z => e2 (List.mem_singleton.mp z)
    · exact absurd e2 hb
  first
    | exact wpAny_bind (wpAny_pure (wpAny_bind fin))
    | exact wpAny_bind fin
end
section
variable {T : Nat → FC} {D : Dt} {X : Cx} {E : XK} {k : Nat}
theorem se_compx {g : Tg} {it : II} {e : IE} {own : List Nat} {elt tg iter : PySem.Expr} {scope : Scope} {ow : List (Str × Nat)} {pos : Pos} (cx : CxT X E k) (hstk : X.stack = X.env :: X.outer) (hf : X.env.frame = some X.env.locals) (hi : SI T D X E it tg iter) (ok : BlkOk X.N X.env.scope scope ow) (hown : ow.map (·.2) = own) (htg : ∀ i ∈ tgs g, i ∈ own)
    (hg : ∀ s H C cl fp E2, CxE ((bk X scope s H C cl fp).wish E2) E k → PG ((bk X scope s H C cl fp).wish E2) tg (gOf X.K g)) (he : ∀ s H C cl fp E2, CxE ((bk X scope s H C cl fp).wish E2) E k → SE T D ((bk X scope s H C cl fp).wish E2) E e elt) (hs : ∀ x, foldedSetIterable iter X.env x = pure x) : SE T D X E (.compx g it none e own) (.ListComp elt [⟨tg, iter, [], 0⟩] scope pos) := by
  intro n s h σ H rh Q sr rp q
  cases n with
  | zero => exact q.elim
  | succ n =>
    have q : QE D X.prog X.w (eComp (ev T n) true g it none e own s h) rh H Q E := q
    intro pins s0 I
    rw [eval_ListComp]
    have fr : ∀ y ∈ scope.names, y.2 = .free → ∃ c, X.env.cells.lookup y.1 = some c := fun y hy e => (ok.free y hy e).elim (fun z => I.ok.has _ (.inl z)) fun z => I.ok.has _ (.inr z)
    refine comp_wp rfl hs (closure_ok fr) ok.kind (fun y hy e => by rw [ok.uniq y hy, e]) (thn ((hi n s h σ H rh _ sr rp (q_bI q)) pins s0 I) fun xv s1 hx => thn hx fun itv s2 h2 => ?_)
    obtain ⟨ia, fp, tn, J, H2, e0, I2, TT, st2, f2, rh1, h1, j, e1, r1, ir, q1⟩ := h2
    subst e0
    refine wpAny_newObj_type (newEnv_comp ?_) (by show 0 ≤ sizeLine; decide)
    generalize hD : s2.heap.objs.size = p
    have np : H2 p = none := I2.hok.fresh (Nat.le_of_eq hD)
    obtain ⟨r2, e2⟩ := r1.new (o := .lst []) (ho := .lst []) np (OR.lstN .nil)
    have ip : (rh1 ++ [p])[h1.n]? = some p := by rw [r1.len, List.getElem?_append_right (Nat.le_refl _)]; simp
    generalize hs3 : ({ s2 with heap := s2.heap.push { cls := .type "list", data := .seq ([] : List Value).toArray } } : Shared) = s3
    have hp3 : s3.heap = s2.heap.push { cls := .type "list", data := .seq ([] : List Value).toArray } := by rw [← hs3]
    have I3 : Inv X pins σ (upd H2 p (.lst [])) s3 := by
      rw [← hs3]
      exact I2.laid (t' := s2.toks) (fun b o z => Heap.get?_push_of_some _ z) (Nat.le_of_eq hD) ⟨Nat.zero_le _, [], 0, .nil, by rw [← hD]; exact Heap.get?_push_size _ rfl⟩
    have in2 : ∀ b ∈ fp, b < s2.heap.objs.size := fun b hb => by
      obtain ⟨o, z, _⟩ := TT.obj _ _ st2 b hb
      exact Heap.lt_size z
    have f3 : ∀ b ∈ fp, FpOk X pins (upd H2 p (.lst [])) b := fun b hb => ⟨by rw [upd_ne (by rw [← hD]; exact Nat.ne_of_lt (in2 b hb))]; exact (f2 b hb).1, (f2 b hb).2⟩
    have st3 : tn 0 s3.heap := TT.keep _ _ _ st2 fun b _ o z => by rw [hp3]; exact Heap.get?_push_of_some _ z
    have I4 := block_start I3 ok cx.nd fun b hb => ⟨f3 b hb, by rw [hp3, Heap.size_push]; exact Nat.lt_succ_of_lt (in2 b hb)⟩
    generalize hcl : cellsFrom (s3.heap.objs.size + 1) scope.names (cloFrom X.env.cells scope.names []) = cl at I4
    generalize hH3 : upd H2 p (.lst []) = H3 at I3 I4 f3 r2 e2
    generalize hs4 : ({ s3 with heap := pushCells (s3.heap.push { cls := .type "dict", data := .dict #[] }) scope.names } : Shared) = s4 at I4
    have st4 : tn 0 s4.heap := TT.keep _ _ _ st3 fun b _ o z => by rw [← hs4]; exact pushCells_keeps _ _ _ _ (Heap.get?_push_of_some _ z)
    let ce : Env := compEnvC scope cl s3.heap.objs.size X.env
    let R : Result → Shared → Prop := CEnd (model X.prog X.w) X.A X.xe (EP X pins σ Q) (.ref p) ce
    let Y : Cx := (bk X scope s3 H3 s3.heap.objs.size cl fp).wish (notedBy (model X.prog X.w) X.A ce fun e s' => R (.error e) s')
    have cy : CxE Y E k := ⟨cx.calm, cx.nd, cx.room, fun pins' σ1 H5 s5 u s6 I5 c => block_exc (Q := EP X pins σ Q) (acc := .ref p) cx.tk hstk hf I3 f3 I5 c⟩
    have I4 : Inv Y [] (L2.wipe σ (ow.map (·.2))) H3 s4 := I4.wish _
    have pg := hg s3 H3 s3.heap.objs.size cl fp _ cy
    have pe := he s3 H3 s3.heap.objs.size cl fp _ cy
    rw [hown] at I4
    have goalS : codeAny (model X.prog X.w) X.A (.compStart (.ListComp elt [⟨tg, iter, [], 0⟩] scope pos) 0 (.ref ia) (.ref p) ce) R s4 := by
      have stat : ∀ {σ' : L2.St} {H' : Hp} {s' : Shared}, Inv Y [] σ' H' s' → (∀ b ∈ fp, H' b = none) → ∀ b ∈ fp, FpOk Y [] H' b := fun {σ' H' s'} I' hn b hb =>
        ⟨hn b hb, (I'.ok.exf b hb).1, I'.ok.exfs b hb, .inl hb, fun x c z => (I'.ok.exf b hb).2 x c z, fun y hy => absurd (show y ∈ ([] : List (Addr × Obj)) ++ [] from hy) (by simp)⟩
      let V : Nat → Shared → Prop := fun m s' => ∃ i H' rh' h', Inv Y [] (L2.wipe σ own) H' s' ∧ tn i s'.heap ∧ (∀ b ∈ fp, H' b = none) ∧ Rep D X.prog X.w rh' h' H' ∧ SR D rh' s σ ∧ rh'[h1.n]? = some p ∧ (∃ more, rh' = rh1 ++ more) ∧ QE D X.prog X.w ((ev T m).cl true g j none e own h1.n i s h') rh' H' Q E
      have loop : codeAny (model X.prog X.w) X.A (.compLoop (.ListComp elt [⟨tg, iter, [], 0⟩] scope pos) 0 (.ref ia) (.ref p) ce) R s4 := by
        refine compLoop_any V ?_ n ⟨0, H3, _, _, I4, st4, fun b hb => (f3 b hb).1, r2, (sr.ext e1).ext e2, ip, ⟨[p], rfl⟩, QE.ext q1 e2⟩
        rintro m s5 ⟨i, H5, rh5, h5, I5, st5, n5, r5, sr5, ip5, more, q5⟩
        cases m with
        | zero => exact q5.elim
        | succ m =>
          have q5 : QE D X.prog X.w (stepCl (ev T m) true g j none e own h1.n i s h5) rh5 H5 Q E := q5
          unfold stepCl at q5
          have ix := ir i rh5 h5 H5 more r5
          cases en : itNext j i h5 with
          | no => rw [en] at q5; exact q5.elim
          | done h6 =>
            rw [en] at q5 ix
            dsimp only at ix q5
            obtain ⟨z1, z2⟩ := ix
            rw [z1] at q5
            refine thnF (TT.done Y rfl rfl rfl cx.calm i [] s5 _ H5 (fun _ _ => False) I5 (stat I5 n5) st5 z2) fun r s6 ⟨hr, I6⟩ => ?_
            subst hr
            have I7 : Inv X pins σ H5 s6 := I3.call' (ch := fp) I6.os I6.base I6.hok I6.bare fun b hb => ⟨(f3 b hb).2.2.2.1, (f3 b hb).2.1, (f3 b hb).2.2.2.2.1, (f3 b hb).2.2.2.2.2⟩
            obtain ⟨mm, hn, _⟩ := I6.loc
            obtain ⟨y0, y1, y2, y3, y4, y5⟩ := I3.fpOk (Nat.le_refl _) (show H5 s3.heap.objs.size = none from I6.free)
            exact ⟨mm, hn, fun gg sb => ⟨.ref p, H5, I7.turned (t' := s6.toks) (fun b o hb z => (sb.2 b hb).trans z) y0 y1 y3 y4 y5, rfl, QE.here (v := .ref h1.n) r5 ⟨p, rfl, ip5⟩ q5⟩⟩
          | item v h6 =>
            rw [en] at q5 ix
            dsimp only at ix q5
            obtain ⟨z1, z2⟩ := ix
            cases es : setTg g v (wipeL s own) h6 with
            | none => rw [es] at q5; exact q5.elim
            | some s2' =>
              rw [es] at q5
              dsimp only at q5
              refine thnF (TT.item Y rfl rfl rfl cx.calm i [] s5 _ H5 (fun _ _ => False) I5 (stat I5 n5) st5 z1) fun r s6 ⟨u, hr, w6⟩ => ?_
              subst hr
              refine thnF w6 fun _ s7 ⟨x, H7, I7, rx, y7, st7, n7⟩ => ?_
              obtain ⟨rh7, e7, r7, vx⟩ := z2 x H7 y7
              have q7 := q5.ext e7
              have sr7 := sr5.ext e7
              have ip7 := ix_more ip5 e7.pre
              have I7p := I7.pinned (stat I7 n7) (TT.obj _ _ st7)
              refine thn (pg.run _ s7 _ H7 x u (fun σ8 H8 => L2.wipe σ8 own = L2.wipe σ own ∧ SR D rh7 s2' σ8 ∧ H8 = H7) I7p rx (tg_go (vs := own) htg es r7 vx sr7.wipe fun σ8 sr8 same => ⟨wipe_same same, sr8, rfl⟩)) fun _ s8 ⟨σ8, H8, I8, hw8, sr8, eH8⟩ => ?_
              subst eH8
              refine wpAny_tests_nil ?_
              rw [if_pos rfl]
              have q8 : QE D X.prog X.w (b1 ((ev T m).e e s2' h6) fun y h => cApp h1.n y h fun h => (ev T m).cl true g j none e own h1.n (i + 1) s h) rh7 H8 Q E := q7
              refine thn (pe m s2' h6 σ8 H8 rh7 _ sr8 r7 (q_b1 q8) _ s8 I8) fun z s9 ⟨yv, H9, I9, ry, rh9, h9, v9, e9, r9, vr9, q9⟩ => ?_
              have ip9 := ix_more ip7 e9.pre
              obtain ⟨acc, g1, g2, h10, e10, r10, q10⟩ := app_go r9 ip9 vr9 q9
              refine app_ok (X := Y) I9 g1 (by rw [sizeLine_eq]; omega) ry fun s11 I11 => ?_
              have kept : ∀ b ∈ fp, ∀ o, s7.heap.get? b = some o → s11.heap.get? b = some o ∧ (upd H9 p (.lst (acc ++ [yv]))) b = none := fun b hb o z =>
                have y := I11.pin (b, o) (List.mem_append_right _ (List.mem_append_right _ (mem_pinsAt hb z)))
                ⟨y.1, y.2.1⟩
              refine ⟨m, Nat.lt_succ_self m, i + 1, _, rh9, h10, (I11.unpinned (pins := [])).weak (by rw [← hw8, wipe_length]) (fun jj v z => ?_), TT.keep _ _ _ st7 fun b hb o z => (kept b hb o z).1, fun b hb => ?_, r10, ((sr7.ext e9).ext e10), ip9, more_ext (more_ext (more_ext more e7) e9) e10, q10⟩
              · rw [← hw8] at z
                exact (wipe_some z).1
              · obtain ⟨o, z, _⟩ := TT.obj _ _ st7 b hb
                exact (kept b hb o z).2
      exact codeAny_compStart_list loop (TT.self X.A 0 _ _ _ st4 loop)
    exact goalS
end
end Ck
-- SE4
set_option Elab.async false
set_option linter.all false
set_option maxRecDepth 100000
set_option maxHeartbeats 4000000
set_option autoImplicit false
namespace Ck
open PySem PySem.Spec PyProof.Rows L2 Lk
section
variable {X : Cx}
def tLS (K : PySem.W.Frag) (ta : TE) : TE := fun σ H Q => ta σ H fun x H1 => ∃ l, ∃ xs : List Str, x = .ref l ∧ SqL K H1 l (xs.map V.str) ∧ xs.Nodup ∧ xs.length + 1 < scanBound ∧ Q (.int xs.length) H1
theorem pe_ls {a : PySem.Expr} {ta : TE} {p p2 q pos : Pos} (calm : X.calm = true) (B : Bn X "len") (B2 : Bn X "set") (ha : PE X a ta) (na : St1 X a) : PE X (.Call (.Name "len" p) [.Call (.Name "set" p2) [a] [] q] [] pos) (tLS X.K ta) :=
  ⟨fun pins s σ H Q I h => by
    refine Call_ (ld_blt I B.g B.m boot_len (PyProof.Rows.callWith_builtin1 (PyProof.Rows.args_cons ?_ rfl) rfl rfl))
    refine Call_ (ld_blt I B2.g B2.m boot_set (PyProof.Rows.callWith_type1 (PyProof.Rows.args_cons ?_ na) na rfl))
    refine thn (ha.run pins s σ H _ I h) fun v z ⟨x, H1, I1, r1, l, xs, e1, hq, nd, few, q1⟩ => PyProof.Rows.args_nil ?_
    subst e1
    cases r1
    obtain ⟨its, r, pl, hz⟩ := I1.list hq
    refine set_of_texts pl.isList (by simpa using strsAre_of r) nd few (I1.ok.hd calm) fun h2 tk hS hk => PyProof.Rows.args_nil ?_
    obtain ⟨o, es, ep, t, ho, ex, dt, _, _, _, fits, num⟩ := hS
    exact call_len_set ho ex dt fits (by rw [num]; unfold scanBound at few; omega) ⟨.int xs.length, H1, (I1.kept (h' := h2) (t' := tk) hk).tok _, ⟨_, by rw [num]⟩, q1⟩⟩
end
section
variable {T : Nat → FC} {D : Dt} {X : Cx} {E : XK} {k : Nat}
theorem se_isname {f : Addr} {j : Nat} {x : Str} {p pos : Pos} {a : IE} {ea : PySem.Expr} (K : DtOk D) (cx : CxE X E k) (F : FnP X.prog X.w X.K X.mg X.base j f spName) (hj : j ≤ k) (hg : Gl X x) (hm : X.mg x = some (.ref f)) (hk : PySem.W.keepIn X.K (.ref f) = true) (ha : SE T D X E a ea) (hs : St1 X ea) (hdb : (x == ("__debug__" : Str)) = false) : SE T D X E (.isname a) (.Call (.Name x p) [ea] [] pos) := by
  intro n s h σ H rh Q sr rp q
  cases n with
  | zero => exact q.elim
  | succ n =>
    obtain ⟨fd, ps, F, B⟩ := F.ok
    refine of_PE (pe_call F (cx.room.mono hj) hg hm hk B .nil cx.ps (pa1 hs) hdb hs rfl) (one ha sr rp q fun x H1 rh1 h1 v e1 r1 vr q1 => ?_)
    cases v with
    | str t =>
      unfold isnameV at q1
      dsimp only at q1
      cases z : Nat.ble (bndS t) most with
      | false => rw [z] at q1; exact q1.elim
      | true =>
        rw [z] at q1
        dsimp only at q1
        refine ⟨sV D t, by rw [show x = _ from vr]; rfl, bnd_le K z, ?_⟩
        have et : (sV D t).cps.toList = sC D t := tl_strOf _
        rw [et]
        split at q1
        · rename_i kk
          have : sC D [.nm kk] = D.nmS kk := by rw [sC_cons, sC_nil, List.append_nil]; rfl
          rw [this, nameLit_nm K]
          exact QE.here (v := .bl true) r1 rfl q1
        · cases e : lits t with
          | none => rw [e] at q1; exact q1.elim
          | some cs =>
            rw [e] at q1
            rw [sC_lits e]
            exact QE.here (v := .bl (nameLit cs)) r1 rfl q1
    | _ => exact q1.elim
theorem se_numof {f : Addr} {j : Nat} {x : Str} {p pos : Pos} {a : IE} {ea : PySem.Expr} (K : DtOk D) (cx : CxE X E k) (F : FnP X.prog X.w X.K X.mg X.base j f (spNum (D.xA badRow))) (hj : j ≤ k) (hg : Gl X x) (hm : X.mg x = some (.ref f)) (hk : PySem.W.keepIn X.K (.ref f) = true) (ha : SE T D X E a ea) (hs : St1 X ea) (hdb : (x == ("__debug__" : Str)) = false) : SE T D X E (.numof a) (.Call (.Name x p) [ea] [] pos) := by
  intro n s h σ H rh Q sr rp q
  cases n with
  | zero => exact q.elim
  | succ n =>
    obtain ⟨fd, ps, F, B⟩ := F.ok
    refine of_PE (pe_call F (cx.room.mono hj) hg hm hk B .nil cx.ps (pa1 hs) hdb hs rfl) (one ha sr rp q fun x H1 rh1 h1 v e1 r1 vr q1 => ?_)
    cases v with
    | str t =>
      unfold numofV at q1
      dsimp only at q1
      cases z : Nat.ble (bndS t) most with
      | false => rw [z] at q1; exact q1.elim
      | true =>
        rw [z] at q1
        dsimp only at q1
        refine ⟨sV D t, by rw [show x = _ from vr]; rfl, bnd_le K z, ?_⟩
        have et : (sV D t).cps.toList = sC D t := tl_strOf _
        rw [et]
        split at q1
        · rename_i c m
          split at q1
          · rename_i p1 p2
            have h1' := of_decide_eq_true (posC_ok K p1).symm
            have h2' := of_decide_eq_true (posC_ok K p2).symm
            rw [Int.neg_mul] at h2'
            have hb : bigI = 1000000000000 := rfl
            rw [hb] at h2'
            obtain ⟨i, n1, n2⟩ := numLit_num (i := c + m * D.room) (by omega) (by omega)
            have : sC D [.num c m] = numC (c + m * D.room) := by rw [sC_cons, sC_nil, List.append_nil]; rfl
            rw [this, n1]
            show Q (.int (i : Nat)) H1
            rw [n2]
            exact QE.here (v := .int c m) r1 rfl q1
          · exact q1.elim
        · cases e : lits t with
          | none => rw [e] at q1; exact q1.elim
          | some cs =>
            rw [e] at q1
            dsimp only at q1
            rw [sC_lits e]
            cases y : numLit cs with
            | none => rw [y] at q1; exact q1 _ _ (Ext.refl _ _) r1
            | some i =>
              rw [y] at q1
              exact QE.here (v := .int (.ofNat i) 0) r1 (by show V.int _ = V.int _; rw [Int.zero_mul, Int.add_zero]; rfl) q1
    | _ => exact q1.elim
theorem se_lenset (K : DtOk D) (cx : CxE X E k) {a : IE} {ea : PySem.Expr} {p p2 pos pos2 : Pos} (ha : SE T D X E a ea) (B : Bn X "len") (B2 : Bn X "set") (hs : St1 X ea) : SE T D X E (.lenset a) (.Call (.Name "len" p) [.Call (.Name "set" p2) [ea] [] pos2] [] pos) := by
  intro n s h σ H rh Q sr rp q
  cases n with
  | zero => exact q.elim
  | succ n =>
    refine of_PE (pe_ls cx.calm B B2 pE hs) (one ha sr rp q fun x H1 rh1 h1 v e1 r1 vr q1 => ?_)
    cases v with
    | ref j =>
      unfold lensetV at q1
      dsimp only at q1
      split at q1
      · rename_i xs e
        split at q1
        · rename_i ea few
          obtain ⟨a, vs, rfl, _, ha, ra⟩ := r1.lst e vr
          obtain ⟨ys, e2, nd⟩ := apart_ok K ea ra
          subst e2
          rw [lenN_eq] at q1
          refine ⟨a, ys, rfl, .inl (.inl ha), nd, ?_, ?_⟩
          · have few := Nat.le_of_ble_eq_true few
            rw [lenN_eq, pr_length ra, List.length_map] at few
            unfold scanBound
            omega
          rw [show ys.length = xs.length from by rw [pr_length ra, List.length_map]]
          exact QE.here (v := .int (.ofNat xs.length) 0) r1 (by show V.int _ = V.int _; rw [Int.zero_mul, Int.add_zero]; rfl) q1
        · exact q1.elim
      · exact q1.elim
    | _ => exact q1.elim
theorem st_inG (K : DtOk D) {neg : Bool} {vs : List AV} {xs : List V} {a : IE} {ea eb : PySem.Expr} {op : CmpOp} {pos : Pos} {g : Addr} (hop : OpR X (compareOp op) (rIn X.K neg)) (hm : behindInMarks op eb = false)
    (hb : PE X eb (tC (.ref g))) (hg : ∀ H, SqT X.K H g xs) (hv : ∀ rh, VRs D rh vs xs) (ha : SE T D X E a ea) : ST T D X E (.v (.inG neg a vs)) (.Compare ea [op] [eb] pos) := by
  intro n s h σ H rh Q sr rp q
  cases n with
  | zero => exact q.elim
  | succ n =>
    have q0 := q_b1B (show QB D X.prog X.w (b1B ((ev T n).e (.inG neg a vs) s h) fun v h => match v with | .bl b => .ok b h | _ => .no) rh H Q E from q)
    cases n with
    | zero => exact q0.elim
    | succ n =>
      refine of_PT (pt_cmpR hop pE hb hm) (one ha sr rp q0 fun x H1 rh1 h1 v e1 r1 vr q1 => ?_)
      cases z : flat0 v && flats vs with
      | false => rw [z] at q1; exact q1.elim
      | true =>
        rw [z] at q1
        dsimp only at q1
        rw [Bool.and_eq_true] at z
        cases e : inL v vs with
        | none => rw [e] at q1; exact q1.elim
        | some b =>
          rw [e] at q1
          obtain ⟨rh2, h2, v2, e2, r2, vr2, q2⟩ := QE.here (v := .bl (xor neg b)) (x := .bl (xor neg b)) r1 rfl q1
          refine ⟨g, xs, rfl, .inr (hg _), flatV_ok K z.1 vr, flatVs_ok K z.2 (hv rh1), ?_⟩
          rw [inL_ok K z.1 vr z.2 (hv rh1) e]
          have ex : (if neg then !b else b) = xor neg b := by cases neg <;> cases b <;> rfl
          rw [ex]
          cases v2 with
          | bl c2 =>
            have : V.bl (xor neg b) = V.bl c2 := vr2
            injection this with this
            subst this
            exact ⟨_, rfl, QB.here r2 q2⟩
          | _ => exact q2.elim
end
/-! ### WAYS -/
theorem ways_at {W : Wd} (ok : WdOk W) : ∀ H, SqT W.K H (He.ga W.K "WAYS") [.str "up", .str "down"] := ok.ways
theorem pe_ways {W : Wd} (ok : WdOk W) {X : Cx} (hX : (X.K, X.mg) = (W.K, W.mg)) {pos : Pos} (hg : Gl X "WAYS") : PE X (.Name "WAYS" pos) (tC (.ref (He.ga W.K "WAYS"))) := C8.pe_gc hg ⟨_, by rw [show X.mg = W.mg from congrArg Prod.snd hX]; exact glo_WAYS ok, rfl⟩ (by decide)
theorem ways_vr {D : Dt} : ∀ rh, VRs D rh [.str [.l 117, .l 112], .str [.l 100, .l 111, .l 119, .l 110]] [.str "up", .str "down"] := fun rh => .cons rfl (.cons rfl .nil)
end Ck
-- SFl
set_option Elab.async false
set_option linter.all false
set_option maxRecDepth 100000
set_option maxHeartbeats 4000000
set_option autoImplicit false
namespace Ck
open PySem PySem.Spec PyProof.Rows L2 Lk
/-! ### the list of faults: its text is long, so the kernel reads it -/
def isTxt (a : IE) (e : PySem.Expr) : Bool := match a with
  | .cst (.str s) => (match e with
    | .Constant (.str x) _ _ => (match lits s with
      | some cs => decide (strOf cs = x)
      | none => false)
    | _ => false)
  | _ => false
def isPair (a : IE) (e : PySem.Expr) : Bool := match a with
  | .lst as => (match as with
    | [u, v] => (match e with
      | .List es _ => (match es with
        | [p, q] => isTxt u p && isTxt v q
        | _ => false)
      | _ => false)
    | _ => false)
  | _ => false
def arePairs : List IE → List PySem.Expr → Bool
  | [], [] => true
  | a :: as, e :: es => isPair a e && arePairs as es
  | _, _ => false
section
variable {T : Nat → FC} {D : Dt} {X : Cx} {E : XK}
theorem isTxt_ok {a : IE} {e : PySem.Expr} (h : isTxt a e = true) : SE T D X E a e ∧ ∀ es : List PySem.Expr, starEach (e :: es) X.env = (false, eval e X.env) :: starEach es X.env := by
  cases a with
  | cst v =>
    cases v with
    | str s =>
      cases e with
      | Constant c j p =>
        cases c with
        | str x =>
          have h : (match lits s with | some cs => decide (strOf cs = x) | none => false) = true := h
          cases z : lits s with
          | none => rw [z] at h; cases h
          | some cs =>
            rw [z] at h
            exact ⟨se_str z (of_decide_eq_true h), fun es => rfl⟩
        | _ => cases h
      | _ => cases h
    | _ => cases h
  | _ => cases h
theorem isPair_ok {a : IE} {e : PySem.Expr} (h : isPair a e = true) : SE T D X E a e ∧ ∀ es : List PySem.Expr, starEach (e :: es) X.env = (false, eval e X.env) :: starEach es X.env := by
  unfold isPair at h
  split at h
  · split at h
    · split at h
      · split at h
        · rw [Bool.and_eq_true] at h
          obtain ⟨a1, a2⟩ := isTxt_ok (T := T) (D := D) (X := X) (E := E) h.1
          obtain ⟨b1, b2⟩ := isTxt_ok (T := T) (D := D) (X := X) (E := E) h.2
          exact ⟨se_lst (sl_cons a1 (sl_cons b1 sl_nil (b2 _)) (a2 _)), fun es => rfl⟩
        · cases h
      · cases h
    · cases h
  · cases h
theorem arePairs_ok : ∀ {as : List IE} {es : List PySem.Expr}, arePairs as es = true → SL T D X E as es
  | [], [], _ => sl_nil
  | [], _ :: _, h => by cases h
  | _ :: _, [], h => by cases h
  | a :: as, e :: es, h => by
    have h : (isPair a e && arePairs as es) = true := h
    rw [Bool.and_eq_true] at h
    obtain ⟨h1, h2⟩ := isPair_ok (T := T) (D := D) (X := X) (E := E) h.1
    exact sl_cons h1 (arePairs_ok h.2) (h2 _)
end
def lfS (i : Nat) : Stmt := d__law_faults.body.getD i (.Pass ⟨0, 0, 0, 0⟩)
/-- is it 'if kind == c: return [..]' and so on, by the kernel -/
def isKind (c : Int) (e : PySem.Expr) : Bool := match e with
  | .Compare (.Name x _) [.Eq] [.Constant (.int i) _ _] _ => decide (x = "kind") && decide (i = c)
  | _ => false
def isLs (as : List IE) (e : PySem.Expr) : Bool := match e with
  | .List es _ => arePairs as es
  | _ => false
def isMore (as : List IE) (e : PySem.Expr) : Bool := match e with
  | .BinOp (.Name x _) .Add (.List es _) _ => decide (x = "faults") && arePairs as es
  | _ => false
section
variable {D : Dt} {X : Cx} {E : XK}
theorem isKind_ok {c : Int} {e : PySem.Expr} (K : DtOk D) (hu : X.A.units + 64 < cLine) (hv : ∀ p, PE X (.Name "kind" p) (tVar 0)) (h : isKind c e = true) : ST clos D X E (.v (.cmp .eq (.var 0) (.cst (.int c 0)))) e := by
  unfold isKind at h
  split at h
  · rename_i x p i j q r
    rw [Bool.and_eq_true] at h
    have h1 := of_decide_eq_true h.1
    have h2 := of_decide_eq_true h.2
    subst h1 h2
    exact st_cmp (op_eqAll K hu) (v_eq K) (se_var (hv p)) (se_int rfl) (nomark _)
  · cases h
theorem isLs_ok {as : List IE} {e : PySem.Expr} (h : isLs as e = true) : SE clos D X E (.lst as) e ∧ ∃ es p, e = .List es p := by
  unfold isLs at h
  split at h
  · exact ⟨se_lst (arePairs_ok h), _, _, rfl⟩
  · cases h
theorem isMore_ok {as : List IE} {e : PySem.Expr} (K : DtOk D) (hv : ∀ p, PE X (.Name "faults" p) (tVar 1)) (h : isMore as e = true) : SE clos D X E (.bin .add (.var 1) (.lst as)) e := by
  unfold isMore at h
  split at h
  · rename_i x p es q r
    rw [Bool.and_eq_true] at h
    have h1 := of_decide_eq_true h.1
    subst h1
    exact se_bin op_addAll (v_add K) (se_var (hv p)) (se_lst (arePairs_ok h.2))
  · cases h
end
def isS0 (st : Stmt) : Bool := match st with
  | .If t [.Return (some e) _] [] _ => isKind 0 t && isLs lf_k0 e
  | _ => false
def isS1 (st : Stmt) : Bool := match st with
  | .Assign [.Name x _] e _ => decide (x = "faults") && isLs lf_main e
  | _ => false
def isS2 (st : Stmt) : Bool := match st with
  | .If t [.Return (some e) _] [] _ => isKind 2 t && isMore lf_k2 e
  | _ => false
def isS3 (st : Stmt) : Bool := match st with
  | .Return (some e) _ => isMore lf_k1 e
  | _ => false
def isAll : List Stmt → Bool
  | [a, b, c, d] => isS0 a && (isS1 b && (isS2 c && isS3 d))
  | _ => false
theorem swaps_list {es : List PySem.Expr} {p : Pos} {t : Option PySem.Expr} {l : Nat} {env : Env} : swapsWith (.List es p) t l env = pure false := rfl
theorem lf_ok {D : Dt} {X : Cx} {E : XK} {k : Nat} (K : DtOk D) (cx : CxT X E k) (hk : ∀ p, PE X (.Name "kind" p) (tVar 0)) (hf : ∀ p, PE X (.Name "faults" p) (tVar 1)) (hN : X.N[1]? = some (PySem.Str.ofString "faults")) (hl : X.env.scope.names.lookup (PySem.Str.ofString "faults") = some .local) {sts : List Stmt} (h : isAll sts = true) : SSs clos D X E c__law_faults.b sts := by
  unfold isAll at h
  split at h
  · rename_i a b c d
    simp only [Bool.and_eq_true] at h
    obtain ⟨h0, h1, h2, h3⟩ := h
    show SSs clos D X E [.iff (.v (.cmp .eq (.var 0) (.cst (.int (.ofNat 0) 0)))) [.ret (.lst lf_k0)] [], .set 1 (.lst lf_main), .iff (.v (.cmp .eq (.var 0) (.cst (.int (.ofNat 2) 0)))) [.ret (.bin .add (.var 1) (.lst lf_k2))] [], .ret (.bin .add (.var 1) (.lst lf_k1))] [a, b, c, d]
    refine sss_cons ?_ (sss_cons ?_ (sss_cons ?_ (sss_cons ?_ sss_nil)))
    · unfold isS0 at h0
      split at h0
      · rw [Bool.and_eq_true] at h0
        exact ss_iff (isKind_ok K cx.ex.hu hk h0.1) (sss_cons (ss_ret (isLs_ok h0.2).1) sss_nil) sss_nil
      · cases h0
    · unfold isS1 at h1
      split at h1
      · rename_i x p e q
        rw [Bool.and_eq_true] at h1
        have hx := of_decide_eq_true h1.1
        subst hx
        obtain ⟨z1, es, p, rfl⟩ := isLs_ok (D := D) (X := X) (E := E) h1.2
        exact ss_set cx hN (.inl hl) z1 swaps_list (.inr hl)
      · cases h1
    · unfold isS2 at h2
      split at h2
      · rw [Bool.and_eq_true] at h2
        exact ss_iff (isKind_ok K cx.ex.hu hk h2.1) (sss_cons (ss_ret (isMore_ok K hf h2.2)) sss_nil) sss_nil
      · cases h2
    · unfold isS3 at h3
      split at h3
      · exact ss_ret (isMore_ok K hf h3)
      · cases h3
  · cases h
theorem f__law_faults (W : Wd) (ok : WdOk W) : FnC clos W.D W.P W.w W.K W.mg W.base 1 (He.fAd W.K d__law_faults.at_) 1 c__law_faults [] [] := by
  obtain ⟨fd, F⟩ := ok.def_ 106 (d := d__law_faults) rfl
  refine fnC (W := W) (N := ["kind", "faults"]) (ps := ["kind"]) (d := d__law_faults) (k := 0) F (C8.fnScope_by (by kernel_rfl)) rfl rfl (by decide) (fun _ => F.bindsN fun kV doc pm an cdv ct us hl => by
    match us, hl with
    | [_], _ => rfl) .nil fun cdv A outer s H E cx => lf_ok ok.dt cx (fun p => pe_var rfl (.inl rfl)) (fun p => pe_var rfl (.inl rfl)) rfl rfl (by kernel_rfl)
end Ck
-- LA
set_option Elab.async false
set_option linter.all false
set_option maxRecDepth 100000
set_option maxHeartbeats 1000000
set_option autoImplicit false
/-! LA: the law's own small functions: a cell of the script, a name. -/
namespace Ck
open PySem PySem.Spec PyProof.Rows L2 Lk

/-! ### the names as they are written -/
/-- the letters of the k-th name -/
def nameC (c : Int) (k : Nat) : List Nat :=
  ((List.replicate (c % 12).toNat (97 + (c / 12 % 26).toNat)).take (c / 312 % ((c % 12).toNat + 1 : Nat)).toNat) ++ (97 + ((c / 3744 + k) % 26).toNat) :: ((List.replicate (c % 12).toNat (97 + (c / 12 % 26).toNat)).drop (c / 312 % ((c % 12).toNat + 1 : Nat)).toNat)
theorem nameC_len (c : Int) (k : Nat) : (nameC c k).length = (c % 12).toNat + 1 := by
  unfold nameC
  rw [List.length_append, List.length_cons, List.length_take, List.length_drop, List.length_replicate]
  omega
theorem nameC_low (c : Int) (k : Nat) : ∀ x ∈ nameC c k, isLow x = true := by
  have lo : ∀ i : Int, isLow (97 + (i % 26).toNat) = true := fun i => by
    unfold isLow
    rw [Bool.and_eq_true, nble, nble]
    omega
  intro x hx
  unfold nameC at hx
  rcases List.mem_append.mp hx with h | h
  · rw [List.eq_of_mem_replicate (List.mem_of_mem_take h)]; exact lo _
  · rcases List.mem_cons.mp h with h | h
    · rw [h]; exact lo _
    · rw [List.eq_of_mem_replicate (List.mem_of_mem_drop h)]; exact lo _
theorem nameC_at (c : Int) (k : Nat) : (nameC c k)[(c / 312 % ((c % 12).toNat + 1 : Nat)).toNat]? = some (97 + ((c / 3744 + k) % 26).toNat) := by
  have h : (c / 312 % ((c % 12).toNat + 1 : Nat)).toNat ≤ (c % 12).toNat := by
    have := Int.emod_lt_of_pos (c / 312) (show (0 : Int) < ((c % 12).toNat + 1 : Nat) by omega)
    omega
  unfold nameC
  rw [List.getElem?_append_right (by rw [List.length_take, List.length_replicate]; omega), List.length_take, List.length_replicate]
  rw [show (c / 312 % ((c % 12).toNat + 1 : Nat)).toNat - min (c / 312 % ((c % 12).toNat + 1 : Nat)).toNat (c % 12).toNat = 0 by omega]
  rfl
theorem nameC_inj (c : Int) {i j : Nat} (hi : i < 18) (hj : j < 18) (h : nameC c i = nameC c j) : i = j := by
  have a := nameC_at c i
  rw [h, nameC_at c j] at a
  have e := Option.some.inj a
  omega
theorem nameC_sea (c : Int) (k : Nat) : nameC c k ≠ sea := fun h => by
  have l := nameC_len c k
  rw [h] at l
  have l3 : (c % 12).toNat = 2 := by
    have : sea.length = 3 := rfl
    omega
  have ha : (c / 312 % ((c % 12).toNat + 1 : Nat)).toNat ≤ 2 := by
    have := Int.emod_lt_of_pos (c / 312) (show (0 : Int) < ((c % 12).toNat + 1 : Nat) by omega)
    omega
  unfold nameC at h
  rw [l3] at h ha
  generalize 97 + (c / 12 % 26).toNat = b at h
  generalize 97 + ((c / 3744 + k) % 26).toNat = d at h
  generalize (c / 312 % ((2 : Nat) + 1 : Nat)).toNat = a at h ha
  match a, ha with
  | 0, _ =>
    have h : [d, b, b] = [115, 101, 97] := h
    injection h with h1 h2
    injection h2 with h2 h3
    injection h3 with h3 _
    omega
  | 1, _ =>
    have h : [b, d, b] = [115, 101, 97] := h
    injection h with h1 h2
    injection h2 with h2 h3
    injection h3 with h3 _
    omega
  | 2, _ =>
    have h : [b, b, d] = [115, 101, 97] := h
    injection h with h1 h2
    injection h2 with h2 h3
    omega
  | n + 3, h => omega
/-! ### rules -/
section
variable {X : Cx}
theorem rep_sign (c : Nat) : ∀ n : Nat, (List.replicate n (#[c] : Array Nat)).foldl (· ++ ·) #[] = (List.replicate n c).toArray := by
  have go : ∀ (n : Nat) (a : Array Nat), (List.replicate n (#[c] : Array Nat)).foldl (· ++ ·) a = a ++ (List.replicate n c).toArray := fun n => by
    induction n with
    | zero => intro a; simp
    | succ n ih =>
      intro a
      rw [List.replicate_succ, List.foldl_cons, ih, List.replicate_succ]
      rw [Array.append_assoc]
      congr 1
      simp
  intro n
  rw [go n #[]]
  simp
/-- a sign some few times -/
theorem op_signs : OpR X (binaryOp .Mult) (fun x y H Q => ∃ c n : Nat, x = .str (strOf [c]) ∧ y = .int (n : Int) ∧ n ≤ 11 ∧ Q (.str (strOf (List.replicate n c))) H) := by
  intro pins s σ H x y v u Q I rx ry h
  obtain ⟨c, n, rfl, rfl, hn, q⟩ := h
  obtain ⟨t, rfl⟩ := rx
  obtain ⟨t', rfl⟩ := ry
  have l1 : (strOf [c]).length = 1 := rfl
  have tl : Builtin.Str.tooLong ((strOf [c]).length * (n : Int).toNat) = false := by
    rw [l1, Int.toNat_natCast, Nat.one_mul]
    have : n = 0 ∨ n = 1 ∨ n = 2 ∨ n = 3 ∨ n = 4 ∨ n = 5 ∨ n = 6 ∨ n = 7 ∨ n = 8 ∨ n = 9 ∨ n = 10 ∨ n = 11 := by omega
    rcases this with rfl | rfl | rfl | rfl | rfl | rfl | rfl | rfl | rfl | rfl | rfl | rfl <;> decide
  refine PySem.P.mul_str ?_ (fun h1 _ => ?_) (fun _ _ => tl) ?_
  · rw [decide_eq_false (show ¬ (n : Int) < -(2 ^ 63) by omega), decide_eq_false (show ¬ (n : Int) ≥ 2 ^ 63 by omega)]; rfl
  · rw [l1]
    have : n = 1 ∨ n = 2 ∨ n = 3 ∨ n = 4 ∨ n = 5 ∨ n = 6 ∨ n = 7 ∨ n = 8 ∨ n = 9 ∨ n = 10 ∨ n = 11 := by omega
    rcases this with rfl | rfl | rfl | rfl | rfl | rfl | rfl | rfl | rfl | rfl | rfl <;> decide
  · by_cases h0 : n = 0
    · subst h0
      rw [if_pos (by decide)]
      exact ⟨by decide, .str (strOf []), H, I.tok _, ⟨_, rfl⟩, q⟩
    · rw [if_neg (by omega)]
      by_cases h1 : n = 1
      · subst h1
        rw [if_pos (by rfl)]
        exact ⟨.str (strOf [c]), H, I, ⟨_, rfl⟩, q⟩
      · have hb : ((n : Int) == 1 || (strOf [c]).length == 0) = false := by
          rw [l1, Bool.or_eq_false_iff]
          exact ⟨beq_eq_false_iff_ne.mpr (by omega), rfl⟩
        rw [if_neg (by rw [hb]; exact Bool.false_ne_true)]
        rw [Int.toNat_natCast, show (strOf [c]).cps = #[c] from rfl, rep_sign]
        refine ⟨?_, .str (strOf (List.replicate n c)), H, I.tok _, ⟨_, rfl⟩, q⟩
        have : (strOf (List.replicate n c)).length = n := by rw [strOf_len, List.length_replicate]
        show (strOf (List.replicate n c)).length ≤ sizeLine
        rw [this, sizeLine_eq]
        omega
end
theorem letters_at (i : Int) (h0 : 0 ≤ i) (h1 : i < 26) : atI letters.cps.toList i = some (97 + i.toNat) := by
  have e : letters.cps.toList = [97, 98, 99, 100, 101, 102, 103, 104, 105, 106, 107, 108, 109, 110, 111, 112, 113, 114, 115, 116, 117, 118, 119, 120, 121, 122] := by kernel_rfl
  rw [e]
  obtain ⟨n, rfl⟩ := Int.eq_ofNat_of_zero_le h0
  have hn : n < 26 := by omega
  exact (show ∀ n, n < 26 → atI [97, 98, 99, 100, 101, 102, 103, 104, 105, 106, 107, 108, 109, 110, 111, 112, 113, 114, 115, 116, 117, 118, 119, 120, 121, 122] ((n : Nat) : Int) = some (97 + n) by decide) n hn
/-! ### _law_name -/
def spLN : Sp := fun vs H Q E => ∃ (c : Int) (k : Nat), vs = [.int c, .int (k : Int)] ∧ Q (.str (strOf (nameC c k))) H
theorem f__law_name (W : Wd) (ok : WdOk W) : FnP W.P W.w W.K W.mg W.base 1 (He.fAd W.K d__law_name.at_) spLN := by
  obtain ⟨fd, F⟩ := ok.def_ 114 (d := d__law_name) rfl
  refine fnP (W := W) (N := ["cell", "k", "body", "at"]) (ps := ["cell", "k"]) (d := d__law_name) (k := 0) F (C8.fnScope_by (by kernel_rfl)) (F.bindsN fun kV doc pm an cdv ct us hl => by
    match us, hl with
    | [_, _], _ => rfl) (fun vs H Q E h => by obtain ⟨_, _, rfl, _⟩ := h; rfl) fun cdv A outer s H E cx => ⟨_, pss_cons (ps_set (i := 2) cx.nd rfl (.inl rfl) (pe_op op_signs (pe_ix ix_str pe_str (pe_op op_mod (pe_op op_fdiv (pe_var (i := 0) rfl (.inl rfl)) pe_int) pe_int) (fun _ _ => rfl)) (pe_op op_mod (pe_var (i := 0) rfl (.inl rfl)) pe_int)) rfl (.inr rfl))
      (pss_cons (ps_set (i := 3) cx.nd rfl (.inl rfl) (pe_op op_mod (pe_op op_fdiv (pe_var (i := 0) rfl (.inl rfl)) pe_int) (pe_op op_add (pe_callB call_len_str rfl (fr_len ok) rfl (pa_cons (pe_var (i := 2) rfl (.inl rfl)) pa_nil rfl) (by decide) (by decide) rfl rfl) pe_int)) rfl (.inr rfl))
      (pss_one (ps_ret (pe_op op_add_str (pe_op op_add_str (pe_slice sl_str (pe_var (i := 2) rfl (.inl rfl)) po_none (po_some (pe_var (i := 3) rfl (.inl rfl)))) (pe_ix ix_str pe_str (pe_op op_mod (pe_op op_add (pe_op op_fdiv (pe_var (i := 0) rfl (.inl rfl)) pe_int) (pe_var (i := 1) rfl (.inl rfl))) pe_int) (fun _ _ => rfl))) (pe_slice sl_str (pe_var (i := 2) rfl (.inl rfl)) (po_some (pe_var (i := 3) rfl (.inl rfl))) po_none))))), fun vs Q hs => ?_⟩
  obtain ⟨c, k, rfl, q⟩ := hs
  have m12 := Int.emod_nonneg c (show (12 : Int) ≠ 0 by decide)
  have l12 := Int.emod_lt_of_pos c (show (0 : Int) < 12 by decide)
  have n12 : ((c % 12).toNat : Int) = c % 12 := Int.toNat_of_nonneg m12
  have a0 := Int.emod_nonneg (c / 312) (show (((c % 12).toNat + 1 : Nat) : Int) ≠ 0 by omega)
  have a1 := Int.emod_lt_of_pos (c / 312) (show (0 : Int) < ((c % 12).toNat + 1 : Nat) by omega)
  have lb : (strOf (List.replicate (c % 12).toNat (97 + (c / 12 % 26).toNat))).length = (c % 12).toNat := by rw [strOf_len, List.length_replicate]
  have hb := nameC_len c k
  generalize hbd : List.replicate (c % 12).toNat (97 + (c / 12 % 26).toNat) = bd at lb
  refine ⟨_, rfl, c, 12, rfl, rfl, ⟨by decide, by decide⟩, c / 12, 26, rfl, rfl, (show (0 : Int) < 26 by decide), letters, c / 12 % 26, 97 + (c / 12 % 26).toNat, rfl, rfl, by decide, letters_at _ (Int.emod_nonneg _ (by decide)) (Int.emod_lt_of_pos _ (by decide)), ?_⟩
  refine ⟨_, rfl, c, 12, rfl, rfl, (show (0 : Int) < 12 by decide), 97 + (c / 12 % 26).toNat, (c % 12).toNat, rfl, by rw [n12], by omega, ?_⟩
  rw [hbd]
  refine ⟨_, rfl, c, 312, rfl, rfl, ⟨by decide, by decide⟩, _, rfl, strOf bd, rfl, mostLine (by rw [lb]; omega), ?_⟩
  rw [lb]
  refine ⟨((c % 12).toNat : Int), 1, rfl, rfl, c / 312, ((c % 12).toNat : Int) + 1, rfl, rfl, by omega, ?_⟩
  have ea : ((c % 12).toNat : Int) + 1 = (((c % 12).toNat + 1 : Nat) : Int) := by omega
  rw [ea]
  generalize hat : c / 312 % (((c % 12).toNat + 1 : Nat) : Int) = at' at a0 a1
  have eat : at' = ((at'.toNat : Nat) : Int) := (Int.toNat_of_nonneg a0).symm
  have d0 := Int.emod_nonneg (c / 3744 + k) (show (26 : Int) ≠ 0 by decide)
  have d1 := Int.emod_lt_of_pos (c / 3744 + k) (show (0 : Int) < 26 by decide)
  refine ⟨_, rfl, _, rfl, at', congrArg V.int hat, strOf bd, rfl, by rw [lb, sizeLine_eq]; omega, ?_⟩
  refine ⟨_, rfl, c, 3744, rfl, rfl, ⟨by decide, by decide⟩, _, rfl, c / 3744, k, rfl, rfl, c / 3744 + k, 26, rfl, rfl, (show (0 : Int) < 26 by decide), letters, _, 97 + ((c / 3744 + k) % 26).toNat, rfl, rfl, by decide, letters_at _ d0 d1, ?_⟩
  have e1 : cutS (strOf bd) none (some at') = strOf (bd.take at'.toNat) := by rw [eat, Int.toNat_natCast, cutS_take]; simp [strOf]
  have e2 : cutS (strOf bd) (some at') none = strOf (bd.drop at'.toNat) := by rw [eat, Int.toNat_natCast, cutS_drop]; simp [strOf]
  have ll : bd.length = (c % 12).toNat := by rw [← hbd, List.length_replicate]
  rw [e1]
  refine ⟨_, _, rfl, rfl, by rw [strOf_len, List.length_take, sizeLine_eq]; show _ + 1 ≤ _; omega, ?_⟩
  refine ⟨_, rfl, _, rfl, at', congrArg V.int hat, strOf bd, rfl, by rw [lb, sizeLine_eq]; omega, ?_⟩
  rw [e2]
  refine ⟨_, _, rfl, rfl, ?_, ?_⟩
  · show (strOf (bd.take at'.toNat) ++ strOf [97 + ((c / 3744 + k) % 26).toNat]).length + (strOf (bd.drop at'.toNat)).length ≤ sizeLine
    rw [show (strOf (bd.take at'.toNat) ++ strOf [97 + ((c / 3744 + k) % 26).toNat]).length = (bd.take at'.toNat).length + 1 from by rw [← strOf_app, strOf_len, List.length_append]; rfl, strOf_len, List.length_take, List.length_drop, sizeLine_eq]
    omega
  · have en : nameC c k = bd.take at'.toNat ++ [97 + ((c / 3744 + k) % 26).toNat] ++ bd.drop at'.toNat := by
      unfold nameC
      rw [hbd, hat]
      simp
    rw [en, strOf_app, strOf_app] at q
    exact q
end Ck
-- LB
set_option Elab.async false
set_option linter.all false
set_option maxRecDepth 100000
set_option maxHeartbeats 1000000
set_option autoImplicit false
namespace Ck
open PySem PySem.Spec PyProof.Rows L2 Lk

/-! ### _law_cell_at -/
def spCA (K : PySem.W.Frag) : Sp := fun vs H Q E => ∃ (a : Addr) (k : Nat) (ns : List Int), vs = [.ref a, .int (k : Int)] ∧ SqL K H a (ns.map V.int) ∧ Q (.int (ns.getD k 0)) H
theorem f__law_cell_at (W : Wd) (ok : WdOk W) : FnP W.P W.w W.K W.mg W.base 1 (He.fAd W.K d__law_cell_at.at_) (spCA W.K) := by
  obtain ⟨fd, F⟩ := ok.def_ 113 (d := d__law_cell_at) rfl
  refine fnP (W := W) (N := ["script", "k"]) (ps := ["script", "k"]) (d := d__law_cell_at) (k := 0) F (C8.fnScope_by (by kernel_rfl)) (F.bindsN fun kV doc pm an cdv ct us hl => by
    match us, hl with
    | [_, _], _ => rfl) (fun vs H Q E h => by obtain ⟨_, _, _, rfl, _⟩ := h; rfl) fun cdv A outer s H E cx => ⟨_, pss_cons (ps_if (pt_cmpR op_lt (pe_var (i := 1) rfl (.inl rfl)) (pe_callB call_len rfl (fr_len ok) rfl (pa_cons (pe_var (i := 0) rfl (.inl rfl)) pa_nil rfl) (by decide) (by decide) rfl rfl) (nomark _)) (pss_one (ps_ret (pe_ix ix_list (pe_var (i := 0) rfl (.inl rfl)) (pe_var (i := 1) rfl (.inl rfl)) (fun _ _ => rfl)))) pss_nil) (pss_one (ps_ret pe_int)), fun vs Q hs => ?_⟩
  obtain ⟨a, k, ns, rfl, sq, q⟩ := hs
  refine ⟨_, rfl, _, rfl, .ref a, ns.length, rfl, .inl ⟨_, sq, (List.length_map _).symm⟩, (k : Int), (ns.length : Int), rfl, rfl, _, rfl, ?_⟩
  by_cases h : k < ns.length
  · rw [decide_eq_true (show (k : Int) < (ns.length : Int) by omega)]
    refine ite_tt ⟨_, rfl, _, rfl, a, _, (k : Int), .int (ns.getD k 0), rfl, rfl, sq, ?_, q⟩
    unfold atI ixN
    rw [if_pos (by omega), List.length_map, if_pos (by omega)]
    show (ns.map V.int)[(k : Int).toNat]? = _
    rw [Int.toNat_natCast, List.getElem?_map, List.getD_eq_getElem?_getD, List.getElem?_eq_getElem h]
    rfl
  · rw [decide_eq_false (show ¬ (k : Int) < (ns.length : Int) by omega)]
    refine ite_ff ?_
    rw [List.getD_eq_getElem?_getD, List.getElem?_eq_none (by omega)] at q
    exact q
end Ck
-- SF0
set_option Elab.async false
set_option linter.all false
set_option maxRecDepth 100000
set_option maxHeartbeats 4000000
set_option autoImplicit false
namespace Ck
open PySem PySem.Spec PyProof.Rows L2 Lk
theorem f_Book_ways (W : Wd) (ok : WdOk W) : FnC clos W.D W.P W.w W.K W.mg W.base 1 (He.fAd W.K d_Book_ways.at_) 1 c_Book_ways [] [] := by
  obtain ⟨fd, F⟩ := ok.def_ 0 (d := d_Book_ways) rfl
  refine fnC (W := W) (N := [(PySem.Str.ofString "self")]) (ps := [(PySem.Str.ofString "self")]) (d := d_Book_ways) (k := 0) F (C8.fnScope_by (by kernel_rfl)) rfl rfl (by decide) (fun _ => F.bindsN fun kV doc pm an cdv ct us hl => by
    match us, hl with
    | [_], _ => rfl) .nil fun cdv A outer s H E cx => ?_
  exact (sss_cons (ss_ret (se_list (se_attr ok.dt ok.kk (by decide) (fld_courses ok) (se_var (pe_var rfl (.inl rfl))) rfl) ⟨rfl, fr_list ok⟩ rfl))
  sss_nil)
theorem f_Book_state (W : Wd) (ok : WdOk W) : FnC clos W.D W.P W.w W.K W.mg W.base 1 (He.fAd W.K d_Book_state.at_) 1 c_Book_state [] [] := by
  obtain ⟨fd, F⟩ := ok.def_ 1 (d := d_Book_state) rfl
  refine fnC (W := W) (N := [(PySem.Str.ofString "self")]) (ps := [(PySem.Str.ofString "self")]) (d := d_Book_state) (k := 0) F (C8.fnScope_by (by kernel_rfl)) rfl rfl (by decide) (fun _ => F.bindsN fun kV doc pm an cdv ct us hl => by
    match us, hl with
    | [_], _ => rfl) .nil fun cdv A outer s H E cx => ?_
  exact (sss_cons (ss_ret (se_attr ok.dt ok.kk (by decide) (fld_standing ok) (se_var (pe_var rfl (.inl rfl))) rfl))
  sss_nil)
theorem f_boats_at (W : Wd) (ok : WdOk W) : FnC clos W.D W.P W.w W.K W.mg W.base 2 (He.fAd W.K d_boats_at.at_) 2 c_boats_at [] [] := by
  obtain ⟨fd, F⟩ := ok.def_ 2 (d := d_boats_at) rfl
  refine fnC (W := W) (N := [(PySem.Str.ofString "book"), (PySem.Str.ofString "k"), (PySem.Str.ofString "ways"), (PySem.Str.ofString "places"), (PySem.Str.ofString "found"), (PySem.Str.ofString "boat"), (PySem.Str.ofString "steps")]) (ps := [(PySem.Str.ofString "book"), (PySem.Str.ofString "k")]) (d := d_boats_at) (k := 1) F (C8.fnScope_by (by kernel_rfl)) rfl rfl (by decide) (fun _ => F.bindsN fun kV doc pm an cdv ct us hl => by
    match us, hl with
    | [_, _], _ => rfl) .nil fun cdv A outer s H E cx => ?_
  exact (sss_cons (ss_set cx rfl (.inl rfl) (se_meth0 cx.ex (f_Book_ways W ok) (by decide) (met_Book_ways ok) (se_var (pe_var rfl (.inl rfl))) rfl) rfl (.inr rfl))
  (sss_cons (ss_set cx rfl (.inl rfl) (se_idx ok.dt cx.ex.hu (se_meth0 cx.ex (f_Book_state W ok) (by decide) (met_Book_state ok) (se_var (pe_var rfl (.inl rfl))) rfl) (se_int rfl) (fun _ _ => rfl)) rfl (.inr rfl))
  (sss_cons (ss_set cx rfl (.inl rfl) (se_lst sl_nil) rfl (.inr rfl))
  (sss_cons (ss_for cx (si_r1 (se_len ok.dt (se_var (pe_var rfl (.inl rfl))) ⟨rfl, fr_len ok⟩ rfl) ⟨rfl, fr_range ok⟩ rfl) (pg_name cx.ex.nd rfl (.inl rfl) (.inr rfl)) (sss_cons (ss_set cx rfl (.inl rfl) (se_idx ok.dt cx.ex.hu (se_idx ok.dt cx.ex.hu (se_var (pe_var rfl (.inl rfl))) (se_var (pe_var rfl (.inl rfl))) (fun _ _ => rfl)) (se_int rfl) (fun _ _ => rfl)) rfl (.inr rfl))
  (sss_cons (ss_iff (st_of (sw_and (st_cmp op_lt (v_lt ok.dt) (se_idx ok.dt cx.ex.hu (se_var (pe_var rfl (.inl rfl))) (se_var (pe_var rfl (.inl rfl))) (fun _ _ => rfl)) (se_len ok.dt (se_var (pe_var rfl (.inl rfl))) ⟨rfl, fr_len ok⟩ rfl) (nomark _)) (sw_and1 (st_cmp (op_eqAll ok.dt cx.ex.hu) (v_eq ok.dt) (se_idx ok.dt cx.ex.hu (se_idx ok.dt cx.ex.hu (se_var (pe_var rfl (.inl rfl))) (se_idx ok.dt cx.ex.hu (se_var (pe_var rfl (.inl rfl))) (se_var (pe_var rfl (.inl rfl))) (fun _ _ => rfl)) (fun _ _ => rfl)) (se_int rfl) (fun _ _ => rfl)) (se_var (pe_var rfl (.inl rfl))) (nomark _))))) (sss_cons (ss_app (se_var (pe_var rfl (.inl rfl))) (se_var (pe_var rfl (.inl rfl))) rfl rfl rfl rfl rfl)
  sss_nil) sss_nil)
  sss_nil)) (fun _ => rfl))
  (sss_cons (ss_ret (se_var (pe_var rfl (.inl rfl))))
  sss_nil)))))
theorem f_Book_canal (W : Wd) (ok : WdOk W) : FnC clos W.D W.P W.w W.K W.mg W.base 1 (He.fAd W.K d_Book_canal.at_) 1 c_Book_canal [] [] := by
  obtain ⟨fd, F⟩ := ok.def_ 3 (d := d_Book_canal) rfl
  refine fnC (W := W) (N := [(PySem.Str.ofString "self")]) (ps := [(PySem.Str.ofString "self")]) (d := d_Book_canal) (k := 0) F (C8.fnScope_by (by kernel_rfl)) rfl rfl (by decide) (fun _ => F.bindsN fun kV doc pm an cdv ct us hl => by
    match us, hl with
    | [_], _ => rfl) .nil fun cdv A outer s H E cx => ?_
  exact (sss_cons (ss_ret (se_attr ok.dt ok.kk (by decide) (fld_house ok) (se_var (pe_var rfl (.inl rfl))) rfl))
  sss_nil)
theorem f_place_of (W : Wd) (ok : WdOk W) : FnC clos W.D W.P W.w W.K W.mg W.base 1 (He.fAd W.K d_place_of.at_) 2 c_place_of [] [] := by
  obtain ⟨fd, F⟩ := ok.def_ 4 (d := d_place_of) rfl
  refine fnC (W := W) (N := [(PySem.Str.ofString "things"), (PySem.Str.ofString "name"), (PySem.Str.ofString "k"), (PySem.Str.ofString "thing")]) (ps := [(PySem.Str.ofString "things"), (PySem.Str.ofString "name")]) (d := d_place_of) (k := 0) F (C8.fnScope_by (by kernel_rfl)) rfl rfl (by decide) (fun _ => F.bindsN fun kV doc pm an cdv ct us hl => by
    match us, hl with
    | [_, _], _ => rfl) .nil fun cdv A outer s H E cx => ?_
  exact (sss_cons (ss_for cx (si_enum (se_var (pe_var rfl (.inl rfl))) ⟨rfl, fr_enumerate ok⟩ rfl) (pg_tup cx.ex.calm (pgs_cons (pg_name cx.ex.nd rfl (.inl rfl) (.inr rfl)) (pgs_cons (pg_name cx.ex.nd rfl (.inl rfl) (.inr rfl)) pgs_nil rfl) rfl) rfl rfl) (sss_cons (ss_iff (st_cmp (op_eqAll ok.dt cx.ex.hu) (v_eq ok.dt) (se_attr ok.dt ok.kk (by decide) (fld_name ok) (se_var (pe_var rfl (.inl rfl))) rfl) (se_var (pe_var rfl (.inl rfl))) (nomark _)) (sss_cons (ss_ret (se_var (pe_var rfl (.inl rfl))))
  sss_nil) sss_nil)
  sss_nil) (fun _ => rfl))
  (sss_cons (ss_ret (se_neg (se_int rfl)))
  sss_nil))
theorem f_Canal_lock_at (W : Wd) (ok : WdOk W) : FnC clos W.D W.P W.w W.K W.mg W.base 2 (He.fAd W.K d_Canal_lock_at.at_) 2 c_Canal_lock_at [] [] := by
  obtain ⟨fd, F⟩ := ok.def_ 5 (d := d_Canal_lock_at) rfl
  refine fnC (W := W) (N := [(PySem.Str.ofString "self"), (PySem.Str.ofString "name"), (PySem.Str.ofString "found")]) (ps := [(PySem.Str.ofString "self"), (PySem.Str.ofString "name")]) (d := d_Canal_lock_at) (k := 1) F (C8.fnScope_by (by kernel_rfl)) rfl rfl (by decide) (fun _ => F.bindsN fun kV doc pm an cdv ct us hl => by
    match us, hl with
    | [_, _], _ => rfl) .nil fun cdv A outer s H E cx => ?_
  exact (sss_cons (ss_set cx rfl (.inl rfl) (se_call cx.ex (f_place_of W ok) (by decide) rfl (glo_place_of ok) (ok.kp 4 rfl) (sl_cons (se_attr ok.dt ok.kk (by decide) (fld_locks ok) (se_var (pe_var rfl (.inl rfl))) rfl) (sl_cons (se_var (pe_var rfl (.inl rfl))) sl_nil stE_Name) stE_Attribute) rfl (by decide) rfl rfl) rfl (.inr rfl))
  (sss_cons (ss_iff (st_cmp op_lt (v_lt ok.dt) (se_var (pe_var rfl (.inl rfl))) (se_int rfl) (nomark _)) (sss_cons (ss_raise cx (raise_Unknown ok rfl rfl))
  sss_nil) sss_nil)
  (sss_cons (ss_ret (se_var (pe_var rfl (.inl rfl))))
  sss_nil)))
theorem f_Book_names (W : Wd) (ok : WdOk W) : FnC clos W.D W.P W.w W.K W.mg W.base 1 (He.fAd W.K d_Book_names.at_) 1 c_Book_names [] [] := by
  obtain ⟨fd, F⟩ := ok.def_ 6 (d := d_Book_names) rfl
  refine fnC (W := W) (N := [(PySem.Str.ofString "self")]) (ps := [(PySem.Str.ofString "self")]) (d := d_Book_names) (k := 0) F (C8.fnScope_by (by kernel_rfl)) rfl rfl (by decide) (fun _ => F.bindsN fun kV doc pm an cdv ct us hl => by
    match us, hl with
    | [_], _ => rfl) .nil fun cdv A outer s H E cx => ?_
  exact (sss_cons (ss_ret (se_list (se_attr ok.dt ok.kk (by decide) (fld_called ok) (se_var (pe_var rfl (.inl rfl))) rfl) ⟨rfl, fr_list ok⟩ rfl))
  sss_nil)
theorem f_advice (W : Wd) (ok : WdOk W) : FnC clos W.D W.P W.w W.K W.mg W.base 3 (He.fAd W.K d_advice.at_) 2 c_advice [] [] := by
  obtain ⟨fd, F⟩ := ok.def_ 7 (d := d_advice) rfl
  refine fnC (W := W) (N := [(PySem.Str.ofString "book"), (PySem.Str.ofString "name"), (PySem.Str.ofString "canal"), (PySem.Str.ofString "k"), (PySem.Str.ofString "boats"), (PySem.Str.ofString "state"), (PySem.Str.ofString "ways"), (PySem.Str.ofString "row"), (PySem.Str.ofString "boat"), (PySem.Str.ofString "names"), (PySem.Str.ofString "at")]) (ps := [(PySem.Str.ofString "book"), (PySem.Str.ofString "name")]) (d := d_advice) (k := 2) F (C8.fnScope_by (by kernel_rfl)) rfl rfl (by decide) (fun _ => F.bindsN fun kV doc pm an cdv ct us hl => by
    match us, hl with
    | [_, _], _ => rfl) .nil fun cdv A outer s H E cx => ?_
  exact (sss_cons (ss_set cx rfl (.inl rfl) (se_meth0 cx.ex (f_Book_canal W ok) (by decide) (met_Book_canal ok) (se_var (pe_var rfl (.inl rfl))) rfl) rfl (.inr rfl))
  (sss_cons (ss_set cx rfl (.inl rfl) (se_meth cx.ex (f_Canal_lock_at W ok) (by decide) (met_Canal_lock_at ok) (se_var (pe_var rfl (.inl rfl))) (sl_cons (se_var (pe_var rfl (.inl rfl))) sl_nil stE_Name) rfl rfl rfl rfl) rfl (.inr rfl))
  (sss_cons (ss_set cx rfl (.inr rfl) (se_call cx.ex (f_boats_at W ok) (by decide) rfl (glo_boats_at ok) (ok.kp 2 rfl) (sl_cons (se_var (pe_var rfl (.inl rfl))) (sl_cons (se_var (pe_var rfl (.inl rfl))) sl_nil stE_Name) stE_Name) rfl (by decide) rfl rfl) rfl (.inl rfl))
  (sss_cons (ss_set cx rfl (.inr rfl) (se_meth0 cx.ex (f_Book_state W ok) (by decide) (met_Book_state ok) (se_var (pe_var rfl (.inl rfl))) rfl) rfl (.inl rfl))
  (sss_cons (ss_set cx rfl (.inr rfl) (se_meth0 cx.ex (f_Book_ways W ok) (by decide) (met_Book_ways ok) (se_var (pe_var rfl (.inl rfl))) rfl) rfl (.inl rfl))
  (sss_cons (ss_setLc cx rfl rfl (sw_true rfl rfl rfl (by kernel_rfl)) (ow := [("boat", 8)]) (si_lst (se_var (pe_var rfl (.inr (.inl rfl))))) (blkOk_by (by kernel_rfl)) rfl (by decide) (fun _ _ _ _ _ => (pg_name cx.ex.blk.nd rfl (.inl rfl) (.inr rfl))) True.intro (fun _ _ _ _ _ => (se_idx ok.dt cx.ex.blk.hu (se_idx ok.dt cx.ex.blk.hu (se_idx ok.dt cx.ex.blk.hu (se_idx ok.dt cx.ex.blk.hu (se_var (pe_var rfl (.inr (.inl rfl)))) (se_var (pe_var rfl (.inl rfl))) (fun _ _ => rfl)) (se_int rfl) (fun _ _ => rfl)) (se_idx ok.dt cx.ex.blk.hu (se_idx ok.dt cx.ex.blk.hu (se_var (pe_var rfl (.inr (.inl rfl)))) (se_int rfl) (fun _ _ => rfl)) (se_var (pe_var rfl (.inl rfl))) (fun _ _ => rfl)) (fun _ _ => rfl)) (se_int rfl) (fun _ _ => rfl))) (fun _ => rfl))
  (sss_cons (ss_set cx rfl (.inr rfl) (se_meth0 cx.ex (f_Book_names W ok) (by decide) (met_Book_names ok) (se_var (pe_var rfl (.inl rfl))) rfl) rfl (.inl rfl))
  (sss_cons (ss_ret (se_comp cx.ex (ow := [("at", 10)]) (si_lst se_dead) (blkOk_by (by kernel_rfl)) rfl (by decide) (fun _ _ _ _ _ => (pg_name cx.ex.blk.nd rfl (.inl rfl) (.inr rfl))) True.intro (fun _ _ _ _ _ => (se_idx ok.dt cx.ex.blk.hu (se_var (pe_var rfl (.inr (.inl rfl)))) (se_idx ok.dt cx.ex.blk.hu (se_var (pe_var rfl (.inr (.inl rfl)))) (se_var (pe_var rfl (.inl rfl))) (fun _ _ => rfl)) (fun _ _ => rfl))) (fun _ => rfl)))
  sss_nil))))))))
theorem f_deed_shown (W : Wd) (ok : WdOk W) : FnC clos W.D W.P W.w W.K W.mg W.base 1 (He.fAd W.K d_deed_shown.at_) 3 c_deed_shown [] [] := by
  obtain ⟨fd, F⟩ := ok.def_ 8 (d := d_deed_shown) rfl
  refine fnC (W := W) (N := [(PySem.Str.ofString "canal"), (PySem.Str.ofString "names"), (PySem.Str.ofString "deed")]) (ps := [(PySem.Str.ofString "canal"), (PySem.Str.ofString "names"), (PySem.Str.ofString "deed")]) (d := d_deed_shown) (k := 0) F (C8.fnScope_by (by kernel_rfl)) rfl rfl (by decide) (fun _ => F.bindsN fun kV doc pm an cdv ct us hl => by
    match us, hl with
    | [_, _, _], _ => rfl) .nil fun cdv A outer s H E cx => ?_
  exact (sss_cons (ss_iff (st_cmp (op_eqAll ok.dt cx.ex.hu) (v_eq ok.dt) (se_idx ok.dt cx.ex.hu (se_var (pe_var rfl (.inl rfl))) (se_int rfl) (fun _ _ => rfl)) (se_str (cs := [112, 97, 115, 115]) (by kernel_rfl) (by kernel_rfl)) (nomark _)) (sss_cons (ss_ret (se_bin op_addAll (v_add ok.dt) (se_str (cs := [112, 97, 115, 115, 32]) (by kernel_rfl) (by kernel_rfl)) (se_idx ok.dt cx.ex.hu (se_var (pe_var rfl (.inl rfl))) (se_idx ok.dt cx.ex.hu (se_var (pe_var rfl (.inl rfl))) (se_int rfl) (fun _ _ => rfl)) (fun _ _ => rfl))))
  sss_nil) sss_nil)
  (sss_cons (ss_iff (st_cmp (op_eqAll ok.dt cx.ex.hu) (v_eq ok.dt) (se_idx ok.dt cx.ex.hu (se_var (pe_var rfl (.inl rfl))) (se_int rfl) (fun _ _ => rfl)) (se_str (cs := [108, 101, 116]) (by kernel_rfl) (by kernel_rfl)) (nomark _)) (sss_cons (ss_ret (se_bin op_addAll (v_add ok.dt) (se_str (cs := [108, 101, 116, 32]) (by kernel_rfl) (by kernel_rfl)) (se_attr ok.dt ok.kk (by decide) (fld_name ok) (se_idx ok.dt cx.ex.hu (se_attr ok.dt ok.kk (by decide) (fld_locks ok) (se_var (pe_var rfl (.inl rfl))) rfl) (se_idx ok.dt cx.ex.hu (se_var (pe_var rfl (.inl rfl))) (se_int rfl) (fun _ _ => rfl)) (fun _ _ => rfl)) rfl)))
  sss_nil) sss_nil)
  (sss_cons (ss_ret (se_str (cs := [110, 105, 103, 104, 116]) (by kernel_rfl) (by kernel_rfl)))
  sss_nil)))
theorem f_deeds_shown (W : Wd) (ok : WdOk W) : FnC clos W.D W.P W.w W.K W.mg W.base 2 (He.fAd W.K d_deeds_shown.at_) 3 c_deeds_shown [] [] := by
  obtain ⟨fd, F⟩ := ok.def_ 9 (d := d_deeds_shown) rfl
  refine fnC (W := W) (N := [(PySem.Str.ofString "canal"), (PySem.Str.ofString "names"), (PySem.Str.ofString "row"), (PySem.Str.ofString "deed")]) (ps := [(PySem.Str.ofString "canal"), (PySem.Str.ofString "names"), (PySem.Str.ofString "row")]) (d := d_deeds_shown) (k := 1) F (C8.fnScope_by (by kernel_rfl)) rfl rfl (by decide) (fun _ => F.bindsN fun kV doc pm an cdv ct us hl => by
    match us, hl with
    | [_, _, _], _ => rfl) .nil fun cdv A outer s H E cx => ?_
  exact (sss_cons (ss_ret (se_join ok.dt (se_comp cx.ex (ow := [("deed", 3)]) (si_lst (se_var (pe_var rfl (.inl rfl)))) (blkOk_by (by kernel_rfl)) rfl (by decide) (fun _ _ _ _ _ => (pg_name cx.ex.blk.nd rfl (.inl rfl) (.inr rfl))) True.intro (fun _ _ _ _ _ => (se_call cx.ex.blk (f_deed_shown W ok) (by decide) rfl (glo_deed_shown ok) (ok.kp 8 rfl) (sl_cons (se_var (pe_var rfl (.inr (.inl rfl)))) (sl_cons (se_var (pe_var rfl (.inr (.inl rfl)))) (sl_cons (se_var (pe_var rfl (.inl rfl))) sl_nil stE_Name) stE_Name) stE_Name) rfl (by decide) rfl rfl)) (fun _ => rfl)) (by kernel_rfl) rfl rfl rfl))
  sss_nil)
theorem f_worded (W : Wd) (ok : WdOk W) : FnC clos W.D W.P W.w W.K W.mg W.base 1 (He.fAd W.K d_worded.at_) 2 c_worded [] [] := by
  obtain ⟨fd, F⟩ := ok.def_ 10 (d := d_worded) rfl
  refine fnC (W := W) (N := [(PySem.Str.ofString "word"), (PySem.Str.ofString "text")]) (ps := [(PySem.Str.ofString "word"), (PySem.Str.ofString "text")]) (d := d_worded) (k := 0) F (C8.fnScope_by (by kernel_rfl)) rfl rfl (by decide) (fun _ => F.bindsN fun kV doc pm an cdv ct us hl => by
    match us, hl with
    | [_, _], _ => rfl) .nil fun cdv A outer s H E cx => ?_
  exact (sss_cons (ss_iff (st_cmp (op_eqAll ok.dt cx.ex.hu) (v_eq ok.dt) (se_var (pe_var rfl (.inl rfl))) (se_str (cs := []) (by kernel_rfl) (by kernel_rfl)) (nomark _)) (sss_cons (ss_ret (se_var (pe_var rfl (.inl rfl))))
  sss_nil) sss_nil)
  (sss_cons (ss_ret (se_bin op_addAll (v_add ok.dt) (se_bin op_addAll (v_add ok.dt) (se_var (pe_var rfl (.inl rfl))) (se_str (cs := [32]) (by kernel_rfl) (by kernel_rfl))) (se_var (pe_var rfl (.inl rfl)))))
  sss_nil))
theorem f_answer_shown (W : Wd) (ok : WdOk W) : FnC clos W.D W.P W.w W.K W.mg W.base 3 (He.fAd W.K d_answer_shown.at_) 3 c_answer_shown [] [] := by
  obtain ⟨fd, F⟩ := ok.def_ 11 (d := d_answer_shown) rfl
  refine fnC (W := W) (N := [(PySem.Str.ofString "canal"), (PySem.Str.ofString "names"), (PySem.Str.ofString "answer")]) (ps := [(PySem.Str.ofString "canal"), (PySem.Str.ofString "names"), (PySem.Str.ofString "answer")]) (d := d_answer_shown) (k := 2) F (C8.fnScope_by (by kernel_rfl)) rfl rfl (by decide) (fun _ => F.bindsN fun kV doc pm an cdv ct us hl => by
    match us, hl with
    | [_, _, _], _ => rfl) .nil fun cdv A outer s H E cx => ?_
  exact (sss_cons (ss_iff (st_cmp (op_eqAll ok.dt cx.ex.hu) (v_eq ok.dt) (se_idx ok.dt cx.ex.hu (se_var (pe_var rfl (.inl rfl))) (se_int rfl) (fun _ _ => rfl)) (se_str (cs := [121, 101, 115]) (by kernel_rfl) (by kernel_rfl)) (nomark _)) (sss_cons (ss_ret (se_call cx.ex (f_worded W ok) (by decide) rfl (glo_worded ok) (ok.kp 10 rfl) (sl_cons (se_str (cs := [121, 101, 115]) (by kernel_rfl) (by kernel_rfl)) (sl_cons (se_call cx.ex (f_deeds_shown W ok) (by decide) rfl (glo_deeds_shown ok) (ok.kp 9 rfl) (sl_cons (se_var (pe_var rfl (.inl rfl))) (sl_cons (se_var (pe_var rfl (.inl rfl))) (sl_cons (se_idx ok.dt cx.ex.hu (se_var (pe_var rfl (.inl rfl))) (se_int rfl) (fun _ _ => rfl)) sl_nil stE_Subscript) stE_Name) stE_Name) rfl (by decide) rfl rfl) sl_nil stE_Call) stE_Constant) rfl (by decide) rfl rfl))
  sss_nil) sss_nil)
  (sss_cons (ss_iff (st_cmp (op_eqAll ok.dt cx.ex.hu) (v_eq ok.dt) (se_idx ok.dt cx.ex.hu (se_var (pe_var rfl (.inl rfl))) (se_int rfl) (fun _ _ => rfl)) (se_str (cs := [110, 111]) (by kernel_rfl) (by kernel_rfl)) (nomark _)) (sss_cons (ss_ret (se_bin op_addAll (v_add ok.dt) (se_str (cs := [110, 111, 32]) (by kernel_rfl) (by kernel_rfl)) (se_tostr ok.dt se_dead ⟨rfl, fr_str ok⟩ rfl)))
  sss_nil) sss_nil)
  (sss_cons (ss_ret (se_bin op_addAll (v_add ok.dt) (se_str (cs := [110, 111, 116, 32]) (by kernel_rfl) (by kernel_rfl)) (se_idx ok.dt cx.ex.hu (se_var (pe_var rfl (.inl rfl))) (se_int rfl) (fun _ _ => rfl))))
  sss_nil)))
end Ck
-- SF1
set_option Elab.async false
set_option linter.all false
set_option maxRecDepth 100000
set_option maxHeartbeats 4000000
set_option autoImplicit false
namespace Ck
open PySem PySem.Spec PyProof.Rows L2 Lk
theorem f_parted (W : Wd) (ok : WdOk W) : FnC clos W.D W.P W.w W.K W.mg W.base 1 (He.fAd W.K d_parted.at_) 1 c_parted [] [] := by
  obtain ⟨fd, F⟩ := ok.def_ 12 (d := d_parted) rfl
  refine fnC (W := W) (N := [(PySem.Str.ofString "text"), (PySem.Str.ofString "ahead"), (PySem.Str.ofString "asked"), (PySem.Str.ofString "row")]) (ps := [(PySem.Str.ofString "text")]) (d := d_parted) (k := 0) F (C8.fnScope_by (by kernel_rfl)) rfl rfl (by decide) (fun _ => F.bindsN fun kV doc pm an cdv ct us hl => by
    match us, hl with
    | [_], _ => rfl) .nil fun cdv A outer s H E cx => ?_
  exact (sss_cons (ss_set cx rfl (.inl rfl) (se_str (cs := []) (by kernel_rfl) (by kernel_rfl)) rfl (.inr rfl))
  (sss_cons (ss_set cx rfl (.inl rfl) (se_lst sl_nil) rfl (.inr rfl))
  (sss_cons (ss_for cx (si_lst (se_split ok.dt (se_var (pe_var rfl (.inl rfl))) (by kernel_rfl) rfl rfl rfl)) (pg_name cx.ex.nd rfl (.inl rfl) (.inr rfl)) (sss_cons (ss_iff (st_cmp (op_neAll ok.dt cx.ex.hu) (v_ne ok.dt) (se_var (pe_var rfl (.inl rfl))) (se_str (cs := []) (by kernel_rfl) (by kernel_rfl)) (nomark _)) (sss_cons (ss_iff (st_of (sw_or (st_tru (se_var (pe_var rfl (.inl rfl))) (fun _ => rfl)) (sw_or1 (st_cmp (op_eqAll ok.dt cx.ex.hu) (v_eq ok.dt) (se_idx ok.dt cx.ex.hu (se_split ok.dt (se_var (pe_var rfl (.inl rfl))) (by kernel_rfl) rfl rfl rfl) (se_int rfl) (fun _ _ => rfl)) (se_str (cs := [107, 101, 101, 112, 101, 114]) (by kernel_rfl) (by kernel_rfl)) (nomark _))))) (sss_cons (ss_app (se_var (pe_var rfl (.inl rfl))) (se_var (pe_var rfl (.inl rfl))) rfl rfl rfl rfl rfl)
  sss_nil) (sss_cons (ss_set cx rfl (.inl rfl) (se_bin op_addAll (v_add ok.dt) (se_bin op_addAll (v_add ok.dt) (se_var (pe_var rfl (.inl rfl))) (se_var (pe_var rfl (.inl rfl)))) (se_str (cs := [10]) (by kernel_rfl) (by kernel_rfl))) rfl (.inr rfl))
  sss_nil))
  sss_nil) sss_nil)
  sss_nil) (fun _ => rfl))
  (sss_cons (ss_ret (se_tup (sl_cons (se_var (pe_var rfl (.inl rfl))) (sl_cons (se_var (pe_var rfl (.inl rfl))) sl_nil stE_Name) stE_Name)))
  sss_nil))))
theorem f_most_of (W : Wd) (ok : WdOk W) : FnC clos W.D W.P W.w W.K W.mg W.base 4 (He.fAd W.K d_most_of.at_) 1 c_most_of [] [] := by
  obtain ⟨fd, F⟩ := ok.def_ 13 (d := d_most_of) rfl
  refine fnC (W := W) (N := [(PySem.Str.ofString "row"), (PySem.Str.ofString "words"), (PySem.Str.ofString "most")]) (ps := [(PySem.Str.ofString "row")]) (d := d_most_of) (k := 3) F (C8.fnScope_by (by kernel_rfl)) rfl rfl (by decide) (fun _ => F.bindsN fun kV doc pm an cdv ct us hl => by
    match us, hl with
    | [_], _ => rfl) .nil fun cdv A outer s H E cx => ?_
  exact (sss_cons (ss_set cx rfl (.inl rfl) (se_split ok.dt (se_var (pe_var rfl (.inl rfl))) (by kernel_rfl) rfl rfl rfl) rfl (.inr rfl))
  (sss_cons (ss_iff (st_cmp (op_eqAll ok.dt cx.ex.hu) (v_eq ok.dt) (se_var (pe_var rfl (.inl rfl))) (se_lst (sl_cons (se_str (cs := [107, 101, 101, 112, 101, 114]) (by kernel_rfl) (by kernel_rfl)) sl_nil stE_Constant)) (nomark _)) (sss_cons (ss_ret (se_glob rfl (int_USUAL ok) (by decide)))
  sss_nil) sss_nil)
  (sss_cons (ss_iff (st_of (sw_or (st_cmp (op_neAll ok.dt cx.ex.hu) (v_ne ok.dt) (se_len ok.dt (se_var (pe_var rfl (.inl rfl))) ⟨rfl, fr_len ok⟩ rfl) (se_int rfl) (nomark _)) (sw_or1 (st_cmp (op_neAll ok.dt cx.ex.hu) (v_ne ok.dt) (se_idx ok.dt cx.ex.hu (se_var (pe_var rfl (.inl rfl))) (se_int rfl) (fun _ _ => rfl)) (se_str (cs := [107, 101, 101, 112, 101, 114]) (by kernel_rfl) (by kernel_rfl)) (nomark _))))) (sss_cons (ss_raise cx (raise_BadRow ok rfl rfl))
  sss_nil) sss_nil)
  (sss_cons (ss_set cx rfl (.inl rfl) (se_numof (x := "number_of") ok.dt cx.ex (f_number_of W ok) (by decide) rfl (glo_number_of ok) (ok.kp 111 rfl) (se_idx ok.dt cx.ex.hu (se_var (pe_var rfl (.inl rfl))) (se_int rfl) (fun _ _ => rfl)) rfl (by decide)) rfl (.inr rfl))
  (sss_cons (ss_iff (st_of (sw_or (st_cmp op_lt (v_lt ok.dt) (se_var (pe_var rfl (.inl rfl))) (se_int rfl) (nomark _)) (sw_or1 (st_cmp op_gt (v_gt ok.dt) (se_var (pe_var rfl (.inl rfl))) (se_glob rfl (int_GREATEST ok) (by decide)) (nomark _))))) (sss_cons (ss_raise cx (raise_BadRow ok rfl rfl))
  sss_nil) sss_nil)
  (sss_cons (ss_ret (se_var (pe_var rfl (.inl rfl))))
  sss_nil))))))
theorem f_poured_all (W : Wd) (ok : WdOk W) : FnC clos W.D W.P W.w W.K W.mg W.base 1 (He.fAd W.K d_poured_all.at_) 2 c_poured_all [] [] := by
  obtain ⟨fd, F⟩ := ok.def_ 14 (d := d_poured_all) rfl
  refine fnC (W := W) (N := [(PySem.Str.ofString "waters"), (PySem.Str.ofString "pours"), (PySem.Str.ofString "held"), (PySem.Str.ofString "source"), (PySem.Str.ofString "target"), (PySem.Str.ofString "amount")]) (ps := [(PySem.Str.ofString "waters"), (PySem.Str.ofString "pours")]) (d := d_poured_all) (k := 0) F (C8.fnScope_by (by kernel_rfl)) rfl rfl (by decide) (fun _ => F.bindsN fun kV doc pm an cdv ct us hl => by
    match us, hl with
    | [_, _], _ => rfl) .nil fun cdv A outer s H E cx => ?_
  exact (sss_cons (ss_set cx rfl (.inl rfl) (se_list (se_var (pe_var rfl (.inl rfl))) ⟨rfl, fr_list ok⟩ rfl) rfl (.inr rfl))
  (sss_cons (ss_for cx (si_lst (se_var (pe_var rfl (.inl rfl)))) (pg_tup cx.ex.calm (pgs_cons (pg_name cx.ex.nd rfl (.inl rfl) (.inr rfl)) (pgs_cons (pg_name cx.ex.nd rfl (.inl rfl) (.inr rfl)) (pgs_cons (pg_name cx.ex.nd rfl (.inl rfl) (.inr rfl)) pgs_nil rfl) rfl) rfl) rfl rfl) (sss_cons (ss_setI ok.dt cx (se_var (pe_var rfl (.inl rfl))) (se_var (pe_var rfl (.inl rfl))) (se_bin op_sub v_sub (se_idx ok.dt cx.ex.hu (se_var (pe_var rfl (.inl rfl))) (se_var (pe_var rfl (.inl rfl))) (fun _ _ => rfl)) (se_var (pe_var rfl (.inl rfl)))) rfl rfl rfl (fun _ => rfl))
  (sss_cons (ss_setI ok.dt cx (se_var (pe_var rfl (.inl rfl))) (se_var (pe_var rfl (.inl rfl))) (se_bin op_addAll (v_add ok.dt) (se_idx ok.dt cx.ex.hu (se_var (pe_var rfl (.inl rfl))) (se_var (pe_var rfl (.inl rfl))) (fun _ _ => rfl)) (se_var (pe_var rfl (.inl rfl)))) rfl rfl rfl (fun _ => rfl))
  sss_nil)) (fun _ => rfl))
  (sss_cons (ss_ret (se_tuple (se_var (pe_var rfl (.inl rfl))) ⟨rfl, fr_tuple ok⟩ rfl))
  sss_nil)))
theorem f_passing (W : Wd) (ok : WdOk W) : FnC clos W.D W.P W.w W.K W.mg W.base 1 (He.fAd W.K d_passing.at_) 2 c_passing [] [] := by
  obtain ⟨fd, F⟩ := ok.def_ 15 (d := d_passing) rfl
  refine fnC (W := W) (N := [(PySem.Str.ofString "full"), (PySem.Str.ofString "way"), (PySem.Str.ofString "words")]) (ps := [(PySem.Str.ofString "full"), (PySem.Str.ofString "way")]) (d := d_passing) (k := 0) F (C8.fnScope_by (by kernel_rfl)) rfl rfl (by decide) (fun _ => F.bindsN fun kV doc pm an cdv ct us hl => by
    match us, hl with
    | [_, _], _ => rfl) .nil fun cdv A outer s H E cx => ?_
  exact (sss_cons (ss_set cx rfl (.inl rfl) (se_lst sl_nil) rfl (.inr rfl))
  (sss_cons (ss_iff (st_cmp (op_eqAll ok.dt cx.ex.hu) (v_eq ok.dt) (se_var (pe_var rfl (.inl rfl))) (se_str (cs := [117, 112]) (by kernel_rfl) (by kernel_rfl)) (nomark _)) (sss_cons (ss_iff (st_val (se_var (pe_var rfl (.inl rfl))) (fun _ => rfl)) (sss_cons (ss_app (se_var (pe_var rfl (.inl rfl))) (se_str (cs := [108, 101, 116]) (by kernel_rfl) (by kernel_rfl)) rfl rfl rfl rfl rfl)
  sss_nil) sss_nil)
  (sss_cons (ss_ret (se_bin op_addAll (v_add ok.dt) (se_var (pe_var rfl (.inl rfl))) (se_lst (sl_cons (se_str (cs := [111, 112, 101, 110, 32, 108, 111, 119]) (by kernel_rfl) (by kernel_rfl)) (sl_cons (se_str (cs := [105, 110, 32, 108, 111, 119]) (by kernel_rfl) (by kernel_rfl)) (sl_cons (se_str (cs := [115, 104, 117, 116, 32, 108, 111, 119]) (by kernel_rfl) (by kernel_rfl)) (sl_cons (se_str (cs := [102, 105, 108, 108]) (by kernel_rfl) (by kernel_rfl)) (sl_cons (se_str (cs := [111, 112, 101, 110, 32, 104, 105, 103, 104]) (by kernel_rfl) (by kernel_rfl)) (sl_cons (se_str (cs := [111, 117, 116, 32, 104, 105, 103, 104]) (by kernel_rfl) (by kernel_rfl)) (sl_cons (se_str (cs := [115, 104, 117, 116, 32, 104, 105, 103, 104]) (by kernel_rfl) (by kernel_rfl)) sl_nil stE_Constant) stE_Constant) stE_Constant) stE_Constant) stE_Constant) stE_Constant) stE_Constant))))
  sss_nil)) sss_nil)
  (sss_cons (ss_iff (st_not (st_val (se_var (pe_var rfl (.inl rfl))) (fun _ => rfl))) (sss_cons (ss_app (se_var (pe_var rfl (.inl rfl))) (se_str (cs := [102, 105, 108, 108]) (by kernel_rfl) (by kernel_rfl)) rfl rfl rfl rfl rfl)
  sss_nil) sss_nil)
  (sss_cons (ss_ret (se_bin op_addAll (v_add ok.dt) (se_var (pe_var rfl (.inl rfl))) (se_lst (sl_cons (se_str (cs := [111, 112, 101, 110, 32, 104, 105, 103, 104]) (by kernel_rfl) (by kernel_rfl)) (sl_cons (se_str (cs := [105, 110, 32, 104, 105, 103, 104]) (by kernel_rfl) (by kernel_rfl)) (sl_cons (se_str (cs := [115, 104, 117, 116, 32, 104, 105, 103, 104]) (by kernel_rfl) (by kernel_rfl)) (sl_cons (se_str (cs := [108, 101, 116]) (by kernel_rfl) (by kernel_rfl)) (sl_cons (se_str (cs := [111, 112, 101, 110, 32, 108, 111, 119]) (by kernel_rfl) (by kernel_rfl)) (sl_cons (se_str (cs := [111, 117, 116, 32, 108, 111, 119]) (by kernel_rfl) (by kernel_rfl)) (sl_cons (se_str (cs := [115, 104, 117, 116, 32, 108, 111, 119]) (by kernel_rfl) (by kernel_rfl)) sl_nil stE_Constant) stE_Constant) stE_Constant) stE_Constant) stE_Constant) stE_Constant) stE_Constant))))
  sss_nil))))
theorem f_PlainLock_fill_parts (W : Wd) (ok : WdOk W) : FnC clos W.D W.P W.w W.K W.mg W.base 1 (He.fAd W.K d_PlainLock_fill_parts.at_) 2 c_PlainLock_fill_parts [] [] := by
  obtain ⟨fd, F⟩ := ok.def_ 16 (d := d_PlainLock_fill_parts) rfl
  refine fnC (W := W) (N := [(PySem.Str.ofString "self"), (PySem.Str.ofString "basin")]) (ps := [(PySem.Str.ofString "self"), (PySem.Str.ofString "basin")]) (d := d_PlainLock_fill_parts) (k := 0) F (C8.fnScope_by (by kernel_rfl)) rfl rfl (by decide) (fun _ => F.bindsN fun kV doc pm an cdv ct us hl => by
    match us, hl with
    | [_, _], _ => rfl) .nil fun cdv A outer s H E cx => ?_
  exact (sss_cons (ss_ret (se_lst (sl_cons (se_tup (sl_cons (se_str (cs := [104, 105, 103, 104]) (by kernel_rfl) (by kernel_rfl)) (sl_cons (se_attr ok.dt ok.kk (by decide) (fld_room ok) (se_var (pe_var rfl (.inl rfl))) rfl) sl_nil stE_Attribute) stE_Constant)) sl_nil stE_Tuple)))
  sss_nil)
theorem f_filling (W : Wd) (ok : WdOk W) : FnC clos W.D W.P W.w W.K W.mg W.base 2 (He.fAd W.K d_filling.at_) 2 c_filling [] [] := by
  obtain ⟨fd, F⟩ := ok.def_ 17 (d := d_filling) rfl
  refine fnC (W := W) (N := [(PySem.Str.ofString "lock"), (PySem.Str.ofString "basin"), (PySem.Str.ofString "part")]) (ps := [(PySem.Str.ofString "lock"), (PySem.Str.ofString "basin")]) (d := d_filling) (k := 1) F (C8.fnScope_by (by kernel_rfl)) rfl rfl (by decide) (fun _ => F.bindsN fun kV doc pm an cdv ct us hl => by
    match us, hl with
    | [_, _], _ => rfl) .nil fun cdv A outer s H E cx => ?_
  exact (sss_cons (ss_ret (se_comp cx.ex (ow := [("part", 2)]) (si_lst (se_meth cx.ex (f_PlainLock_fill_parts W ok) (by decide) (met_PlainLock_fill_parts ok) (se_var (pe_var rfl (.inl rfl))) (sl_cons (se_var (pe_var rfl (.inl rfl))) sl_nil stE_Name) rfl rfl rfl rfl)) (blkOk_by (by kernel_rfl)) rfl (by decide) (fun _ _ _ _ _ => (pg_name cx.ex.blk.nd rfl (.inl rfl) (.inr rfl))) True.intro (fun _ _ _ _ _ => (se_tup (sl_cons (se_idx ok.dt cx.ex.blk.hu (se_var (pe_var rfl (.inl rfl))) (se_int rfl) (fun _ _ => rfl)) (sl_cons (se_str (cs := [99, 104, 97, 109, 98, 101, 114]) (by kernel_rfl) (by kernel_rfl)) (sl_cons (se_idx ok.dt cx.ex.blk.hu (se_var (pe_var rfl (.inl rfl))) (se_int rfl) (fun _ _ => rfl)) sl_nil stE_Subscript) stE_Constant) stE_Subscript))) (fun _ => rfl)))
  sss_nil)
theorem f_PlainLock_let_parts (W : Wd) (ok : WdOk W) : FnC clos W.D W.P W.w W.K W.mg W.base 1 (He.fAd W.K d_PlainLock_let_parts.at_) 2 c_PlainLock_let_parts [] [] := by
  obtain ⟨fd, F⟩ := ok.def_ 18 (d := d_PlainLock_let_parts) rfl
  refine fnC (W := W) (N := [(PySem.Str.ofString "self"), (PySem.Str.ofString "basin")]) (ps := [(PySem.Str.ofString "self"), (PySem.Str.ofString "basin")]) (d := d_PlainLock_let_parts) (k := 0) F (C8.fnScope_by (by kernel_rfl)) rfl rfl (by decide) (fun _ => F.bindsN fun kV doc pm an cdv ct us hl => by
    match us, hl with
    | [_, _], _ => rfl) .nil fun cdv A outer s H E cx => ?_
  exact (sss_cons (ss_ret (se_lst (sl_cons (se_tup (sl_cons (se_str (cs := [108, 111, 119]) (by kernel_rfl) (by kernel_rfl)) (sl_cons (se_attr ok.dt ok.kk (by decide) (fld_room ok) (se_var (pe_var rfl (.inl rfl))) rfl) sl_nil stE_Attribute) stE_Constant)) sl_nil stE_Tuple)))
  sss_nil)
theorem f_letting (W : Wd) (ok : WdOk W) : FnC clos W.D W.P W.w W.K W.mg W.base 2 (He.fAd W.K d_letting.at_) 2 c_letting [] [] := by
  obtain ⟨fd, F⟩ := ok.def_ 19 (d := d_letting) rfl
  refine fnC (W := W) (N := [(PySem.Str.ofString "lock"), (PySem.Str.ofString "basin"), (PySem.Str.ofString "part")]) (ps := [(PySem.Str.ofString "lock"), (PySem.Str.ofString "basin")]) (d := d_letting) (k := 1) F (C8.fnScope_by (by kernel_rfl)) rfl rfl (by decide) (fun _ => F.bindsN fun kV doc pm an cdv ct us hl => by
    match us, hl with
    | [_, _], _ => rfl) .nil fun cdv A outer s H E cx => ?_
  exact (sss_cons (ss_ret (se_comp cx.ex (ow := [("part", 2)]) (si_lst (se_meth cx.ex (f_PlainLock_let_parts W ok) (by decide) (met_PlainLock_let_parts ok) (se_var (pe_var rfl (.inl rfl))) (sl_cons (se_var (pe_var rfl (.inl rfl))) sl_nil stE_Name) rfl rfl rfl rfl)) (blkOk_by (by kernel_rfl)) rfl (by decide) (fun _ _ _ _ _ => (pg_name cx.ex.blk.nd rfl (.inl rfl) (.inr rfl))) True.intro (fun _ _ _ _ _ => (se_tup (sl_cons (se_str (cs := [99, 104, 97, 109, 98, 101, 114]) (by kernel_rfl) (by kernel_rfl)) (sl_cons (se_idx ok.dt cx.ex.blk.hu (se_var (pe_var rfl (.inl rfl))) (se_int rfl) (fun _ _ => rfl)) (sl_cons (se_idx ok.dt cx.ex.blk.hu (se_var (pe_var rfl (.inl rfl))) (se_int rfl) (fun _ _ => rfl)) sl_nil stE_Subscript) stE_Subscript) stE_Constant))) (fun _ => rfl)))
  sss_nil)
theorem f_held_behind (W : Wd) (ok : WdOk W) : FnC clos W.D W.P W.w W.K W.mg W.base 1 (He.fAd W.K d_held_behind.at_) 2 c_held_behind [] [] := by
  obtain ⟨fd, F⟩ := ok.def_ 20 (d := d_held_behind) rfl
  refine fnC (W := W) (N := [(PySem.Str.ofString "basin"), (PySem.Str.ofString "pours"), (PySem.Str.ofString "pour")]) (ps := [(PySem.Str.ofString "basin"), (PySem.Str.ofString "pours")]) (d := d_held_behind) (k := 0) F (C8.fnScope_by (by kernel_rfl)) rfl rfl (by decide) (fun _ => F.bindsN fun kV doc pm an cdv ct us hl => by
    match us, hl with
    | [_, _], _ => rfl) .nil fun cdv A outer s H E cx => ?_
  exact (sss_cons (ss_for cx (si_lst (se_var (pe_var rfl (.inl rfl)))) (pg_name cx.ex.nd rfl (.inl rfl) (.inr rfl)) (sss_cons (ss_iff (st_cmp (op_eqAll ok.dt cx.ex.hu) (v_eq ok.dt) (se_idx ok.dt cx.ex.hu (se_var (pe_var rfl (.inl rfl))) (se_int rfl) (fun _ _ => rfl)) (se_str (cs := [98, 97, 115, 105, 110]) (by kernel_rfl) (by kernel_rfl)) (nomark _)) (sss_cons ss_dead
  sss_nil) sss_nil)
  (sss_cons (ss_iff (st_cmp (op_eqAll ok.dt cx.ex.hu) (v_eq ok.dt) (se_idx ok.dt cx.ex.hu (se_var (pe_var rfl (.inl rfl))) (se_int rfl) (fun _ _ => rfl)) (se_str (cs := [98, 97, 115, 105, 110]) (by kernel_rfl) (by kernel_rfl)) (nomark _)) (sss_cons ss_dead
  sss_nil) sss_nil)
  sss_nil)) (fun _ => rfl))
  (sss_cons (ss_ret (se_var (pe_var rfl (.inl rfl))))
  sss_nil))
theorem f_passage (W : Wd) (ok : WdOk W) : FnC clos W.D W.P W.w W.K W.mg W.base 3 (He.fAd W.K d_passage.at_) 4 c_passage [] [] := by
  obtain ⟨fd, F⟩ := ok.def_ 21 (d := d_passage) rfl
  refine fnC (W := W) (N := [(PySem.Str.ofString "lock"), (PySem.Str.ofString "full"), (PySem.Str.ofString "basin"), (PySem.Str.ofString "way"), (PySem.Str.ofString "pours")]) (ps := [(PySem.Str.ofString "lock"), (PySem.Str.ofString "full"), (PySem.Str.ofString "basin"), (PySem.Str.ofString "way")]) (d := d_passage) (k := 2) F (C8.fnScope_by (by kernel_rfl)) rfl rfl (by decide) (fun _ => F.bindsN fun kV doc pm an cdv ct us hl => by
    match us, hl with
    | [_, _, _, _], _ => rfl) .nil fun cdv A outer s H E cx => ?_
  exact (sss_cons (ss_set cx rfl (.inl rfl) (se_lst sl_nil) rfl (.inr rfl))
  (sss_cons (ss_iff (st_cmp (op_eqAll ok.dt cx.ex.hu) (v_eq ok.dt) (se_var (pe_var rfl (.inl rfl))) (se_str (cs := [117, 112]) (by kernel_rfl) (by kernel_rfl)) (nomark _)) (sss_cons (ss_iff (st_val (se_var (pe_var rfl (.inl rfl))) (fun _ => rfl)) (sss_cons (ss_set cx rfl (.inl rfl) (se_call cx.ex (f_letting W ok) (by decide) rfl (glo_letting ok) (ok.kp 19 rfl) (sl_cons (se_var (pe_var rfl (.inl rfl))) (sl_cons (se_var (pe_var rfl (.inl rfl))) sl_nil stE_Name) stE_Name) rfl (by decide) rfl rfl) rfl (.inr rfl))
  sss_nil) sss_nil)
  (sss_cons (ss_ret (se_bin op_addAll (v_add ok.dt) (se_var (pe_var rfl (.inl rfl))) (se_call cx.ex (f_filling W ok) (by decide) rfl (glo_filling ok) (ok.kp 17 rfl) (sl_cons (se_var (pe_var rfl (.inl rfl))) (sl_cons (se_call cx.ex (f_held_behind W ok) (by decide) rfl (glo_held_behind ok) (ok.kp 20 rfl) (sl_cons (se_var (pe_var rfl (.inl rfl))) (sl_cons (se_var (pe_var rfl (.inl rfl))) sl_nil stE_Name) stE_Name) rfl (by decide) rfl rfl) sl_nil stE_Call) stE_Name) rfl (by decide) rfl rfl)))
  sss_nil)) sss_nil)
  (sss_cons (ss_iff (st_not (st_val (se_var (pe_var rfl (.inl rfl))) (fun _ => rfl))) (sss_cons (ss_set cx rfl (.inl rfl) (se_call cx.ex (f_filling W ok) (by decide) rfl (glo_filling ok) (ok.kp 17 rfl) (sl_cons (se_var (pe_var rfl (.inl rfl))) (sl_cons (se_var (pe_var rfl (.inl rfl))) sl_nil stE_Name) stE_Name) rfl (by decide) rfl rfl) rfl (.inr rfl))
  sss_nil) sss_nil)
  (sss_cons (ss_ret (se_bin op_addAll (v_add ok.dt) (se_var (pe_var rfl (.inl rfl))) (se_call cx.ex (f_letting W ok) (by decide) rfl (glo_letting ok) (ok.kp 19 rfl) (sl_cons (se_var (pe_var rfl (.inl rfl))) (sl_cons (se_call cx.ex (f_held_behind W ok) (by decide) rfl (glo_held_behind ok) (ok.kp 20 rfl) (sl_cons (se_var (pe_var rfl (.inl rfl))) (sl_cons (se_var (pe_var rfl (.inl rfl))) sl_nil stE_Name) stE_Name) rfl (by decide) rfl rfl) sl_nil stE_Call) stE_Name) rfl (by decide) rfl rfl)))
  sss_nil))))
theorem f_linked (W : Wd) (ok : WdOk W) : FnC clos W.D W.P W.w W.K W.mg W.base 1 (He.fAd W.K d_linked.at_) 3 c_linked [] [] := by
  obtain ⟨fd, F⟩ := ok.def_ 22 (d := d_linked) rfl
  refine fnC (W := W) (N := [(PySem.Str.ofString "canal"), (PySem.Str.ofString "start"), (PySem.Str.ofString "steps"), (PySem.Str.ofString "along"), (PySem.Str.ofString "step"), (PySem.Str.ofString "lock"), (PySem.Str.ofString "begin"), (PySem.Str.ofString "end")]) (ps := [(PySem.Str.ofString "canal"), (PySem.Str.ofString "start"), (PySem.Str.ofString "steps")]) (d := d_linked) (k := 0) F (C8.fnScope_by (by kernel_rfl)) rfl rfl (by decide) (fun _ => F.bindsN fun kV doc pm an cdv ct us hl => by
    match us, hl with
    | [_, _, _], _ => rfl) .nil fun cdv A outer s H E cx => ?_
  exact (sss_cons (ss_set cx rfl (.inl rfl) (se_lst (sl_cons (se_var (pe_var rfl (.inl rfl))) sl_nil stE_Name)) rfl (.inr rfl))
  (sss_cons (ss_for cx (si_tup (se_var (pe_var rfl (.inl rfl)))) (pg_name cx.ex.nd rfl (.inl rfl) (.inr rfl)) (sss_cons (ss_set cx rfl (.inl rfl) (se_idx ok.dt cx.ex.hu (se_attr ok.dt ok.kk (by decide) (fld_locks ok) (se_var (pe_var rfl (.inl rfl))) rfl) (se_idx ok.dt cx.ex.hu (se_var (pe_var rfl (.inl rfl))) (se_int rfl) (fun _ _ => rfl)) (fun _ _ => rfl)) rfl (.inr rfl))
  (sss_cons (ss_set cx rfl (.inl rfl) (se_attr ok.dt ok.kk (by decide) (fld_low ok) (se_var (pe_var rfl (.inl rfl))) rfl) rfl (.inr rfl))
  (sss_cons (ss_set cx rfl (.inl rfl) (se_attr ok.dt ok.kk (by decide) (fld_high ok) (se_var (pe_var rfl (.inl rfl))) rfl) rfl (.inr rfl))
  (sss_cons (ss_iff (st_cmp (op_eqAll ok.dt cx.ex.hu) (v_eq ok.dt) (se_idx ok.dt cx.ex.hu (se_var (pe_var rfl (.inl rfl))) (se_int rfl) (fun _ _ => rfl)) (se_str (cs := [100, 111, 119, 110]) (by kernel_rfl) (by kernel_rfl)) (nomark _)) (sss_cons (ss_set cx rfl (.inl rfl) (se_attr ok.dt ok.kk (by decide) (fld_high ok) (se_var (pe_var rfl (.inl rfl))) rfl) rfl (.inr rfl))
  (sss_cons (ss_set cx rfl (.inl rfl) (se_attr ok.dt ok.kk (by decide) (fld_low ok) (se_var (pe_var rfl (.inl rfl))) rfl) rfl (.inr rfl))
  sss_nil)) sss_nil)
  (sss_cons (ss_iff (st_cmp (op_neAll ok.dt cx.ex.hu) (v_ne ok.dt) (se_idx ok.dt cx.ex.hu (se_var (pe_var rfl (.inl rfl))) (se_neg (se_int rfl)) (fun _ _ => rfl)) (se_var (pe_var rfl (.inl rfl))) (nomark _)) (sss_cons (ss_raise cx (raise_NotLinked ok rfl rfl))
  sss_nil) sss_nil)
  (sss_cons (ss_app (se_var (pe_var rfl (.inl rfl))) (se_var (pe_var rfl (.inl rfl))) rfl rfl rfl rfl rfl)
  sss_nil)))))) (fun _ => rfl))
  (sss_cons (ss_ret (se_var (pe_var rfl (.inl rfl))))
  sss_nil)))
theorem f_Canal_sea (W : Wd) (ok : WdOk W) : FnC clos W.D W.P W.w W.K W.mg W.base 1 (He.fAd W.K d_Canal_sea.at_) 1 c_Canal_sea [] [] := by
  obtain ⟨fd, F⟩ := ok.def_ 23 (d := d_Canal_sea) rfl
  refine fnC (W := W) (N := [(PySem.Str.ofString "self")]) (ps := [(PySem.Str.ofString "self")]) (d := d_Canal_sea) (k := 0) F (C8.fnScope_by (by kernel_rfl)) rfl rfl (by decide) (fun _ => F.bindsN fun kV doc pm an cdv ct us hl => by
    match us, hl with
    | [_], _ => rfl) .nil fun cdv A outer s H E cx => ?_
  exact (sss_cons (ss_ret (se_bin op_addAll (v_add ok.dt) (se_len ok.dt (se_attr ok.dt ok.kk (by decide) (fld_reaches ok) (se_var (pe_var rfl (.inl rfl))) rfl) ⟨rfl, fr_len ok⟩ rfl) (se_bin op_mul v_mul (se_int rfl) (se_len ok.dt (se_attr ok.dt ok.kk (by decide) (fld_locks ok) (se_var (pe_var rfl (.inl rfl))) rfl) ⟨rfl, fr_len ok⟩ rfl))))
  sss_nil)
end Ck
-- SF2
set_option Elab.async false
set_option linter.all false
set_option maxRecDepth 100000
set_option maxHeartbeats 4000000
set_option autoImplicit false
namespace Ck
open PySem PySem.Spec PyProof.Rows L2 Lk
theorem f_Canal_sky (W : Wd) (ok : WdOk W) : FnC clos W.D W.P W.w W.K W.mg W.base 2 (He.fAd W.K d_Canal_sky.at_) 1 c_Canal_sky [] [] := by
  obtain ⟨fd, F⟩ := ok.def_ 24 (d := d_Canal_sky) rfl
  refine fnC (W := W) (N := [(PySem.Str.ofString "self")]) (ps := [(PySem.Str.ofString "self")]) (d := d_Canal_sky) (k := 1) F (C8.fnScope_by (by kernel_rfl)) rfl rfl (by decide) (fun _ => F.bindsN fun kV doc pm an cdv ct us hl => by
    match us, hl with
    | [_], _ => rfl) .nil fun cdv A outer s H E cx => ?_
  exact (sss_cons (ss_ret (se_bin op_addAll (v_add ok.dt) (se_meth0 cx.ex (f_Canal_sea W ok) (by decide) (met_Canal_sea ok) (se_var (pe_var rfl (.inl rfl))) rfl) (se_int rfl)))
  sss_nil)
theorem f_Canal_many (W : Wd) (ok : WdOk W) : FnC clos W.D W.P W.w W.K W.mg W.base 3 (He.fAd W.K d_Canal_many.at_) 1 c_Canal_many [] [] := by
  obtain ⟨fd, F⟩ := ok.def_ 25 (d := d_Canal_many) rfl
  refine fnC (W := W) (N := [(PySem.Str.ofString "self")]) (ps := [(PySem.Str.ofString "self")]) (d := d_Canal_many) (k := 2) F (C8.fnScope_by (by kernel_rfl)) rfl rfl (by decide) (fun _ => F.bindsN fun kV doc pm an cdv ct us hl => by
    match us, hl with
    | [_], _ => rfl) .nil fun cdv A outer s H E cx => ?_
  exact (sss_cons (ss_ret (se_bin op_addAll (v_add ok.dt) (se_meth0 cx.ex (f_Canal_sky W ok) (by decide) (met_Canal_sky ok) (se_var (pe_var rfl (.inl rfl))) rfl) (se_int rfl)))
  sss_nil)
theorem f_over (W : Wd) (ok : WdOk W) : FnC clos W.D W.P W.w W.K W.mg W.base 1 (He.fAd W.K d_over.at_) 3 c_over [] [] := by
  obtain ⟨fd, F⟩ := ok.def_ 26 (d := d_over) rfl
  refine fnC (W := W) (N := [(PySem.Str.ofString "weirs"), (PySem.Str.ofString "waters"), (PySem.Str.ofString "at")]) (ps := [(PySem.Str.ofString "weirs"), (PySem.Str.ofString "waters"), (PySem.Str.ofString "at")]) (d := d_over) (k := 0) F (C8.fnScope_by (by kernel_rfl)) rfl rfl (by decide) (fun _ => F.bindsN fun kV doc pm an cdv ct us hl => by
    match us, hl with
    | [_, _, _], _ => rfl) .nil fun cdv A outer s H E cx => ?_
  exact (sss_cons (ss_ret (se_mx ok.dt cx.ex.calm (se_int rfl) (se_bin op_sub v_sub (se_idx ok.dt cx.ex.hu (se_var (pe_var rfl (.inl rfl))) (se_var (pe_var rfl (.inl rfl))) (fun _ _ => rfl)) (se_idx ok.dt cx.ex.hu (se_idx ok.dt cx.ex.hu (se_var (pe_var rfl (.inl rfl))) (se_var (pe_var rfl (.inl rfl))) (fun _ _ => rfl)) (se_int rfl) (fun _ _ => rfl))) ⟨rfl, fr_max ok⟩ rfl rfl rfl))
  sss_nil)
theorem f_spilled (W : Wd) (ok : WdOk W) : FnC clos W.D W.P W.w W.K W.mg W.base 2 (He.fAd W.K d_spilled.at_) 4 c_spilled [] [] := by
  obtain ⟨fd, F⟩ := ok.def_ 27 (d := d_spilled) rfl
  refine fnC (W := W) (N := [(PySem.Str.ofString "weirs"), (PySem.Str.ofString "waters"), (PySem.Str.ofString "at"), (PySem.Str.ofString "most"), (PySem.Str.ofString "amount")]) (ps := [(PySem.Str.ofString "weirs"), (PySem.Str.ofString "waters"), (PySem.Str.ofString "at"), (PySem.Str.ofString "most")]) (d := d_spilled) (k := 1) F (C8.fnScope_by (by kernel_rfl)) rfl rfl (by decide) (fun _ => binds_all F (List.cons_ne_nil _ _) fun T kV doc pm an cdv ct us its hl hi => by
    match us, hl with
    | [_, _, _, _], _ => exact ⟨_, rfl, by match its, hi with | [_], _ => rfl⟩) .nil fun cdv A outer s H E cx => ?_
  exact (sss_cons (ss_set cx rfl (.inl rfl) (se_call cx.ex (f_over W ok) (by decide) rfl (glo_over ok) (ok.kp 26 rfl) (sl_cons (se_var (pe_var rfl (.inl rfl))) (sl_cons (se_var (pe_var rfl (.inl rfl))) (sl_cons (se_var (pe_var rfl (.inl rfl))) sl_nil stE_Name) stE_Name) stE_Name) rfl (by decide) rfl rfl) rfl (.inr rfl))
  (sss_cons (ss_iff (st_cmp op_notN v_notN (se_var (pe_var rfl (.inl rfl))) se_non (nomark _)) (sss_cons (ss_set cx rfl (.inl rfl) (se_mn ok.dt cx.ex.calm (se_var (pe_var rfl (.inl rfl))) (se_var (pe_var rfl (.inl rfl))) ⟨rfl, fr_min ok⟩ rfl rfl rfl) rfl (.inr rfl))
  sss_nil) sss_nil)
  (sss_cons (ss_ret (se_call cx.ex (f_poured_all W ok) (by decide) rfl (glo_poured_all ok) (ok.kp 14 rfl) (sl_cons (se_var (pe_var rfl (.inl rfl))) (sl_cons (se_lst (sl_cons (se_tup (sl_cons (se_var (pe_var rfl (.inl rfl))) (sl_cons (se_idx ok.dt cx.ex.hu (se_idx ok.dt cx.ex.hu (se_var (pe_var rfl (.inl rfl))) (se_var (pe_var rfl (.inl rfl))) (fun _ _ => rfl)) (se_int rfl) (fun _ _ => rfl)) (sl_cons (se_var (pe_var rfl (.inl rfl))) sl_nil stE_Name) stE_Subscript) stE_Name)) sl_nil stE_Tuple)) sl_nil stE_List) stE_Name) rfl (by decide) rfl rfl))
  sss_nil)))
theorem f_spilledD (W : Wd) (ok : WdOk W) : FnC clos W.D W.P W.w W.K W.mg W.base 2 (He.fAd W.K d_spilled.at_) 4 c_spilled [.none] [.non] := by
  obtain ⟨fd, F⟩ := ok.def_ 27 (d := d_spilled) rfl
  refine fnC (W := W) (N := [(PySem.Str.ofString "weirs"), (PySem.Str.ofString "waters"), (PySem.Str.ofString "at"), (PySem.Str.ofString "most"), (PySem.Str.ofString "amount")]) (ps := [(PySem.Str.ofString "weirs"), (PySem.Str.ofString "waters"), (PySem.Str.ofString "at"), (PySem.Str.ofString "most")]) (d := d_spilled) (k := 1) F (C8.fnScope_by (by kernel_rfl)) rfl rfl (by decide) (fun _ => binds_dflt F 3 rfl (fun _ r => r) fun T kV doc pm an cdv ct us its hl hi => by
    match us, hl, its, hi with
    | [_, _, _], _, [_], _ => exact ⟨_, rfl, rfl⟩) (.cons rfl .nil) fun cdv A outer s H E cx => ?_
  exact (sss_cons (ss_set cx rfl (.inl rfl) (se_call cx.ex (f_over W ok) (by decide) rfl (glo_over ok) (ok.kp 26 rfl) (sl_cons (se_var (pe_var rfl (.inl rfl))) (sl_cons (se_var (pe_var rfl (.inl rfl))) (sl_cons (se_var (pe_var rfl (.inl rfl))) sl_nil stE_Name) stE_Name) stE_Name) rfl (by decide) rfl rfl) rfl (.inr rfl))
  (sss_cons (ss_iff (st_cmp op_notN v_notN (se_var (pe_var rfl (.inl rfl))) se_non (nomark _)) (sss_cons (ss_set cx rfl (.inl rfl) (se_mn ok.dt cx.ex.calm (se_var (pe_var rfl (.inl rfl))) (se_var (pe_var rfl (.inl rfl))) ⟨rfl, fr_min ok⟩ rfl rfl rfl) rfl (.inr rfl))
  sss_nil) sss_nil)
  (sss_cons (ss_ret (se_call cx.ex (f_poured_all W ok) (by decide) rfl (glo_poured_all ok) (ok.kp 14 rfl) (sl_cons (se_var (pe_var rfl (.inl rfl))) (sl_cons (se_lst (sl_cons (se_tup (sl_cons (se_var (pe_var rfl (.inl rfl))) (sl_cons (se_idx ok.dt cx.ex.hu (se_idx ok.dt cx.ex.hu (se_var (pe_var rfl (.inl rfl))) (se_var (pe_var rfl (.inl rfl))) (fun _ _ => rfl)) (se_int rfl) (fun _ _ => rfl)) (sl_cons (se_var (pe_var rfl (.inl rfl))) sl_nil stE_Name) stE_Subscript) stE_Name)) sl_nil stE_Tuple)) sl_nil stE_List) stE_Name) rfl (by decide) rfl rfl))
  sss_nil)))
theorem f_settled (W : Wd) (ok : WdOk W) : FnC clos W.D W.P W.w W.K W.mg W.base 3 (He.fAd W.K d_settled.at_) 2 c_settled [] [] := by
  obtain ⟨fd, F⟩ := ok.def_ 28 (d := d_settled) rfl
  refine fnC (W := W) (N := [(PySem.Str.ofString "weirs"), (PySem.Str.ofString "waters"), (PySem.Str.ofString "behind"), (PySem.Str.ofString "at")]) (ps := [(PySem.Str.ofString "weirs"), (PySem.Str.ofString "waters")]) (d := d_settled) (k := 2) F (C8.fnScope_by (by kernel_rfl)) rfl rfl (by decide) (fun _ => F.bindsN fun kV doc pm an cdv ct us hl => by
    match us, hl with
    | [_, _], _ => rfl) .nil fun cdv A outer s H E cx => ?_
  exact (sss_cons (ss_set cx rfl (.inl rfl) (se_tuple (se_var (pe_var rfl (.inl rfl))) ⟨rfl, fr_tuple ok⟩ rfl) rfl (.inr rfl))
  (sss_cons (ss_for cx (si_r3 (se_bin op_sub v_sub (se_len ok.dt (se_var (pe_var rfl (.inl rfl))) ⟨rfl, fr_len ok⟩ rfl) (se_int rfl)) (se_neg (se_int rfl)) (pe_negC rfl) ⟨rfl, fr_range ok⟩ rfl rfl rfl rfl) (pg_name cx.ex.nd rfl (.inl rfl) (.inr rfl)) (sss_cons (ss_set cx rfl (.inl rfl) (se_callD (as := [(.var 2), (.var 3)]) cx.ex (f_spilledD W ok) (by decide) rfl (glo_spilled ok) (ok.kp 27 rfl) (fun _ => rfl) (sl_cons (se_var (pe_var rfl (.inl rfl))) (sl_cons (se_var (pe_var rfl (.inl rfl))) (sl_cons (se_var (pe_var rfl (.inl rfl))) sl_nil stE_Name) stE_Name) stE_Name) rfl (by decide) rfl rfl) rfl (.inr rfl))
  sss_nil) (fun _ => rfl))
  (sss_cons (ss_ret (se_var (pe_var rfl (.inl rfl))))
  sss_nil)))
theorem f_Canal_weirs (W : Wd) (ok : WdOk W) : FnC clos W.D W.P W.w W.K W.mg W.base 2 (He.fAd W.K d_Canal_weirs.at_) 1 c_Canal_weirs [] [] := by
  obtain ⟨fd, F⟩ := ok.def_ 29 (d := d_Canal_weirs) rfl
  refine fnC (W := W) (N := [(PySem.Str.ofString "self"), (PySem.Str.ofString "told"), (PySem.Str.ofString "reach"), (PySem.Str.ofString "target")]) (ps := [(PySem.Str.ofString "self")]) (d := d_Canal_weirs) (k := 1) F (C8.fnScope_by (by kernel_rfl)) rfl rfl (by decide) (fun _ => F.bindsN fun kV doc pm an cdv ct us hl => by
    match us, hl with
    | [_], _ => rfl) .nil fun cdv A outer s H E cx => ?_
  exact (sss_cons (ss_set cx rfl (.inl rfl) (se_lst sl_nil) rfl (.inr rfl))
  (sss_cons (ss_for cx (si_lst (se_attr ok.dt ok.kk (by decide) (fld_reaches ok) (se_var (pe_var rfl (.inl rfl))) rfl)) (pg_name cx.ex.nd rfl (.inl rfl) (.inr rfl)) (sss_cons (ss_set cx rfl (.inl rfl) (se_attr ok.dt ok.kk (by decide) (fld_target ok) (se_var (pe_var rfl (.inl rfl))) rfl) rfl (.inr rfl))
  (sss_cons (ss_iff (st_cmp op_lt (v_lt ok.dt) (se_var (pe_var rfl (.inl rfl))) (se_int rfl) (nomark _)) (sss_cons (ss_set cx rfl (.inl rfl) (se_meth0 cx.ex (f_Canal_sea W ok) (by decide) (met_Canal_sea ok) (se_var (pe_var rfl (.inl rfl))) rfl) rfl (.inr rfl))
  sss_nil) sss_nil)
  (sss_cons (ss_app (se_var (pe_var rfl (.inl rfl))) (se_tup (sl_cons (se_attr ok.dt ok.kk (by decide) (fld_crest ok) (se_var (pe_var rfl (.inl rfl))) rfl) (sl_cons (se_var (pe_var rfl (.inl rfl))) sl_nil stE_Name) stE_Attribute)) rfl rfl rfl rfl rfl)
  sss_nil))) (fun _ => rfl))
  (sss_cons (ss_ret (se_var (pe_var rfl (.inl rfl))))
  sss_nil)))
theorem f_Canal_start (W : Wd) (ok : WdOk W) : FnC clos W.D W.P W.w W.K W.mg W.base 4 (He.fAd W.K d_Canal_start.at_) 1 c_Canal_start [] [] := by
  obtain ⟨fd, F⟩ := ok.def_ 30 (d := d_Canal_start) rfl
  refine fnC (W := W) (N := [(PySem.Str.ofString "self"), (PySem.Str.ofString "held"), (PySem.Str.ofString "k"), (PySem.Str.ofString "reach")]) (ps := [(PySem.Str.ofString "self")]) (d := d_Canal_start) (k := 3) F (C8.fnScope_by (by kernel_rfl)) rfl rfl (by decide) (fun _ => F.bindsN fun kV doc pm an cdv ct us hl => by
    match us, hl with
    | [_], _ => rfl) .nil fun cdv A outer s H E cx => ?_
  exact (sss_cons (ss_setLc cx rfl rfl (sw_true rfl rfl rfl (by kernel_rfl)) (ow := [("k", 2)]) (si_r1 (se_meth0 cx.ex (f_Canal_many W ok) (by decide) (met_Canal_many ok) (se_var (pe_var rfl (.inl rfl))) rfl) ⟨rfl, fr_range ok⟩ rfl) (blkOk_by (by kernel_rfl)) rfl (by decide) (fun _ _ _ _ _ => (pg_name cx.ex.blk.nd rfl (.inl rfl) (.inr rfl))) True.intro (fun _ _ _ _ _ => (se_int rfl)) (fun _ => rfl))
  (sss_cons (ss_for cx (si_enum (se_attr ok.dt ok.kk (by decide) (fld_reaches ok) (se_var (pe_var rfl (.inl rfl))) rfl) ⟨rfl, fr_enumerate ok⟩ rfl) (pg_tup cx.ex.calm (pgs_cons (pg_name cx.ex.nd rfl (.inl rfl) (.inr rfl)) (pgs_cons (pg_name cx.ex.nd rfl (.inl rfl) (.inr rfl)) pgs_nil rfl) rfl) rfl rfl) (sss_cons (ss_setI ok.dt cx (se_var (pe_var rfl (.inl rfl))) (se_var (pe_var rfl (.inl rfl))) (se_attr ok.dt ok.kk (by decide) (fld_water ok) (se_var (pe_var rfl (.inl rfl))) rfl) rfl rfl rfl (fun _ => rfl))
  sss_nil) (fun _ => rfl))
  (sss_cons (ss_ret (se_call cx.ex (f_settled W ok) (by decide) rfl (glo_settled ok) (ok.kp 28 rfl) (sl_cons (se_meth0 cx.ex (f_Canal_weirs W ok) (by decide) (met_Canal_weirs ok) (se_var (pe_var rfl (.inl rfl))) rfl) (sl_cons (se_tuple (se_var (pe_var rfl (.inl rfl))) ⟨rfl, fr_tuple ok⟩ rfl) sl_nil stE_Call) stE_Call) rfl (by decide) rfl rfl))
  sss_nil)))
theorem f_begun (W : Wd) (ok : WdOk W) : FnC clos W.D W.P W.w W.K W.mg W.base 5 (He.fAd W.K d_begun.at_) 2 c_begun [] [] := by
  obtain ⟨fd, F⟩ := ok.def_ 31 (d := d_begun) rfl
  refine fnC (W := W) (N := [(PySem.Str.ofString "canal"), (PySem.Str.ofString "ways"), (PySem.Str.ofString "way")]) (ps := [(PySem.Str.ofString "canal"), (PySem.Str.ofString "ways")]) (d := d_begun) (k := 4) F (C8.fnScope_by (by kernel_rfl)) rfl rfl (by decide) (fun _ => F.bindsN fun kV doc pm an cdv ct us hl => by
    match us, hl with
    | [_, _], _ => rfl) .nil fun cdv A outer s H E cx => ?_
  exact (sss_cons (ss_ret (se_tup (sl_cons (se_int rfl) (sl_cons (se_meth0 cx.ex (f_Canal_start W ok) (by decide) (met_Canal_start ok) (se_var (pe_var rfl (.inl rfl))) rfl) (sl_cons (se_tuple (se_comp cx.ex (ow := [("way", 2)]) (si_lst (se_var (pe_var rfl (.inl rfl)))) (blkOk_by (by kernel_rfl)) rfl (by decide) (fun _ _ _ _ _ => (pg_name cx.ex.blk.nd rfl (.inl rfl) (.inr rfl))) True.intro (fun _ _ _ _ _ => (se_int rfl)) (fun _ => rfl)) ⟨rfl, fr_tuple ok⟩ rfl) sl_nil stE_Call) stE_Call) stE_Constant)))
  sss_nil)
theorem f_reach_of (W : Wd) (ok : WdOk W) : FnC clos W.D W.P W.w W.K W.mg W.base 1 (He.fAd W.K d_reach_of.at_) 3 c_reach_of [] [] := by
  obtain ⟨fd, F⟩ := ok.def_ 32 (d := d_reach_of) rfl
  refine fnC (W := W) (N := [(PySem.Str.ofString "canal"), (PySem.Str.ofString "way"), (PySem.Str.ofString "place"), (PySem.Str.ofString "step")]) (ps := [(PySem.Str.ofString "canal"), (PySem.Str.ofString "way"), (PySem.Str.ofString "place")]) (d := d_reach_of) (k := 0) F (C8.fnScope_by (by kernel_rfl)) rfl rfl (by decide) (fun _ => F.bindsN fun kV doc pm an cdv ct us hl => by
    match us, hl with
    | [_, _, _], _ => rfl) .nil fun cdv A outer s H E cx => ?_
  exact (sss_cons (ss_iff (st_cmp op_ge (v_ge ok.dt) (se_var (pe_var rfl (.inl rfl))) (se_len ok.dt (se_idx ok.dt cx.ex.hu (se_var (pe_var rfl (.inl rfl))) (se_int rfl) (fun _ _ => rfl)) ⟨rfl, fr_len ok⟩ rfl) (nomark _)) (sss_cons (ss_ret (se_neg (se_int rfl)))
  sss_nil) sss_nil)
  (sss_cons (ss_set cx rfl (.inl rfl) (se_idx ok.dt cx.ex.hu (se_idx ok.dt cx.ex.hu (se_var (pe_var rfl (.inl rfl))) (se_int rfl) (fun _ _ => rfl)) (se_var (pe_var rfl (.inl rfl))) (fun _ _ => rfl)) rfl (.inr rfl))
  (sss_cons (ss_iff (st_cmp (op_eqAll ok.dt cx.ex.hu) (v_eq ok.dt) (se_idx ok.dt cx.ex.hu (se_var (pe_var rfl (.inl rfl))) (se_int rfl) (fun _ _ => rfl)) (se_str (cs := [117, 112]) (by kernel_rfl) (by kernel_rfl)) (nomark _)) (sss_cons (ss_ret (se_attr ok.dt ok.kk (by decide) (fld_low ok) (se_idx ok.dt cx.ex.hu (se_attr ok.dt ok.kk (by decide) (fld_locks ok) (se_var (pe_var rfl (.inl rfl))) rfl) (se_idx ok.dt cx.ex.hu (se_var (pe_var rfl (.inl rfl))) (se_int rfl) (fun _ _ => rfl)) (fun _ _ => rfl)) rfl))
  sss_nil) sss_nil)
  (sss_cons (ss_ret (se_attr ok.dt ok.kk (by decide) (fld_high ok) (se_idx ok.dt cx.ex.hu (se_attr ok.dt ok.kk (by decide) (fld_locks ok) (se_var (pe_var rfl (.inl rfl))) rfl) (se_idx ok.dt cx.ex.hu (se_var (pe_var rfl (.inl rfl))) (se_int rfl) (fun _ _ => rfl)) (fun _ _ => rfl)) rfl))
  sss_nil))))
theorem f_lying (W : Wd) (ok : WdOk W) : FnC clos W.D W.P W.w W.K W.mg W.base 2 (He.fAd W.K d_lying.at_) 4 c_lying [] [] := by
  obtain ⟨fd, F⟩ := ok.def_ 33 (d := d_lying) rfl
  refine fnC (W := W) (N := [(PySem.Str.ofString "canal"), (PySem.Str.ofString "ways"), (PySem.Str.ofString "state"), (PySem.Str.ofString "reach"), (PySem.Str.ofString "here"), (PySem.Str.ofString "k")]) (ps := [(PySem.Str.ofString "canal"), (PySem.Str.ofString "ways"), (PySem.Str.ofString "state"), (PySem.Str.ofString "reach")]) (d := d_lying) (k := 1) F (C8.fnScope_by (by kernel_rfl)) rfl rfl (by decide) (fun _ => F.bindsN fun kV doc pm an cdv ct us hl => by
    match us, hl with
    | [_, _, _, _], _ => rfl) .nil fun cdv A outer s H E cx => ?_
  exact (sss_cons (ss_set cx rfl (.inl rfl) (se_int rfl) rfl (.inr rfl))
  (sss_cons (ss_for cx (si_r1 (se_len ok.dt (se_var (pe_var rfl (.inl rfl))) ⟨rfl, fr_len ok⟩ rfl) ⟨rfl, fr_range ok⟩ rfl) (pg_name cx.ex.nd rfl (.inl rfl) (.inr rfl)) (sss_cons (ss_iff (st_cmp (op_eqAll ok.dt cx.ex.hu) (v_eq ok.dt) (se_call cx.ex (f_reach_of W ok) (by decide) rfl (glo_reach_of ok) (ok.kp 32 rfl) (sl_cons (se_var (pe_var rfl (.inl rfl))) (sl_cons (se_idx ok.dt cx.ex.hu (se_var (pe_var rfl (.inl rfl))) (se_var (pe_var rfl (.inl rfl))) (fun _ _ => rfl)) (sl_cons (se_idx ok.dt cx.ex.hu (se_idx ok.dt cx.ex.hu (se_var (pe_var rfl (.inl rfl))) (se_int rfl) (fun _ _ => rfl)) (se_var (pe_var rfl (.inl rfl))) (fun _ _ => rfl)) sl_nil stE_Subscript) stE_Subscript) stE_Name) rfl (by decide) rfl rfl) (se_var (pe_var rfl (.inl rfl))) (nomark _)) (sss_cons (ss_set cx rfl (.inl rfl) (se_bin op_addAll (v_add ok.dt) (se_var (pe_var rfl (.inl rfl))) (se_int rfl)) rfl (.inr rfl))
  sss_nil) sss_nil)
  sss_nil) (fun _ => rfl))
  (sss_cons (ss_ret (se_var (pe_var rfl (.inl rfl))))
  sss_nil)))
theorem f_all_home (W : Wd) (ok : WdOk W) : FnC clos W.D W.P W.w W.K W.mg W.base 1 (He.fAd W.K d_all_home.at_) 2 c_all_home [] [] := by
  obtain ⟨fd, F⟩ := ok.def_ 34 (d := d_all_home) rfl
  refine fnC (W := W) (N := [(PySem.Str.ofString "ways"), (PySem.Str.ofString "state"), (PySem.Str.ofString "k")]) (ps := [(PySem.Str.ofString "ways"), (PySem.Str.ofString "state")]) (d := d_all_home) (k := 0) F (C8.fnScope_by (by kernel_rfl)) rfl rfl (by decide) (fun _ => F.bindsN fun kV doc pm an cdv ct us hl => by
    match us, hl with
    | [_, _], _ => rfl) .nil fun cdv A outer s H E cx => ?_
  exact (sss_cons (ss_for cx (si_r1 (se_len ok.dt (se_var (pe_var rfl (.inl rfl))) ⟨rfl, fr_len ok⟩ rfl) ⟨rfl, fr_range ok⟩ rfl) (pg_name cx.ex.nd rfl (.inl rfl) (.inr rfl)) (sss_cons (ss_iff (st_cmp op_lt (v_lt ok.dt) (se_idx ok.dt cx.ex.hu (se_idx ok.dt cx.ex.hu (se_var (pe_var rfl (.inl rfl))) (se_int rfl) (fun _ _ => rfl)) (se_var (pe_var rfl (.inl rfl))) (fun _ _ => rfl)) (se_len ok.dt (se_idx ok.dt cx.ex.hu (se_idx ok.dt cx.ex.hu (se_var (pe_var rfl (.inl rfl))) (se_var (pe_var rfl (.inl rfl))) (fun _ _ => rfl)) (se_int rfl) (fun _ _ => rfl)) ⟨rfl, fr_len ok⟩ rfl) (nomark _)) (sss_cons (ss_ret se_bl)
  sss_nil) sss_nil)
  sss_nil) (fun _ => rfl))
  (sss_cons (ss_ret se_bl)
  sss_nil))
end Ck
-- SF3
set_option Elab.async false
set_option linter.all false
set_option maxRecDepth 100000
set_option maxHeartbeats 4000000
set_option autoImplicit false
namespace Ck
open PySem PySem.Spec PyProof.Rows L2 Lk
theorem f_spills (W : Wd) (ok : WdOk W) : FnC clos W.D W.P W.w W.K W.mg W.base 3 (He.fAd W.K d_spills.at_) 2 c_spills [] [] := by
  obtain ⟨fd, F⟩ := ok.def_ 35 (d := d_spills) rfl
  refine fnC (W := W) (N := [(PySem.Str.ofString "weirs"), (PySem.Str.ofString "waters"), (PySem.Str.ofString "behind"), (PySem.Str.ofString "given"), (PySem.Str.ofString "weir"), (PySem.Str.ofString "at")]) (ps := [(PySem.Str.ofString "weirs"), (PySem.Str.ofString "waters")]) (d := d_spills) (k := 2) F (C8.fnScope_by (by kernel_rfl)) rfl rfl (by decide) (fun _ => F.bindsN fun kV doc pm an cdv ct us hl => by
    match us, hl with
    | [_, _], _ => rfl) .nil fun cdv A outer s H E cx => ?_
  exact (sss_cons (ss_set cx rfl (.inl rfl) (se_tuple (se_var (pe_var rfl (.inl rfl))) ⟨rfl, fr_tuple ok⟩ rfl) rfl (.inr rfl))
  (sss_cons (ss_setLc cx rfl rfl (sw_true rfl rfl rfl (by kernel_rfl)) (ow := [("weir", 4)]) (si_lst (se_var (pe_var rfl (.inl rfl)))) (blkOk_by (by kernel_rfl)) rfl (by decide) (fun _ _ _ _ _ => (pg_name cx.ex.blk.nd rfl (.inl rfl) (.inr rfl))) True.intro (fun _ _ _ _ _ => (se_int rfl)) (fun _ => rfl))
  (sss_cons (ss_for cx (si_r3 (se_bin op_sub v_sub (se_len ok.dt (se_var (pe_var rfl (.inl rfl))) ⟨rfl, fr_len ok⟩ rfl) (se_int rfl)) (se_neg (se_int rfl)) (pe_negC rfl) ⟨rfl, fr_range ok⟩ rfl rfl rfl rfl) (pg_name cx.ex.nd rfl (.inl rfl) (.inr rfl)) (sss_cons (ss_setI ok.dt cx (se_var (pe_var rfl (.inl rfl))) (se_var (pe_var rfl (.inl rfl))) (se_call cx.ex (f_over W ok) (by decide) rfl (glo_over ok) (ok.kp 26 rfl) (sl_cons (se_var (pe_var rfl (.inl rfl))) (sl_cons (se_var (pe_var rfl (.inl rfl))) (sl_cons (se_var (pe_var rfl (.inl rfl))) sl_nil stE_Name) stE_Name) stE_Name) rfl (by decide) rfl rfl) rfl rfl rfl (fun _ => rfl))
  (sss_cons (ss_set cx rfl (.inl rfl) (se_callD (as := [(.var 2), (.var 5)]) cx.ex (f_spilledD W ok) (by decide) rfl (glo_spilled ok) (ok.kp 27 rfl) (fun _ => rfl) (sl_cons (se_var (pe_var rfl (.inl rfl))) (sl_cons (se_var (pe_var rfl (.inl rfl))) (sl_cons (se_var (pe_var rfl (.inl rfl))) sl_nil stE_Name) stE_Name) stE_Name) rfl (by decide) rfl rfl) rfl (.inr rfl))
  sss_nil)) (fun _ => rfl))
  (sss_cons (ss_ret (se_var (pe_var rfl (.inl rfl))))
  sss_nil))))
theorem f_weir_pours (W : Wd) (ok : WdOk W) : FnC clos W.D W.P W.w W.K W.mg W.base 4 (He.fAd W.K d_weir_pours.at_) 2 c_weir_pours [] [] := by
  obtain ⟨fd, F⟩ := ok.def_ 36 (d := d_weir_pours) rfl
  refine fnC (W := W) (N := [(PySem.Str.ofString "canal"), (PySem.Str.ofString "waters"), (PySem.Str.ofString "given"), (PySem.Str.ofString "ends"), (PySem.Str.ofString "row"), (PySem.Str.ofString "r")]) (ps := [(PySem.Str.ofString "canal"), (PySem.Str.ofString "waters")]) (d := d_weir_pours) (k := 3) F (C8.fnScope_by (by kernel_rfl)) rfl rfl (by decide) (fun _ => F.bindsN fun kV doc pm an cdv ct us hl => by
    match us, hl with
    | [_, _], _ => rfl) .nil fun cdv A outer s H E cx => ?_
  exact (sss_cons (ss_set cx rfl (.inl rfl) (se_call cx.ex (f_spills W ok) (by decide) rfl (glo_spills ok) (ok.kp 35 rfl) (sl_cons (se_meth0 cx.ex (f_Canal_weirs W ok) (by decide) (met_Canal_weirs ok) (se_var (pe_var rfl (.inl rfl))) rfl) (sl_cons (se_var (pe_var rfl (.inl rfl))) sl_nil stE_Name) stE_Call) rfl (by decide) rfl rfl) rfl (.inr rfl))
  (sss_cons (ss_set cx rfl (.inl rfl) (se_meth0 cx.ex (f_Canal_weirs W ok) (by decide) (met_Canal_weirs ok) (se_var (pe_var rfl (.inl rfl))) rfl) rfl (.inr rfl))
  (sss_cons (ss_set cx rfl (.inl rfl) (se_lst sl_nil) rfl (.inr rfl))
  (sss_cons (ss_for cx (si_r3 (se_bin op_sub v_sub (se_len ok.dt (se_var (pe_var rfl (.inl rfl))) ⟨rfl, fr_len ok⟩ rfl) (se_int rfl)) (se_neg (se_int rfl)) (pe_negC rfl) ⟨rfl, fr_range ok⟩ rfl rfl rfl rfl) (pg_name cx.ex.nd rfl (.inl rfl) (.inr rfl)) (sss_cons (ss_iff (st_cmp op_gt (v_gt ok.dt) (se_idx ok.dt cx.ex.hu (se_var (pe_var rfl (.inl rfl))) (se_var (pe_var rfl (.inl rfl))) (fun _ _ => rfl)) (se_int rfl) (nomark _)) (sss_cons (ss_app (se_var (pe_var rfl (.inl rfl))) (se_tup (sl_cons (se_var (pe_var rfl (.inl rfl))) (sl_cons (se_idx ok.dt cx.ex.hu (se_idx ok.dt cx.ex.hu (se_var (pe_var rfl (.inl rfl))) (se_var (pe_var rfl (.inl rfl))) (fun _ _ => rfl)) (se_int rfl) (fun _ _ => rfl)) (sl_cons (se_idx ok.dt cx.ex.hu (se_var (pe_var rfl (.inl rfl))) (se_var (pe_var rfl (.inl rfl))) (fun _ _ => rfl)) sl_nil stE_Subscript) stE_Subscript) stE_Name)) rfl rfl rfl rfl rfl)
  sss_nil) sss_nil)
  sss_nil) (fun _ => rfl))
  (sss_cons (ss_ret (se_var (pe_var rfl (.inl rfl))))
  sss_nil)))))
theorem f_night_pours (W : Wd) (ok : WdOk W) : FnC clos W.D W.P W.w W.K W.mg W.base 5 (He.fAd W.K d_night_pours.at_) 3 c_night_pours [] [] := by
  obtain ⟨fd, F⟩ := ok.def_ 37 (d := d_night_pours) rfl
  refine fnC (W := W) (N := [(PySem.Str.ofString "canal"), (PySem.Str.ofString "state"), (PySem.Str.ofString "weather"), (PySem.Str.ofString "row"), (PySem.Str.ofString "r"), (PySem.Str.ofString "gone")]) (ps := [(PySem.Str.ofString "canal"), (PySem.Str.ofString "state"), (PySem.Str.ofString "weather")]) (d := d_night_pours) (k := 4) F (C8.fnScope_by (by kernel_rfl)) rfl rfl (by decide) (fun _ => F.bindsN fun kV doc pm an cdv ct us hl => by
    match us, hl with
    | [_, _, _], _ => rfl) .nil fun cdv A outer s H E cx => ?_
  exact (sss_cons (ss_set cx rfl (.inl rfl) (se_lst sl_nil) rfl (.inr rfl))
  (sss_cons (ss_for cx (si_r1 (se_len ok.dt (se_var (pe_var rfl (.inl rfl))) ⟨rfl, fr_len ok⟩ rfl) ⟨rfl, fr_range ok⟩ rfl) (pg_name cx.ex.nd rfl (.inl rfl) (.inr rfl)) (sss_cons (ss_set cx rfl (.inl rfl) (se_mn ok.dt cx.ex.calm (se_idx ok.dt cx.ex.hu (se_idx ok.dt cx.ex.hu (se_var (pe_var rfl (.inl rfl))) (se_int rfl) (fun _ _ => rfl)) (se_var (pe_var rfl (.inl rfl))) (fun _ _ => rfl)) (se_idx ok.dt cx.ex.hu (se_idx ok.dt cx.ex.hu (se_var (pe_var rfl (.inl rfl))) (se_var (pe_var rfl (.inl rfl))) (fun _ _ => rfl)) (se_int rfl) (fun _ _ => rfl)) ⟨rfl, fr_min ok⟩ rfl rfl rfl) rfl (.inr rfl))
  (sss_cons (ss_iff (st_cmp op_gt (v_gt ok.dt) (se_var (pe_var rfl (.inl rfl))) (se_int rfl) (nomark _)) (sss_cons (ss_app (se_var (pe_var rfl (.inl rfl))) (se_tup (sl_cons (se_var (pe_var rfl (.inl rfl))) (sl_cons (se_meth0 cx.ex (f_Canal_sky W ok) (by decide) (met_Canal_sky ok) (se_var (pe_var rfl (.inl rfl))) rfl) (sl_cons (se_var (pe_var rfl (.inl rfl))) sl_nil stE_Name) stE_Call) stE_Name)) rfl rfl rfl rfl rfl)
  sss_nil) sss_nil)
  sss_nil)) (fun _ => rfl))
  (sss_cons (ss_for cx (si_r1 (se_len ok.dt (se_var (pe_var rfl (.inl rfl))) ⟨rfl, fr_len ok⟩ rfl) ⟨rfl, fr_range ok⟩ rfl) (pg_name cx.ex.nd rfl (.inl rfl) (.inr rfl)) (sss_cons (ss_iff (st_cmp op_gt (v_gt ok.dt) (se_idx ok.dt cx.ex.hu (se_idx ok.dt cx.ex.hu (se_var (pe_var rfl (.inl rfl))) (se_var (pe_var rfl (.inl rfl))) (fun _ _ => rfl)) (se_int rfl) (fun _ _ => rfl)) (se_int rfl) (nomark _)) (sss_cons (ss_app (se_var (pe_var rfl (.inl rfl))) (se_tup (sl_cons (se_meth0 cx.ex (f_Canal_sky W ok) (by decide) (met_Canal_sky ok) (se_var (pe_var rfl (.inl rfl))) rfl) (sl_cons (se_var (pe_var rfl (.inl rfl))) (sl_cons (se_idx ok.dt cx.ex.hu (se_idx ok.dt cx.ex.hu (se_var (pe_var rfl (.inl rfl))) (se_var (pe_var rfl (.inl rfl))) (fun _ _ => rfl)) (se_int rfl) (fun _ _ => rfl)) sl_nil stE_Subscript) stE_Name) stE_Call)) rfl rfl rfl rfl rfl)
  sss_nil) sss_nil)
  sss_nil) (fun _ => rfl))
  (sss_cons (ss_ret (se_bin op_addAll (v_add ok.dt) (se_var (pe_var rfl (.inl rfl))) (se_call cx.ex (f_weir_pours W ok) (by decide) rfl (glo_weir_pours ok) (ok.kp 36 rfl) (sl_cons (se_var (pe_var rfl (.inl rfl))) (sl_cons (se_call cx.ex (f_poured_all W ok) (by decide) rfl (glo_poured_all ok) (ok.kp 14 rfl) (sl_cons (se_idx ok.dt cx.ex.hu (se_var (pe_var rfl (.inl rfl))) (se_int rfl) (fun _ _ => rfl)) (sl_cons (se_var (pe_var rfl (.inl rfl))) sl_nil stE_Name) stE_Subscript) rfl (by decide) rfl rfl) sl_nil stE_Call) stE_Name) rfl (by decide) rfl rfl)))
  sss_nil))))
theorem f_wet_enough (W : Wd) (ok : WdOk W) : FnC clos W.D W.P W.w W.K W.mg W.base 1 (He.fAd W.K d_wet_enough.at_) 2 c_wet_enough [] [] := by
  obtain ⟨fd, F⟩ := ok.def_ 38 (d := d_wet_enough) rfl
  refine fnC (W := W) (N := [(PySem.Str.ofString "weather"), (PySem.Str.ofString "other"), (PySem.Str.ofString "r")]) (ps := [(PySem.Str.ofString "weather"), (PySem.Str.ofString "other")]) (d := d_wet_enough) (k := 0) F (C8.fnScope_by (by kernel_rfl)) rfl rfl (by decide) (fun _ => F.bindsN fun kV doc pm an cdv ct us hl => by
    match us, hl with
    | [_, _], _ => rfl) .nil fun cdv A outer s H E cx => ?_
  exact (sss_cons (ss_for cx (si_r1 (se_len ok.dt (se_var (pe_var rfl (.inl rfl))) ⟨rfl, fr_len ok⟩ rfl) ⟨rfl, fr_range ok⟩ rfl) (pg_name cx.ex.nd rfl (.inl rfl) (.inr rfl)) (sss_cons (ss_iff (st_of (sw_or (st_cmp op_lt (v_lt ok.dt) (se_idx ok.dt cx.ex.hu (se_idx ok.dt cx.ex.hu (se_var (pe_var rfl (.inl rfl))) (se_var (pe_var rfl (.inl rfl))) (fun _ _ => rfl)) (se_int rfl) (fun _ _ => rfl)) (se_idx ok.dt cx.ex.hu (se_idx ok.dt cx.ex.hu (se_var (pe_var rfl (.inl rfl))) (se_var (pe_var rfl (.inl rfl))) (fun _ _ => rfl)) (se_int rfl) (fun _ _ => rfl)) (nomark _)) (sw_or1 (st_cmp op_gt (v_gt ok.dt) (se_idx ok.dt cx.ex.hu (se_idx ok.dt cx.ex.hu (se_var (pe_var rfl (.inl rfl))) (se_var (pe_var rfl (.inl rfl))) (fun _ _ => rfl)) (se_int rfl) (fun _ _ => rfl)) (se_idx ok.dt cx.ex.hu (se_idx ok.dt cx.ex.hu (se_var (pe_var rfl (.inl rfl))) (se_var (pe_var rfl (.inl rfl))) (fun _ _ => rfl)) (se_int rfl) (fun _ _ => rfl)) (nomark _))))) (sss_cons (ss_ret se_bl)
  sss_nil) sss_nil)
  sss_nil) (fun _ => rfl))
  (sss_cons (ss_ret se_bl)
  sss_nil))
theorem f_Canal_chamber (W : Wd) (ok : WdOk W) : FnC clos W.D W.P W.w W.K W.mg W.base 1 (He.fAd W.K d_Canal_chamber.at_) 2 c_Canal_chamber [] [] := by
  obtain ⟨fd, F⟩ := ok.def_ 39 (d := d_Canal_chamber) rfl
  refine fnC (W := W) (N := [(PySem.Str.ofString "self"), (PySem.Str.ofString "k")]) (ps := [(PySem.Str.ofString "self"), (PySem.Str.ofString "k")]) (d := d_Canal_chamber) (k := 0) F (C8.fnScope_by (by kernel_rfl)) rfl rfl (by decide) (fun _ => F.bindsN fun kV doc pm an cdv ct us hl => by
    match us, hl with
    | [_, _], _ => rfl) .nil fun cdv A outer s H E cx => ?_
  exact (sss_cons (ss_ret (se_bin op_addAll (v_add ok.dt) (se_len ok.dt (se_attr ok.dt ok.kk (by decide) (fld_reaches ok) (se_var (pe_var rfl (.inl rfl))) rfl) ⟨rfl, fr_len ok⟩ rfl) (se_var (pe_var rfl (.inl rfl)))))
  sss_nil)
theorem f_Canal_basin (W : Wd) (ok : WdOk W) : FnC clos W.D W.P W.w W.K W.mg W.base 1 (He.fAd W.K d_Canal_basin.at_) 2 c_Canal_basin [] [] := by
  obtain ⟨fd, F⟩ := ok.def_ 40 (d := d_Canal_basin) rfl
  refine fnC (W := W) (N := [(PySem.Str.ofString "self"), (PySem.Str.ofString "k")]) (ps := [(PySem.Str.ofString "self"), (PySem.Str.ofString "k")]) (d := d_Canal_basin) (k := 0) F (C8.fnScope_by (by kernel_rfl)) rfl rfl (by decide) (fun _ => F.bindsN fun kV doc pm an cdv ct us hl => by
    match us, hl with
    | [_, _], _ => rfl) .nil fun cdv A outer s H E cx => ?_
  exact (sss_cons (ss_ret (se_bin op_addAll (v_add ok.dt) (se_bin op_addAll (v_add ok.dt) (se_len ok.dt (se_attr ok.dt ok.kk (by decide) (fld_reaches ok) (se_var (pe_var rfl (.inl rfl))) rfl) ⟨rfl, fr_len ok⟩ rfl) (se_len ok.dt (se_attr ok.dt ok.kk (by decide) (fld_locks ok) (se_var (pe_var rfl (.inl rfl))) rfl) ⟨rfl, fr_len ok⟩ rfl)) (se_var (pe_var rfl (.inl rfl)))))
  sss_nil)
theorem f_numbered (W : Wd) (ok : WdOk W) : FnC clos W.D W.P W.w W.K W.mg W.base 2 (He.fAd W.K d_numbered.at_) 3 c_numbered [] [] := by
  obtain ⟨fd, F⟩ := ok.def_ 41 (d := d_numbered) rfl
  refine fnC (W := W) (N := [(PySem.Str.ofString "canal"), (PySem.Str.ofString "k"), (PySem.Str.ofString "triples"), (PySem.Str.ofString "lock"), (PySem.Str.ofString "place"), (PySem.Str.ofString "one")]) (ps := [(PySem.Str.ofString "canal"), (PySem.Str.ofString "k"), (PySem.Str.ofString "triples")]) (d := d_numbered) (k := 1) F (C8.fnScope_by (by kernel_rfl)) rfl rfl (by decide) (fun _ => F.bindsN fun kV doc pm an cdv ct us hl => by
    match us, hl with
    | [_, _, _], _ => rfl) .nil fun cdv A outer s H E cx => ?_
  exact (sss_cons (ss_set cx rfl (.inl rfl) (se_idx ok.dt cx.ex.hu (se_attr ok.dt ok.kk (by decide) (fld_locks ok) (se_var (pe_var rfl (.inl rfl))) rfl) (se_var (pe_var rfl (.inl rfl))) (fun _ _ => rfl)) rfl (.inr rfl))
  (sss_cons (ss_set cx rfl (.inr rfl) (se_dct (.cons (cs := [104, 105, 103, 104]) (pe_strC (by kernel_rfl)) (se_attr ok.dt ok.kk (by decide) (fld_high ok) (se_var (pe_var rfl (.inl rfl))) rfl) (.cons (cs := [108, 111, 119]) (pe_strC (by kernel_rfl)) (se_attr ok.dt ok.kk (by decide) (fld_low ok) (se_var (pe_var rfl (.inl rfl))) rfl) (.cons (cs := [99, 104, 97, 109, 98, 101, 114]) (pe_strC (by kernel_rfl)) (se_meth cx.ex (f_Canal_chamber W ok) (by decide) (met_Canal_chamber ok) (se_var (pe_var rfl (.inl rfl))) (sl_cons (se_var (pe_var rfl (.inl rfl))) sl_nil stE_Name) rfl rfl rfl rfl) (.cons (cs := [98, 97, 115, 105, 110]) (pe_strC (by kernel_rfl)) (se_meth cx.ex (f_Canal_basin W ok) (by decide) (met_Canal_basin ok) (se_var (pe_var rfl (.inl rfl))) (sl_cons (se_var (pe_var rfl (.inl rfl))) sl_nil stE_Name) rfl rfl rfl rfl) .nil)))) rfl rfl (by simp) (by decide) (by decide) (by decide +kernel)) rfl (.inl rfl))
  (sss_cons (ss_ret (se_comp cx.ex (ow := [("one", 5)]) (si_lst (se_var (pe_var rfl (.inl rfl)))) (blkOk_by (by kernel_rfl)) rfl (by decide) (fun _ _ _ _ _ => (pg_name cx.ex.blk.nd rfl (.inl rfl) (.inr rfl))) True.intro (fun _ _ _ _ _ => (se_tup (sl_cons (se_idx ok.dt cx.ex.blk.hu (se_var (pe_var rfl (.inr (.inl rfl)))) (se_idx ok.dt cx.ex.blk.hu (se_var (pe_var rfl (.inl rfl))) (se_int rfl) (fun _ _ => rfl)) (fun _ _ => rfl)) (sl_cons (se_idx ok.dt cx.ex.blk.hu (se_var (pe_var rfl (.inr (.inl rfl)))) (se_idx ok.dt cx.ex.blk.hu (se_var (pe_var rfl (.inl rfl))) (se_int rfl) (fun _ _ => rfl)) (fun _ _ => rfl)) (sl_cons (se_idx ok.dt cx.ex.blk.hu (se_var (pe_var rfl (.inl rfl))) (se_int rfl) (fun _ _ => rfl)) sl_nil stE_Subscript) stE_Subscript) stE_Subscript))) (fun _ => rfl)))
  sss_nil)))
theorem f_Canal_full (W : Wd) (ok : WdOk W) : FnC clos W.D W.P W.w W.K W.mg W.base 2 (He.fAd W.K d_Canal_full.at_) 3 c_Canal_full [] [] := by
  obtain ⟨fd, F⟩ := ok.def_ 42 (d := d_Canal_full) rfl
  refine fnC (W := W) (N := [(PySem.Str.ofString "self"), (PySem.Str.ofString "waters"), (PySem.Str.ofString "k")]) (ps := [(PySem.Str.ofString "self"), (PySem.Str.ofString "waters"), (PySem.Str.ofString "k")]) (d := d_Canal_full) (k := 1) F (C8.fnScope_by (by kernel_rfl)) rfl rfl (by decide) (fun _ => F.bindsN fun kV doc pm an cdv ct us hl => by
    match us, hl with
    | [_, _, _], _ => rfl) .nil fun cdv A outer s H E cx => ?_
  exact (sss_cons (ss_ret (se_cmp op_gt (v_gt ok.dt) (se_idx ok.dt cx.ex.hu (se_var (pe_var rfl (.inl rfl))) (se_meth cx.ex (f_Canal_chamber W ok) (by decide) (met_Canal_chamber ok) (se_var (pe_var rfl (.inl rfl))) (sl_cons (se_var (pe_var rfl (.inl rfl))) sl_nil stE_Name) rfl rfl rfl rfl) (fun _ _ => rfl)) (se_int rfl) (nomark _)))
  sss_nil)
theorem f_pass_pours (W : Wd) (ok : WdOk W) : FnC clos W.D W.P W.w W.K W.mg W.base 4 (He.fAd W.K d_pass_pours.at_) 4 c_pass_pours [] [] := by
  obtain ⟨fd, F⟩ := ok.def_ 43 (d := d_pass_pours) rfl
  refine fnC (W := W) (N := [(PySem.Str.ofString "canal"), (PySem.Str.ofString "ways"), (PySem.Str.ofString "state"), (PySem.Str.ofString "boat"), (PySem.Str.ofString "step"), (PySem.Str.ofString "k"), (PySem.Str.ofString "held")]) (ps := [(PySem.Str.ofString "canal"), (PySem.Str.ofString "ways"), (PySem.Str.ofString "state"), (PySem.Str.ofString "boat")]) (d := d_pass_pours) (k := 3) F (C8.fnScope_by (by kernel_rfl)) rfl rfl (by decide) (fun _ => F.bindsN fun kV doc pm an cdv ct us hl => by
    match us, hl with
    | [_, _, _, _], _ => rfl) .nil fun cdv A outer s H E cx => ?_
  exact (sss_cons (ss_set cx rfl (.inl rfl) (se_idx ok.dt cx.ex.hu (se_idx ok.dt cx.ex.hu (se_idx ok.dt cx.ex.hu (se_var (pe_var rfl (.inl rfl))) (se_var (pe_var rfl (.inl rfl))) (fun _ _ => rfl)) (se_int rfl) (fun _ _ => rfl)) (se_idx ok.dt cx.ex.hu (se_idx ok.dt cx.ex.hu (se_var (pe_var rfl (.inl rfl))) (se_int rfl) (fun _ _ => rfl)) (se_var (pe_var rfl (.inl rfl))) (fun _ _ => rfl)) (fun _ _ => rfl)) rfl (.inr rfl))
  (sss_cons (ss_set cx rfl (.inl rfl) (se_idx ok.dt cx.ex.hu (se_var (pe_var rfl (.inl rfl))) (se_int rfl) (fun _ _ => rfl)) rfl (.inr rfl))
  (sss_cons (ss_set cx rfl (.inl rfl) (se_idx ok.dt cx.ex.hu (se_idx ok.dt cx.ex.hu (se_var (pe_var rfl (.inl rfl))) (se_int rfl) (fun _ _ => rfl)) (se_meth cx.ex (f_Canal_basin W ok) (by decide) (met_Canal_basin ok) (se_var (pe_var rfl (.inl rfl))) (sl_cons (se_var (pe_var rfl (.inl rfl))) sl_nil stE_Name) rfl rfl rfl rfl) (fun _ _ => rfl)) rfl (.inr rfl))
  (sss_cons (ss_ret (se_call cx.ex (f_numbered W ok) (by decide) rfl (glo_numbered ok) (ok.kp 41 rfl) (sl_cons (se_var (pe_var rfl (.inl rfl))) (sl_cons (se_var (pe_var rfl (.inl rfl))) (sl_cons (se_call cx.ex (f_passage W ok) (by decide) rfl (glo_passage ok) (ok.kp 21 rfl) (sl_cons (se_idx ok.dt cx.ex.hu (se_attr ok.dt ok.kk (by decide) (fld_locks ok) (se_var (pe_var rfl (.inl rfl))) rfl) (se_var (pe_var rfl (.inl rfl))) (fun _ _ => rfl)) (sl_cons (se_meth cx.ex (f_Canal_full W ok) (by decide) (met_Canal_full ok) (se_var (pe_var rfl (.inl rfl))) (sl_cons (se_idx ok.dt cx.ex.hu (se_var (pe_var rfl (.inl rfl))) (se_int rfl) (fun _ _ => rfl)) (sl_cons (se_var (pe_var rfl (.inl rfl))) sl_nil stE_Name) stE_Subscript) rfl rfl rfl rfl) (sl_cons (se_var (pe_var rfl (.inl rfl))) (sl_cons (se_idx ok.dt cx.ex.hu (se_var (pe_var rfl (.inl rfl))) (se_int rfl) (fun _ _ => rfl)) sl_nil stE_Subscript) stE_Name) stE_Call) stE_Subscript) rfl (by decide) rfl rfl) sl_nil stE_Call) stE_Name) stE_Name) rfl (by decide) rfl rfl))
  sss_nil))))
theorem f_let_pours (W : Wd) (ok : WdOk W) : FnC clos W.D W.P W.w W.K W.mg W.base 3 (He.fAd W.K d_let_pours.at_) 3 c_let_pours [] [] := by
  obtain ⟨fd, F⟩ := ok.def_ 44 (d := d_let_pours) rfl
  refine fnC (W := W) (N := [(PySem.Str.ofString "canal"), (PySem.Str.ofString "state"), (PySem.Str.ofString "k")]) (ps := [(PySem.Str.ofString "canal"), (PySem.Str.ofString "state"), (PySem.Str.ofString "k")]) (d := d_let_pours) (k := 2) F (C8.fnScope_by (by kernel_rfl)) rfl rfl (by decide) (fun _ => F.bindsN fun kV doc pm an cdv ct us hl => by
    match us, hl with
    | [_, _, _], _ => rfl) .nil fun cdv A outer s H E cx => ?_
  exact (sss_cons (ss_ret (se_call cx.ex (f_numbered W ok) (by decide) rfl (glo_numbered ok) (ok.kp 41 rfl) (sl_cons (se_var (pe_var rfl (.inl rfl))) (sl_cons (se_var (pe_var rfl (.inl rfl))) (sl_cons (se_call cx.ex (f_letting W ok) (by decide) rfl (glo_letting ok) (ok.kp 19 rfl) (sl_cons (se_idx ok.dt cx.ex.hu (se_attr ok.dt ok.kk (by decide) (fld_locks ok) (se_var (pe_var rfl (.inl rfl))) rfl) (se_var (pe_var rfl (.inl rfl))) (fun _ _ => rfl)) (sl_cons (se_idx ok.dt cx.ex.hu (se_idx ok.dt cx.ex.hu (se_var (pe_var rfl (.inl rfl))) (se_int rfl) (fun _ _ => rfl)) (se_meth cx.ex (f_Canal_basin W ok) (by decide) (met_Canal_basin ok) (se_var (pe_var rfl (.inl rfl))) (sl_cons (se_var (pe_var rfl (.inl rfl))) sl_nil stE_Name) rfl rfl rfl rfl) (fun _ _ => rfl)) sl_nil stE_Subscript) stE_Subscript) rfl (by decide) rfl rfl) sl_nil stE_Call) stE_Name) stE_Name) rfl (by decide) rfl rfl))
  sss_nil)
theorem f_too_dry (W : Wd) (ok : WdOk W) : FnC clos W.D W.P W.w W.K W.mg W.base 2 (He.fAd W.K d_too_dry.at_) 3 c_too_dry [] [] := by
  obtain ⟨fd, F⟩ := ok.def_ 45 (d := d_too_dry) rfl
  refine fnC (W := W) (N := [(PySem.Str.ofString "canal"), (PySem.Str.ofString "waters"), (PySem.Str.ofString "row"), (PySem.Str.ofString "pour"), (PySem.Str.ofString "giver")]) (ps := [(PySem.Str.ofString "canal"), (PySem.Str.ofString "waters"), (PySem.Str.ofString "row")]) (d := d_too_dry) (k := 1) F (C8.fnScope_by (by kernel_rfl)) rfl rfl (by decide) (fun _ => F.bindsN fun kV doc pm an cdv ct us hl => by
    match us, hl with
    | [_, _, _], _ => rfl) .nil fun cdv A outer s H E cx => ?_
  exact (sss_cons (ss_for cx (si_lst (se_var (pe_var rfl (.inl rfl)))) (pg_name cx.ex.nd rfl (.inl rfl) (.inr rfl)) (sss_cons (ss_set cx rfl (.inl rfl) (se_call cx.ex (f_poured_all W ok) (by decide) rfl (glo_poured_all ok) (ok.kp 14 rfl) (sl_cons (se_var (pe_var rfl (.inl rfl))) (sl_cons (se_lst (sl_cons (se_var (pe_var rfl (.inl rfl))) sl_nil stE_Name)) sl_nil stE_List) stE_Name) rfl (by decide) rfl rfl) rfl (.inr rfl))
  (sss_cons (ss_set cx rfl (.inl rfl) (se_idx ok.dt cx.ex.hu (se_var (pe_var rfl (.inl rfl))) (se_int rfl) (fun _ _ => rfl)) rfl (.inr rfl))
  (sss_cons (ss_iff (st_of (sw_and (st_cmp op_lt (v_lt ok.dt) (se_var (pe_var rfl (.inl rfl))) (se_len ok.dt (se_attr ok.dt ok.kk (by decide) (fld_reaches ok) (se_var (pe_var rfl (.inl rfl))) rfl) ⟨rfl, fr_len ok⟩ rfl) (nomark _)) (sw_and1 (st_cmp op_lt (v_lt ok.dt) (se_idx ok.dt cx.ex.hu (se_var (pe_var rfl (.inl rfl))) (se_var (pe_var rfl (.inl rfl))) (fun _ _ => rfl)) (se_attr ok.dt ok.kk (by decide) (fld_least ok) (se_idx ok.dt cx.ex.hu (se_attr ok.dt ok.kk (by decide) (fld_reaches ok) (se_var (pe_var rfl (.inl rfl))) rfl) (se_var (pe_var rfl (.inl rfl))) (fun _ _ => rfl)) rfl) (nomark _))))) (sss_cons (ss_ret se_bl)
  sss_nil) sss_nil)
  sss_nil))) (fun _ => rfl))
  (sss_cons (ss_ret se_bl)
  sss_nil))
theorem f_why_no_pass (W : Wd) (ok : WdOk W) : FnC clos W.D W.P W.w W.K W.mg W.base 5 (He.fAd W.K d_why_no_pass.at_) 4 c_why_no_pass [] [] := by
  obtain ⟨fd, F⟩ := ok.def_ 46 (d := d_why_no_pass) rfl
  refine fnC (W := W) (N := [(PySem.Str.ofString "canal"), (PySem.Str.ofString "ways"), (PySem.Str.ofString "state"), (PySem.Str.ofString "boat"), (PySem.Str.ofString "way"), (PySem.Str.ofString "place"), (PySem.Str.ofString "beyond")]) (ps := [(PySem.Str.ofString "canal"), (PySem.Str.ofString "ways"), (PySem.Str.ofString "state"), (PySem.Str.ofString "boat")]) (d := d_why_no_pass) (k := 4) F (C8.fnScope_by (by kernel_rfl)) rfl rfl (by decide) (fun _ => F.bindsN fun kV doc pm an cdv ct us hl => by
    match us, hl with
    | [_, _, _, _], _ => rfl) .nil fun cdv A outer s H E cx => ?_
  exact (sss_cons (ss_set cx rfl (.inl rfl) (se_idx ok.dt cx.ex.hu (se_var (pe_var rfl (.inl rfl))) (se_var (pe_var rfl (.inl rfl))) (fun _ _ => rfl)) rfl (.inr rfl))
  (sss_cons (ss_set cx rfl (.inl rfl) (se_idx ok.dt cx.ex.hu (se_idx ok.dt cx.ex.hu (se_var (pe_var rfl (.inl rfl))) (se_int rfl) (fun _ _ => rfl)) (se_var (pe_var rfl (.inl rfl))) (fun _ _ => rfl)) rfl (.inr rfl))
  (sss_cons (ss_iff (st_cmp op_ge (v_ge ok.dt) (se_var (pe_var rfl (.inl rfl))) (se_len ok.dt (se_idx ok.dt cx.ex.hu (se_var (pe_var rfl (.inl rfl))) (se_int rfl) (fun _ _ => rfl)) ⟨rfl, fr_len ok⟩ rfl) (nomark _)) (sss_cons (ss_ret (se_str (cs := [104, 111, 109, 101]) (by kernel_rfl) (by kernel_rfl)))
  sss_nil) sss_nil)
  (sss_cons (ss_iff (st_cmp op_lt (v_lt ok.dt) (se_bin op_addAll (v_add ok.dt) (se_var (pe_var rfl (.inl rfl))) (se_int rfl)) (se_len ok.dt (se_idx ok.dt cx.ex.hu (se_var (pe_var rfl (.inl rfl))) (se_int rfl) (fun _ _ => rfl)) ⟨rfl, fr_len ok⟩ rfl) (nomark _)) (sss_cons (ss_set cx rfl (.inl rfl) (se_call cx.ex (f_reach_of W ok) (by decide) rfl (glo_reach_of ok) (ok.kp 32 rfl) (sl_cons (se_var (pe_var rfl (.inl rfl))) (sl_cons (se_var (pe_var rfl (.inl rfl))) (sl_cons (se_bin op_addAll (v_add ok.dt) (se_var (pe_var rfl (.inl rfl))) (se_int rfl)) sl_nil stE_BinOp) stE_Name) stE_Name) rfl (by decide) rfl rfl) rfl (.inr rfl))
  (sss_cons (ss_iff (st_cmp op_ge (v_ge ok.dt) (se_call cx.ex (f_lying W ok) (by decide) rfl (glo_lying ok) (ok.kp 33 rfl) (sl_cons (se_var (pe_var rfl (.inl rfl))) (sl_cons (se_var (pe_var rfl (.inl rfl))) (sl_cons (se_var (pe_var rfl (.inl rfl))) (sl_cons (se_var (pe_var rfl (.inl rfl))) sl_nil stE_Name) stE_Name) stE_Name) stE_Name) rfl (by decide) rfl rfl) (se_attr ok.dt ok.kk (by decide) (fld_berths ok) (se_idx ok.dt cx.ex.hu (se_attr ok.dt ok.kk (by decide) (fld_reaches ok) (se_var (pe_var rfl (.inl rfl))) rfl) (se_var (pe_var rfl (.inl rfl))) (fun _ _ => rfl)) rfl) (nomark _)) (sss_cons (ss_ret (se_str (cs := [98, 101, 114, 116, 104]) (by kernel_rfl) (by kernel_rfl)))
  sss_nil) sss_nil)
  sss_nil)) sss_nil)
  (sss_cons (ss_iff (st_val (se_call cx.ex (f_too_dry W ok) (by decide) rfl (glo_too_dry ok) (ok.kp 45 rfl) (sl_cons (se_var (pe_var rfl (.inl rfl))) (sl_cons (se_idx ok.dt cx.ex.hu (se_var (pe_var rfl (.inl rfl))) (se_int rfl) (fun _ _ => rfl)) (sl_cons (se_call cx.ex (f_pass_pours W ok) (by decide) rfl (glo_pass_pours ok) (ok.kp 43 rfl) (sl_cons (se_var (pe_var rfl (.inl rfl))) (sl_cons (se_var (pe_var rfl (.inl rfl))) (sl_cons (se_var (pe_var rfl (.inl rfl))) (sl_cons (se_var (pe_var rfl (.inl rfl))) sl_nil stE_Name) stE_Name) stE_Name) stE_Name) rfl (by decide) rfl rfl) sl_nil stE_Call) stE_Subscript) stE_Name) rfl (by decide) rfl rfl) (fun _ => rfl)) (sss_cons (ss_ret (se_str (cs := [119, 97, 116, 101, 114]) (by kernel_rfl) (by kernel_rfl)))
  sss_nil) sss_nil)
  (sss_cons (ss_ret (se_str (cs := []) (by kernel_rfl) (by kernel_rfl)))
  sss_nil))))))
end Ck
-- SF4
set_option Elab.async false
set_option linter.all false
set_option maxRecDepth 100000
set_option maxHeartbeats 4000000
set_option autoImplicit false
namespace Ck
open PySem PySem.Spec PyProof.Rows L2 Lk
theorem f_why_not (W : Wd) (ok : WdOk W) : FnC clos W.D W.P W.w W.K W.mg W.base 6 (He.fAd W.K d_why_not.at_) 4 c_why_not [] [] := by
  obtain ⟨fd, F⟩ := ok.def_ 47 (d := d_why_not) rfl
  refine fnC (W := W) (N := [(PySem.Str.ofString "canal"), (PySem.Str.ofString "ways"), (PySem.Str.ofString "state"), (PySem.Str.ofString "deed")]) (ps := [(PySem.Str.ofString "canal"), (PySem.Str.ofString "ways"), (PySem.Str.ofString "state"), (PySem.Str.ofString "deed")]) (d := d_why_not) (k := 5) F (C8.fnScope_by (by kernel_rfl)) rfl rfl (by decide) (fun _ => F.bindsN fun kV doc pm an cdv ct us hl => by
    match us, hl with
    | [_, _, _, _], _ => rfl) .nil fun cdv A outer s H E cx => ?_
  exact (sss_cons (ss_iff (st_cmp (op_eqAll ok.dt cx.ex.hu) (v_eq ok.dt) (se_idx ok.dt cx.ex.hu (se_var (pe_var rfl (.inl rfl))) (se_int rfl) (fun _ _ => rfl)) (se_str (cs := [112, 97, 115, 115]) (by kernel_rfl) (by kernel_rfl)) (nomark _)) (sss_cons (ss_ret (se_call cx.ex (f_why_no_pass W ok) (by decide) rfl (glo_why_no_pass ok) (ok.kp 46 rfl) (sl_cons (se_var (pe_var rfl (.inl rfl))) (sl_cons (se_var (pe_var rfl (.inl rfl))) (sl_cons (se_var (pe_var rfl (.inl rfl))) (sl_cons (se_idx ok.dt cx.ex.hu (se_var (pe_var rfl (.inl rfl))) (se_int rfl) (fun _ _ => rfl)) sl_nil stE_Subscript) stE_Name) stE_Name) stE_Name) rfl (by decide) rfl rfl))
  sss_nil) sss_nil)
  (sss_cons (ss_iff (st_cmp (op_eqAll ok.dt cx.ex.hu) (v_eq ok.dt) (se_idx ok.dt cx.ex.hu (se_var (pe_var rfl (.inl rfl))) (se_int rfl) (fun _ _ => rfl)) (se_str (cs := [108, 101, 116]) (by kernel_rfl) (by kernel_rfl)) (nomark _)) (sss_cons (ss_iff (st_val (se_meth cx.ex (f_Canal_full W ok) (by decide) (met_Canal_full ok) (se_var (pe_var rfl (.inl rfl))) (sl_cons (se_idx ok.dt cx.ex.hu (se_var (pe_var rfl (.inl rfl))) (se_int rfl) (fun _ _ => rfl)) (sl_cons (se_idx ok.dt cx.ex.hu (se_var (pe_var rfl (.inl rfl))) (se_int rfl) (fun _ _ => rfl)) sl_nil stE_Subscript) stE_Subscript) rfl rfl rfl rfl) (fun _ => rfl)) (sss_cons (ss_ret (se_str (cs := []) (by kernel_rfl) (by kernel_rfl)))
  sss_nil) sss_nil)
  (sss_cons (ss_ret (se_str (cs := [101, 109, 112, 116, 121]) (by kernel_rfl) (by kernel_rfl)))
  sss_nil)) sss_nil)
  (sss_cons (ss_iff (st_cmp op_lt (v_lt ok.dt) (se_idx ok.dt cx.ex.hu (se_var (pe_var rfl (.inl rfl))) (se_int rfl) (fun _ _ => rfl)) (se_len ok.dt (se_attr ok.dt ok.kk (by decide) (fld_nights ok) (se_var (pe_var rfl (.inl rfl))) rfl) ⟨rfl, fr_len ok⟩ rfl) (nomark _)) (sss_cons (ss_ret (se_str (cs := []) (by kernel_rfl) (by kernel_rfl)))
  sss_nil) sss_nil)
  (sss_cons (ss_ret (se_str (cs := [111, 118, 101, 114]) (by kernel_rfl) (by kernel_rfl)))
  sss_nil))))
theorem f_pours (W : Wd) (ok : WdOk W) : FnC clos W.D W.P W.w W.K W.mg W.base 7 (He.fAd W.K d_pours.at_) 4 c_pours [] [] := by
  obtain ⟨fd, F⟩ := ok.def_ 48 (d := d_pours) rfl
  refine fnC (W := W) (N := [(PySem.Str.ofString "canal"), (PySem.Str.ofString "ways"), (PySem.Str.ofString "state"), (PySem.Str.ofString "deed"), (PySem.Str.ofString "row")]) (ps := [(PySem.Str.ofString "canal"), (PySem.Str.ofString "ways"), (PySem.Str.ofString "state"), (PySem.Str.ofString "deed")]) (d := d_pours) (k := 6) F (C8.fnScope_by (by kernel_rfl)) rfl rfl (by decide) (fun _ => F.bindsN fun kV doc pm an cdv ct us hl => by
    match us, hl with
    | [_, _, _, _], _ => rfl) .nil fun cdv A outer s H E cx => ?_
  exact (sss_cons (ss_iff (st_cmp (op_neAll ok.dt cx.ex.hu) (v_ne ok.dt) (se_call cx.ex (f_why_not W ok) (by decide) rfl (glo_why_not ok) (ok.kp 47 rfl) (sl_cons (se_var (pe_var rfl (.inl rfl))) (sl_cons (se_var (pe_var rfl (.inl rfl))) (sl_cons (se_var (pe_var rfl (.inl rfl))) (sl_cons (se_var (pe_var rfl (.inl rfl))) sl_nil stE_Name) stE_Name) stE_Name) stE_Name) rfl (by decide) rfl rfl) (se_str (cs := []) (by kernel_rfl) (by kernel_rfl)) (nomark _)) (sss_cons (ss_raise cx (raise_NotNow ok rfl rfl))
  sss_nil) sss_nil)
  (sss_cons (ss_iff (st_cmp (op_eqAll ok.dt cx.ex.hu) (v_eq ok.dt) (se_idx ok.dt cx.ex.hu (se_var (pe_var rfl (.inl rfl))) (se_int rfl) (fun _ _ => rfl)) (se_str (cs := [110, 105, 103, 104, 116]) (by kernel_rfl) (by kernel_rfl)) (nomark _)) (sss_cons (ss_ret (se_call cx.ex (f_night_pours W ok) (by decide) rfl (glo_night_pours ok) (ok.kp 37 rfl) (sl_cons (se_var (pe_var rfl (.inl rfl))) (sl_cons (se_var (pe_var rfl (.inl rfl))) (sl_cons (se_idx ok.dt cx.ex.hu (se_attr ok.dt ok.kk (by decide) (fld_nights ok) (se_var (pe_var rfl (.inl rfl))) rfl) (se_idx ok.dt cx.ex.hu (se_var (pe_var rfl (.inl rfl))) (se_int rfl) (fun _ _ => rfl)) (fun _ _ => rfl)) sl_nil stE_Subscript) stE_Name) stE_Name) rfl (by decide) rfl rfl))
  sss_nil) sss_nil)
  (sss_cons (ss_iff (st_cmp (op_eqAll ok.dt cx.ex.hu) (v_eq ok.dt) (se_idx ok.dt cx.ex.hu (se_var (pe_var rfl (.inl rfl))) (se_int rfl) (fun _ _ => rfl)) (se_str (cs := [112, 97, 115, 115]) (by kernel_rfl) (by kernel_rfl)) (nomark _)) (sss_cons (ss_set cx rfl (.inl rfl) (se_call cx.ex (f_pass_pours W ok) (by decide) rfl (glo_pass_pours ok) (ok.kp 43 rfl) (sl_cons (se_var (pe_var rfl (.inl rfl))) (sl_cons (se_var (pe_var rfl (.inl rfl))) (sl_cons (se_var (pe_var rfl (.inl rfl))) (sl_cons (se_idx ok.dt cx.ex.hu (se_var (pe_var rfl (.inl rfl))) (se_int rfl) (fun _ _ => rfl)) sl_nil stE_Subscript) stE_Name) stE_Name) stE_Name) rfl (by decide) rfl rfl) rfl (.inr rfl))
  sss_nil) (sss_cons (ss_set cx rfl (.inl rfl) (se_call cx.ex (f_let_pours W ok) (by decide) rfl (glo_let_pours ok) (ok.kp 44 rfl) (sl_cons (se_var (pe_var rfl (.inl rfl))) (sl_cons (se_var (pe_var rfl (.inl rfl))) (sl_cons (se_idx ok.dt cx.ex.hu (se_var (pe_var rfl (.inl rfl))) (se_int rfl) (fun _ _ => rfl)) sl_nil stE_Subscript) stE_Name) stE_Name) rfl (by decide) rfl rfl) rfl (.inr rfl))
  sss_nil))
  (sss_cons (ss_ret (se_bin op_addAll (v_add ok.dt) (se_var (pe_var rfl (.inl rfl))) (se_call cx.ex (f_weir_pours W ok) (by decide) rfl (glo_weir_pours ok) (ok.kp 36 rfl) (sl_cons (se_var (pe_var rfl (.inl rfl))) (sl_cons (se_call cx.ex (f_poured_all W ok) (by decide) rfl (glo_poured_all ok) (ok.kp 14 rfl) (sl_cons (se_idx ok.dt cx.ex.hu (se_var (pe_var rfl (.inl rfl))) (se_int rfl) (fun _ _ => rfl)) (sl_cons (se_var (pe_var rfl (.inl rfl))) sl_nil stE_Name) stE_Subscript) rfl (by decide) rfl rfl) sl_nil stE_Call) stE_Name) rfl (by decide) rfl rfl)))
  sss_nil))))
theorem f_after (W : Wd) (ok : WdOk W) : FnC clos W.D W.P W.w W.K W.mg W.base 8 (He.fAd W.K d_after.at_) 4 c_after [] [] := by
  obtain ⟨fd, F⟩ := ok.def_ 49 (d := d_after) rfl
  refine fnC (W := W) (N := [(PySem.Str.ofString "canal"), (PySem.Str.ofString "ways"), (PySem.Str.ofString "state"), (PySem.Str.ofString "deed"), (PySem.Str.ofString "waters"), (PySem.Str.ofString "places")]) (ps := [(PySem.Str.ofString "canal"), (PySem.Str.ofString "ways"), (PySem.Str.ofString "state"), (PySem.Str.ofString "deed")]) (d := d_after) (k := 7) F (C8.fnScope_by (by kernel_rfl)) rfl rfl (by decide) (fun _ => F.bindsN fun kV doc pm an cdv ct us hl => by
    match us, hl with
    | [_, _, _, _], _ => rfl) .nil fun cdv A outer s H E cx => ?_
  exact (sss_cons (ss_set cx rfl (.inl rfl) (se_call cx.ex (f_poured_all W ok) (by decide) rfl (glo_poured_all ok) (ok.kp 14 rfl) (sl_cons (se_idx ok.dt cx.ex.hu (se_var (pe_var rfl (.inl rfl))) (se_int rfl) (fun _ _ => rfl)) (sl_cons (se_call cx.ex (f_pours W ok) (by decide) rfl (glo_pours ok) (ok.kp 48 rfl) (sl_cons (se_var (pe_var rfl (.inl rfl))) (sl_cons (se_var (pe_var rfl (.inl rfl))) (sl_cons (se_var (pe_var rfl (.inl rfl))) (sl_cons (se_var (pe_var rfl (.inl rfl))) sl_nil stE_Name) stE_Name) stE_Name) stE_Name) rfl (by decide) rfl rfl) sl_nil stE_Call) stE_Subscript) rfl (by decide) rfl rfl) rfl (.inr rfl))
  (sss_cons (ss_iff (st_cmp (op_eqAll ok.dt cx.ex.hu) (v_eq ok.dt) (se_idx ok.dt cx.ex.hu (se_var (pe_var rfl (.inl rfl))) (se_int rfl) (fun _ _ => rfl)) (se_str (cs := [110, 105, 103, 104, 116]) (by kernel_rfl) (by kernel_rfl)) (nomark _)) (sss_cons (ss_ret (se_tup (sl_cons (se_bin op_addAll (v_add ok.dt) (se_idx ok.dt cx.ex.hu (se_var (pe_var rfl (.inl rfl))) (se_int rfl) (fun _ _ => rfl)) (se_int rfl)) (sl_cons (se_var (pe_var rfl (.inl rfl))) (sl_cons (se_idx ok.dt cx.ex.hu (se_var (pe_var rfl (.inl rfl))) (se_int rfl) (fun _ _ => rfl)) sl_nil stE_Subscript) stE_Name) stE_BinOp)))
  sss_nil) sss_nil)
  (sss_cons (ss_set cx rfl (.inl rfl) (se_list (se_idx ok.dt cx.ex.hu (se_var (pe_var rfl (.inl rfl))) (se_int rfl) (fun _ _ => rfl)) ⟨rfl, fr_list ok⟩ rfl) rfl (.inr rfl))
  (sss_cons (ss_iff (st_cmp (op_eqAll ok.dt cx.ex.hu) (v_eq ok.dt) (se_idx ok.dt cx.ex.hu (se_var (pe_var rfl (.inl rfl))) (se_int rfl) (fun _ _ => rfl)) (se_str (cs := [112, 97, 115, 115]) (by kernel_rfl) (by kernel_rfl)) (nomark _)) (sss_cons (ss_setI ok.dt cx (se_var (pe_var rfl (.inl rfl))) (se_idx ok.dt cx.ex.hu (se_var (pe_var rfl (.inl rfl))) (se_int rfl) (fun _ _ => rfl)) (se_bin op_addAll (v_add ok.dt) (se_idx ok.dt cx.ex.hu (se_var (pe_var rfl (.inl rfl))) (se_idx ok.dt cx.ex.hu (se_var (pe_var rfl (.inl rfl))) (se_int rfl) (fun _ _ => rfl)) (fun _ _ => rfl)) (se_int rfl)) rfl rfl rfl (fun _ => rfl))
  sss_nil) sss_nil)
  (sss_cons (ss_ret (se_tup (sl_cons (se_idx ok.dt cx.ex.hu (se_var (pe_var rfl (.inl rfl))) (se_int rfl) (fun _ _ => rfl)) (sl_cons (se_var (pe_var rfl (.inl rfl))) (sl_cons (se_tuple (se_var (pe_var rfl (.inl rfl))) ⟨rfl, fr_tuple ok⟩ rfl) sl_nil stE_Call) stE_Name) stE_Subscript)))
  sss_nil)))))
theorem f_may (W : Wd) (ok : WdOk W) : FnC clos W.D W.P W.w W.K W.mg W.base 7 (He.fAd W.K d_may.at_) 3 c_may [] [] := by
  obtain ⟨fd, F⟩ := ok.def_ 50 (d := d_may) rfl
  refine fnC (W := W) (N := [(PySem.Str.ofString "canal"), (PySem.Str.ofString "ways"), (PySem.Str.ofString "state"), (PySem.Str.ofString "every"), (PySem.Str.ofString "boat"), (PySem.Str.ofString "k"), (PySem.Str.ofString "deed")]) (ps := [(PySem.Str.ofString "canal"), (PySem.Str.ofString "ways"), (PySem.Str.ofString "state")]) (d := d_may) (k := 6) F (C8.fnScope_by (by kernel_rfl)) rfl rfl (by decide) (fun _ => F.bindsN fun kV doc pm an cdv ct us hl => by
    match us, hl with
    | [_, _, _], _ => rfl) .nil fun cdv A outer s H E cx => ?_
  exact (sss_cons (ss_setLc cx rfl rfl (sw_true rfl rfl rfl (by kernel_rfl)) (ow := [("boat", 4)]) (si_r1 (se_len ok.dt (se_var (pe_var rfl (.inr (.inl rfl)))) ⟨rfl, fr_len ok⟩ rfl) ⟨rfl, fr_range ok⟩ rfl) (blkOk_by (by kernel_rfl)) rfl (by decide) (fun _ _ _ _ _ => (pg_name cx.ex.blk.nd rfl (.inl rfl) (.inr rfl))) True.intro (fun _ _ _ _ _ => (se_tup (sl_cons (se_str (cs := [112, 97, 115, 115]) (by kernel_rfl) (by kernel_rfl)) (sl_cons (se_var (pe_var rfl (.inl rfl))) sl_nil stE_Name) stE_Constant))) (fun _ => rfl))
  (sss_cons (ss_set cx rfl (.inl rfl) (se_bin op_addAll (v_add ok.dt) (se_var (pe_var rfl (.inl rfl))) (se_comp cx.ex (ow := [("k", 5)]) (si_r1 (se_len ok.dt (se_attr ok.dt ok.kk (by decide) (fld_locks ok) (se_var (pe_var rfl (.inr (.inl rfl)))) rfl) ⟨rfl, fr_len ok⟩ rfl) ⟨rfl, fr_range ok⟩ rfl) (blkOk_by (by kernel_rfl)) rfl (by decide) (fun _ _ _ _ _ => (pg_name cx.ex.blk.nd rfl (.inl rfl) (.inr rfl))) True.intro (fun _ _ _ _ _ => (se_tup (sl_cons (se_str (cs := [108, 101, 116]) (by kernel_rfl) (by kernel_rfl)) (sl_cons (se_var (pe_var rfl (.inl rfl))) sl_nil stE_Name) stE_Constant))) (fun _ => rfl))) rfl (.inr rfl))
  (sss_cons (ss_app (se_var (pe_var rfl (.inl rfl))) (se_tup (sl_cons (se_str (cs := [110, 105, 103, 104, 116]) (by kernel_rfl) (by kernel_rfl)) sl_nil stE_Constant)) rfl rfl rfl rfl rfl)
  (sss_cons (ss_ret (se_comp cx.ex (ow := [("deed", 6)]) (si_lst (se_var (pe_var rfl (.inl rfl)))) (blkOk_by (by kernel_rfl)) rfl (by decide) (fun _ _ _ _ _ => (pg_name cx.ex.blk.nd rfl (.inl rfl) (.inr rfl))) (fun _ _ _ _ _ => (st_cmp (op_eqAll ok.dt cx.ex.blk.hu) (v_eq ok.dt) (se_call cx.ex.blk (f_why_not W ok) (by decide) rfl (glo_why_not ok) (ok.kp 47 rfl) (sl_cons (se_var (pe_var rfl (.inr (.inl rfl)))) (sl_cons (se_var (pe_var rfl (.inr (.inl rfl)))) (sl_cons (se_var (pe_var rfl (.inr (.inl rfl)))) (sl_cons (se_var (pe_var rfl (.inl rfl))) sl_nil stE_Name) stE_Name) stE_Name) stE_Name) rfl (by decide) rfl rfl) (se_str (cs := []) (by kernel_rfl) (by kernel_rfl)) (nomark _))) (fun _ _ _ _ _ => (se_var (pe_var rfl (.inl rfl)))) (fun _ => rfl)))
  sss_nil))))
theorem f_boat_at (W : Wd) (ok : WdOk W) : FnC clos W.D W.P W.w W.K W.mg W.base 1 (He.fAd W.K d_boat_at.at_) 2 c_boat_at [] [] := by
  obtain ⟨fd, F⟩ := ok.def_ 51 (d := d_boat_at) rfl
  refine fnC (W := W) (N := [(PySem.Str.ofString "names"), (PySem.Str.ofString "name"), (PySem.Str.ofString "k")]) (ps := [(PySem.Str.ofString "names"), (PySem.Str.ofString "name")]) (d := d_boat_at) (k := 0) F (C8.fnScope_by (by kernel_rfl)) rfl rfl (by decide) (fun _ => F.bindsN fun kV doc pm an cdv ct us hl => by
    match us, hl with
    | [_, _], _ => rfl) .nil fun cdv A outer s H E cx => ?_
  exact (sss_cons (ss_for cx (si_r1 (se_len ok.dt (se_var (pe_var rfl (.inl rfl))) ⟨rfl, fr_len ok⟩ rfl) ⟨rfl, fr_range ok⟩ rfl) (pg_name cx.ex.nd rfl (.inl rfl) (.inr rfl)) (sss_cons (ss_iff (st_cmp (op_eqAll ok.dt cx.ex.hu) (v_eq ok.dt) (se_idx ok.dt cx.ex.hu (se_var (pe_var rfl (.inl rfl))) (se_var (pe_var rfl (.inl rfl))) (fun _ _ => rfl)) (se_var (pe_var rfl (.inl rfl))) (nomark _)) (sss_cons (ss_ret (se_var (pe_var rfl (.inl rfl))))
  sss_nil) sss_nil)
  sss_nil) (fun _ => rfl))
  (sss_cons (ss_raise cx (raise_Unknown ok rfl rfl))
  sss_nil))
theorem f_Canal_reach_at (W : Wd) (ok : WdOk W) : FnC clos W.D W.P W.w W.K W.mg W.base 2 (He.fAd W.K d_Canal_reach_at.at_) 2 c_Canal_reach_at [] [] := by
  obtain ⟨fd, F⟩ := ok.def_ 52 (d := d_Canal_reach_at) rfl
  refine fnC (W := W) (N := [(PySem.Str.ofString "self"), (PySem.Str.ofString "name"), (PySem.Str.ofString "found")]) (ps := [(PySem.Str.ofString "self"), (PySem.Str.ofString "name")]) (d := d_Canal_reach_at) (k := 1) F (C8.fnScope_by (by kernel_rfl)) rfl rfl (by decide) (fun _ => F.bindsN fun kV doc pm an cdv ct us hl => by
    match us, hl with
    | [_, _], _ => rfl) .nil fun cdv A outer s H E cx => ?_
  exact (sss_cons (ss_set cx rfl (.inl rfl) (se_call cx.ex (f_place_of W ok) (by decide) rfl (glo_place_of ok) (ok.kp 4 rfl) (sl_cons (se_attr ok.dt ok.kk (by decide) (fld_reaches ok) (se_var (pe_var rfl (.inl rfl))) rfl) (sl_cons (se_var (pe_var rfl (.inl rfl))) sl_nil stE_Name) stE_Attribute) rfl (by decide) rfl rfl) rfl (.inr rfl))
  (sss_cons (ss_iff (st_cmp op_lt (v_lt ok.dt) (se_var (pe_var rfl (.inl rfl))) (se_int rfl) (nomark _)) (sss_cons (ss_raise cx (raise_Unknown ok rfl rfl))
  sss_nil) sss_nil)
  (sss_cons (ss_ret (se_var (pe_var rfl (.inl rfl))))
  sss_nil)))
theorem f_way_of (W : Wd) (ok : WdOk W) : FnC clos W.D W.P W.w W.K W.mg W.base 3 (He.fAd W.K d_way_of.at_) 2 c_way_of [] [] := by
  obtain ⟨fd, F⟩ := ok.def_ 53 (d := d_way_of) rfl
  refine fnC (W := W) (N := [(PySem.Str.ofString "canal"), (PySem.Str.ofString "entry"), (PySem.Str.ofString "start"), (PySem.Str.ofString "steps"), (PySem.Str.ofString "step")]) (ps := [(PySem.Str.ofString "canal"), (PySem.Str.ofString "entry")]) (d := d_way_of) (k := 2) F (C8.fnScope_by (by kernel_rfl)) rfl rfl (by decide) (fun _ => F.bindsN fun kV doc pm an cdv ct us hl => by
    match us, hl with
    | [_, _], _ => rfl) .nil fun cdv A outer s H E cx => ?_
  exact (sss_cons (ss_set cx rfl (.inl rfl) (se_meth cx.ex (f_Canal_reach_at W ok) (by decide) (met_Canal_reach_at ok) (se_var (pe_var rfl (.inr (.inl rfl)))) (sl_cons (se_idx ok.dt cx.ex.hu (se_var (pe_var rfl (.inl rfl))) (se_int rfl) (fun _ _ => rfl)) sl_nil stE_Subscript) rfl rfl rfl rfl) rfl (.inr rfl))
  (sss_cons (ss_set cx rfl (.inl rfl) (se_tuple (se_compx cx rfl rfl (ow := [("step", 4)]) (si_tup (se_idx ok.dt cx.ex.hu (se_var (pe_var rfl (.inl rfl))) (se_int rfl) (fun _ _ => rfl))) (blkOk_by (by kernel_rfl)) rfl (by decide) (fun _ _ _ _ _ _ cy => (pg_name cy.nd rfl (.inl rfl) (.inr rfl))) (fun _ _ _ _ _ _ cy => (se_tup (sl_cons (se_meth cy (f_Canal_lock_at W ok) (by decide) (met_Canal_lock_at ok) (se_var (pe_var rfl (.inr (.inl rfl)))) (sl_cons (se_idx ok.dt cy.hu (se_var (pe_var rfl (.inl rfl))) (se_int rfl) (fun _ _ => rfl)) sl_nil stE_Subscript) rfl rfl rfl rfl) (sl_cons (se_idx ok.dt cy.hu (se_var (pe_var rfl (.inl rfl))) (se_int rfl) (fun _ _ => rfl)) sl_nil stE_Subscript) stE_Call))) (fun _ => rfl)) ⟨rfl, fr_tuple ok⟩ rfl) rfl (.inr rfl))
  (sss_cons (ss_ex (se_call cx.ex (f_linked W ok) (by decide) rfl (glo_linked ok) (ok.kp 22 rfl) (sl_cons (se_var (pe_var rfl (.inr (.inl rfl)))) (sl_cons (se_var (pe_var rfl (.inl rfl))) (sl_cons (se_var (pe_var rfl (.inl rfl))) sl_nil stE_Name) stE_Name) stE_Name) rfl (by decide) rfl rfl) rfl)
  (sss_cons (ss_ret (se_tup (sl_cons (se_var (pe_var rfl (.inl rfl))) (sl_cons (se_var (pe_var rfl (.inl rfl))) sl_nil stE_Name) stE_Name)))
  sss_nil))))
theorem f_Book_init (W : Wd) (ok : WdOk W) : FnC clos W.D W.P W.w W.K W.mg W.base 6 (He.fAd W.K d_Book_init.at_) 2 c_Book_init [] [] := by
  obtain ⟨fd, F⟩ := ok.def_ 54 (d := d_Book_init) rfl
  refine fnC (W := W) (N := [(PySem.Str.ofString "self"), (PySem.Str.ofString "canal")]) (ps := [(PySem.Str.ofString "self"), (PySem.Str.ofString "canal")]) (d := d_Book_init) (k := 5) F (C8.fnScope_by (by kernel_rfl)) rfl rfl (by decide) (fun _ => F.bindsN fun kV doc pm an cdv ct us hl => by
    match us, hl with
    | [_, _], _ => rfl) .nil fun cdv A outer s H E cx => ?_
  exact (sss_cons (ss_setF ok.dt ok.kk (by decide) (fld_house ok) (se_var (pe_var rfl (.inl rfl))) (se_var (pe_var rfl (.inl rfl))) rfl)
  (sss_cons (ss_setF ok.dt ok.kk (by decide) (fld_called ok) (se_var (pe_var rfl (.inl rfl))) (se_lst sl_nil) rfl)
  (sss_cons (ss_setF ok.dt ok.kk (by decide) (fld_courses ok) (se_var (pe_var rfl (.inl rfl))) (se_lst sl_nil) rfl)
  (sss_cons (ss_setF ok.dt ok.kk (by decide) (fld_standing ok) (se_var (pe_var rfl (.inl rfl))) (se_call cx.ex (f_begun W ok) (by decide) rfl (glo_begun ok) (ok.kp 31 rfl) (sl_cons (se_var (pe_var rfl (.inl rfl))) (sl_cons (se_lst sl_nil) sl_nil stE_List) stE_Name) rfl (by decide) rfl rfl) rfl)
  (sss_cons (ss_setF ok.dt ok.kk (by decide) (fld_moved ok) (se_var (pe_var rfl (.inl rfl))) (se_lst sl_nil) rfl)
  (sss_cons (ss_setF ok.dt ok.kk (by decide) (fld_gatewords ok) (se_var (pe_var rfl (.inl rfl))) (se_lst sl_nil) rfl)
  (sss_cons (ss_setF ok.dt ok.kk (by decide) (fld_told ok) (se_var (pe_var rfl (.inl rfl))) (se_lst sl_nil) rfl)
  sss_nil)))))))
theorem f_Book_copied (W : Wd) (ok : WdOk W) : FnC clos W.D W.P W.w W.K W.mg W.base 8 (He.fAd W.K d_Book_copied.at_) 1 c_Book_copied [] [] := by
  obtain ⟨fd, F⟩ := ok.def_ 55 (d := d_Book_copied) rfl
  refine fnC (W := W) (N := [(PySem.Str.ofString "self"), (PySem.Str.ofString "twin")]) (ps := [(PySem.Str.ofString "self")]) (d := d_Book_copied) (k := 7) F (C8.fnScope_by (by kernel_rfl)) rfl rfl (by decide) (fun _ => F.bindsN fun kV doc pm an cdv ct us hl => by
    match us, hl with
    | [_], _ => rfl) .nil fun cdv A outer s H E cx => ?_
  exact (sss_cons (ss_set cx rfl (.inl rfl) (se_make cx.ex (f_Book_init W ok) (by decide) (by decide) (mkr_Book ok) rfl (cls_Book ok) (sl_cons (se_attr ok.dt ok.kk (by decide) (fld_house ok) (se_var (pe_var rfl (.inl rfl))) rfl) sl_nil stE_Attribute) rfl (by decide) rfl rfl) rfl (.inr rfl))
  (sss_cons (ss_setF ok.dt ok.kk (by decide) (fld_called ok) (se_var (pe_var rfl (.inl rfl))) (se_list (se_attr ok.dt ok.kk (by decide) (fld_called ok) (se_var (pe_var rfl (.inl rfl))) rfl) ⟨rfl, fr_list ok⟩ rfl) rfl)
  (sss_cons (ss_setF ok.dt ok.kk (by decide) (fld_courses ok) (se_var (pe_var rfl (.inl rfl))) (se_list (se_attr ok.dt ok.kk (by decide) (fld_courses ok) (se_var (pe_var rfl (.inl rfl))) rfl) ⟨rfl, fr_list ok⟩ rfl) rfl)
  (sss_cons (ss_setF ok.dt ok.kk (by decide) (fld_standing ok) (se_var (pe_var rfl (.inl rfl))) (se_attr ok.dt ok.kk (by decide) (fld_standing ok) (se_var (pe_var rfl (.inl rfl))) rfl) rfl)
  (sss_cons (ss_setF ok.dt ok.kk (by decide) (fld_moved ok) (se_var (pe_var rfl (.inl rfl))) (se_list (se_attr ok.dt ok.kk (by decide) (fld_moved ok) (se_var (pe_var rfl (.inl rfl))) rfl) ⟨rfl, fr_list ok⟩ rfl) rfl)
  (sss_cons (ss_setF ok.dt ok.kk (by decide) (fld_gatewords ok) (se_var (pe_var rfl (.inl rfl))) (se_list (se_attr ok.dt ok.kk (by decide) (fld_gatewords ok) (se_var (pe_var rfl (.inl rfl))) rfl) ⟨rfl, fr_list ok⟩ rfl) rfl)
  (sss_cons (ss_setF ok.dt ok.kk (by decide) (fld_told ok) (se_var (pe_var rfl (.inl rfl))) (se_list (se_attr ok.dt ok.kk (by decide) (fld_told ok) (se_var (pe_var rfl (.inl rfl))) rfl) ⟨rfl, fr_list ok⟩ rfl) rfl)
  (sss_cons (ss_ret (se_var (pe_var rfl (.inl rfl))))
  sss_nil))))))))
theorem f_Book_deed_of (W : Wd) (ok : WdOk W) : FnC clos W.D W.P W.w W.K W.mg W.base 3 (He.fAd W.K d_Book_deed_of.at_) 2 c_Book_deed_of [] [] := by
  obtain ⟨fd, F⟩ := ok.def_ 56 (d := d_Book_deed_of) rfl
  refine fnC (W := W) (N := [(PySem.Str.ofString "self"), (PySem.Str.ofString "entry")]) (ps := [(PySem.Str.ofString "self"), (PySem.Str.ofString "entry")]) (d := d_Book_deed_of) (k := 2) F (C8.fnScope_by (by kernel_rfl)) rfl rfl (by decide) (fun _ => F.bindsN fun kV doc pm an cdv ct us hl => by
    match us, hl with
    | [_, _], _ => rfl) .nil fun cdv A outer s H E cx => ?_
  exact (sss_cons (ss_iff (st_cmp (op_eqAll ok.dt cx.ex.hu) (v_eq ok.dt) (se_idx ok.dt cx.ex.hu (se_var (pe_var rfl (.inl rfl))) (se_int rfl) (fun _ _ => rfl)) (se_str (cs := [112, 97, 115, 115]) (by kernel_rfl) (by kernel_rfl)) (nomark _)) (sss_cons (ss_ret (se_tup (sl_cons (se_str (cs := [112, 97, 115, 115]) (by kernel_rfl) (by kernel_rfl)) (sl_cons (se_call cx.ex (f_boat_at W ok) (by decide) rfl (glo_boat_at ok) (ok.kp 51 rfl) (sl_cons (se_attr ok.dt ok.kk (by decide) (fld_called ok) (se_var (pe_var rfl (.inl rfl))) rfl) (sl_cons (se_idx ok.dt cx.ex.hu (se_var (pe_var rfl (.inl rfl))) (se_int rfl) (fun _ _ => rfl)) sl_nil stE_Subscript) stE_Attribute) rfl (by decide) rfl rfl) sl_nil stE_Call) stE_Constant)))
  sss_nil) sss_nil)
  (sss_cons (ss_iff (st_cmp (op_eqAll ok.dt cx.ex.hu) (v_eq ok.dt) (se_idx ok.dt cx.ex.hu (se_var (pe_var rfl (.inl rfl))) (se_int rfl) (fun _ _ => rfl)) (se_str (cs := [108, 101, 116]) (by kernel_rfl) (by kernel_rfl)) (nomark _)) (sss_cons (ss_ret (se_tup (sl_cons (se_str (cs := [108, 101, 116]) (by kernel_rfl) (by kernel_rfl)) (sl_cons (se_meth cx.ex (f_Canal_lock_at W ok) (by decide) (met_Canal_lock_at ok) (se_attr ok.dt ok.kk (by decide) (fld_house ok) (se_var (pe_var rfl (.inl rfl))) rfl) (sl_cons (se_idx ok.dt cx.ex.hu (se_var (pe_var rfl (.inl rfl))) (se_int rfl) (fun _ _ => rfl)) sl_nil stE_Subscript) rfl rfl rfl rfl) sl_nil stE_Call) stE_Constant)))
  sss_nil) sss_nil)
  (sss_cons (ss_ret (se_tup (sl_cons (se_str (cs := [110, 105, 103, 104, 116]) (by kernel_rfl) (by kernel_rfl)) sl_nil stE_Constant)))
  sss_nil)))
theorem f_Book_why_no_come (W : Wd) (ok : WdOk W) : FnC clos W.D W.P W.w W.K W.mg W.base 4 (He.fAd W.K d_Book_why_no_come.at_) 2 c_Book_why_no_come [] [] := by
  obtain ⟨fd, F⟩ := ok.def_ 57 (d := d_Book_why_no_come) rfl
  refine fnC (W := W) (N := [(PySem.Str.ofString "self"), (PySem.Str.ofString "entry"), (PySem.Str.ofString "start")]) (ps := [(PySem.Str.ofString "self"), (PySem.Str.ofString "entry")]) (d := d_Book_why_no_come) (k := 3) F (C8.fnScope_by (by kernel_rfl)) rfl rfl (by decide) (fun _ => F.bindsN fun kV doc pm an cdv ct us hl => by
    match us, hl with
    | [_, _], _ => rfl) .nil fun cdv A outer s H E cx => ?_
  exact (sss_cons (ss_iff (st_not (st_val (se_isname (x := "is_name") ok.dt cx.ex (f_is_name W ok) (by decide) rfl (glo_is_name ok) (ok.kp 110 rfl) (se_idx ok.dt cx.ex.hu (se_var (pe_var rfl (.inl rfl))) (se_int rfl) (fun _ _ => rfl)) rfl (by decide)) (fun _ => rfl))) (sss_cons (ss_raise cx (raise_BadRow ok rfl rfl))
  sss_nil) sss_nil)
  (sss_cons (ss_iff (st_cmp (op_inAll cx.ex.hu) (v_in ok.dt) (se_idx ok.dt cx.ex.hu (se_var (pe_var rfl (.inl rfl))) (se_int rfl) (fun _ _ => rfl)) (se_attr ok.dt ok.kk (by decide) (fld_called ok) (se_var (pe_var rfl (.inl rfl))) rfl) (by with_unfolding_all rfl)) (sss_cons (ss_raise cx (raise_Twice ok rfl rfl))
  sss_nil) sss_nil)
  (sss_cons (ss_iff (st_cmp op_ge (v_ge ok.dt) (se_len ok.dt (se_attr ok.dt ok.kk (by decide) (fld_called ok) (se_var (pe_var rfl (.inl rfl))) rfl) ⟨rfl, fr_len ok⟩ rfl) (se_glob rfl (int_MOST_BOATS ok) (by decide)) (nomark _)) (sss_cons (ss_raise cx (raise_TooMany ok rfl rfl))
  sss_nil) sss_nil)
  (sss_cons (ss_set cx rfl (.inl rfl) (se_idx ok.dt cx.ex.hu (se_call cx.ex (f_way_of W ok) (by decide) rfl (glo_way_of ok) (ok.kp 53 rfl) (sl_cons (se_attr ok.dt ok.kk (by decide) (fld_house ok) (se_var (pe_var rfl (.inl rfl))) rfl) (sl_cons (se_var (pe_var rfl (.inl rfl))) sl_nil stE_Name) stE_Attribute) rfl (by decide) rfl rfl) (se_int rfl) (fun _ _ => rfl)) rfl (.inr rfl))
  (sss_cons (ss_iff (st_cmp op_ge (v_ge ok.dt) (se_call cx.ex (f_lying W ok) (by decide) rfl (glo_lying ok) (ok.kp 33 rfl) (sl_cons (se_attr ok.dt ok.kk (by decide) (fld_house ok) (se_var (pe_var rfl (.inl rfl))) rfl) (sl_cons (se_attr ok.dt ok.kk (by decide) (fld_courses ok) (se_var (pe_var rfl (.inl rfl))) rfl) (sl_cons (se_attr ok.dt ok.kk (by decide) (fld_standing ok) (se_var (pe_var rfl (.inl rfl))) rfl) (sl_cons (se_var (pe_var rfl (.inl rfl))) sl_nil stE_Name) stE_Attribute) stE_Attribute) stE_Attribute) rfl (by decide) rfl rfl) (se_attr ok.dt ok.kk (by decide) (fld_berths ok) (se_idx ok.dt cx.ex.hu (se_attr ok.dt ok.kk (by decide) (fld_reaches ok) (se_attr ok.dt ok.kk (by decide) (fld_house ok) (se_var (pe_var rfl (.inl rfl))) rfl) rfl) (se_var (pe_var rfl (.inl rfl))) (fun _ _ => rfl)) rfl) (nomark _)) (sss_cons (ss_ret (se_str (cs := [98, 101, 114, 116, 104]) (by kernel_rfl) (by kernel_rfl)))
  sss_nil) sss_nil)
  (sss_cons (ss_ret (se_str (cs := []) (by kernel_rfl) (by kernel_rfl)))
  sss_nil))))))
theorem f_Book_why_no_night (W : Wd) (ok : WdOk W) : FnC clos W.D W.P W.w W.K W.mg W.base 2 (He.fAd W.K d_Book_why_no_night.at_) 2 c_Book_why_no_night [] [] := by
  obtain ⟨fd, F⟩ := ok.def_ 58 (d := d_Book_why_no_night) rfl
  refine fnC (W := W) (N := [(PySem.Str.ofString "self"), (PySem.Str.ofString "weather")]) (ps := [(PySem.Str.ofString "self"), (PySem.Str.ofString "weather")]) (d := d_Book_why_no_night) (k := 1) F (C8.fnScope_by (by kernel_rfl)) rfl rfl (by decide) (fun _ => F.bindsN fun kV doc pm an cdv ct us hl => by
    match us, hl with
    | [_, _], _ => rfl) .nil fun cdv A outer s H E cx => ?_
  exact (sss_cons (ss_iff (st_cmp (op_neAll ok.dt cx.ex.hu) (v_ne ok.dt) (se_len ok.dt (se_var (pe_var rfl (.inl rfl))) ⟨rfl, fr_len ok⟩ rfl) (se_len ok.dt (se_attr ok.dt ok.kk (by decide) (fld_reaches ok) (se_attr ok.dt ok.kk (by decide) (fld_house ok) (se_var (pe_var rfl (.inl rfl))) rfl) rfl) ⟨rfl, fr_len ok⟩ rfl) (nomark _)) (sss_cons (ss_raise cx (raise_BadNumber ok rfl rfl))
  sss_nil) sss_nil)
  (sss_cons (ss_iff (st_cmp op_ge (v_ge ok.dt) (se_idx ok.dt cx.ex.hu (se_attr ok.dt ok.kk (by decide) (fld_standing ok) (se_var (pe_var rfl (.inl rfl))) rfl) (se_int rfl) (fun _ _ => rfl)) (se_len ok.dt (se_attr ok.dt ok.kk (by decide) (fld_nights ok) (se_attr ok.dt ok.kk (by decide) (fld_house ok) (se_var (pe_var rfl (.inl rfl))) rfl) rfl) ⟨rfl, fr_len ok⟩ rfl) (nomark _)) (sss_cons (ss_ret (se_str (cs := [111, 118, 101, 114]) (by kernel_rfl) (by kernel_rfl)))
  sss_nil) sss_nil)
  (sss_cons (ss_iff (st_not (st_val (se_call cx.ex (f_wet_enough W ok) (by decide) rfl (glo_wet_enough ok) (ok.kp 38 rfl) (sl_cons (se_var (pe_var rfl (.inl rfl))) (sl_cons (se_idx ok.dt cx.ex.hu (se_attr ok.dt ok.kk (by decide) (fld_nights ok) (se_attr ok.dt ok.kk (by decide) (fld_house ok) (se_var (pe_var rfl (.inl rfl))) rfl) rfl) (se_idx ok.dt cx.ex.hu (se_attr ok.dt ok.kk (by decide) (fld_standing ok) (se_var (pe_var rfl (.inl rfl))) rfl) (se_int rfl) (fun _ _ => rfl)) (fun _ _ => rfl)) sl_nil stE_Subscript) stE_Name) rfl (by decide) rfl rfl) (fun _ => rfl))) (sss_cons (ss_raise cx (raise_TooDry ok rfl rfl))
  sss_nil) sss_nil)
  (sss_cons (ss_ret (se_str (cs := []) (by kernel_rfl) (by kernel_rfl)))
  sss_nil))))
end Ck
-- SF5
set_option Elab.async false
set_option linter.all false
set_option maxRecDepth 100000
set_option maxHeartbeats 4000000
set_option autoImplicit false
namespace Ck
open PySem PySem.Spec PyProof.Rows L2 Lk
theorem f_Book_fault (W : Wd) (ok : WdOk W) : FnC clos W.D W.P W.w W.K W.mg W.base 7 (He.fAd W.K d_Book_fault.at_) 2 c_Book_fault [] [] := by
  obtain ⟨fd, F⟩ := ok.def_ 59 (d := d_Book_fault) rfl
  refine fnC (W := W) (N := [(PySem.Str.ofString "self"), (PySem.Str.ofString "entry"), (PySem.Str.ofString "r")]) (ps := [(PySem.Str.ofString "self"), (PySem.Str.ofString "entry")]) (d := d_Book_fault) (k := 6) F (C8.fnScope_by (by kernel_rfl)) rfl rfl (by decide) (fun _ => F.bindsN fun kV doc pm an cdv ct us hl => by
    match us, hl with
    | [_, _], _ => rfl) .nil fun cdv A outer s H E cx => ?_
  exact (sss_cons (ss_iff (st_cmp (op_eqAll ok.dt cx.ex.hu) (v_eq ok.dt) (se_idx ok.dt cx.ex.hu (se_var (pe_var rfl (.inl rfl))) (se_int rfl) (fun _ _ => rfl)) (se_str (cs := [99, 111, 109, 101]) (by kernel_rfl) (by kernel_rfl)) (nomark _)) (sss_cons (ss_ret (se_meth cx.ex (f_Book_why_no_come W ok) (by decide) (met_Book_why_no_come ok) (se_var (pe_var rfl (.inl rfl))) (sl_cons (se_var (pe_var rfl (.inl rfl))) sl_nil stE_Name) rfl rfl rfl rfl))
  sss_nil) sss_nil)
  (sss_cons (ss_iff (st_cmp (op_eqAll ok.dt cx.ex.hu) (v_eq ok.dt) (se_idx ok.dt cx.ex.hu (se_var (pe_var rfl (.inl rfl))) (se_int rfl) (fun _ _ => rfl)) (se_str (cs := [110, 105, 103, 104, 116]) (by kernel_rfl) (by kernel_rfl)) (nomark _)) (sss_cons (ss_ret (se_meth cx.ex (f_Book_why_no_night W ok) (by decide) (met_Book_why_no_night ok) (se_var (pe_var rfl (.inl rfl))) (sl_cons (se_idx ok.dt cx.ex.hu (se_var (pe_var rfl (.inl rfl))) (se_int rfl) (fun _ _ => rfl)) sl_nil stE_Subscript) rfl rfl rfl rfl))
  sss_nil) sss_nil)
  (sss_cons (ss_iff (st_of (sw_or (st_cmp (op_eqAll ok.dt cx.ex.hu) (v_eq ok.dt) (se_idx ok.dt cx.ex.hu (se_var (pe_var rfl (.inl rfl))) (se_int rfl) (fun _ _ => rfl)) (se_str (cs := [112, 97, 115, 115]) (by kernel_rfl) (by kernel_rfl)) (nomark _)) (sw_or1 (st_cmp (op_eqAll ok.dt cx.ex.hu) (v_eq ok.dt) (se_idx ok.dt cx.ex.hu (se_var (pe_var rfl (.inl rfl))) (se_int rfl) (fun _ _ => rfl)) (se_str (cs := [108, 101, 116]) (by kernel_rfl) (by kernel_rfl)) (nomark _))))) (sss_cons (ss_ret (se_call cx.ex (f_why_not W ok) (by decide) rfl (glo_why_not ok) (ok.kp 47 rfl) (sl_cons (se_attr ok.dt ok.kk (by decide) (fld_house ok) (se_var (pe_var rfl (.inl rfl))) rfl) (sl_cons (se_attr ok.dt ok.kk (by decide) (fld_courses ok) (se_var (pe_var rfl (.inl rfl))) rfl) (sl_cons (se_attr ok.dt ok.kk (by decide) (fld_standing ok) (se_var (pe_var rfl (.inl rfl))) rfl) (sl_cons (se_meth cx.ex (f_Book_deed_of W ok) (by decide) (met_Book_deed_of ok) (se_var (pe_var rfl (.inl rfl))) (sl_cons (se_var (pe_var rfl (.inl rfl))) sl_nil stE_Name) rfl rfl rfl rfl) sl_nil stE_Call) stE_Attribute) stE_Attribute) stE_Attribute) rfl (by decide) rfl rfl))
  sss_nil) sss_nil)
  (sss_cons (ss_set cx rfl (.inl rfl) (se_meth cx.ex (f_Canal_reach_at W ok) (by decide) (met_Canal_reach_at ok) (se_attr ok.dt ok.kk (by decide) (fld_house ok) (se_var (pe_var rfl (.inl rfl))) rfl) (sl_cons (se_idx ok.dt cx.ex.hu (se_var (pe_var rfl (.inl rfl))) (se_int rfl) (fun _ _ => rfl)) sl_nil stE_Subscript) rfl rfl rfl rfl) rfl (.inr rfl))
  (sss_cons (ss_iff (st_of (sw_and (st_cmp (op_eqAll ok.dt cx.ex.hu) (v_eq ok.dt) (se_idx ok.dt cx.ex.hu (se_var (pe_var rfl (.inl rfl))) (se_int rfl) (fun _ _ => rfl)) (se_str (cs := [116, 97, 107, 101]) (by kernel_rfl) (by kernel_rfl)) (nomark _)) (sw_and1 (st_cmp op_lt (v_lt ok.dt) (se_bin op_sub v_sub (se_idx ok.dt cx.ex.hu (se_idx ok.dt cx.ex.hu (se_attr ok.dt ok.kk (by decide) (fld_standing ok) (se_var (pe_var rfl (.inl rfl))) rfl) (se_int rfl) (fun _ _ => rfl)) (se_var (pe_var rfl (.inl rfl))) (fun _ _ => rfl)) (se_idx ok.dt cx.ex.hu (se_var (pe_var rfl (.inl rfl))) (se_int rfl) (fun _ _ => rfl))) (se_attr ok.dt ok.kk (by decide) (fld_least ok) (se_idx ok.dt cx.ex.hu (se_attr ok.dt ok.kk (by decide) (fld_reaches ok) (se_attr ok.dt ok.kk (by decide) (fld_house ok) (se_var (pe_var rfl (.inl rfl))) rfl) rfl) (se_var (pe_var rfl (.inl rfl))) (fun _ _ => rfl)) rfl) (nomark _))))) (sss_cons (ss_ret (se_str (cs := [119, 97, 116, 101, 114]) (by kernel_rfl) (by kernel_rfl)))
  sss_nil) sss_nil)
  (sss_cons (ss_ret (se_str (cs := []) (by kernel_rfl) (by kernel_rfl)))
  sss_nil))))))
theorem f_Book_pours_of (W : Wd) (ok : WdOk W) : FnC clos W.D W.P W.w W.K W.mg W.base 8 (He.fAd W.K d_Book_pours_of.at_) 2 c_Book_pours_of [] [] := by
  obtain ⟨fd, F⟩ := ok.def_ 60 (d := d_Book_pours_of) rfl
  refine fnC (W := W) (N := [(PySem.Str.ofString "self"), (PySem.Str.ofString "entry"), (PySem.Str.ofString "r"), (PySem.Str.ofString "row")]) (ps := [(PySem.Str.ofString "self"), (PySem.Str.ofString "entry")]) (d := d_Book_pours_of) (k := 7) F (C8.fnScope_by (by kernel_rfl)) rfl rfl (by decide) (fun _ => F.bindsN fun kV doc pm an cdv ct us hl => by
    match us, hl with
    | [_, _], _ => rfl) .nil fun cdv A outer s H E cx => ?_
  exact (sss_cons (ss_iff (st_cmp (op_eqAll ok.dt cx.ex.hu) (v_eq ok.dt) (se_idx ok.dt cx.ex.hu (se_var (pe_var rfl (.inl rfl))) (se_int rfl) (fun _ _ => rfl)) (se_str (cs := [99, 111, 109, 101]) (by kernel_rfl) (by kernel_rfl)) (nomark _)) (sss_cons (ss_ret (se_lst sl_nil))
  sss_nil) sss_nil)
  (sss_cons (ss_iff (st_cmp (op_eqAll ok.dt cx.ex.hu) (v_eq ok.dt) (se_idx ok.dt cx.ex.hu (se_var (pe_var rfl (.inl rfl))) (se_int rfl) (fun _ _ => rfl)) (se_str (cs := [110, 105, 103, 104, 116]) (by kernel_rfl) (by kernel_rfl)) (nomark _)) (sss_cons (ss_ret (se_call cx.ex (f_night_pours W ok) (by decide) rfl (glo_night_pours ok) (ok.kp 37 rfl) (sl_cons (se_attr ok.dt ok.kk (by decide) (fld_house ok) (se_var (pe_var rfl (.inl rfl))) rfl) (sl_cons (se_attr ok.dt ok.kk (by decide) (fld_standing ok) (se_var (pe_var rfl (.inl rfl))) rfl) (sl_cons (se_idx ok.dt cx.ex.hu (se_var (pe_var rfl (.inl rfl))) (se_int rfl) (fun _ _ => rfl)) sl_nil stE_Subscript) stE_Attribute) stE_Attribute) rfl (by decide) rfl rfl))
  sss_nil) sss_nil)
  (sss_cons (ss_iff (st_of (sw_or (st_cmp (op_eqAll ok.dt cx.ex.hu) (v_eq ok.dt) (se_idx ok.dt cx.ex.hu (se_var (pe_var rfl (.inl rfl))) (se_int rfl) (fun _ _ => rfl)) (se_str (cs := [112, 97, 115, 115]) (by kernel_rfl) (by kernel_rfl)) (nomark _)) (sw_or1 (st_cmp (op_eqAll ok.dt cx.ex.hu) (v_eq ok.dt) (se_idx ok.dt cx.ex.hu (se_var (pe_var rfl (.inl rfl))) (se_int rfl) (fun _ _ => rfl)) (se_str (cs := [108, 101, 116]) (by kernel_rfl) (by kernel_rfl)) (nomark _))))) (sss_cons (ss_ret (se_call cx.ex (f_pours W ok) (by decide) rfl (glo_pours ok) (ok.kp 48 rfl) (sl_cons (se_attr ok.dt ok.kk (by decide) (fld_house ok) (se_var (pe_var rfl (.inl rfl))) rfl) (sl_cons (se_attr ok.dt ok.kk (by decide) (fld_courses ok) (se_var (pe_var rfl (.inl rfl))) rfl) (sl_cons (se_attr ok.dt ok.kk (by decide) (fld_standing ok) (se_var (pe_var rfl (.inl rfl))) rfl) (sl_cons (se_meth cx.ex (f_Book_deed_of W ok) (by decide) (met_Book_deed_of ok) (se_var (pe_var rfl (.inl rfl))) (sl_cons (se_var (pe_var rfl (.inl rfl))) sl_nil stE_Name) rfl rfl rfl rfl) sl_nil stE_Call) stE_Attribute) stE_Attribute) stE_Attribute) rfl (by decide) rfl rfl))
  sss_nil) sss_nil)
  (sss_cons (ss_iff (st_cmp (op_eqAll ok.dt cx.ex.hu) (v_eq ok.dt) (se_idx ok.dt cx.ex.hu (se_var (pe_var rfl (.inl rfl))) (se_int rfl) (fun _ _ => rfl)) (se_int rfl) (nomark _)) (sss_cons (ss_ret (se_lst sl_nil))
  sss_nil) sss_nil)
  (sss_cons (ss_set cx rfl (.inl rfl) (se_meth cx.ex (f_Canal_reach_at W ok) (by decide) (met_Canal_reach_at ok) (se_attr ok.dt ok.kk (by decide) (fld_house ok) (se_var (pe_var rfl (.inl rfl))) rfl) (sl_cons (se_idx ok.dt cx.ex.hu (se_var (pe_var rfl (.inl rfl))) (se_int rfl) (fun _ _ => rfl)) sl_nil stE_Subscript) rfl rfl rfl rfl) rfl (.inr rfl))
  (sss_cons (ss_iff (st_cmp (op_eqAll ok.dt cx.ex.hu) (v_eq ok.dt) (se_idx ok.dt cx.ex.hu (se_var (pe_var rfl (.inl rfl))) (se_int rfl) (fun _ _ => rfl)) (se_str (cs := [116, 97, 107, 101]) (by kernel_rfl) (by kernel_rfl)) (nomark _)) (sss_cons (ss_ret (se_lst (sl_cons (se_tup (sl_cons (se_var (pe_var rfl (.inl rfl))) (sl_cons (se_meth0 cx.ex (f_Canal_sky W ok) (by decide) (met_Canal_sky ok) (se_attr ok.dt ok.kk (by decide) (fld_house ok) (se_var (pe_var rfl (.inl rfl))) rfl) rfl) (sl_cons (se_idx ok.dt cx.ex.hu (se_var (pe_var rfl (.inl rfl))) (se_int rfl) (fun _ _ => rfl)) sl_nil stE_Subscript) stE_Call) stE_Name)) sl_nil stE_Tuple)))
  sss_nil) sss_nil)
  (sss_cons (ss_set cx rfl (.inl rfl) (se_lst (sl_cons (se_tup (sl_cons (se_meth0 cx.ex (f_Canal_sky W ok) (by decide) (met_Canal_sky ok) (se_attr ok.dt ok.kk (by decide) (fld_house ok) (se_var (pe_var rfl (.inl rfl))) rfl) rfl) (sl_cons (se_var (pe_var rfl (.inl rfl))) (sl_cons (se_idx ok.dt cx.ex.hu (se_var (pe_var rfl (.inl rfl))) (se_int rfl) (fun _ _ => rfl)) sl_nil stE_Subscript) stE_Name) stE_Call)) sl_nil stE_Tuple)) rfl (.inr rfl))
  (sss_cons (ss_ret (se_bin op_addAll (v_add ok.dt) (se_var (pe_var rfl (.inl rfl))) (se_call cx.ex (f_weir_pours W ok) (by decide) rfl (glo_weir_pours ok) (ok.kp 36 rfl) (sl_cons (se_attr ok.dt ok.kk (by decide) (fld_house ok) (se_var (pe_var rfl (.inl rfl))) rfl) (sl_cons (se_call cx.ex (f_poured_all W ok) (by decide) rfl (glo_poured_all ok) (ok.kp 14 rfl) (sl_cons (se_idx ok.dt cx.ex.hu (se_attr ok.dt ok.kk (by decide) (fld_standing ok) (se_var (pe_var rfl (.inl rfl))) rfl) (se_int rfl) (fun _ _ => rfl)) (sl_cons (se_var (pe_var rfl (.inl rfl))) sl_nil stE_Name) stE_Subscript) rfl (by decide) rfl rfl) sl_nil stE_Call) stE_Attribute) rfl (by decide) rfl rfl)))
  sss_nil))))))))
theorem f_Book_behind (W : Wd) (ok : WdOk W) : FnC clos W.D W.P W.w W.K W.mg W.base 9 (He.fAd W.K d_Book_behind.at_) 2 c_Book_behind [] [] := by
  obtain ⟨fd, F⟩ := ok.def_ 61 (d := d_Book_behind) rfl
  refine fnC (W := W) (N := [(PySem.Str.ofString "self"), (PySem.Str.ofString "entry"), (PySem.Str.ofString "day"), (PySem.Str.ofString "waters"), (PySem.Str.ofString "places"), (PySem.Str.ofString "ways"), (PySem.Str.ofString "boat")]) (ps := [(PySem.Str.ofString "self"), (PySem.Str.ofString "entry")]) (d := d_Book_behind) (k := 8) F (C8.fnScope_by (by kernel_rfl)) rfl rfl (by decide) (fun _ => F.bindsN fun kV doc pm an cdv ct us hl => by
    match us, hl with
    | [_, _], _ => rfl) .nil fun cdv A outer s H E cx => ?_
  exact (sss_cons (ss_iff (st_cmp (op_neAll ok.dt cx.ex.hu) (v_ne ok.dt) (se_meth cx.ex (f_Book_fault W ok) (by decide) (met_Book_fault ok) (se_var (pe_var rfl (.inl rfl))) (sl_cons (se_var (pe_var rfl (.inl rfl))) sl_nil stE_Name) rfl rfl rfl rfl) (se_str (cs := []) (by kernel_rfl) (by kernel_rfl)) (nomark _)) (sss_cons (ss_raise cx (raise_NotNow ok rfl rfl))
  sss_nil) sss_nil)
  (sss_cons (ss_set cx rfl (.inl rfl) (se_idx ok.dt cx.ex.hu (se_attr ok.dt ok.kk (by decide) (fld_standing ok) (se_var (pe_var rfl (.inl rfl))) rfl) (se_int rfl) (fun _ _ => rfl)) rfl (.inr rfl))
  (sss_cons (ss_set cx rfl (.inl rfl) (se_call cx.ex (f_poured_all W ok) (by decide) rfl (glo_poured_all ok) (ok.kp 14 rfl) (sl_cons (se_idx ok.dt cx.ex.hu (se_attr ok.dt ok.kk (by decide) (fld_standing ok) (se_var (pe_var rfl (.inl rfl))) rfl) (se_int rfl) (fun _ _ => rfl)) (sl_cons (se_meth cx.ex (f_Book_pours_of W ok) (by decide) (met_Book_pours_of ok) (se_var (pe_var rfl (.inl rfl))) (sl_cons (se_var (pe_var rfl (.inl rfl))) sl_nil stE_Name) rfl rfl rfl rfl) sl_nil stE_Call) stE_Subscript) rfl (by decide) rfl rfl) rfl (.inr rfl))
  (sss_cons (ss_set cx rfl (.inl rfl) (se_list (se_idx ok.dt cx.ex.hu (se_attr ok.dt ok.kk (by decide) (fld_standing ok) (se_var (pe_var rfl (.inl rfl))) rfl) (se_int rfl) (fun _ _ => rfl)) ⟨rfl, fr_list ok⟩ rfl) rfl (.inr rfl))
  (sss_cons (ss_set cx rfl (.inl rfl) (se_list (se_attr ok.dt ok.kk (by decide) (fld_courses ok) (se_var (pe_var rfl (.inl rfl))) rfl) ⟨rfl, fr_list ok⟩ rfl) rfl (.inr rfl))
  (sss_cons (ss_iff (st_cmp (op_eqAll ok.dt cx.ex.hu) (v_eq ok.dt) (se_idx ok.dt cx.ex.hu (se_var (pe_var rfl (.inl rfl))) (se_int rfl) (fun _ _ => rfl)) (se_str (cs := [99, 111, 109, 101]) (by kernel_rfl) (by kernel_rfl)) (nomark _)) (sss_cons (ss_app (se_var (pe_var rfl (.inl rfl))) (se_call cx.ex (f_way_of W ok) (by decide) rfl (glo_way_of ok) (ok.kp 53 rfl) (sl_cons (se_attr ok.dt ok.kk (by decide) (fld_house ok) (se_var (pe_var rfl (.inl rfl))) rfl) (sl_cons (se_var (pe_var rfl (.inl rfl))) sl_nil stE_Name) stE_Attribute) rfl (by decide) rfl rfl) rfl rfl rfl rfl rfl)
  (sss_cons (ss_app (se_var (pe_var rfl (.inl rfl))) (se_int rfl) rfl rfl rfl rfl rfl)
  sss_nil)) (sss_cons (ss_iff (st_cmp (op_eqAll ok.dt cx.ex.hu) (v_eq ok.dt) (se_idx ok.dt cx.ex.hu (se_var (pe_var rfl (.inl rfl))) (se_int rfl) (fun _ _ => rfl)) (se_str (cs := [112, 97, 115, 115]) (by kernel_rfl) (by kernel_rfl)) (nomark _)) (sss_cons (ss_set cx rfl (.inl rfl) (se_call cx.ex (f_boat_at W ok) (by decide) rfl (glo_boat_at ok) (ok.kp 51 rfl) (sl_cons (se_attr ok.dt ok.kk (by decide) (fld_called ok) (se_var (pe_var rfl (.inl rfl))) rfl) (sl_cons (se_idx ok.dt cx.ex.hu (se_var (pe_var rfl (.inl rfl))) (se_int rfl) (fun _ _ => rfl)) sl_nil stE_Subscript) stE_Attribute) rfl (by decide) rfl rfl) rfl (.inr rfl))
  (sss_cons (ss_setI ok.dt cx (se_var (pe_var rfl (.inl rfl))) (se_var (pe_var rfl (.inl rfl))) (se_bin op_addAll (v_add ok.dt) (se_idx ok.dt cx.ex.hu (se_var (pe_var rfl (.inl rfl))) (se_var (pe_var rfl (.inl rfl))) (fun _ _ => rfl)) (se_int rfl)) rfl rfl rfl (fun _ => rfl))
  sss_nil)) (sss_cons (ss_iff (st_cmp (op_eqAll ok.dt cx.ex.hu) (v_eq ok.dt) (se_idx ok.dt cx.ex.hu (se_var (pe_var rfl (.inl rfl))) (se_int rfl) (fun _ _ => rfl)) (se_str (cs := [110, 105, 103, 104, 116]) (by kernel_rfl) (by kernel_rfl)) (nomark _)) (sss_cons (ss_set cx rfl (.inl rfl) (se_bin op_addAll (v_add ok.dt) (se_var (pe_var rfl (.inl rfl))) (se_int rfl)) rfl (.inr rfl))
  sss_nil) sss_nil)
  sss_nil))
  sss_nil))
  (sss_cons (ss_ret (se_tup (sl_cons (se_var (pe_var rfl (.inl rfl))) (sl_cons (se_tup (sl_cons (se_var (pe_var rfl (.inl rfl))) (sl_cons (se_var (pe_var rfl (.inl rfl))) (sl_cons (se_tuple (se_var (pe_var rfl (.inl rfl))) ⟨rfl, fr_tuple ok⟩ rfl) sl_nil stE_Call) stE_Name) stE_Name)) sl_nil stE_Tuple) stE_Name)))
  sss_nil)))))))
theorem f_Book_words_of (W : Wd) (ok : WdOk W) : FnC clos W.D W.P W.w W.K W.mg W.base 3 (He.fAd W.K d_Book_words_of.at_) 2 c_Book_words_of [] [] := by
  obtain ⟨fd, F⟩ := ok.def_ 62 (d := d_Book_words_of) rfl
  refine fnC (W := W) (N := [(PySem.Str.ofString "self"), (PySem.Str.ofString "entry"), (PySem.Str.ofString "boat"), (PySem.Str.ofString "step"), (PySem.Str.ofString "full")]) (ps := [(PySem.Str.ofString "self"), (PySem.Str.ofString "entry")]) (d := d_Book_words_of) (k := 2) F (C8.fnScope_by (by kernel_rfl)) rfl rfl (by decide) (fun _ => F.bindsN fun kV doc pm an cdv ct us hl => by
    match us, hl with
    | [_, _], _ => rfl) .nil fun cdv A outer s H E cx => ?_
  exact (sss_cons (ss_iff (st_cmp (op_eqAll ok.dt cx.ex.hu) (v_eq ok.dt) (se_idx ok.dt cx.ex.hu (se_var (pe_var rfl (.inl rfl))) (se_int rfl) (fun _ _ => rfl)) (se_str (cs := [108, 101, 116]) (by kernel_rfl) (by kernel_rfl)) (nomark _)) (sss_cons (ss_ret (se_tup (sl_cons (se_idx ok.dt cx.ex.hu (se_var (pe_var rfl (.inl rfl))) (se_int rfl) (fun _ _ => rfl)) (sl_cons (se_lst (sl_cons (se_str (cs := [108, 101, 116]) (by kernel_rfl) (by kernel_rfl)) sl_nil stE_Constant)) sl_nil stE_List) stE_Subscript)))
  sss_nil) sss_nil)
  (sss_cons (ss_set cx rfl (.inl rfl) (se_call cx.ex (f_boat_at W ok) (by decide) rfl (glo_boat_at ok) (ok.kp 51 rfl) (sl_cons (se_attr ok.dt ok.kk (by decide) (fld_called ok) (se_var (pe_var rfl (.inl rfl))) rfl) (sl_cons (se_idx ok.dt cx.ex.hu (se_var (pe_var rfl (.inl rfl))) (se_int rfl) (fun _ _ => rfl)) sl_nil stE_Subscript) stE_Attribute) rfl (by decide) rfl rfl) rfl (.inr rfl))
  (sss_cons (ss_set cx rfl (.inl rfl) (se_idx ok.dt cx.ex.hu (se_idx ok.dt cx.ex.hu (se_idx ok.dt cx.ex.hu (se_attr ok.dt ok.kk (by decide) (fld_courses ok) (se_var (pe_var rfl (.inl rfl))) rfl) (se_var (pe_var rfl (.inl rfl))) (fun _ _ => rfl)) (se_int rfl) (fun _ _ => rfl)) (se_idx ok.dt cx.ex.hu (se_idx ok.dt cx.ex.hu (se_attr ok.dt ok.kk (by decide) (fld_standing ok) (se_var (pe_var rfl (.inl rfl))) rfl) (se_int rfl) (fun _ _ => rfl)) (se_var (pe_var rfl (.inl rfl))) (fun _ _ => rfl)) (fun _ _ => rfl)) rfl (.inr rfl))
  (sss_cons (ss_set cx rfl (.inl rfl) (se_meth cx.ex (f_Canal_full W ok) (by decide) (met_Canal_full ok) (se_attr ok.dt ok.kk (by decide) (fld_house ok) (se_var (pe_var rfl (.inl rfl))) rfl) (sl_cons (se_idx ok.dt cx.ex.hu (se_attr ok.dt ok.kk (by decide) (fld_standing ok) (se_var (pe_var rfl (.inl rfl))) rfl) (se_int rfl) (fun _ _ => rfl)) (sl_cons (se_idx ok.dt cx.ex.hu (se_var (pe_var rfl (.inl rfl))) (se_int rfl) (fun _ _ => rfl)) sl_nil stE_Subscript) stE_Subscript) rfl rfl rfl rfl) rfl (.inr rfl))
  (sss_cons (ss_ret (se_tup (sl_cons (se_attr ok.dt ok.kk (by decide) (fld_name ok) (se_idx ok.dt cx.ex.hu (se_attr ok.dt ok.kk (by decide) (fld_locks ok) (se_attr ok.dt ok.kk (by decide) (fld_house ok) (se_var (pe_var rfl (.inl rfl))) rfl) rfl) (se_idx ok.dt cx.ex.hu (se_var (pe_var rfl (.inl rfl))) (se_int rfl) (fun _ _ => rfl)) (fun _ _ => rfl)) rfl) (sl_cons (se_call cx.ex (f_passing W ok) (by decide) rfl (glo_passing ok) (ok.kp 15 rfl) (sl_cons (se_var (pe_var rfl (.inl rfl))) (sl_cons (se_idx ok.dt cx.ex.hu (se_var (pe_var rfl (.inl rfl))) (se_int rfl) (fun _ _ => rfl)) sl_nil stE_Subscript) stE_Name) rfl (by decide) rfl rfl) sl_nil stE_Call) stE_Attribute)))
  sss_nil)))))
theorem f_Book_do (W : Wd) (ok : WdOk W) : FnC clos W.D W.P W.w W.K W.mg W.base 10 (He.fAd W.K d_Book_do.at_) 2 c_Book_do [] [] := by
  obtain ⟨fd, F⟩ := ok.def_ 63 (d := d_Book_do) rfl
  refine fnC (W := W) (N := [(PySem.Str.ofString "self"), (PySem.Str.ofString "entry"), (PySem.Str.ofString "beyond")]) (ps := [(PySem.Str.ofString "self"), (PySem.Str.ofString "entry")]) (d := d_Book_do) (k := 9) F (C8.fnScope_by (by kernel_rfl)) rfl rfl (by decide) (fun _ => F.bindsN fun kV doc pm an cdv ct us hl => by
    match us, hl with
    | [_, _], _ => rfl) .nil fun cdv A outer s H E cx => ?_
  exact (sss_cons (ss_set cx rfl (.inl rfl) (se_meth cx.ex (f_Book_behind W ok) (by decide) (met_Book_behind ok) (se_var (pe_var rfl (.inl rfl))) (sl_cons (se_var (pe_var rfl (.inl rfl))) sl_nil stE_Name) rfl rfl rfl rfl) rfl (.inr rfl))
  (sss_cons (ss_setF ok.dt ok.kk (by decide) (fld_moved ok) (se_var (pe_var rfl (.inl rfl))) (se_bin op_addAll (v_add ok.dt) (se_attr ok.dt ok.kk (by decide) (fld_moved ok) (se_var (pe_var rfl (.inl rfl))) rfl) (se_meth cx.ex (f_Book_pours_of W ok) (by decide) (met_Book_pours_of ok) (se_var (pe_var rfl (.inl rfl))) (sl_cons (se_var (pe_var rfl (.inl rfl))) sl_nil stE_Name) rfl rfl rfl rfl)) rfl)
  (sss_cons (ss_iff (st_of (sw_or (st_cmp (op_eqAll ok.dt cx.ex.hu) (v_eq ok.dt) (se_idx ok.dt cx.ex.hu (se_var (pe_var rfl (.inl rfl))) (se_int rfl) (fun _ _ => rfl)) (se_str (cs := [112, 97, 115, 115]) (by kernel_rfl) (by kernel_rfl)) (nomark _)) (sw_or1 (st_cmp (op_eqAll ok.dt cx.ex.hu) (v_eq ok.dt) (se_idx ok.dt cx.ex.hu (se_var (pe_var rfl (.inl rfl))) (se_int rfl) (fun _ _ => rfl)) (se_str (cs := [108, 101, 116]) (by kernel_rfl) (by kernel_rfl)) (nomark _))))) (sss_cons (ss_app (se_attr ok.dt ok.kk (by decide) (fld_gatewords ok) (se_var (pe_var rfl (.inl rfl))) rfl) (se_meth cx.ex (f_Book_words_of W ok) (by decide) (met_Book_words_of ok) (se_var (pe_var rfl (.inl rfl))) (sl_cons (se_var (pe_var rfl (.inl rfl))) sl_nil stE_Name) rfl rfl rfl rfl) rfl rfl rfl rfl rfl)
  sss_nil) sss_nil)
  (sss_cons (ss_iff (st_cmp (op_eqAll ok.dt cx.ex.hu) (v_eq ok.dt) (se_idx ok.dt cx.ex.hu (se_var (pe_var rfl (.inl rfl))) (se_int rfl) (fun _ _ => rfl)) (se_str (cs := [99, 111, 109, 101]) (by kernel_rfl) (by kernel_rfl)) (nomark _)) (sss_cons (ss_app (se_attr ok.dt ok.kk (by decide) (fld_called ok) (se_var (pe_var rfl (.inl rfl))) rfl) (se_idx ok.dt cx.ex.hu (se_var (pe_var rfl (.inl rfl))) (se_int rfl) (fun _ _ => rfl)) rfl rfl rfl rfl rfl)
  sss_nil) sss_nil)
  (sss_cons (ss_setF ok.dt ok.kk (by decide) (fld_courses ok) (se_var (pe_var rfl (.inl rfl))) (se_idx ok.dt cx.ex.hu (se_var (pe_var rfl (.inl rfl))) (se_int rfl) (fun _ _ => rfl)) rfl)
  (sss_cons (ss_setF ok.dt ok.kk (by decide) (fld_standing ok) (se_var (pe_var rfl (.inl rfl))) (se_idx ok.dt cx.ex.hu (se_var (pe_var rfl (.inl rfl))) (se_int rfl) (fun _ _ => rfl)) rfl)
  (sss_cons (ss_app (se_attr ok.dt ok.kk (by decide) (fld_told ok) (se_var (pe_var rfl (.inl rfl))) rfl) (se_var (pe_var rfl (.inl rfl))) rfl rfl rfl rfl rfl)
  sss_nil)))))))
theorem f_name_of (W : Wd) (ok : WdOk W) : FnC clos W.D W.P W.w W.K W.mg W.base 4 (He.fAd W.K d_name_of.at_) 1 c_name_of [] [] := by
  obtain ⟨fd, F⟩ := ok.def_ 64 (d := d_name_of) rfl
  refine fnC (W := W) (N := [(PySem.Str.ofString "word")]) (ps := [(PySem.Str.ofString "word")]) (d := d_name_of) (k := 3) F (C8.fnScope_by (by kernel_rfl)) rfl rfl (by decide) (fun _ => F.bindsN fun kV doc pm an cdv ct us hl => by
    match us, hl with
    | [_], _ => rfl) .nil fun cdv A outer s H E cx => ?_
  exact (sss_cons (ss_iff (st_not (st_val (se_isname (x := "is_name") ok.dt cx.ex (f_is_name W ok) (by decide) rfl (glo_is_name ok) (ok.kp 110 rfl) (se_var (pe_var rfl (.inl rfl))) rfl (by decide)) (fun _ => rfl))) (sss_cons (ss_raise cx (raise_BadRow ok rfl rfl))
  sss_nil) sss_nil)
  (sss_cons (ss_ret (se_var (pe_var rfl (.inl rfl))))
  sss_nil))
theorem f_pairs_of (W : Wd) (ok : WdOk W) : FnC clos W.D W.P W.w W.K W.mg W.base 1 (He.fAd W.K d_pairs_of.at_) 1 c_pairs_of [] [] := by
  obtain ⟨fd, F⟩ := ok.def_ 65 (d := d_pairs_of) rfl
  refine fnC (W := W) (N := [(PySem.Str.ofString "words"), (PySem.Str.ofString "k")]) (ps := [(PySem.Str.ofString "words")]) (d := d_pairs_of) (k := 0) F (C8.fnScope_by (by kernel_rfl)) rfl rfl (by decide) (fun _ => F.bindsN fun kV doc pm an cdv ct us hl => by
    match us, hl with
    | [_], _ => rfl) .nil fun cdv A outer s H E cx => ?_
  exact (sss_cons (ss_iff (st_of (sw_or (st_cmp op_lt (v_lt ok.dt) (se_len ok.dt (se_var (pe_var rfl (.inr (.inl rfl)))) ⟨rfl, fr_len ok⟩ rfl) (se_int rfl) (nomark _)) (sw_or (st_cmp op_gt (v_gt ok.dt) (se_len ok.dt (se_var (pe_var rfl (.inr (.inl rfl)))) ⟨rfl, fr_len ok⟩ rfl) (se_int rfl) (nomark _)) (sw_or1 (st_cmp (op_eqAll ok.dt cx.ex.hu) (v_eq ok.dt) (se_bin op_mod v_mod (se_len ok.dt (se_var (pe_var rfl (.inr (.inl rfl)))) ⟨rfl, fr_len ok⟩ rfl) (se_int rfl)) (se_int rfl) (nomark _)))))) (sss_cons (ss_raise cx (raise_BadRow ok rfl rfl))
  sss_nil) sss_nil)
  (sss_cons (ss_ret (se_comp cx.ex (ow := [("k", 1)]) (si_r3 (se_int rfl) (se_len ok.dt (se_var (pe_var rfl (.inr (.inl rfl)))) ⟨rfl, fr_len ok⟩ rfl) pe_int ⟨rfl, fr_range ok⟩ rfl rfl rfl rfl) (blkOk_by (by kernel_rfl)) rfl (by decide) (fun _ _ _ _ _ => (pg_name cx.ex.blk.nd rfl (.inl rfl) (.inr rfl))) True.intro (fun _ _ _ _ _ => (se_tup (sl_cons (se_idx ok.dt cx.ex.blk.hu (se_var (pe_var rfl (.inr (.inl rfl)))) (se_var (pe_var rfl (.inl rfl))) (fun _ _ => rfl)) (sl_cons (se_idx ok.dt cx.ex.blk.hu (se_var (pe_var rfl (.inr (.inl rfl)))) (se_bin op_addAll (v_add ok.dt) (se_var (pe_var rfl (.inl rfl))) (se_int rfl)) (fun _ _ => rfl)) sl_nil stE_Subscript) stE_Subscript))) (fun _ => rfl)))
  sss_nil))
theorem f_steps_of (W : Wd) (ok : WdOk W) : FnC clos W.D W.P W.w W.K W.mg W.base 5 (He.fAd W.K d_steps_of.at_) 1 c_steps_of [] [] := by
  obtain ⟨fd, F⟩ := ok.def_ 66 (d := d_steps_of) rfl
  refine fnC (W := W) (N := [(PySem.Str.ofString "words"), (PySem.Str.ofString "steps"), (PySem.Str.ofString "pair")]) (ps := [(PySem.Str.ofString "words")]) (d := d_steps_of) (k := 4) F (C8.fnScope_by (by kernel_rfl)) rfl rfl (by decide) (fun _ => F.bindsN fun kV doc pm an cdv ct us hl => by
    match us, hl with
    | [_], _ => rfl) .nil fun cdv A outer s H E cx => ?_
  exact (sss_cons (ss_set cx rfl (.inl rfl) (se_lst sl_nil) rfl (.inr rfl))
  (sss_cons (ss_for cx (si_lst (se_call cx.ex (f_pairs_of W ok) (by decide) rfl (glo_pairs_of ok) (ok.kp 65 rfl) (sl_cons (se_var (pe_var rfl (.inl rfl))) sl_nil stE_Name) rfl (by decide) rfl rfl)) (pg_name cx.ex.nd rfl (.inl rfl) (.inr rfl)) (sss_cons (ss_iff (st_inG ok.dt op_notIn_seq (by with_unfolding_all rfl) (pe_ways ok rfl rfl) (ways_at ok) ways_vr (se_idx ok.dt cx.ex.hu (se_var (pe_var rfl (.inl rfl))) (se_int rfl) (fun _ _ => rfl))) (sss_cons (ss_raise cx (raise_BadRow ok rfl rfl))
  sss_nil) sss_nil)
  (sss_cons (ss_app (se_var (pe_var rfl (.inl rfl))) (se_tup (sl_cons (se_call cx.ex (f_name_of W ok) (by decide) rfl (glo_name_of ok) (ok.kp 64 rfl) (sl_cons (se_idx ok.dt cx.ex.hu (se_var (pe_var rfl (.inl rfl))) (se_int rfl) (fun _ _ => rfl)) sl_nil stE_Subscript) rfl (by decide) rfl rfl) (sl_cons (se_idx ok.dt cx.ex.hu (se_var (pe_var rfl (.inl rfl))) (se_int rfl) (fun _ _ => rfl)) sl_nil stE_Subscript) stE_Call)) rfl rfl rfl rfl rfl)
  sss_nil)) (fun _ => rfl))
  (sss_cons (ss_ret (se_tuple (se_var (pe_var rfl (.inl rfl))) ⟨rfl, fr_tuple ok⟩ rfl))
  sss_nil)))
theorem f_weather_of_journal (W : Wd) (ok : WdOk W) : FnC clos W.D W.P W.w W.K W.mg W.base 4 (He.fAd W.K d_weather_of_journal.at_) 1 c_weather_of_journal [] [] := by
  obtain ⟨fd, F⟩ := ok.def_ 67 (d := d_weather_of_journal) rfl
  refine fnC (W := W) (N := [(PySem.Str.ofString "words"), (PySem.Str.ofString "pair")]) (ps := [(PySem.Str.ofString "words")]) (d := d_weather_of_journal) (k := 3) F (C8.fnScope_by (by kernel_rfl)) rfl rfl (by decide) (fun _ => F.bindsN fun kV doc pm an cdv ct us hl => by
    match us, hl with
    | [_], _ => rfl) .nil fun cdv A outer s H E cx => ?_
  exact (sss_cons (ss_ret (se_tuple (se_comp cx.ex (ow := [("pair", 1)]) (si_lst (se_call cx.ex (f_pairs_of W ok) (by decide) rfl (glo_pairs_of ok) (ok.kp 65 rfl) (sl_cons (se_var (pe_var rfl (.inl rfl))) sl_nil stE_Name) rfl (by decide) rfl rfl)) (blkOk_by (by kernel_rfl)) rfl (by decide) (fun _ _ _ _ _ => (pg_name cx.ex.blk.nd rfl (.inl rfl) (.inr rfl))) True.intro (fun _ _ _ _ _ => (se_tup (sl_cons (se_numof (x := "number_of") ok.dt cx.ex.blk (f_number_of W ok) (by decide) rfl (glo_number_of ok) (ok.kp 111 rfl) (se_idx ok.dt cx.ex.blk.hu (se_var (pe_var rfl (.inl rfl))) (se_int rfl) (fun _ _ => rfl)) rfl (by decide)) (sl_cons (se_numof (x := "number_of") ok.dt cx.ex.blk (f_number_of W ok) (by decide) rfl (glo_number_of ok) (ok.kp 111 rfl) (se_idx ok.dt cx.ex.blk.hu (se_var (pe_var rfl (.inl rfl))) (se_int rfl) (fun _ _ => rfl)) rfl (by decide)) sl_nil stE_Call) stE_Call))) (fun _ => rfl)) ⟨rfl, fr_tuple ok⟩ rfl))
  sss_nil)
theorem f_entry_of (W : Wd) (ok : WdOk W) : FnC clos W.D W.P W.w W.K W.mg W.base 6 (He.fAd W.K d_entry_of.at_) 1 c_entry_of [] [] := by
  obtain ⟨fd, F⟩ := ok.def_ 68 (d := d_entry_of) rfl
  refine fnC (W := W) (N := [(PySem.Str.ofString "row"), (PySem.Str.ofString "words"), (PySem.Str.ofString "head")]) (ps := [(PySem.Str.ofString "row")]) (d := d_entry_of) (k := 5) F (C8.fnScope_by (by kernel_rfl)) rfl rfl (by decide) (fun _ => F.bindsN fun kV doc pm an cdv ct us hl => by
    match us, hl with
    | [_], _ => rfl) .nil fun cdv A outer s H E cx => ?_
  exact (sss_cons (ss_set cx rfl (.inl rfl) (se_split ok.dt (se_var (pe_var rfl (.inl rfl))) (by kernel_rfl) rfl rfl rfl) rfl (.inr rfl))
  (sss_cons (ss_set cx rfl (.inl rfl) (se_idx ok.dt cx.ex.hu (se_var (pe_var rfl (.inl rfl))) (se_int rfl) (fun _ _ => rfl)) rfl (.inr rfl))
  (sss_cons (ss_iff (st_of (sw_and (st_cmp (op_eqAll ok.dt cx.ex.hu) (v_eq ok.dt) (se_var (pe_var rfl (.inl rfl))) (se_str (cs := [99, 111, 109, 101]) (by kernel_rfl) (by kernel_rfl)) (nomark _)) (sw_and1 (st_cmp op_gt (v_gt ok.dt) (se_len ok.dt (se_var (pe_var rfl (.inl rfl))) ⟨rfl, fr_len ok⟩ rfl) (se_int rfl) (nomark _))))) (sss_cons (ss_ret (se_tup (sl_cons (se_str (cs := [99, 111, 109, 101]) (by kernel_rfl) (by kernel_rfl)) (sl_cons (se_call cx.ex (f_name_of W ok) (by decide) rfl (glo_name_of ok) (ok.kp 64 rfl) (sl_cons (se_idx ok.dt cx.ex.hu (se_var (pe_var rfl (.inl rfl))) (se_int rfl) (fun _ _ => rfl)) sl_nil stE_Subscript) rfl (by decide) rfl rfl) (sl_cons (se_call cx.ex (f_name_of W ok) (by decide) rfl (glo_name_of ok) (ok.kp 64 rfl) (sl_cons (se_idx ok.dt cx.ex.hu (se_var (pe_var rfl (.inl rfl))) (se_int rfl) (fun _ _ => rfl)) sl_nil stE_Subscript) rfl (by decide) rfl rfl) (sl_cons (se_call cx.ex (f_steps_of W ok) (by decide) rfl (glo_steps_of ok) (ok.kp 66 rfl) (sl_cons (se_slc ok.dt (se_var (pe_var rfl (.inl rfl))) (se_int rfl) True.intro) sl_nil stE_Subscript) rfl (by decide) rfl rfl) sl_nil stE_Call) stE_Call) stE_Call) stE_Constant)))
  sss_nil) sss_nil)
  (sss_cons (ss_iff (st_cmp (op_eqAll ok.dt cx.ex.hu) (v_eq ok.dt) (se_var (pe_var rfl (.inl rfl))) (se_str (cs := [110, 105, 103, 104, 116]) (by kernel_rfl) (by kernel_rfl)) (nomark _)) (sss_cons (ss_ret (se_tup (sl_cons (se_str (cs := [110, 105, 103, 104, 116]) (by kernel_rfl) (by kernel_rfl)) (sl_cons (se_call cx.ex (f_weather_of_journal W ok) (by decide) rfl (glo_weather_of_journal ok) (ok.kp 67 rfl) (sl_cons (se_slc ok.dt (se_var (pe_var rfl (.inl rfl))) (se_int rfl) True.intro) sl_nil stE_Subscript) rfl (by decide) rfl rfl) sl_nil stE_Call) stE_Constant)))
  sss_nil) sss_nil)
  (sss_cons (ss_iff (st_of (sw_and (st_cmp (op_inAll cx.ex.hu) (v_in ok.dt) (se_var (pe_var rfl (.inl rfl))) (se_tup (sl_cons (se_str (cs := [112, 97, 115, 115]) (by kernel_rfl) (by kernel_rfl)) (sl_cons (se_str (cs := [108, 101, 116]) (by kernel_rfl) (by kernel_rfl)) sl_nil stE_Constant) stE_Constant)) (by with_unfolding_all rfl)) (sw_and1 (st_cmp (op_eqAll ok.dt cx.ex.hu) (v_eq ok.dt) (se_len ok.dt (se_var (pe_var rfl (.inl rfl))) ⟨rfl, fr_len ok⟩ rfl) (se_int rfl) (nomark _))))) (sss_cons (ss_ret (se_tup (sl_cons (se_var (pe_var rfl (.inl rfl))) (sl_cons (se_call cx.ex (f_name_of W ok) (by decide) rfl (glo_name_of ok) (ok.kp 64 rfl) (sl_cons (se_idx ok.dt cx.ex.hu (se_var (pe_var rfl (.inl rfl))) (se_int rfl) (fun _ _ => rfl)) sl_nil stE_Subscript) rfl (by decide) rfl rfl) sl_nil stE_Call) stE_Name)))
  sss_nil) sss_nil)
  (sss_cons (ss_iff (st_of (sw_and (st_cmp (op_inAll cx.ex.hu) (v_in ok.dt) (se_var (pe_var rfl (.inl rfl))) (se_tup (sl_cons (se_str (cs := [116, 97, 107, 101]) (by kernel_rfl) (by kernel_rfl)) (sl_cons (se_str (cs := [114, 97, 105, 110]) (by kernel_rfl) (by kernel_rfl)) sl_nil stE_Constant) stE_Constant)) (by with_unfolding_all rfl)) (sw_and1 (st_cmp (op_eqAll ok.dt cx.ex.hu) (v_eq ok.dt) (se_len ok.dt (se_var (pe_var rfl (.inl rfl))) ⟨rfl, fr_len ok⟩ rfl) (se_int rfl) (nomark _))))) (sss_cons (ss_ret (se_tup (sl_cons (se_var (pe_var rfl (.inl rfl))) (sl_cons (se_call cx.ex (f_name_of W ok) (by decide) rfl (glo_name_of ok) (ok.kp 64 rfl) (sl_cons (se_idx ok.dt cx.ex.hu (se_var (pe_var rfl (.inl rfl))) (se_int rfl) (fun _ _ => rfl)) sl_nil stE_Subscript) rfl (by decide) rfl rfl) (sl_cons (se_numof (x := "number_of") ok.dt cx.ex (f_number_of W ok) (by decide) rfl (glo_number_of ok) (ok.kp 111 rfl) (se_idx ok.dt cx.ex.hu (se_var (pe_var rfl (.inl rfl))) (se_int rfl) (fun _ _ => rfl)) rfl (by decide)) sl_nil stE_Call) stE_Call) stE_Name)))
  sss_nil) sss_nil)
  (sss_cons (ss_raise cx (raise_BadRow ok rfl rfl))
  sss_nil)))))))
theorem f_row_to (W : Wd) (ok : WdOk W) : FnC clos W.D W.P W.w W.K W.mg W.base 1 (He.fAd W.K d_row_to.at_) 2 c_row_to [] [] := by
  obtain ⟨fd, F⟩ := ok.def_ 71 (d := d_row_to) rfl
  refine fnC (W := W) (N := [(PySem.Str.ofString "state"), (PySem.Str.ofString "met"), (PySem.Str.ofString "row")]) (ps := [(PySem.Str.ofString "state"), (PySem.Str.ofString "met")]) (d := d_row_to) (k := 0) F (C8.fnScope_by (by kernel_rfl)) rfl rfl (by decide) (fun _ => F.bindsN fun kV doc pm an cdv ct us hl => by
    match us, hl with
    | [_, _], _ => rfl) .nil fun cdv A outer s H E cx => ?_
  exact (sss_cons (ss_set cx rfl (.inl rfl) (se_lst sl_nil) rfl (.inr rfl))
  (sss_cons (ss_while cx (st_cmp op_notN v_notN (se_idx ok.dt cx.ex.hu (se_var (pe_var rfl (.inl rfl))) (se_var (pe_var rfl (.inl rfl))) (fun _ _ => rfl)) se_non (nomark _)) (sss_cons (ss_app (se_var (pe_var rfl (.inl rfl))) (se_idx ok.dt cx.ex.hu (se_idx ok.dt cx.ex.hu (se_var (pe_var rfl (.inl rfl))) (se_var (pe_var rfl (.inl rfl))) (fun _ _ => rfl)) (se_int rfl) (fun _ _ => rfl)) rfl rfl rfl rfl rfl)
  (sss_cons (ss_set cx rfl (.inl rfl) (se_idx ok.dt cx.ex.hu (se_idx ok.dt cx.ex.hu (se_var (pe_var rfl (.inl rfl))) (se_var (pe_var rfl (.inl rfl))) (fun _ _ => rfl)) (se_int rfl) (fun _ _ => rfl)) rfl (.inr rfl))
  sss_nil)))
  (sss_cons (ss_rev (se_var (pe_var rfl (.inl rfl))) rfl rfl rfl)
  (sss_cons (ss_ret (se_var (pe_var rfl (.inl rfl))))
  sss_nil))))
theorem f_is_knot (W : Wd) (ok : WdOk W) : FnC clos W.D W.P W.w W.K W.mg W.base 8 (He.fAd W.K d_is_knot.at_) 3 c_is_knot [] [] := by
  obtain ⟨fd, F⟩ := ok.def_ 75 (d := d_is_knot) rfl
  refine fnC (W := W) (N := [(PySem.Str.ofString "canal"), (PySem.Str.ofString "ways"), (PySem.Str.ofString "state")]) (ps := [(PySem.Str.ofString "canal"), (PySem.Str.ofString "ways"), (PySem.Str.ofString "state")]) (d := d_is_knot) (k := 7) F (C8.fnScope_by (by kernel_rfl)) rfl rfl (by decide) (fun _ => F.bindsN fun kV doc pm an cdv ct us hl => by
    match us, hl with
    | [_, _, _], _ => rfl) .nil fun cdv A outer s H E cx => ?_
  exact (sss_cons (ss_ret (se_and (se_not (se_call cx.ex (f_all_home W ok) (by decide) rfl (glo_all_home ok) (ok.kp 34 rfl) (sl_cons (se_var (pe_var rfl (.inl rfl))) (sl_cons (se_var (pe_var rfl (.inl rfl))) sl_nil stE_Name) stE_Name) rfl (by decide) rfl rfl)) (se_lone (se_cmp (op_eqAll ok.dt cx.ex.hu) (v_eq ok.dt) (se_len ok.dt (se_call cx.ex (f_may W ok) (by decide) rfl (glo_may ok) (ok.kp 50 rfl) (sl_cons (se_var (pe_var rfl (.inl rfl))) (sl_cons (se_var (pe_var rfl (.inl rfl))) (sl_cons (se_var (pe_var rfl (.inl rfl))) sl_nil stE_Name) stE_Name) stE_Name) rfl (by decide) rfl rfl) ⟨rfl, fr_len ok⟩ rfl) (se_int rfl) (nomark _)))))
  sss_nil)
end Ck
-- SF6
set_option Elab.async false
set_option linter.all false
set_option maxRecDepth 100000
set_option maxHeartbeats 4000000
set_option autoImplicit false
namespace Ck
open PySem PySem.Spec PyProof.Rows L2 Lk
theorem f_Keeper_plan (W : Wd) (ok : WdOk W) : FnC clos W.D W.P W.w W.K W.mg W.base 1 (He.fAd W.K d_Keeper_plan.at_) 1 c_Keeper_plan [] [] := by
  obtain ⟨fd, F⟩ := ok.def_ 80 (d := d_Keeper_plan) rfl
  refine fnC (W := W) (N := [(PySem.Str.ofString "self")]) (ps := [(PySem.Str.ofString "self")]) (d := d_Keeper_plan) (k := 0) F (C8.fnScope_by (by kernel_rfl)) rfl rfl (by decide) (fun _ => F.bindsN fun kV doc pm an cdv ct us hl => by
    match us, hl with
    | [_], _ => rfl) .nil fun cdv A outer s H E cx => ?_
  exact (sss_cons (ss_ret (se_list (se_attr ok.dt ok.kk (by decide) (fld_coming ok) (se_var (pe_var rfl (.inl rfl))) rfl) ⟨rfl, fr_list ok⟩ rfl))
  sss_nil)
theorem f_Keeper_book (W : Wd) (ok : WdOk W) : FnC clos W.D W.P W.w W.K W.mg W.base 9 (He.fAd W.K d_Keeper_book.at_) 1 c_Keeper_book [] [] := by
  obtain ⟨fd, F⟩ := ok.def_ 81 (d := d_Keeper_book) rfl
  refine fnC (W := W) (N := [(PySem.Str.ofString "self")]) (ps := [(PySem.Str.ofString "self")]) (d := d_Keeper_book) (k := 8) F (C8.fnScope_by (by kernel_rfl)) rfl rfl (by decide) (fun _ => F.bindsN fun kV doc pm an cdv ct us hl => by
    match us, hl with
    | [_], _ => rfl) .nil fun cdv A outer s H E cx => ?_
  exact (sss_cons (ss_ret (se_meth0 cx.ex (f_Book_copied W ok) (by decide) (met_Book_copied ok) (se_attr ok.dt ok.kk (by decide) (fld_kept ok) (se_var (pe_var rfl (.inl rfl))) rfl) rfl))
  sss_nil)
theorem f_Keeper_begins_with (W : Wd) (ok : WdOk W) : FnC clos W.D W.P W.w W.K W.mg W.base 4 (He.fAd W.K d_Keeper_begins_with.at_) 2 c_Keeper_begins_with [] [] := by
  obtain ⟨fd, F⟩ := ok.def_ 82 (d := d_Keeper_begins_with) rfl
  refine fnC (W := W) (N := [(PySem.Str.ofString "self"), (PySem.Str.ofString "entry")]) (ps := [(PySem.Str.ofString "self"), (PySem.Str.ofString "entry")]) (d := d_Keeper_begins_with) (k := 3) F (C8.fnScope_by (by kernel_rfl)) rfl rfl (by decide) (fun _ => F.bindsN fun kV doc pm an cdv ct us hl => by
    match us, hl with
    | [_, _], _ => rfl) .nil fun cdv A outer s H E cx => ?_
  exact (sss_cons (ss_iff (st_of (sw_or (st_cmp (op_eqAll ok.dt cx.ex.hu) (v_eq ok.dt) (se_len ok.dt (se_attr ok.dt ok.kk (by decide) (fld_coming ok) (se_var (pe_var rfl (.inl rfl))) rfl) ⟨rfl, fr_len ok⟩ rfl) (se_int rfl) (nomark _)) (sw_or1 (st_cmp (op_neAll ok.dt cx.ex.hu) (v_ne ok.dt) (se_idx ok.dt cx.ex.hu (se_idx ok.dt cx.ex.hu (se_attr ok.dt ok.kk (by decide) (fld_coming ok) (se_var (pe_var rfl (.inl rfl))) rfl) (se_int rfl) (fun _ _ => rfl)) (se_int rfl) (fun _ _ => rfl)) (se_idx ok.dt cx.ex.hu (se_var (pe_var rfl (.inl rfl))) (se_int rfl) (fun _ _ => rfl)) (nomark _))))) (sss_cons (ss_ret se_bl)
  sss_nil) sss_nil)
  (sss_cons (ss_ret (se_or (se_cmp (op_eqAll ok.dt cx.ex.hu) (v_eq ok.dt) (se_idx ok.dt cx.ex.hu (se_var (pe_var rfl (.inl rfl))) (se_int rfl) (fun _ _ => rfl)) (se_str (cs := [110, 105, 103, 104, 116]) (by kernel_rfl) (by kernel_rfl)) (nomark _)) (se_lone (se_cmp (op_eqAll ok.dt cx.ex.hu) (v_eq ok.dt) (se_meth cx.ex (f_Book_deed_of W ok) (by decide) (met_Book_deed_of ok) (se_attr ok.dt ok.kk (by decide) (fld_kept ok) (se_var (pe_var rfl (.inl rfl))) rfl) (sl_cons (se_var (pe_var rfl (.inl rfl))) sl_nil stE_Name) rfl rfl rfl rfl) (se_idx ok.dt cx.ex.hu (se_attr ok.dt ok.kk (by decide) (fld_coming ok) (se_var (pe_var rfl (.inl rfl))) rfl) (se_int rfl) (fun _ _ => rfl)) (nomark _)))))
  sss_nil))
theorem f_Keeper_taken (W : Wd) (ok : WdOk W) : FnC clos W.D W.P W.w W.K W.mg W.base 11 (He.fAd W.K d_Keeper_taken.at_) 3 c_Keeper_taken [] [] := by
  obtain ⟨fd, F⟩ := ok.def_ 83 (d := d_Keeper_taken) rfl
  refine fnC (W := W) (N := [(PySem.Str.ofString "self"), (PySem.Str.ofString "entry"), (PySem.Str.ofString "rest")]) (ps := [(PySem.Str.ofString "self"), (PySem.Str.ofString "entry"), (PySem.Str.ofString "rest")]) (d := d_Keeper_taken) (k := 10) F (C8.fnScope_by (by kernel_rfl)) rfl rfl (by decide) (fun _ => F.bindsN fun kV doc pm an cdv ct us hl => by
    match us, hl with
    | [_, _, _], _ => rfl) .nil fun cdv A outer s H E cx => ?_
  exact (sss_cons (ss_ex (se_meth cx.ex (f_Book_do W ok) (by decide) (met_Book_do ok) (se_attr ok.dt ok.kk (by decide) (fld_kept ok) (se_var (pe_var rfl (.inl rfl))) rfl) (sl_cons (se_var (pe_var rfl (.inl rfl))) sl_nil stE_Name) rfl rfl rfl rfl) rfl)
  (sss_cons (ss_setF ok.dt ok.kk (by decide) (fld_coming ok) (se_var (pe_var rfl (.inl rfl))) (se_list (se_var (pe_var rfl (.inl rfl))) ⟨rfl, fr_list ok⟩ rfl) rfl)
  (sss_cons (ss_ret (se_tup (sl_cons (se_str (cs := [121, 101, 115]) (by kernel_rfl) (by kernel_rfl)) (sl_cons (se_list (se_var (pe_var rfl (.inl rfl))) ⟨rfl, fr_list ok⟩ rfl) sl_nil stE_Call) stE_Constant)))
  sss_nil)))
theorem f_PlainLock_init (W : Wd) (ok : WdOk W) : FnC clos W.D W.P W.w W.K W.mg W.base 1 (He.fAd W.K d_PlainLock_init.at_) 5 c_PlainLock_init [] [] := by
  obtain ⟨fd, F⟩ := ok.def_ 86 (d := d_PlainLock_init) rfl
  refine fnC (W := W) (N := [(PySem.Str.ofString "self"), (PySem.Str.ofString "name"), (PySem.Str.ofString "high"), (PySem.Str.ofString "low"), (PySem.Str.ofString "room")]) (ps := [(PySem.Str.ofString "self"), (PySem.Str.ofString "name"), (PySem.Str.ofString "high"), (PySem.Str.ofString "low"), (PySem.Str.ofString "room")]) (d := d_PlainLock_init) (k := 0) F (C8.fnScope_by (by kernel_rfl)) rfl rfl (by decide) (fun _ => F.bindsN fun kV doc pm an cdv ct us hl => by
    match us, hl with
    | [_, _, _, _, _], _ => rfl) .nil fun cdv A outer s H E cx => ?_
  exact (sss_cons (ss_setF ok.dt ok.kk (by decide) (fld_name ok) (se_var (pe_var rfl (.inl rfl))) (se_var (pe_var rfl (.inl rfl))) rfl)
  (sss_cons (ss_setF ok.dt ok.kk (by decide) (fld_high ok) (se_var (pe_var rfl (.inl rfl))) (se_var (pe_var rfl (.inl rfl))) rfl)
  (sss_cons (ss_setF ok.dt ok.kk (by decide) (fld_low ok) (se_var (pe_var rfl (.inl rfl))) (se_var (pe_var rfl (.inl rfl))) rfl)
  (sss_cons (ss_setF ok.dt ok.kk (by decide) (fld_room ok) (se_var (pe_var rfl (.inl rfl))) (se_var (pe_var rfl (.inl rfl))) rfl)
  sss_nil))))
theorem f_PlainLock_kind (W : Wd) (ok : WdOk W) : FnC clos W.D W.P W.w W.K W.mg W.base 1 (He.fAd W.K d_PlainLock_kind.at_) 1 c_PlainLock_kind [] [] := by
  obtain ⟨fd, F⟩ := ok.def_ 87 (d := d_PlainLock_kind) rfl
  refine fnC (W := W) (N := [(PySem.Str.ofString "self")]) (ps := [(PySem.Str.ofString "self")]) (d := d_PlainLock_kind) (k := 0) F (C8.fnScope_by (by kernel_rfl)) rfl rfl (by decide) (fun _ => F.bindsN fun kV doc pm an cdv ct us hl => by
    match us, hl with
    | [_], _ => rfl) .nil fun cdv A outer s H E cx => ?_
  exact (sss_cons (ss_ret (se_str (cs := [112, 108, 97, 105, 110]) (by kernel_rfl) (by kernel_rfl)))
  sss_nil)
theorem f_PlainLock_extra (W : Wd) (ok : WdOk W) : FnC clos W.D W.P W.w W.K W.mg W.base 1 (He.fAd W.K d_PlainLock_extra.at_) 1 c_PlainLock_extra [] [] := by
  obtain ⟨fd, F⟩ := ok.def_ 88 (d := d_PlainLock_extra) rfl
  refine fnC (W := W) (N := [(PySem.Str.ofString "self")]) (ps := [(PySem.Str.ofString "self")]) (d := d_PlainLock_extra) (k := 0) F (C8.fnScope_by (by kernel_rfl)) rfl rfl (by decide) (fun _ => F.bindsN fun kV doc pm an cdv ct us hl => by
    match us, hl with
    | [_], _ => rfl) .nil fun cdv A outer s H E cx => ?_
  exact (sss_cons (ss_ret (se_int rfl))
  sss_nil)
theorem f_Reach_init (W : Wd) (ok : WdOk W) : FnC clos W.D W.P W.w W.K W.mg W.base 1 (He.fAd W.K d_Reach_init.at_) 7 c_Reach_init [] [] := by
  obtain ⟨fd, F⟩ := ok.def_ 89 (d := d_Reach_init) rfl
  refine fnC (W := W) (N := [(PySem.Str.ofString "self"), (PySem.Str.ofString "name"), (PySem.Str.ofString "least"), (PySem.Str.ofString "crest"), (PySem.Str.ofString "berths"), (PySem.Str.ofString "water"), (PySem.Str.ofString "target")]) (ps := [(PySem.Str.ofString "self"), (PySem.Str.ofString "name"), (PySem.Str.ofString "least"), (PySem.Str.ofString "crest"), (PySem.Str.ofString "berths"), (PySem.Str.ofString "water"), (PySem.Str.ofString "target")]) (d := d_Reach_init) (k := 0) F (C8.fnScope_by (by kernel_rfl)) rfl rfl (by decide) (fun _ => F.bindsN fun kV doc pm an cdv ct us hl => by
    match us, hl with
    | [_, _, _, _, _, _, _], _ => rfl) .nil fun cdv A outer s H E cx => ?_
  exact (sss_cons (ss_setF ok.dt ok.kk (by decide) (fld_name ok) (se_var (pe_var rfl (.inl rfl))) (se_var (pe_var rfl (.inl rfl))) rfl)
  (sss_cons (ss_setF ok.dt ok.kk (by decide) (fld_least ok) (se_var (pe_var rfl (.inl rfl))) (se_var (pe_var rfl (.inl rfl))) rfl)
  (sss_cons (ss_setF ok.dt ok.kk (by decide) (fld_crest ok) (se_var (pe_var rfl (.inl rfl))) (se_var (pe_var rfl (.inl rfl))) rfl)
  (sss_cons (ss_setF ok.dt ok.kk (by decide) (fld_berths ok) (se_var (pe_var rfl (.inl rfl))) (se_var (pe_var rfl (.inl rfl))) rfl)
  (sss_cons (ss_setF ok.dt ok.kk (by decide) (fld_water ok) (se_var (pe_var rfl (.inl rfl))) (se_var (pe_var rfl (.inl rfl))) rfl)
  (sss_cons (ss_setF ok.dt ok.kk (by decide) (fld_target ok) (se_var (pe_var rfl (.inl rfl))) (se_var (pe_var rfl (.inl rfl))) rfl)
  sss_nil))))))
theorem f_Canal_init (W : Wd) (ok : WdOk W) : FnC clos W.D W.P W.w W.K W.mg W.base 1 (He.fAd W.K d_Canal_init.at_) 4 c_Canal_init [] [] := by
  obtain ⟨fd, F⟩ := ok.def_ 90 (d := d_Canal_init) rfl
  refine fnC (W := W) (N := [(PySem.Str.ofString "self"), (PySem.Str.ofString "reaches"), (PySem.Str.ofString "locks"), (PySem.Str.ofString "nights"), (PySem.Str.ofString "night")]) (ps := [(PySem.Str.ofString "self"), (PySem.Str.ofString "reaches"), (PySem.Str.ofString "locks"), (PySem.Str.ofString "nights")]) (d := d_Canal_init) (k := 0) F (C8.fnScope_by (by kernel_rfl)) rfl rfl (by decide) (fun _ => binds_all F (List.cons_ne_nil _ _) fun T kV doc pm an cdv ct us its hl hi => by
    match us, hl with
    | [_, _, _, _], _ => exact ⟨_, rfl, by match its, hi with | [_], _ => rfl⟩) .nil fun cdv A outer s H E cx => ?_
  exact (sss_cons (ss_setF ok.dt ok.kk (by decide) (fld_reaches ok) (se_var (pe_var rfl (.inl rfl))) (se_list (se_var (pe_var rfl (.inl rfl))) ⟨rfl, fr_list ok⟩ rfl) rfl)
  (sss_cons (ss_setF ok.dt ok.kk (by decide) (fld_locks ok) (se_var (pe_var rfl (.inl rfl))) (se_list (se_var (pe_var rfl (.inl rfl))) ⟨rfl, fr_list ok⟩ rfl) rfl)
  (sss_cons (ss_setF ok.dt ok.kk (by decide) (fld_nights ok) (se_var (pe_var rfl (.inl rfl))) (se_lst sl_nil) rfl)
  (sss_cons (ss_iff (st_cmp op_notN v_notN (se_var (pe_var rfl (.inl rfl))) se_non (nomark _)) (sss_cons (ss_setF ok.dt ok.kk (by decide) (fld_nights ok) (se_var (pe_var rfl (.inl rfl))) (se_comp cx.ex (ow := [("night", 4)]) (si_lst (se_var (pe_var rfl (.inl rfl)))) (blkOk_by (by kernel_rfl)) rfl (by decide) (fun _ _ _ _ _ => (pg_name cx.ex.blk.nd rfl (.inl rfl) (.inr rfl))) True.intro (fun _ _ _ _ _ => (se_list (se_var (pe_var rfl (.inl rfl))) ⟨rfl, fr_list ok⟩ rfl)) (fun _ => rfl)) rfl)
  sss_nil) sss_nil)
  sss_nil))))
theorem f_names_hold (W : Wd) (ok : WdOk W) : FnC clos W.D W.P W.w W.K W.mg W.base 4 (He.fAd W.K d_names_hold.at_) 1 c_names_hold [] [] := by
  obtain ⟨fd, F⟩ := ok.def_ 91 (d := d_names_hold) rfl
  refine fnC (W := W) (N := [(PySem.Str.ofString "words"), (PySem.Str.ofString "word")]) (ps := [(PySem.Str.ofString "words")]) (d := d_names_hold) (k := 3) F (C8.fnScope_by (by kernel_rfl)) rfl rfl (by decide) (fun _ => F.bindsN fun kV doc pm an cdv ct us hl => by
    match us, hl with
    | [_], _ => rfl) .nil fun cdv A outer s H E cx => ?_
  exact (sss_cons (ss_for cx (si_lst (se_var (pe_var rfl (.inl rfl)))) (pg_name cx.ex.nd rfl (.inl rfl) (.inr rfl)) (sss_cons (ss_iff (st_not (st_val (se_isname (x := "is_name") ok.dt cx.ex (f_is_name W ok) (by decide) rfl (glo_is_name ok) (ok.kp 110 rfl) (se_var (pe_var rfl (.inl rfl))) rfl (by decide)) (fun _ => rfl))) (sss_cons (ss_raise cx (raise_BadRow ok rfl rfl))
  sss_nil) sss_nil)
  sss_nil) (fun _ => rfl))
  sss_nil)
theorem f_reach_read (W : Wd) (ok : WdOk W) : FnC clos W.D W.P W.w W.K W.mg W.base 5 (He.fAd W.K d_reach_read.at_) 2 c_reach_read [] [] := by
  obtain ⟨fd, F⟩ := ok.def_ 92 (d := d_reach_read) rfl
  refine fnC (W := W) (N := [(PySem.Str.ofString "words"), (PySem.Str.ofString "reaches"), (PySem.Str.ofString "numbers"), (PySem.Str.ofString "word"), (PySem.Str.ofString "target")]) (ps := [(PySem.Str.ofString "words"), (PySem.Str.ofString "reaches")]) (d := d_reach_read) (k := 4) F (C8.fnScope_by (by kernel_rfl)) rfl rfl (by decide) (fun _ => F.bindsN fun kV doc pm an cdv ct us hl => by
    match us, hl with
    | [_, _], _ => rfl) .nil fun cdv A outer s H E cx => ?_
  exact (sss_cons (ss_iff (st_cmp (op_neAll ok.dt cx.ex.hu) (v_ne ok.dt) (se_len ok.dt (se_var (pe_var rfl (.inl rfl))) ⟨rfl, fr_len ok⟩ rfl) (se_int rfl) (nomark _)) (sss_cons (ss_raise cx (raise_BadRow ok rfl rfl))
  sss_nil) sss_nil)
  (sss_cons (ss_ex (se_call cx.ex (f_names_hold W ok) (by decide) rfl (glo_names_hold ok) (ok.kp 91 rfl) (sl_cons (se_lst (sl_cons (se_idx ok.dt cx.ex.hu (se_var (pe_var rfl (.inl rfl))) (se_int rfl) (fun _ _ => rfl)) (sl_cons (se_idx ok.dt cx.ex.hu (se_var (pe_var rfl (.inl rfl))) (se_int rfl) (fun _ _ => rfl)) sl_nil stE_Subscript) stE_Subscript)) sl_nil stE_List) rfl (by decide) rfl rfl) rfl)
  (sss_cons (ss_setLc cx rfl rfl (sw_true rfl rfl rfl (by kernel_rfl)) (ow := [("word", 3)]) (si_lst (se_slc ok.dt (se_var (pe_var rfl (.inl rfl))) (se_int rfl) (se_int rfl))) (blkOk_by (by kernel_rfl)) rfl (by decide) (fun _ _ _ _ _ => (pg_name cx.ex.blk.nd rfl (.inl rfl) (.inr rfl))) True.intro (fun _ _ _ _ _ => (se_numof (x := "number_of") ok.dt cx.ex.blk (f_number_of W ok) (by decide) rfl (glo_number_of ok) (ok.kp 111 rfl) (se_var (pe_var rfl (.inl rfl))) rfl (by decide))) (fun _ => rfl))
  (sss_cons (ss_iff (st_cmp (op_eqAll ok.dt cx.ex.hu) (v_eq ok.dt) (se_idx ok.dt cx.ex.hu (se_var (pe_var rfl (.inl rfl))) (se_int rfl) (fun _ _ => rfl)) (se_str (cs := [115, 101, 97]) (by kernel_rfl) (by kernel_rfl)) (nomark _)) (sss_cons (ss_raise cx (raise_BadRow ok rfl rfl))
  sss_nil) sss_nil)
  (sss_cons (ss_iff (st_cmp op_ge (v_ge ok.dt) (se_call cx.ex (f_place_of W ok) (by decide) rfl (glo_place_of ok) (ok.kp 4 rfl) (sl_cons (se_var (pe_var rfl (.inl rfl))) (sl_cons (se_idx ok.dt cx.ex.hu (se_var (pe_var rfl (.inl rfl))) (se_int rfl) (fun _ _ => rfl)) sl_nil stE_Subscript) stE_Name) rfl (by decide) rfl rfl) (se_int rfl) (nomark _)) (sss_cons (ss_raise cx (raise_Twice ok rfl rfl))
  sss_nil) sss_nil)
  (sss_cons (ss_set cx rfl (.inl rfl) (se_call cx.ex (f_place_of W ok) (by decide) rfl (glo_place_of ok) (ok.kp 4 rfl) (sl_cons (se_var (pe_var rfl (.inl rfl))) (sl_cons (se_idx ok.dt cx.ex.hu (se_var (pe_var rfl (.inl rfl))) (se_int rfl) (fun _ _ => rfl)) sl_nil stE_Subscript) stE_Name) rfl (by decide) rfl rfl) rfl (.inr rfl))
  (sss_cons (ss_iff (st_of (sw_and (st_cmp op_lt (v_lt ok.dt) (se_var (pe_var rfl (.inl rfl))) (se_int rfl) (nomark _)) (sw_and1 (st_cmp (op_neAll ok.dt cx.ex.hu) (v_ne ok.dt) (se_idx ok.dt cx.ex.hu (se_var (pe_var rfl (.inl rfl))) (se_int rfl) (fun _ _ => rfl)) (se_str (cs := [115, 101, 97]) (by kernel_rfl) (by kernel_rfl)) (nomark _))))) (sss_cons (ss_raise cx (raise_Unknown ok rfl rfl))
  sss_nil) sss_nil)
  (sss_cons (ss_iff (st_of (sw_or (st_cmp op_gt (v_gt ok.dt) (se_idx ok.dt cx.ex.hu (se_var (pe_var rfl (.inl rfl))) (se_int rfl) (fun _ _ => rfl)) (se_idx ok.dt cx.ex.hu (se_var (pe_var rfl (.inl rfl))) (se_int rfl) (fun _ _ => rfl)) (nomark _)) (sw_or (st_cmp op_lt (v_lt ok.dt) (se_idx ok.dt cx.ex.hu (se_var (pe_var rfl (.inl rfl))) (se_int rfl) (fun _ _ => rfl)) (se_int rfl) (nomark _)) (sw_or1 (st_cmp op_gt (v_gt ok.dt) (se_idx ok.dt cx.ex.hu (se_var (pe_var rfl (.inl rfl))) (se_int rfl) (fun _ _ => rfl)) (se_glob rfl (int_MOST_BERTHS ok) (by decide)) (nomark _)))))) (sss_cons (ss_raise cx (raise_BadNumber ok rfl rfl))
  sss_nil) sss_nil)
  (sss_cons (ss_iff (st_cmp op_ge (v_ge ok.dt) (se_len ok.dt (se_var (pe_var rfl (.inl rfl))) ⟨rfl, fr_len ok⟩ rfl) (se_glob rfl (int_MOST_REACHES ok) (by decide)) (nomark _)) (sss_cons (ss_raise cx (raise_TooMany ok rfl rfl))
  sss_nil) sss_nil)
  (sss_cons (ss_ret (se_make cx.ex (f_Reach_init W ok) (by decide) (by decide) (mkr_Reach ok) rfl (cls_Reach ok) (sl_cons (se_idx ok.dt cx.ex.hu (se_var (pe_var rfl (.inl rfl))) (se_int rfl) (fun _ _ => rfl)) (sl_cons (se_idx ok.dt cx.ex.hu (se_var (pe_var rfl (.inl rfl))) (se_int rfl) (fun _ _ => rfl)) (sl_cons (se_idx ok.dt cx.ex.hu (se_var (pe_var rfl (.inl rfl))) (se_int rfl) (fun _ _ => rfl)) (sl_cons (se_idx ok.dt cx.ex.hu (se_var (pe_var rfl (.inl rfl))) (se_int rfl) (fun _ _ => rfl)) (sl_cons (se_idx ok.dt cx.ex.hu (se_var (pe_var rfl (.inl rfl))) (se_int rfl) (fun _ _ => rfl)) (sl_cons (se_var (pe_var rfl (.inl rfl))) sl_nil stE_Name) stE_Subscript) stE_Subscript) stE_Subscript) stE_Subscript) stE_Subscript) rfl (by decide) rfl rfl))
  sss_nil))))))))))
theorem f_extra_read (W : Wd) (ok : WdOk W) : FnC clos W.D W.P W.w W.K W.mg W.base 4 (He.fAd W.K d_extra_read.at_) 1 c_extra_read [] [] := by
  obtain ⟨fd, F⟩ := ok.def_ 93 (d := d_extra_read) rfl
  refine fnC (W := W) (N := [(PySem.Str.ofString "words")]) (ps := [(PySem.Str.ofString "words")]) (d := d_extra_read) (k := 3) F (C8.fnScope_by (by kernel_rfl)) rfl rfl (by decide) (fun _ => F.bindsN fun kV doc pm an cdv ct us hl => by
    match us, hl with
    | [_], _ => rfl) .nil fun cdv A outer s H E cx => ?_
  exact (sss_cons (ss_iff (st_cmp (op_eqAll ok.dt cx.ex.hu) (v_eq ok.dt) (se_len ok.dt (se_var (pe_var rfl (.inl rfl))) ⟨rfl, fr_len ok⟩ rfl) (se_int rfl) (nomark _)) (sss_cons (ss_ret (se_int rfl))
  sss_nil) sss_nil)
  (sss_cons (ss_iff (st_of (sw_and (st_cmp (op_neAll ok.dt cx.ex.hu) (v_ne ok.dt) (se_idx ok.dt cx.ex.hu (se_var (pe_var rfl (.inl rfl))) (se_int rfl) (fun _ _ => rfl)) (se_str (cs := [98, 97, 115, 105, 110]) (by kernel_rfl) (by kernel_rfl)) (nomark _)) (sw_and1 (st_cmp (op_neAll ok.dt cx.ex.hu) (v_ne ok.dt) (se_idx ok.dt cx.ex.hu (se_var (pe_var rfl (.inl rfl))) (se_int rfl) (fun _ _ => rfl)) (se_str (cs := [112, 117, 109, 112]) (by kernel_rfl) (by kernel_rfl)) (nomark _))))) (sss_cons (ss_raise cx (raise_BadRow ok rfl rfl))
  sss_nil) sss_nil)
  (sss_cons (ss_ret (se_numof (x := "number_of") ok.dt cx.ex (f_number_of W ok) (by decide) rfl (glo_number_of ok) (ok.kp 111 rfl) (se_idx ok.dt cx.ex.hu (se_var (pe_var rfl (.inl rfl))) (se_int rfl) (fun _ _ => rfl)) rfl (by decide)))
  sss_nil)))
end Ck
-- SF7
set_option Elab.async false
set_option linter.all false
set_option maxRecDepth 100000
set_option maxHeartbeats 4000000
set_option autoImplicit false
namespace Ck
open PySem PySem.Spec PyProof.Rows L2 Lk
theorem f_lock_read (W : Wd) (ok : WdOk W) : FnC clos W.D W.P W.w W.K W.mg W.base 5 (He.fAd W.K d_lock_read.at_) 3 c_lock_read [] [] := by
  obtain ⟨fd, F⟩ := ok.def_ 94 (d := d_lock_read) rfl
  refine fnC (W := W) (N := [(PySem.Str.ofString "words"), (PySem.Str.ofString "reaches"), (PySem.Str.ofString "locks"), (PySem.Str.ofString "room"), (PySem.Str.ofString "extra"), (PySem.Str.ofString "high"), (PySem.Str.ofString "low")]) (ps := [(PySem.Str.ofString "words"), (PySem.Str.ofString "reaches"), (PySem.Str.ofString "locks")]) (d := d_lock_read) (k := 4) F (C8.fnScope_by (by kernel_rfl)) rfl rfl (by decide) (fun _ => F.bindsN fun kV doc pm an cdv ct us hl => by
    match us, hl with
    | [_, _, _], _ => rfl) .nil fun cdv A outer s H E cx => ?_
  exact (sss_cons (ss_iff (st_of (sw_and (st_cmp (op_neAll ok.dt cx.ex.hu) (v_ne ok.dt) (se_len ok.dt (se_var (pe_var rfl (.inl rfl))) ⟨rfl, fr_len ok⟩ rfl) (se_int rfl) (nomark _)) (sw_and1 (st_cmp (op_neAll ok.dt cx.ex.hu) (v_ne ok.dt) (se_len ok.dt (se_var (pe_var rfl (.inl rfl))) ⟨rfl, fr_len ok⟩ rfl) (se_int rfl) (nomark _))))) (sss_cons (ss_raise cx (raise_BadRow ok rfl rfl))
  sss_nil) sss_nil)
  (sss_cons (ss_ex (se_call cx.ex (f_names_hold W ok) (by decide) rfl (glo_names_hold ok) (ok.kp 91 rfl) (sl_cons (se_slc ok.dt (se_var (pe_var rfl (.inl rfl))) (se_int rfl) (se_int rfl)) sl_nil stE_Subscript) rfl (by decide) rfl rfl) rfl)
  (sss_cons (ss_set cx rfl (.inl rfl) (se_numof (x := "number_of") ok.dt cx.ex (f_number_of W ok) (by decide) rfl (glo_number_of ok) (ok.kp 111 rfl) (se_idx ok.dt cx.ex.hu (se_var (pe_var rfl (.inl rfl))) (se_int rfl) (fun _ _ => rfl)) rfl (by decide)) rfl (.inr rfl))
  (sss_cons (ss_set cx rfl (.inl rfl) (se_call cx.ex (f_extra_read W ok) (by decide) rfl (glo_extra_read ok) (ok.kp 93 rfl) (sl_cons (se_var (pe_var rfl (.inl rfl))) sl_nil stE_Name) rfl (by decide) rfl rfl) rfl (.inr rfl))
  (sss_cons (ss_iff (st_cmp op_ge (v_ge ok.dt) (se_call cx.ex (f_place_of W ok) (by decide) rfl (glo_place_of ok) (ok.kp 4 rfl) (sl_cons (se_var (pe_var rfl (.inl rfl))) (sl_cons (se_idx ok.dt cx.ex.hu (se_var (pe_var rfl (.inl rfl))) (se_int rfl) (fun _ _ => rfl)) sl_nil stE_Subscript) stE_Name) rfl (by decide) rfl rfl) (se_int rfl) (nomark _)) (sss_cons (ss_raise cx (raise_Twice ok rfl rfl))
  sss_nil) sss_nil)
  (sss_cons (ss_set cx rfl (.inl rfl) (se_call cx.ex (f_place_of W ok) (by decide) rfl (glo_place_of ok) (ok.kp 4 rfl) (sl_cons (se_var (pe_var rfl (.inl rfl))) (sl_cons (se_idx ok.dt cx.ex.hu (se_var (pe_var rfl (.inl rfl))) (se_int rfl) (fun _ _ => rfl)) sl_nil stE_Subscript) stE_Name) rfl (by decide) rfl rfl) rfl (.inr rfl))
  (sss_cons (ss_set cx rfl (.inl rfl) (se_call cx.ex (f_place_of W ok) (by decide) rfl (glo_place_of ok) (ok.kp 4 rfl) (sl_cons (se_var (pe_var rfl (.inl rfl))) (sl_cons (se_idx ok.dt cx.ex.hu (se_var (pe_var rfl (.inl rfl))) (se_int rfl) (fun _ _ => rfl)) sl_nil stE_Subscript) stE_Name) rfl (by decide) rfl rfl) rfl (.inr rfl))
  (sss_cons (ss_iff (st_of (sw_or (st_cmp op_lt (v_lt ok.dt) (se_var (pe_var rfl (.inl rfl))) (se_int rfl) (nomark _)) (sw_or1 (st_cmp op_lt (v_lt ok.dt) (se_var (pe_var rfl (.inl rfl))) (se_int rfl) (nomark _))))) (sss_cons (ss_raise cx (raise_Unknown ok rfl rfl))
  sss_nil) sss_nil)
  (sss_cons (ss_iff (st_of (sw_or (st_cmp op_ge (v_ge ok.dt) (se_var (pe_var rfl (.inl rfl))) (se_var (pe_var rfl (.inl rfl))) (nomark _)) (sw_or (st_cmp op_lt (v_lt ok.dt) (se_var (pe_var rfl (.inl rfl))) (se_int rfl) (nomark _)) (sw_or (st_cmp op_lt (v_lt ok.dt) (se_var (pe_var rfl (.inl rfl))) (se_int rfl) (nomark _)) (sw_or1 (st_cmp op_gt (v_gt ok.dt) (se_var (pe_var rfl (.inl rfl))) (se_var (pe_var rfl (.inl rfl))) (nomark _))))))) (sss_cons (ss_raise cx (raise_BadNumber ok rfl rfl))
  sss_nil) sss_nil)
  (sss_cons (ss_iff (st_cmp op_ge (v_ge ok.dt) (se_len ok.dt (se_var (pe_var rfl (.inl rfl))) ⟨rfl, fr_len ok⟩ rfl) (se_glob rfl (int_MOST_LOCKS ok) (by decide)) (nomark _)) (sss_cons (ss_raise cx (raise_TooMany ok rfl rfl))
  sss_nil) sss_nil)
  (sss_cons (ss_iff (st_cmp (op_eqAll ok.dt cx.ex.hu) (v_eq ok.dt) (se_len ok.dt (se_var (pe_var rfl (.inl rfl))) ⟨rfl, fr_len ok⟩ rfl) (se_int rfl) (nomark _)) (sss_cons (ss_ret (se_make cx.ex (f_PlainLock_init W ok) (by decide) (by decide) (mkr_PlainLock ok) rfl (cls_PlainLock ok) (sl_cons (se_idx ok.dt cx.ex.hu (se_var (pe_var rfl (.inl rfl))) (se_int rfl) (fun _ _ => rfl)) (sl_cons (se_var (pe_var rfl (.inl rfl))) (sl_cons (se_var (pe_var rfl (.inl rfl))) (sl_cons (se_var (pe_var rfl (.inl rfl))) sl_nil stE_Name) stE_Name) stE_Name) stE_Subscript) rfl (by decide) rfl rfl))
  sss_nil) sss_nil)
  (sss_cons (ss_iff (st_cmp (op_eqAll ok.dt cx.ex.hu) (v_eq ok.dt) (se_idx ok.dt cx.ex.hu (se_var (pe_var rfl (.inl rfl))) (se_int rfl) (fun _ _ => rfl)) (se_str (cs := [98, 97, 115, 105, 110]) (by kernel_rfl) (by kernel_rfl)) (nomark _)) (sss_cons (ss_ret se_dead)
  sss_nil) sss_nil)
  (sss_cons (ss_ret se_dead)
  sss_nil)))))))))))))
theorem f_night_read (W : Wd) (ok : WdOk W) : FnC clos W.D W.P W.w W.K W.mg W.base 5 (He.fAd W.K d_night_read.at_) 3 c_night_read [] [] := by
  obtain ⟨fd, F⟩ := ok.def_ 95 (d := d_night_read) rfl
  refine fnC (W := W) (N := [(PySem.Str.ofString "words"), (PySem.Str.ofString "reaches"), (PySem.Str.ofString "nights"), (PySem.Str.ofString "told"), (PySem.Str.ofString "at"), (PySem.Str.ofString "names"), (PySem.Str.ofString "name"), (PySem.Str.ofString "comes"), (PySem.Str.ofString "goes"), (PySem.Str.ofString "found")]) (ps := [(PySem.Str.ofString "words"), (PySem.Str.ofString "reaches"), (PySem.Str.ofString "nights")]) (d := d_night_read) (k := 4) F (C8.fnScope_by (by kernel_rfl)) rfl rfl (by decide) (fun _ => F.bindsN fun kV doc pm an cdv ct us hl => by
    match us, hl with
    | [_, _, _], _ => rfl) .nil fun cdv A outer s H E cx => ?_
  exact (sss_cons (ss_iff (st_cmp (op_neAll ok.dt cx.ex.hu) (v_ne ok.dt) (se_bin op_mod v_mod (se_len ok.dt (se_var (pe_var rfl (.inl rfl))) ⟨rfl, fr_len ok⟩ rfl) (se_int rfl)) (se_int rfl) (nomark _)) (sss_cons (ss_raise cx (raise_BadRow ok rfl rfl))
  sss_nil) sss_nil)
  (sss_cons (ss_set cx rfl (.inl rfl) (se_lst sl_nil) rfl (.inr rfl))
  (sss_cons (ss_for cx (si_r3 (se_int rfl) (se_len ok.dt (se_var (pe_var rfl (.inl rfl))) ⟨rfl, fr_len ok⟩ rfl) pe_int ⟨rfl, fr_range ok⟩ rfl rfl rfl rfl) (pg_name cx.ex.nd rfl (.inl rfl) (.inr rfl)) (sss_cons (ss_ex (se_call cx.ex (f_names_hold W ok) (by decide) rfl (glo_names_hold ok) (ok.kp 91 rfl) (sl_cons (se_lst (sl_cons (se_idx ok.dt cx.ex.hu (se_var (pe_var rfl (.inl rfl))) (se_var (pe_var rfl (.inl rfl))) (fun _ _ => rfl)) sl_nil stE_Subscript)) sl_nil stE_List) rfl (by decide) rfl rfl) rfl)
  (sss_cons (ss_app (se_var (pe_var rfl (.inl rfl))) (se_tup (sl_cons (se_idx ok.dt cx.ex.hu (se_var (pe_var rfl (.inl rfl))) (se_var (pe_var rfl (.inl rfl))) (fun _ _ => rfl)) (sl_cons (se_numof (x := "number_of") ok.dt cx.ex (f_number_of W ok) (by decide) rfl (glo_number_of ok) (ok.kp 111 rfl) (se_idx ok.dt cx.ex.hu (se_var (pe_var rfl (.inl rfl))) (se_bin op_addAll (v_add ok.dt) (se_var (pe_var rfl (.inl rfl))) (se_int rfl)) (fun _ _ => rfl)) rfl (by decide)) (sl_cons (se_numof (x := "number_of") ok.dt cx.ex (f_number_of W ok) (by decide) rfl (glo_number_of ok) (ok.kp 111 rfl) (se_idx ok.dt cx.ex.hu (se_var (pe_var rfl (.inl rfl))) (se_bin op_addAll (v_add ok.dt) (se_var (pe_var rfl (.inl rfl))) (se_int rfl)) (fun _ _ => rfl)) rfl (by decide)) sl_nil stE_Call) stE_Call) stE_Subscript)) rfl rfl rfl rfl rfl)
  sss_nil)) (fun _ => rfl))
  (sss_cons (ss_setLc cx rfl rfl (sw_true rfl rfl rfl (by kernel_rfl)) (ow := [("name", 6), ("comes", 7), ("goes", 8)]) (si_lst (se_var (pe_var rfl (.inl rfl)))) (blkOk_by (by kernel_rfl)) rfl (by decide) (fun _ _ _ _ _ => (pg_tup cx.ex.blk.calm (pgs_cons (pg_name cx.ex.blk.nd rfl (.inl rfl) (.inr rfl)) (pgs_cons (pg_name cx.ex.blk.nd rfl (.inl rfl) (.inr rfl)) (pgs_cons (pg_name cx.ex.blk.nd rfl (.inl rfl) (.inr rfl)) pgs_nil rfl) rfl) rfl) rfl rfl)) True.intro (fun _ _ _ _ _ => (se_var (pe_var rfl (.inl rfl)))) (fun _ => rfl))
  (sss_cons (ss_iff (st_cmp (op_neAll ok.dt cx.ex.hu) (v_ne ok.dt) (se_lenset ok.dt cx.ex (se_var (pe_var rfl (.inl rfl))) ⟨rfl, fr_len ok⟩ ⟨rfl, fr_set ok⟩ rfl) (se_len ok.dt (se_var (pe_var rfl (.inl rfl))) ⟨rfl, fr_len ok⟩ rfl) (nomark _)) (sss_cons (ss_raise cx (raise_Twice ok rfl rfl))
  sss_nil) sss_nil)
  (sss_cons (ss_set cx rfl (.inl rfl) (se_lst sl_nil) rfl (.inr rfl))
  (sss_cons (ss_for cx (si_lst (se_var (pe_var rfl (.inl rfl)))) (pg_tup cx.ex.calm (pgs_cons (pg_name cx.ex.nd rfl (.inl rfl) (.inr rfl)) (pgs_cons (pg_name cx.ex.nd rfl (.inl rfl) (.inr rfl)) (pgs_cons (pg_name cx.ex.nd rfl (.inl rfl) (.inr rfl)) pgs_nil rfl) rfl) rfl) rfl rfl) (sss_cons (ss_set cx rfl (.inl rfl) (se_call cx.ex (f_place_of W ok) (by decide) rfl (glo_place_of ok) (ok.kp 4 rfl) (sl_cons (se_var (pe_var rfl (.inl rfl))) (sl_cons (se_var (pe_var rfl (.inl rfl))) sl_nil stE_Name) stE_Name) rfl (by decide) rfl rfl) rfl (.inr rfl))
  (sss_cons (ss_iff (st_cmp op_lt (v_lt ok.dt) (se_var (pe_var rfl (.inl rfl))) (se_int rfl) (nomark _)) (sss_cons (ss_raise cx (raise_Unknown ok rfl rfl))
  sss_nil) sss_nil)
  (sss_cons (ss_app (se_var (pe_var rfl (.inl rfl))) (se_tup (sl_cons (se_var (pe_var rfl (.inl rfl))) (sl_cons (se_var (pe_var rfl (.inl rfl))) (sl_cons (se_var (pe_var rfl (.inl rfl))) sl_nil stE_Name) stE_Name) stE_Name)) rfl rfl rfl rfl rfl)
  sss_nil))) (fun _ => rfl))
  (sss_cons (ss_iff (st_cmp op_ge (v_ge ok.dt) (se_len ok.dt (se_var (pe_var rfl (.inl rfl))) ⟨rfl, fr_len ok⟩ rfl) (se_glob rfl (int_MOST_NIGHTS ok) (by decide)) (nomark _)) (sss_cons (ss_raise cx (raise_TooMany ok rfl rfl))
  sss_nil) sss_nil)
  (sss_cons (ss_ret (se_var (pe_var rfl (.inl rfl))))
  sss_nil)))))))))
theorem f_weather_of_reading (W : Wd) (ok : WdOk W) : FnC clos W.D W.P W.w W.K W.mg W.base 1 (He.fAd W.K d_weather_of_reading.at_) 2 c_weather_of_reading [] [] := by
  obtain ⟨fd, F⟩ := ok.def_ 96 (d := d_weather_of_reading) rfl
  refine fnC (W := W) (N := [(PySem.Str.ofString "found"), (PySem.Str.ofString "many"), (PySem.Str.ofString "weather"), (PySem.Str.ofString "k"), (PySem.Str.ofString "at"), (PySem.Str.ofString "comes"), (PySem.Str.ofString "goes")]) (ps := [(PySem.Str.ofString "found"), (PySem.Str.ofString "many")]) (d := d_weather_of_reading) (k := 0) F (C8.fnScope_by (by kernel_rfl)) rfl rfl (by decide) (fun _ => F.bindsN fun kV doc pm an cdv ct us hl => by
    match us, hl with
    | [_, _], _ => rfl) .nil fun cdv A outer s H E cx => ?_
  exact (sss_cons (ss_setLc cx rfl rfl (sw_true rfl rfl rfl (by kernel_rfl)) (ow := [("k", 3)]) (si_r1 (se_var (pe_var rfl (.inl rfl))) ⟨rfl, fr_range ok⟩ rfl) (blkOk_by (by kernel_rfl)) rfl (by decide) (fun _ _ _ _ _ => (pg_name cx.ex.blk.nd rfl (.inl rfl) (.inr rfl))) True.intro (fun _ _ _ _ _ => (se_tup (sl_cons (se_int rfl) (sl_cons (se_int rfl) sl_nil stE_Constant) stE_Constant))) (fun _ => rfl))
  (sss_cons (ss_for cx (si_lst (se_var (pe_var rfl (.inl rfl)))) (pg_tup cx.ex.calm (pgs_cons (pg_name cx.ex.nd rfl (.inl rfl) (.inr rfl)) (pgs_cons (pg_name cx.ex.nd rfl (.inl rfl) (.inr rfl)) (pgs_cons (pg_name cx.ex.nd rfl (.inl rfl) (.inr rfl)) pgs_nil rfl) rfl) rfl) rfl rfl) (sss_cons (ss_setI ok.dt cx (se_var (pe_var rfl (.inl rfl))) (se_var (pe_var rfl (.inl rfl))) (se_tup (sl_cons (se_var (pe_var rfl (.inl rfl))) (sl_cons (se_var (pe_var rfl (.inl rfl))) sl_nil stE_Name) stE_Name)) rfl rfl rfl (fun _ => rfl))
  sss_nil) (fun _ => rfl))
  (sss_cons (ss_ret (se_var (pe_var rfl (.inl rfl))))
  sss_nil)))
theorem f_canal_of (W : Wd) (ok : WdOk W) : FnC clos W.D W.P W.w W.K W.mg W.base 6 (He.fAd W.K d_canal_of.at_) 1 c_canal_of [] [] := by
  obtain ⟨fd, F⟩ := ok.def_ 97 (d := d_canal_of) rfl
  refine fnC (W := W) (N := [(PySem.Str.ofString "text"), (PySem.Str.ofString "reaches"), (PySem.Str.ofString "locks"), (PySem.Str.ofString "nights"), (PySem.Str.ofString "row"), (PySem.Str.ofString "words"), (PySem.Str.ofString "found")]) (ps := [(PySem.Str.ofString "text")]) (d := d_canal_of) (k := 5) F (C8.fnScope_by (by kernel_rfl)) rfl rfl (by decide) (fun _ => F.bindsN fun kV doc pm an cdv ct us hl => by
    match us, hl with
    | [_], _ => rfl) .nil fun cdv A outer s H E cx => ?_
  exact (sss_cons (ss_set cx rfl (.inr rfl) (se_lst sl_nil) rfl (.inl rfl))
  (sss_cons (ss_set cx rfl (.inl rfl) (se_lst sl_nil) rfl (.inr rfl))
  (sss_cons (ss_set cx rfl (.inl rfl) (se_lst sl_nil) rfl (.inr rfl))
  (sss_cons (ss_for cx (si_lst (se_split ok.dt (se_var (pe_var rfl (.inl rfl))) (by kernel_rfl) rfl rfl rfl)) (pg_name cx.ex.nd rfl (.inl rfl) (.inr rfl)) (sss_cons (ss_set cx rfl (.inl rfl) (se_split ok.dt (se_var (pe_var rfl (.inl rfl))) (by kernel_rfl) rfl rfl rfl) rfl (.inr rfl))
  (sss_cons (ss_iff (st_cmp (op_eqAll ok.dt cx.ex.hu) (v_eq ok.dt) (se_idx ok.dt cx.ex.hu (se_var (pe_var rfl (.inl rfl))) (se_int rfl) (fun _ _ => rfl)) (se_str (cs := [114, 101, 97, 99, 104]) (by kernel_rfl) (by kernel_rfl)) (nomark _)) (sss_cons (ss_app (se_var (pe_var rfl (.inr (.inl rfl)))) (se_call cx.ex (f_reach_read W ok) (by decide) rfl (glo_reach_read ok) (ok.kp 92 rfl) (sl_cons (se_var (pe_var rfl (.inl rfl))) (sl_cons (se_var (pe_var rfl (.inr (.inl rfl)))) sl_nil stE_Name) stE_Name) rfl (by decide) rfl rfl) rfl rfl rfl rfl rfl)
  sss_nil) (sss_cons (ss_iff (st_cmp (op_eqAll ok.dt cx.ex.hu) (v_eq ok.dt) (se_idx ok.dt cx.ex.hu (se_var (pe_var rfl (.inl rfl))) (se_int rfl) (fun _ _ => rfl)) (se_str (cs := [108, 111, 99, 107]) (by kernel_rfl) (by kernel_rfl)) (nomark _)) (sss_cons (ss_app (se_var (pe_var rfl (.inl rfl))) (se_call cx.ex (f_lock_read W ok) (by decide) rfl (glo_lock_read ok) (ok.kp 94 rfl) (sl_cons (se_var (pe_var rfl (.inl rfl))) (sl_cons (se_var (pe_var rfl (.inr (.inl rfl)))) (sl_cons (se_var (pe_var rfl (.inl rfl))) sl_nil stE_Name) stE_Name) stE_Name) rfl (by decide) rfl rfl) rfl rfl rfl rfl rfl)
  sss_nil) (sss_cons (ss_iff (st_cmp (op_eqAll ok.dt cx.ex.hu) (v_eq ok.dt) (se_idx ok.dt cx.ex.hu (se_var (pe_var rfl (.inl rfl))) (se_int rfl) (fun _ _ => rfl)) (se_str (cs := [110, 105, 103, 104, 116]) (by kernel_rfl) (by kernel_rfl)) (nomark _)) (sss_cons (ss_app (se_var (pe_var rfl (.inl rfl))) (se_call cx.ex (f_night_read W ok) (by decide) rfl (glo_night_read ok) (ok.kp 95 rfl) (sl_cons (se_var (pe_var rfl (.inl rfl))) (sl_cons (se_var (pe_var rfl (.inr (.inl rfl)))) (sl_cons (se_var (pe_var rfl (.inl rfl))) sl_nil stE_Name) stE_Name) stE_Name) rfl (by decide) rfl rfl) rfl rfl rfl rfl rfl)
  sss_nil) (sss_cons (ss_iff (st_cmp (op_neAll ok.dt cx.ex.hu) (v_ne ok.dt) (se_var (pe_var rfl (.inl rfl))) (se_str (cs := []) (by kernel_rfl) (by kernel_rfl)) (nomark _)) (sss_cons (ss_raise cx (raise_BadRow ok rfl rfl))
  sss_nil) sss_nil)
  sss_nil))
  sss_nil))
  sss_nil))
  sss_nil)) (fun _ => rfl))
  (sss_cons (ss_iff (st_cmp (op_eqAll ok.dt cx.ex.hu) (v_eq ok.dt) (se_len ok.dt (se_var (pe_var rfl (.inr (.inl rfl)))) ⟨rfl, fr_len ok⟩ rfl) (se_int rfl) (nomark _)) (sss_cons (ss_raise cx (raise_BadRow ok rfl rfl))
  sss_nil) sss_nil)
  (sss_cons (ss_ret (se_make cx.ex (f_Canal_init W ok) (by decide) (by decide) (mkr_Canal ok) rfl (cls_Canal ok) (sl_cons (se_var (pe_var rfl (.inr (.inl rfl)))) (sl_cons (se_var (pe_var rfl (.inl rfl))) (sl_cons (se_comp cx.ex (ow := [("found", 6)]) (si_lst (se_var (pe_var rfl (.inl rfl)))) (blkOk_by (by kernel_rfl)) rfl (by decide) (fun _ _ _ _ _ => (pg_name cx.ex.blk.nd rfl (.inl rfl) (.inr rfl))) True.intro (fun _ _ _ _ _ => (se_call cx.ex.blk (f_weather_of_reading W ok) (by decide) rfl (glo_weather_of_reading ok) (ok.kp 96 rfl) (sl_cons (se_var (pe_var rfl (.inl rfl))) (sl_cons (se_len ok.dt (se_var (pe_var rfl (.inr (.inl rfl)))) ⟨rfl, fr_len ok⟩ rfl) sl_nil stE_Call) stE_Name) rfl (by decide) rfl rfl)) (fun _ => rfl)) sl_nil stE_ListComp) stE_Name) stE_Name) rfl (by decide) rfl rfl))
  sss_nil))))))
theorem f_House_answered (W : Wd) (ok : WdOk W) : FnC clos W.D W.P W.w W.K W.mg W.base 10 (He.fAd W.K d_House_answered.at_) 2 c_House_answered [] [] := by
  obtain ⟨fd, F⟩ := ok.def_ 99 (d := d_House_answered) rfl
  refine fnC (W := W) (N := [(PySem.Str.ofString "self"), (PySem.Str.ofString "answer")]) (ps := [(PySem.Str.ofString "self"), (PySem.Str.ofString "answer")]) (d := d_House_answered) (k := 9) F (C8.fnScope_by (by kernel_rfl)) rfl rfl (by decide) (fun _ => F.bindsN fun kV doc pm an cdv ct us hl => by
    match us, hl with
    | [_, _], _ => rfl) .nil fun cdv A outer s H E cx => ?_
  exact (sss_cons (ss_ret (se_call cx.ex (f_answer_shown W ok) (by decide) rfl (glo_answer_shown ok) (ok.kp 11 rfl) (sl_cons (se_attr ok.dt ok.kk (by decide) (fld_land ok) (se_var (pe_var rfl (.inl rfl))) rfl) (sl_cons (se_meth0 cx.ex (f_Book_names W ok) (by decide) (met_Book_names ok) (se_meth0 cx.ex (f_Keeper_book W ok) (by decide) (met_Keeper_book ok) (se_attr ok.dt ok.kk (by decide) (fld_master ok) (se_var (pe_var rfl (.inl rfl))) rfl) rfl) rfl) (sl_cons (se_var (pe_var rfl (.inl rfl))) sl_nil stE_Name) stE_Call) stE_Attribute) rfl (by decide) rfl rfl))
  sss_nil)
theorem f_House_planned (W : Wd) (ok : WdOk W) : FnC clos W.D W.P W.w W.K W.mg W.base 10 (He.fAd W.K d_House_planned.at_) 1 c_House_planned [] [] := by
  obtain ⟨fd, F⟩ := ok.def_ 100 (d := d_House_planned) rfl
  refine fnC (W := W) (N := [(PySem.Str.ofString "self")]) (ps := [(PySem.Str.ofString "self")]) (d := d_House_planned) (k := 9) F (C8.fnScope_by (by kernel_rfl)) rfl rfl (by decide) (fun _ => F.bindsN fun kV doc pm an cdv ct us hl => by
    match us, hl with
    | [_], _ => rfl) .nil fun cdv A outer s H E cx => ?_
  exact (sss_cons (ss_ret (se_call cx.ex (f_deeds_shown W ok) (by decide) rfl (glo_deeds_shown ok) (ok.kp 9 rfl) (sl_cons (se_attr ok.dt ok.kk (by decide) (fld_land ok) (se_var (pe_var rfl (.inl rfl))) rfl) (sl_cons (se_meth0 cx.ex (f_Book_names W ok) (by decide) (met_Book_names ok) (se_meth0 cx.ex (f_Keeper_book W ok) (by decide) (met_Keeper_book ok) (se_attr ok.dt ok.kk (by decide) (fld_master ok) (se_var (pe_var rfl (.inl rfl))) rfl) rfl) rfl) (sl_cons (se_meth0 cx.ex (f_Keeper_plan W ok) (by decide) (met_Keeper_plan ok) (se_attr ok.dt ok.kk (by decide) (fld_master ok) (se_var (pe_var rfl (.inl rfl))) rfl) rfl) sl_nil stE_Call) stE_Call) stE_Attribute) rfl (by decide) rfl rfl))
  sss_nil)
theorem f_House_waters (W : Wd) (ok : WdOk W) : FnC clos W.D W.P W.w W.K W.mg W.base 10 (He.fAd W.K d_House_waters.at_) 1 c_House_waters [] [] := by
  obtain ⟨fd, F⟩ := ok.def_ 101 (d := d_House_waters) rfl
  refine fnC (W := W) (N := [(PySem.Str.ofString "self"), (PySem.Str.ofString "row"), (PySem.Str.ofString "state"), (PySem.Str.ofString "k")]) (ps := [(PySem.Str.ofString "self")]) (d := d_House_waters) (k := 9) F (C8.fnScope_by (by kernel_rfl)) rfl rfl (by decide) (fun _ => F.bindsN fun kV doc pm an cdv ct us hl => by
    match us, hl with
    | [_], _ => rfl) .nil fun cdv A outer s H E cx => ?_
  exact (sss_cons (ss_set cx rfl (.inl rfl) (se_str (cs := [119, 97, 116, 101, 114, 115]) (by kernel_rfl) (by kernel_rfl)) rfl (.inr rfl))
  (sss_cons (ss_set cx rfl (.inl rfl) (se_meth0 cx.ex (f_Book_state W ok) (by decide) (met_Book_state ok) (se_meth0 cx.ex (f_Keeper_book W ok) (by decide) (met_Keeper_book ok) (se_attr ok.dt ok.kk (by decide) (fld_master ok) (se_var (pe_var rfl (.inl rfl))) rfl) rfl) rfl) rfl (.inr rfl))
  (sss_cons (ss_for cx (si_r1 (se_len ok.dt (se_attr ok.dt ok.kk (by decide) (fld_reaches ok) (se_attr ok.dt ok.kk (by decide) (fld_land ok) (se_var (pe_var rfl (.inl rfl))) rfl) rfl) ⟨rfl, fr_len ok⟩ rfl) ⟨rfl, fr_range ok⟩ rfl) (pg_name cx.ex.nd rfl (.inl rfl) (.inr rfl)) (sss_cons (ss_set cx rfl (.inl rfl) (se_bin op_addAll (v_add ok.dt) (se_bin op_addAll (v_add ok.dt) (se_var (pe_var rfl (.inl rfl))) (se_str (cs := [32]) (by kernel_rfl) (by kernel_rfl))) (se_tostr ok.dt (se_idx ok.dt cx.ex.hu (se_idx ok.dt cx.ex.hu (se_var (pe_var rfl (.inl rfl))) (se_int rfl) (fun _ _ => rfl)) (se_var (pe_var rfl (.inl rfl))) (fun _ _ => rfl)) ⟨rfl, fr_str ok⟩ rfl)) rfl (.inr rfl))
  sss_nil) (fun _ => rfl))
  (sss_cons (ss_ret (se_var (pe_var rfl (.inl rfl))))
  sss_nil))))
theorem f__law_named (W : Wd) (ok : WdOk W) : FnC clos W.D W.P W.w W.K W.mg W.base 1 (He.fAd W.K d__law_named.at_) 2 c__law_named [] [] := by
  obtain ⟨fd, F⟩ := ok.def_ 105 (d := d__law_named) rfl
  refine fnC (W := W) (N := [(PySem.Str.ofString "row"), (PySem.Str.ofString "n"), (PySem.Str.ofString "words"), (PySem.Str.ofString "k")]) (ps := [(PySem.Str.ofString "row"), (PySem.Str.ofString "n")]) (d := d__law_named) (k := 0) F (C8.fnScope_by (by kernel_rfl)) rfl rfl (by decide) (fun _ => F.bindsN fun kV doc pm an cdv ct us hl => by
    match us, hl with
    | [_, _], _ => rfl) .nil fun cdv A outer s H E cx => ?_
  exact (sss_cons (ss_set cx rfl (.inl rfl) (se_split ok.dt (se_var (pe_var rfl (.inl rfl))) (by kernel_rfl) rfl rfl rfl) rfl (.inr rfl))
  (sss_cons (ss_for cx (si_r1 (se_len ok.dt (se_var (pe_var rfl (.inl rfl))) ⟨rfl, fr_len ok⟩ rfl) ⟨rfl, fr_range ok⟩ rfl) (pg_name cx.ex.nd rfl (.inl rfl) (.inr rfl)) (sss_cons (ss_iff (st_cmp (op_eqAll ok.dt cx.ex.hu) (v_eq ok.dt) (se_slc ok.dt (se_idx ok.dt cx.ex.hu (se_var (pe_var rfl (.inl rfl))) (se_var (pe_var rfl (.inl rfl))) (fun _ _ => rfl)) True.intro (se_int rfl)) (se_str (cs := [35]) (by kernel_rfl) (by kernel_rfl)) (nomark _)) (sss_cons (ss_setI ok.dt cx (se_var (pe_var rfl (.inl rfl))) (se_var (pe_var rfl (.inl rfl))) (se_idx ok.dt cx.ex.hu (se_var (pe_var rfl (.inl rfl))) (se_toint ok.dt (se_slc ok.dt (se_idx ok.dt cx.ex.hu (se_var (pe_var rfl (.inl rfl))) (se_var (pe_var rfl (.inl rfl))) (fun _ _ => rfl)) (se_int rfl) True.intro) ⟨rfl, fr_int ok⟩ rfl) (fun _ _ => rfl)) rfl rfl rfl (fun _ => rfl))
  sss_nil) sss_nil)
  sss_nil) (fun _ => rfl))
  (sss_cons (ss_ret (se_join ok.dt (se_var (pe_var rfl (.inl rfl))) (by kernel_rfl) rfl rfl rfl))
  sss_nil)))
end Ck
-- SU
set_option Elab.async false
set_option linter.all false
set_option maxRecDepth 100000
set_option maxHeartbeats 4000000
set_option autoImplicit false
/-! SU: closures are set aside during a call, and put back. -/
namespace Ck
open PySem PySem.Spec PyProof.Rows L2
theorem susL_n : ∀ (cs : List Nat) (h : Hh), (susL cs h).n = h.n ∧ (susL cs h).cs = h.cs
  | [], h => ⟨rfl, rfl⟩
  | i :: r, h => by
    unfold susL
    split
    · exact susL_n r (h.set i .sus)
    · exact susL_n r h
/-- what is no closure stays -/
theorem susL_keep : ∀ (cs : List Nat) (h : Hh) (i : Nat), (∀ w x, h.get i ≠ some (.clo w x)) → (susL cs h).get i = h.get i
  | [], h, i, _ => rfl
  | j :: r, h, i, nc => by
    unfold susL
    split
    · rename_i w x e
      have ne : i ≠ j := fun z => nc w x (z ▸ e)
      have s1 : (h.set j .sus).get i = h.get i := by rw [Hh.get_set, if_neg ne]
      rw [susL_keep r (h.set j .sus) i (by rw [s1]; exact nc), s1]
    · exact susL_keep r h i nc
theorem susL_sus : ∀ (cs : List Nat) (h : Hh) (i : Nat), h.get i = some .sus → (susL cs h).get i = some .sus := fun cs h i e => by
  rw [susL_keep cs h i (fun w x z => by rw [e] at z; cases z), e]
/-- closures that are told are set aside -/
theorem susL_clo : ∀ (cs : List Nat) (h : Hh) (i w : Nat) (x : List AV), h.get i = some (.clo w x) → i ∈ cs → (susL cs h).get i = some .sus
  | [], h, i, w, x, e, m => nomatch m
  | j :: r, h, i, w, x, e, m => by
    unfold susL
    by_cases z : i = j
    · subst z
      rw [e]
      exact susL_sus r _ i (by rw [Hh.get_set, if_pos rfl])
    · have m2 : i ∈ r := (List.mem_cons.mp m).resolve_left z
      split
      · exact susL_clo r _ i w x (by rw [Hh.get_set, if_neg z]; exact e) m2
      · exact susL_clo r h i w x e m2
theorem backL_ok {h0 : Hh} : ∀ (cs : List Nat) {h h' : Hh}, backL h0 cs h = some h' → h'.n = h.n ∧ (∀ j, j ∈ h.cs → j ∈ h'.cs) ∧ (∀ i, (h'.get i = h.get i ∧ (i ∈ cs → ∀ w x, h0.get i ≠ some (.clo w x))) ∨ (i ∈ h'.cs ∧ ∃ w x, h0.get i = some (.clo w x) ∧ h'.get i = some (.clo w x)))
  | [], h, h', e => by
    cases e
    exact ⟨rfl, fun _ m => m, fun i => .inl ⟨rfl, fun m => nomatch m⟩⟩
  | j :: r, h, h', e => by
    unfold backL at e
    split at e
    · rename_i w x e0
      split at e
      · obtain ⟨a1, a2, a3⟩ := backL_ok r e
        refine ⟨a1, fun k m => a2 k (List.mem_cons_of_mem _ m), fun i => ?_⟩
        rcases a3 i with ⟨b1, b2⟩ | b
        · rw [Hh.get_set] at b1
          by_cases z : i = j
          · rw [if_pos z] at b1
            exact .inr ⟨a2 i (by rw [z]; exact List.mem_cons_self), w, x, by rw [z]; exact e0, b1⟩
          · rw [if_neg z] at b1
            exact .inl ⟨b1, fun m => b2 ((List.mem_cons.mp m).resolve_left z)⟩
        · exact .inr b
      · cases e
    · rename_i nc
      obtain ⟨a1, a2, a3⟩ := backL_ok r e
      refine ⟨a1, a2, fun i => ?_⟩
      rcases a3 i with ⟨b1, b2⟩ | b
      · refine .inl ⟨b1, fun m w x => ?_⟩
        rcases List.mem_cons.mp m with z | z
        · intro y
          rw [z] at y
          exact nc w x y
        · exact b2 z w x
      · exact .inr b
/-- what a closure needs of the heap is left out; all else stands over a part of the heap -/
theorem OR.part {D : Dt} {P : Program} {w : World} {rh : Rh} {H Hm : Hp} {a : Addr} {o : AO} {ho : HO} (tp : ∀ b xs, H b = some (.tup xs) → Hm b = some (.tup xs)) (nc : ∀ k x, o ≠ .clo k x) (r : OR D P w rh H a o ho) : OR D P w rh Hm a o ho := by
  cases o with
  | clo k x => exact absurd rfl (nc k x)
  | met kvs =>
    obtain ⟨xs, h1, h2, h3, h4⟩ := r
    refine ⟨xs, h1, h2, h3, pr_mono (fun _ _ z => ?_) h4⟩
    obtain ⟨z1, z2, v, z3, z4⟩ := z
    exact ⟨z1, ⟨z2.1.mono tp, z2.2⟩, v, z3, z4⟩
  | _ => exact r
theorem OR.up {D : Dt} {P : Program} {w : World} {rh : Rh} {H H2 : Hp} {a : Addr} {o : AO} {ho : HO} (up : ∀ b u, H b = some u → H2 b = some u) (r : OR D P w rh H a o ho) : OR D P w rh H2 a o ho := by
  cases o with
  | clo k cap =>
    obtain ⟨cl, c', h1, h3, h4, h5, h6, h7⟩ := r
    refine ⟨cl, c', h1, up _ _ h3, h4, h5, fun y c hc => ?_, fun i y hy => ?_⟩
    · obtain ⟨n, u, q⟩ := h6 y c hc
      exact ⟨n, u, up _ _ q⟩
    · obtain ⟨c, x, v, u, q1, q2, q3, q4, q5⟩ := h7 i y hy
      exact ⟨c, x, v, u, q1, q2, q3, q4, up _ _ q5⟩
  | _ => exact r.part (fun b xs e => up _ _ e) (fun _ _ z => by cases z)
theorem TabR.up {D : Dt} {rh : Rh} {H H2 : Hp} (up : ∀ b u, H b = some u → H2 b = some u) (t : TabR D rh H) : TabR D rh H2 := fun p hp => by
  obtain ⟨h0, ps, h1, h2, h3⟩ := t p hp
  refine ⟨h0, ps, up _ _ h1, h2, fun pos cv hc => ?_⟩
  obtain ⟨c, e1, e3⟩ := h3 pos cv hc
  exact ⟨c, e1, up _ _ e3⟩
section
variable {D : Dt} {P : Program} {w : World} {rh rh' : Rh} {h h2 h3 : Hh} {H Hm H' H2 : Hp}
/-- the call runs over a part of the heap: all closures are set aside -/
theorem Rep.sus (r : Rep D P w rh h H) (in_ : ∀ b, b ∈ rh → Hm b = H b) (tp : ∀ b xs, H b = some (.tup xs) → Hm b = some (.tup xs)) (tb : TabR D rh Hm) : Rep D P w rh (susL h.cs ⟨h.n, h.t, []⟩) Hm := by
  have clo : ∀ i w x, h.get i = some (.clo w x) → (susL h.cs ⟨h.n, h.t, []⟩).get i = some .sus := fun i w x e => susL_clo h.cs ⟨h.n, h.t, []⟩ i w x e (r.cs i w x e)
  have keep : ∀ i, (∀ w x, h.get i ≠ some (.clo w x)) → (susL h.cs ⟨h.n, h.t, []⟩).get i = h.get i := fun i nc => susL_keep h.cs ⟨h.n, h.t, []⟩ i nc
  have z := susL_n h.cs ⟨h.n, h.t, []⟩
  refine ⟨z.1.trans r.len, r.nd, fun i o e => ?_, fun a ha => by rw [in_ a ha]; exact r.live a ha, tb, fun i k x e => ?_⟩
  · by_cases c : ∃ k x, h.get i = some (.clo k x)
    · obtain ⟨k, x, c⟩ := c
      rw [clo i k x c] at e
      cases e
      obtain ⟨a, ho, h1, h2, cl, c', h3, _⟩ := r.at_ i _ c
      exact ⟨a, ho, h1, by rw [in_ a (mem_of_ix h1)]; exact h2, _, h3⟩
    · rw [keep i fun k x q => c ⟨k, x, q⟩] at e
      obtain ⟨a, ho, h1, h2, h3⟩ := r.at_ i o e
      exact ⟨a, ho, h1, by rw [in_ a (mem_of_ix h1)]; exact h2, h3.part tp fun k x q => c ⟨k, x, by rw [e, q]⟩⟩
  · by_cases c : ∃ k x, h.get i = some (.clo k x)
    · obtain ⟨k2, x2, c⟩ := c
      rw [clo i k2 x2 c] at e
      cases e
    · rw [keep i fun k x q => c ⟨k, x, q⟩] at e
      exact absurd ⟨k, x, e⟩ c
/-- after the call: the heap is whole again, the closures are put back -/
theorem Rep.back (r : Rep D P w rh h H) (r2 : Rep D P w rh' h2 H') (up : ∀ b u, H' b = some u → H2 b = some u) (E : Ext rh H rh' H2) (e : backL h h.cs h2 = some h3) : Rep D P w rh' h3 H2 := by
  obtain ⟨a1, a2, a3⟩ := backL_ok h.cs e
  refine ⟨a1.trans r2.len, r2.nd, fun i o q => ?_, fun a ha => ?_, r2.tabs.up up, fun i k x q => ?_⟩
  · rcases a3 i with ⟨b1, b2⟩ | ⟨b1, k, x, b2, b3⟩
    · rw [b1] at q
      obtain ⟨a, ho, h1, h2, h3⟩ := r2.at_ i o q
      exact ⟨a, ho, h1, up _ _ h2, h3.up up⟩
    · rw [b3] at q
      cases q
      obtain ⟨a, ho, h1, h2, h3⟩ := r.at_ i _ b2
      obtain ⟨more, em⟩ := E.pre
      refine ⟨a, ho, by rw [em, List.getElem?_append_left (List.getElem?_eq_some_iff.mp h1).1]; exact h1, ?_, h3.mono E⟩
      obtain ⟨cl, c', h4, _⟩ := h3
      subst h4
      exact E.fns _ _ h2
  · cases z : H' a with
    | none => exact absurd z (r2.live a ha)
    | some u => rw [up _ _ z]; simp
  · rcases a3 i with ⟨b1, b2⟩ | ⟨b1, _⟩
    · rw [b1] at q
      exact a2 i (r2.cs i k x q)
    · exact b1
end
end Ck
-- SV
set_option Elab.async false
set_option linter.all false
set_option maxRecDepth 100000
set_option maxHeartbeats 4000000
set_option autoImplicit false
/-! SV: the heap less some cells, and whole again. -/
namespace Ck
open PySem PySem.Spec PyProof.Rows L2
def less (C : List Addr) (H : Hp) : Hp := fun b => if b ∈ C then none else H b
def whole (C : List Addr) (H H' : Hp) : Hp := fun b => if b ∈ C then H b else H' b
section
variable {P : Program} {w : World} {C : List Addr} {H H' Hm : Hp} {h h' : Heap}
theorem less_in {b : Addr} (z : b ∈ C) : less C H b = none := if_pos z
theorem less_out {b : Addr} (z : b ∉ C) : less C H b = H b := if_neg z
theorem whole_in {b : Addr} (z : b ∈ C) : whole C H H' b = H b := if_pos z
theorem whole_out {b : Addr} (z : b ∉ C) : whole C H H' b = H' b := if_neg z
theorem objOk_move {a : Addr} : ∀ {o : HO}, (∀ b xs, H b = some (.tup xs) → Hm b = some (.tup xs)) → (∀ b c, H b = some (.own c) → Hm b = some (.own c)) → ObjOk P w H h a o → ObjOk P w Hm h a o
  | .ins _ _ _, _, f2, x => ⟨f2 _ _ x.1, x.2⟩
  | .frz _ _, f1, f2, x => ⟨x.1, objOk_move f1 f2 x.2⟩
  | .dT _, f1, _, ⟨x1, x2, xs, x3, x4⟩ => ⟨x1, x2, xs, pr_mono (fun _ _ z => ⟨z.1, f1 _ _ z.2.1, z.2.2⟩) x3, x4⟩
  | .lst _, _, _, x | .tup _, _, _, x | .dK _, _, _, x | .set _ _, _, _, x | .own _, _, _, x | .xd _, _, _, x | .rng _ _, _, _, x | .tbl _, _, _, x | .met _ _, _, _, x | .ext _, _, _, x => x
/-- only cells are left out -/
abbrev Cells (C : List Addr) (H : Hp) : Prop := ∀ c, c ∈ C → ∃ u, H c = some (cellO c u)
theorem hok_less (k : HOk P w H h) (cl : Cells C H) : HOk P w (less C H) h := fun a o e => by
  have n : a ∉ C := fun z => by rw [less_in z] at e; cases e
  rw [less_out n] at e
  refine objOk_move (fun b xs z => ?_) (fun b c z => ?_) (k a o e)
  all_goals
    rw [less_out fun y => ?_]
    · exact z
    · obtain ⟨u, q⟩ := cl _ y
      rw [q] at z
      cases z
theorem cell_there (k : HOk P w H h) (cl : Cells C H) {c : Addr} (z : c ∈ C) : ∃ o, h.get? c = some o := by
  obtain ⟨u, e⟩ := cl c z
  exact (k c _ e).2.1
/-- the call leaves the cells alone -/
theorem out_of {fs : List Addr} (k : HOk P w H h) (cl : Cells C H) (U : Un fs [] (less C H) H' h h') {b : Addr} {o : HO} (e : H' b = some o) : b ∉ C := fun z => by
  obtain ⟨o2, y⟩ := cell_there k cl z
  rw [U.free b o2 y (less_in z) (by simp)] at e
  cases e
theorem hok_whole {fs : List Addr} (k : HOk P w H h) (cl : Cells C H) (U : Un fs [] (less C H) H' h h') (nf : ∀ c, c ∈ C → c ∉ fs) (k2 : HOk P w H' h') : HOk P w (whole C H H') h' := fun a o e => by
  by_cases z : a ∈ C
  · rw [whole_in z] at e
    obtain ⟨u, q⟩ := cl a z
    rw [q] at e
    cases e
    obtain ⟨x1, ⟨o, x2⟩, x3⟩ := k a _ q
    have y := U.keep a o x2 (less_in z) (nf a z) (by simp)
    exact ⟨x3 h h' x1 fun o2 y2 => by rw [x2] at y2; cases y2; exact y, ⟨o, y⟩, x3⟩
  · rw [whole_out z] at e
    exact objOk_move (fun b xs q => by rw [whole_out (out_of k cl U q)]; exact q) (fun b c q => by rw [whole_out (out_of k cl U q)]; exact q) (k2 a o e)
theorem un_whole {fs : List Addr} (k : HOk P w H h) (cl : Cells C H) (U : Un fs [] (less C H) H' h h') : Un fs [] H (whole C H H') h h' := by
  have out : ∀ {b o}, H b = some o → (∀ u, o ≠ cellO b u) → b ∉ C := fun {b o} e n z => by
    obtain ⟨u, q⟩ := cl b z
    rw [e] at q
    exact n u (Option.some.inj q)
  have nin : ∀ {b}, H b = none → b ∉ C := fun {b} e z => by
    obtain ⟨u, q⟩ := cl b z
    rw [e] at q
    cases q
  refine ⟨fun b o x e => U.keep b o x (by rw [less_out (nin e)]; exact e), fun b o x e => U.slot b o x (by rw [less_out (nin e)]; exact e), fun b o x e y => ?_, U.there, fun b xs e => ?_, fun b o u e => ?_, fun b ps e => ?_⟩
  · rw [whole_out (nin e)]
    exact U.free b o x (by rw [less_out (nin e)]; exact e) y
  · have n := out e (fun u z => by cases z)
    rw [whole_out n]
    exact U.tups b xs (by rw [less_out n]; exact e)
  · have n := out e (fun u z => by cases z)
    rw [whole_out n]
    exact U.frzs b o u (by rw [less_out n]; exact e)
  · have n := out e (fun u z => by cases z)
    obtain ⟨m, q⟩ := U.tbls b ps (by rw [less_out n]; exact e)
    exact ⟨m, by rw [whole_out n]; exact q⟩
end
/-- a code object is no cell -/
theorem codeO_ne {c : Addr} {q : Str} {u : Value} : LamX.CodeO c q ≠ cellO c u := fun e => by
  unfold LamX.CodeO cellO at e
  injection e with e
  let o : Obj := { cls := .type "cell", data := .cell (some u) }
  have z : ({ objs := Array.replicate (c + 1) o } : Heap).get? c = some o := Heap.get?_some_iff.mpr ⟨by simp, rfl⟩
  obtain ⟨oc, vs, t, h1, h2, _⟩ := (congrFun e ({ objs := Array.replicate (c + 1) o } : Heap)).mpr (by
    refine ⟨o, z, ?_⟩
    all_goals first | rfl | exact ⟨rfl, rfl⟩)
  rw [z] at h1
  cases h1
  cases h2
section
variable {D : Dt} {P : Program} {w : World} {C : List Addr} {H H' : Hp} {rh rh' : Rh}
theorem tab_less (cl : Cells C H) (t : TabR D rh H) : TabR D rh (less C H) := fun p hp => by
  have out : ∀ {b o}, H b = some o → (∀ u, o ≠ cellO b u) → b ∉ C := fun {b o} e n z => by
    obtain ⟨u, q⟩ := cl b z
    rw [e] at q
    exact n u (Option.some.inj q)
  obtain ⟨h0, ps, h1, h2, h3⟩ := t p hp
  refine ⟨h0, ps, by rw [less_out (out h1 fun u z => by cases z)]; exact h1, h2, fun pos cv hc => ?_⟩
  obtain ⟨c, e1, e3⟩ := h3 pos cv hc
  exact ⟨c, e1, by rw [less_out (out e3 fun u => codeO_ne)]; exact e3⟩
theorem ext_whole (cl : Cells C H) (apart : ∀ c, c ∈ C → c ∉ rh) (out : ∀ b o, H' b = some o → b ∉ C) (live : ∀ b, b ∈ rh' → H' b ≠ none) (E : Ext rh (less C H) rh' H') : Ext rh H rh' (whole C H H') := by
  have no : ∀ {b o}, H b = some o → (∀ u, o ≠ cellO b u) → b ∉ C := fun {b o} e n z => by
    obtain ⟨u, q⟩ := cl b z
    rw [e] at q
    exact n u (Option.some.inj q)
  refine ⟨E.pre, fun b o n e t => ?_, fun b y n => ?_, fun b xs e => ?_, fun b ps n e => ?_, fun b F e => ?_, fun b F e => ?_⟩
  · by_cases z : b ∈ C
    · rw [whole_in z]; exact e
    · rw [whole_out z]
      exact E.keep b o n (by rw [less_out z]; exact e) t
  · have q := E.new b y n
    cases x : H' b with
    | none => exact absurd x (live b y)
    | some o => rw [less_out (out b o x)] at q; exact q
  · have n := no e (fun u z => by cases z)
    rw [whole_out n]
    exact E.tups b xs (by rw [less_out n]; exact e)
  · have m := no e (fun u z => by cases z)
    rw [whole_out m]
    exact E.tabs b ps n (by rw [less_out m]; exact e)
  · by_cases z : b ∈ C
    · rw [whole_in z]; exact e
    · rw [whole_out z]
      exact E.fns b F (by rw [less_out z]; exact e)
  · by_cases z : b ∈ C
    · rw [whole_in z]; exact e
    · rw [whole_out z]
      exact E.cods b F (by rw [less_out z]; exact e)
end
end Ck
-- SW
set_option Elab.async false
set_option linter.all false
set_option maxRecDepth 100000
set_option maxHeartbeats 4000000
set_option autoImplicit false
/-! SW: a closure that was handed on is called. -/
namespace Ck
open PySem PySem.Spec PyProof.Rows L2 NdefX
section
variable {X : Cx} {i k : Nat} {x : Str} {t : TA} {e : PySem.Expr} {es : List PySem.Expr} {p pos : Pos} {E : XK}
/-- the function at f answers as wanted, from the heap H -/
def Answers (P : Program) (w : World) (K : PySem.W.Frag) (mg : Str → Option Value) (base : Heap) (k : Nat) (f : Addr) (vs : List V) (H : Hp) (Q : VK) (E : XK) : Prop :=
  ∀ (A : Around) (outer : List Env) (s : Shared) (us : List Value), Room k A → Env0 P w K mg base A outer s H → Vals vs us → codeAny (model P w) A (.call (.ref f) ⟨us, []⟩) (CR (L2.CX P w) outer P w H s Q E) s
def tCallV (P : Program) (w : World) (K : PySem.W.Frag) (mg : Str → Option Value) (base : Heap) (k i : Nat) (t : TA) (E : XK) : TE := fun σ H Q => ∃ f F, σ[i]? = some (some (.ref f)) ∧ H f = some (FnO f F) ∧
  t σ H fun vs H1 => H1 f = some (FnO f F) ∧ Answers P w K mg base k f vs H1 Q E
theorem pe_callv (hr : Room k X.A) (hx : Passes (L2.CX X.prog X.w) X E) (hN : X.N[i]? = some x) (hv : Vis X.env.scope x) (ha : PA X (e :: es) t)
    (hd : (x == ("__debug__" : Str)) = false) (hcd : (x == ("__classdict__" : Str)) = false)
    (he : starEach (e :: es) X.env = (false, eval e X.env) :: starEach es X.env) (hpl : (backTo pos (starEach es X.env)).any (·.1) = false) :
    PE X (.Call (.Name x p) (e :: es) [] pos) (tCallV X.prog X.w X.K X.mg X.base k i t E) := by
  refine ⟨fun pins s σ H Q I ⟨f, F, hs, hf, ht⟩ => ?_⟩
  refine wpAny_Call_Name_kw (thn ((pe_var (pos := p) hN hv hd hcd).run pins s σ H (fun v H1 => v = .ref f ∧ H1 = H) I ⟨.ref f, hs, rfl, rfl⟩) fun u s1 ⟨v, H1, I1, r1, q1⟩ => ?_)
  obtain ⟨rfl, rfl⟩ := q1
  obtain rfl : u = Value.ref f := r1
  refine PySem.W.callWith_F (first := []) (fnAt_of I1 hf) (thn (ha.run pos pins s1 σ _ _ I1 ht) fun us s2 ⟨vs, H2, I2, r, h1, q⟩ => ⟨fnAt_of I2 h1, ?_⟩) he hpl
  refine wpAny_call (codeAny_mono (q X.A X.stack s2 us hr I2.env0 r) fun r3 s3 hq => ?_)
  match r3, hq with
  | .error e, hq => exact hx pins σ _ s2 e s3 I2 hq
  | .ok (.ret u), hq => exact I2.after hq
end
section
variable {P : Program} {w : World} {K : PySem.W.Frag} {mg : Str → Option Value} {base : Heap} {k : Nat} {f : Addr} {F : NF} {ps fr : List Str} {sp : List (Option V) → Sp} {C : List Addr} {H : Hp} {vs : List V} {ws : List (Option V)} {Q Q2 : VK} {E : XK}
theorem answers_of (N : NOk P w K mg base (L2.CX P w) k f F ps fr sp) (hf : H f = some (FnO f F)) (hc : H F.c = some (LamX.CodeO F.c F.qual)) (nf : f ∉ C) (cl : Cells C H) (ca : ∀ h, HOk P w H h → CellsAt F.cl fr ws h (less C H))
    (hsp : sp ws vs (less C H) Q2 (fun _ _ _ => False)) (hQ : ∀ v H', Q2 v H' → (∀ b o, H' b = some o → b ∉ C) → Q v (whole C H H')) : Answers P w K mg base k f vs H Q E := fun A outer s us hr e0 r => by
  have none_less : ∀ {b}, H b = none → less C H b = none := fun {b} e => by
    unfold less
    split
    · rfl
    · exact e
  have nc : F.c ∉ C := fun z => by
    obtain ⟨u, q⟩ := cl _ z
    rw [hc] at q
    exact codeO_ne (Option.some.inj q)
  refine codeAny_mono (N.run A outer s (less C H) us vs ws Q2 (fun _ _ _ => False) hr ⟨e0.frames, e0.mod, fun b o e => ⟨(e0.bs b o e).1, none_less (e0.bs b o e).2⟩, e0.bsz, e0.funs, fun b z => none_less (e0.frf b z), hok_less e0.hok cl, e0.bare⟩
    (by rw [less_out nf]; exact hf) (by rw [less_out nc]; exact hc) (ca s.heap e0.hok) r hsp) fun r3 s3 hq => ?_
  match r3, hq with
  | .ok (.ret u), ⟨v, H', q1, q2, q3, q4, q5, q6⟩ =>
    refine ⟨v, whole C H H', q1, q2, un_whole e0.hok cl q3, hok_whole e0.hok cl q3 (fun c z y => ?_) q4, q5, hQ v H' q6 fun b o q => out_of e0.hok cl q3 q⟩
    obtain ⟨u, q⟩ := cl c z
    rw [e0.frf c y] at q
    cases q
  | .error e, hq => exact hq.elim fun _ ⟨_, _, _, _, _, _, _, _, _, _, _, z⟩ => z.elim
end
end Ck
-- SX
set_option Elab.async false
set_option linter.all false
set_option maxRecDepth 100000
set_option maxHeartbeats 4000000
set_option autoImplicit false
/-! SX: the call of a closure by the evaluator. -/
namespace Ck
open PySem PySem.Spec PyProof.Rows L2 NdefX
def spV (T : Nat → FC) (D : Dt) (P : Program) (w : World) (code : FC) (np : Nat) : List (Option V) → Sp := fun ws vs H Q E => vs.length = np ∧ ∃ n rh h avs cap vcap, VRs D rh avs vs ∧ VRs D rh cap vcap ∧ ws = vcap.map some ∧ Rep D P w rh h H ∧ QE D P w ((ev T n).f code (catL avs cap) h) rh H Q E
/-- the closures' functions as they are called -/
structure CloC (T : Nat → FC) (D : Dt) (P : Program) (w : World) (K : PySem.W.Frag) (mg : Str → Option Value) (base : Heap) (k : Nat) : Prop where
  ok : ∀ kk f cl c', ∃ ps, NOk P w K mg base (L2.CX P w) k f (D.nf kk cl c') ps (D.fr kk) (spV T D P w (T kk) 1)
  nf : ∀ kk cl c', (D.nf kk cl c').cl = cl ∧ (D.nf kk cl c').c = c'
theorem pr_ex {D : Dt} {rh : Rh} : ∀ {xs : List AV}, (∀ (i : Nat) x, xs[i]? = some x → ∃ v, VR D rh x v) → ∃ vs, VRs D rh xs vs
  | [], _ => ⟨[], .nil⟩
  | x :: xs, h => by
    obtain ⟨v, hv⟩ := h 0 x rfl
    obtain ⟨vs, hvs⟩ := pr_ex (xs := xs) fun i y e => h (i + 1) y (by simpa using e)
    exact ⟨v :: vs, .cons hv hvs⟩
/-- the cells of a closure -/
def cloCells (cl : List (Str × Addr)) : List Addr := cl.filterMap fun p => cl.lookup p.1
theorem mem_cloCells {cl : List (Str × Addr)} {c : Addr} : c ∈ cloCells cl ↔ ∃ y, cl.lookup y = some c := by
  unfold cloCells
  rw [List.mem_filterMap]
  exact ⟨fun ⟨p, _, h⟩ => ⟨p.1, h⟩, fun ⟨y, h⟩ => ⟨(y, c), PySem.mem_of_lookup h, h⟩⟩
theorem cell_ok {P : Program} {w : World} {H : Hp} {h : Heap} {c : Addr} {u : Value} (hok : HOk P w H h) (e : H c = some (cellO c u)) : h.IsCell c (some u) := (hok c _ e).1
section
variable {T : Nat → FC} {D : Dt} {X : Cx} {E : XK} {k : Nat}
theorem se_callv {j i : Nat} {x : Str} {p pos : Pos} {a : IE} {e : PySem.Expr} {es : List PySem.Expr} (cx : CxE X E k) (C : CloC T D X.prog X.w X.K X.mg X.base j) (hj : j ≤ k) (hN : X.N[i]? = some x) (hv : Vis X.env.scope x) (ha : SL T D X E [a] (e :: es))
    (hd : (x == ("__debug__" : Str)) = false) (hcd : (x == ("__classdict__" : Str)) = false) (he : starEach (e :: es) X.env = (false, eval e X.env) :: starEach es X.env) (hpl : (backTo pos (starEach es X.env)).any (·.1) = false) : SE T D X E (.callv i [a]) (.Call (.Name x p) (e :: es) [] pos) := by
  intro n s h σ H rh Q sr rp q
  cases n with
  | zero => exact q.elim
  | succ n =>
    have q : QE D X.prog X.w (eCallv T (ev T n) i [a] s h) rh H Q E := q
    unfold eCallv at q
    rw [nth_eq] at q
    split at q
    · rename_i jj ej
      split at q
      · rename_i w0 cap0 eo
        obtain ⟨v, hσ, vr⟩ := sr.at_ i _ ej
        obtain ⟨f, ho, rfl, hf, hHf, cl0, c0, hho, _⟩ := rp.obj eo vr
        subst hho
        refine of_PE (pe_callv (k := j) (cx.room.mono hj) cx.ps hN hv pA hd hcd he hpl) ⟨f, _, hσ, hHf, manyN ha sr rp q fun vs H1 rh1 h1 us l e1 r1 vs1 q1 => ⟨e1.fns _ _ hHf, ?_⟩⟩
        split at q1
        · rename_i w1 cap eo1
          obtain ⟨f', ho1, hf1, hHf1, cl, c', hho1, hc2, h4, h5, h6, h7⟩ := r1.at_ jj _ eo1
          have : f' = f := by
            have z := ix_more hf e1.pre
            rw [hf1] at z
            exact Option.some.inj z
          subst this
          subst hho1
          obtain ⟨ncl, nc⟩ := C.nf w1 cl c'
          have mC : ∀ {c}, c ∈ cloCells cl → c ∉ rh1 ∧ ∃ u, H1 c = some (cellO c u) := fun z => by
            obtain ⟨y, hy⟩ := mem_cloCells.mp z
            exact h6 y _ hy
          have clC : Cells (cloCells cl) H1 := fun c z => (mC z).2
          have notC : ∀ {b o}, H1 b = some o → (∀ u, o ≠ cellO b u) → b ∉ cloCells cl := fun {b o} e0 n0 z => by
            obtain ⟨u, y⟩ := clC b z
            rw [e0] at y
            exact n0 u (Option.some.inj y)
          obtain ⟨vcap, hvcap⟩ := pr_ex (D := D) (rh := rh1) (xs := cap) fun i0 x0 ex0 => by
            obtain ⟨y, hy⟩ : ∃ y, (D.fr w1)[i0]? = some y := by
              have := (List.getElem?_eq_some_iff.mp ex0).1
              exact ⟨_, List.getElem?_eq_getElem (by rw [← h4]; exact this)⟩
            obtain ⟨c, x1, v1, u1, _, g2, g3, _⟩ := h7 i0 y hy
            rw [ex0] at g2
            cases g2
            exact ⟨v1, g3⟩
          obtain ⟨ps, N⟩ := C.ok w1 f' cl c'
          have rs := r1.sus (Hm := less (cloCells cl) H1) (fun b hb => less_out fun z => (mC z).1 hb) (fun b xs e0 => by rw [less_out (notC e0 fun u z => by cases z)]; exact e0) (tab_less clC r1.tabs)
          cases er : (ev T n).f (T w1) (catL us cap) (susL h1.cs ⟨h1.n, h1.t, []⟩) with
          | ok av h2 =>
            rw [er] at q1
            dsimp only at q1
            cases eb : backL h1 h1.cs h2 with
            | none => rw [eb] at q1; exact q1.elim
            | some h3 =>
              rw [eb] at q1
              refine answers_of (C := cloCells cl) (ws := vcap.map some) (Q2 := fun v H' => ∃ rh', Ext rh1 (less (cloCells cl) H1) rh' H' ∧ Rep D X.prog X.w rh' h2 H' ∧ VR D rh' av v) N hHf1 (by rw [nc]; exact hc2) (fun z => (mC z).1 (mem_of_ix hf1)) clC (fun hh hok => ?_) ?_ ?_
              · rw [ncl]
                refine ⟨by rw [List.length_map, ← pr_length hvcap]; exact h4, fun y c hc => ?_, h5, fun i0 y hy => ?_⟩
                · obtain ⟨_, u, z⟩ := h6 y c hc
                  exact ⟨less_in (mem_cloCells.mpr ⟨y, hc⟩), some u, cell_ok hok z⟩
                · obtain ⟨c, x1, v1, u1, g1, g2, g3, g4, g5⟩ := h7 i0 y hy
                  refine ⟨c, g1, fun v2 ev2 => ⟨u1, ?_, cell_ok hok g5⟩⟩
                  obtain ⟨v3, z1, z2⟩ := pr_get hvcap g2
                  rw [List.getElem?_map, z1] at ev2
                  cases ev2
                  rw [VR.inj z2 g3]
                  exact g4
              · refine ⟨by rw [← pr_length vs1]; exact l, n, rh1, _, us, cap, vcap, vs1, hvcap, rfl, rs, ?_⟩
                rw [er]
                exact fun rh' H' y e2 r2 vy => ⟨rh', e2, r2, vy⟩
              · rintro v H' ⟨rh', e2, r2, vy⟩ out
                have up : ∀ b u, H' b = some u → whole (cloCells cl) H1 H' b = some u := fun b u z => by rw [whole_out (out b u z)]; exact z
                have E2 := ext_whole clC (fun c z => (mC z).1) out r2.live e2
                exact q1 rh' _ v E2 (r1.back r2 up E2 eb) vy
          | exc C0 h2 => rw [er] at q1; exact q1.elim
          | no => rw [er] at q1; exact q1.elim
        · exact q1.elim
      · exact q.elim
    · exact q.elim
end
end Ck
-- SY
set_option Elab.async false
set_option linter.all false
set_option maxRecDepth 100000
set_option maxHeartbeats 4000000
set_option autoImplicit false
/-! SY: a closure's body where its one parameter is a cell; the end of a def that makes a closure. -/
namespace Ck
open PySem PySem.Spec PyProof.Rows L2 NdefX
/-! ### a frame with one cell of its own -/
section
variable {M : Model} {A : Around} {E : Value → Shared → Prop} {s : Shared}
theorem env_one {scope : Scope} {globals : Addr} {clo : List (Str × Addr)} {x : Str} {v : Value} {qual : Str} {func : Option Addr} {code : Value} {bt : Addr} {Q : Env → Shared → Prop} (hk : scope.kind = .function) (hx : scope.names.lookup x = some .cell)
    (h1 : ∀ n acc, cellsFrom n scope.names acc = (x, n) :: acc) (h2 : ∀ h : Heap, pushCells h scope.names = h.push { cls := .type "cell", data := .cell none })
    (hQ : ∀ g : Heap, g.Ns s.heap.objs.size (fun _ => none) → g.IsCell (s.heap.objs.size + 1) (some v) → (∀ b o, s.heap.get? b = some o → g.get? b = some o) → Q (newEnv scope s.heap.objs.size globals ((x, s.heap.objs.size + 1) :: clo) qual func code none bt) { s with heap := g }) :
    wpAny M A (newFunctionEnv scope globals clo [(x, v)] qual func code none bt) Q E s := by
  simp only [newFunctionEnv, Option.isSome_none, Bool.false_eq_true, if_false]
  refine wpAny_bind (wpAny_alloc (wpAny_bind ?_))
  refine wpAny_layCells _ (fun name kind cells => by cases hkc : kind == NameKind.cell <;> simp [hkc]) scope.names clo _ _ ?_
  have sz : (s.heap.push { cls := .type "frame", data := .dict #[] }).objs.size = s.heap.objs.size + 1 := Heap.size_push ..
  rw [h1, h2, sz]
  generalize hp : (s.heap.push { cls := .type "frame", data := .dict #[] } : Heap) = p at sz
  have kp : ∀ b o, s.heap.get? b = some o → p.get? b = some o := fun b o e => by rw [← hp]; exact Heap.get?_push_of_some _ e
  have nsp : p.Ns s.heap.objs.size (fun _ => none) := by rw [← hp]; exact Heap.Ns.new ..
  have c0 : (p.push { cls := .type "cell", data := .cell none }).IsCell (s.heap.objs.size + 1) none := by
    rw [← sz]
    exact ⟨_, Heap.get?_push_size _ rfl, rfl⟩
  have kq : ∀ b o, p.get? b = some o → (p.push { cls := .type "cell", data := .cell none }).get? b = some o := fun b o e => Heap.get?_push_of_some _ e
  have nsq := nsp.keeps kq
  rw [List.forIn_cons]
  refine wpAny_bind (wpAny_bind (wpAny_bind (wpAny_storeName_cell (c := s.heap.objs.size + 1) hk hx (by simp [newEnv]) c0 fun g hc hs => wpAny_pure ?_)))
  dsimp only
  rw [List.forIn_nil]
  refine wpAny_pure (wpAny_pure (hQ g (nsq.sameBut hs (Nat.ne_of_lt (Nat.lt_succ_self _))) hc fun b o e => ?_))
  have lt := Heap.lt_size e
  exact (hs.2 b (Nat.ne_of_lt (Nat.lt_succ_of_lt lt))).trans (kq b o (kp b o e))
end
/-- the names of such a body -/
structure CScope (N fr : List Str) (x : Str) (sc : Scope) : Prop where
  kind : sc.kind = .function
  co : sc.isCoroutine = false
  gen : sc.isGenerator = false
  nd : N.Nodup
  pre : N.take (1 + fr.length) = x :: fr
  par : sc.names.lookup x = some .cell
  one : ∀ n acc, cellsFrom n sc.names acc = (x, n) :: acc
  onep : ∀ h : Heap, pushCells h sc.names = h.push { cls := .type "cell", data := .cell none }
  cell : ∀ y ∈ sc.names, y.2 = .cell → y.1 = x
  free : ∀ y ∈ sc.names, y.2 = .free → y.1 ∈ fr
  frk : ∀ y ∈ fr, sc.names.lookup y = some .free
def cellAt (F : NF) (x : Str) (L : Addr) : NF := { F with cl := (x, L + 1) :: F.cl }
section
variable {P : Program} {w : World} {K : PySem.W.Frag} {mg : Str → Option Value} {base : Heap} {N fr : List Str} {x : Str} {F : NF} {f : Addr} {k : Nat} {sp : List (Option V) → Sp}
theorem lk_cons {x y : Str} {a : Addr} {l : List (Str × Addr)} : ((x, a) :: l).lookup y = if y = x then some a else l.lookup y := by
  rw [List.lookup_cons]
  by_cases z : y = x
  · rw [if_pos z, z, beq_self_eq_true]
  · rw [if_neg z, beq_eq_false_iff_ne.mpr z]
theorem inv_startC {CX : CXT} {A : Around} {outer : List Env} {s : Shared} {H : Hp} {E : XK} {u : Value} {v : V} {ws : List (Option V)} {g : Heap} (S : CScope N fr x F.scope) (hd : A.handled = none) (e0 : Env0 P w K mg base A outer s H) (r : RelV v u) (C : CellsAt F.cl fr ws s.heap H)
    (hns : g.Ns s.heap.objs.size fun _ => none) (hc : g.IsCell (s.heap.objs.size + 1) (some u)) (kp : ∀ b o, s.heap.get? b = some o → g.get? b = some o) :
    Inv (ncx CX P w K mg base N (cellAt F x s.heap.objs.size) f A outer s H E) [] (startF N [v] ws) H { s with heap := g } := by
  have hl : 1 + fr.length ≤ N.length := by
    have q := congrArg List.length S.pre
    rw [List.length_take, List.length_cons] at q
    omega
  have clen := C.len
  have old : ∀ {y c}, F.cl.lookup y = some c → c < s.heap.objs.size := fun {y c} e => by
    obtain ⟨_, v, o, ho, _⟩ := C.all y c e
    exact Heap.lt_size ho
  have xfr : x ∉ fr := fun z => by
    have := S.frk x z
    rw [S.par] at this
    cases this
  have ck : ∀ {c : Addr} {z : Option Value}, s.heap.IsCell c z → g.IsCell c z := fun {c z} ⟨o, ho, hd⟩ => ⟨o, kp _ _ ho, hd⟩
  have nox : ∀ b : Addr, b ∉ (ncx CX P w K mg base N (cellAt F x s.heap.objs.size) f A outer s H E).ex := fun b z => absurd (show b ∈ ([] : List Addr) from z) (by simp)
  have ok : (ncx CX P w K mg base N (cellAt F x s.heap.objs.size) f A outer s H E).Ok := by
    refine ⟨e0.mod, S.kind, rfl, rfl, Nat.le_refl _, fun y z c e1 e2 => ?_, fun y hy => ?_, fun y c z _ => (by cases (show false = true from z)), fun _ => hd, Around.frames_deeper e0.frames, .inr ⟨rfl, rfl⟩, fun b z => absurd z (nox b), e0.bs, e0.bsz, fun b _ _ => nox b, fun b z => absurd z (nox b), e0.funs, e0.frf⟩
    · have e1 : ((x, s.heap.objs.size + 1) :: F.cl).lookup y = some c := e1
      have e2 : ((x, s.heap.objs.size + 1) :: F.cl).lookup z = some c := e2
      rw [lk_cons] at e1 e2
      by_cases q1 : y = x <;> by_cases q2 : z = x
      · rw [q1, q2]
      · rw [if_pos q1] at e1; rw [if_neg q2] at e2
        cases e1
        exact absurd (old e2) (Nat.not_lt_of_le (Nat.le_succ _))
      · rw [if_neg q1] at e1; rw [if_pos q2] at e2
        cases e2
        exact absurd (old e1) (Nat.not_lt_of_le (Nat.le_succ _))
      · rw [if_neg q1] at e1; rw [if_neg q2] at e2
        exact C.inj y z c e1 e2
    · have hy : F.scope.names.lookup y = some .cell ∨ F.scope.names.lookup y = some .free := hy
      show ∃ c, ((x, s.heap.objs.size + 1) :: F.cl).lookup y = some c
      rw [lk_cons]
      by_cases q : y = x
      · exact ⟨_, if_pos q⟩
      · rw [if_neg q]
        rcases hy with hy | hy
        · exact absurd (S.cell _ (PySem.mem_of_lookup hy) rfl) q
        · obtain ⟨i, hi⟩ := List.mem_iff_getElem?.mp (S.free _ (PySem.mem_of_lookup hy) rfl)
          obtain ⟨c, z, _⟩ := C.has i y hi
          exact ⟨c, z⟩
  refine ⟨ok, rfl, e0.bare, Un.kept kp, ⟨_, hns, fun i y z e1 e2 e3 => ?_⟩, fun y c e => ?_, e0.hok.fresh (Nat.le_refl _), fun y c e => ?_, fun q hq => absurd (show q ∈ ([] : List (Addr × Obj)) ++ [] from hq) (by simp), e0.hok.kept kp, ?_⟩
  · have e1 : N[i]? = some y := e1
    have e2 : (some v :: (ws ++ List.replicate (N.length - 1 - ws.length) none))[i]? = some (some z) := e2
    show ∃ u', RelV z u' ∧ Look (envF (cellAt F x s.heap.objs.size) f s.heap.objs.size) g (fun _ => none) y u'
    cases i with
    | zero =>
      have ey : y = x := by
        have q := congrArg (fun l : List Str => l[0]?) S.pre
        rw [List.getElem?_take_of_lt (by omega), e1] at q
        exact Option.some.inj q
      cases e2
      exact ⟨u, r, .inr ⟨.inl (by rw [ey]; exact S.par), s.heap.objs.size + 1, (by rw [ey]; exact lk_cons.trans (if_pos rfl)), hc⟩⟩
    | succ i =>
      have e2 : (ws ++ List.replicate (N.length - 1 - ws.length) none)[i]? = some (some z) := by simpa using e2
      by_cases h2 : i < fr.length
      · have hq : fr[i]? = some y := by
          have q := congrArg (fun l : List Str => l[i + 1]?) S.pre
          rw [List.getElem?_take_of_lt (by omega), e1] at q
          simpa using q.symm
        rw [List.getElem?_append_left (by omega)] at e2
        obtain ⟨c, h3, h4⟩ := C.has i y hq
        obtain ⟨u', ru, hu⟩ := h4 z e2
        refine ⟨u', ru, .inr ⟨.inr (S.frk y (List.mem_of_getElem? hq)), c, lk_cons.trans ((if_neg fun z => xfr (by rw [← z]; exact List.mem_of_getElem? hq)).trans h3), ck hu⟩⟩
      · rw [List.getElem?_append_right (by omega), List.getElem?_replicate] at e2
        split at e2 <;> cases e2
  · have e : ((x, s.heap.objs.size + 1) :: F.cl).lookup y = some c := e
    rw [lk_cons] at e
    by_cases q : y = x
    · rw [if_pos q] at e
      cases e
      exact ⟨_, hc⟩
    · rw [if_neg q] at e
      obtain ⟨z, hz⟩ := (C.all y c e).2
      exact ⟨z, ck hz⟩
  · have e : ((x, s.heap.objs.size + 1) :: F.cl).lookup y = some c := e
    rw [lk_cons] at e
    by_cases q : y = x
    · rw [if_pos q] at e
      cases e
      exact e0.hok.fresh (Nat.le_succ _)
    · rw [if_neg q] at e
      exact (C.all y c e).1
  · unfold startF
    show _ = N.length
    rw [List.length_append, List.length_append, List.length_map, List.length_replicate, List.length_singleton]
    omega
/-- the promise of a closure whose one parameter is a cell, by its body -/
theorem nok_cell (S : CScope N fr x F.scope) (hb : ∀ (doc pm ctv u : Value), bindArgs (F.fd doc pm ctv) ⟨[u], []⟩ = pure [(x, u)]) (len : ∀ ws vs H Q E, sp ws vs H Q E → vs.length = 1)
    (body : ∀ (A : Around) (outer : List Env) (s : Shared) (H : Hp) (v : V) (ws : List (Option V)) (Q : VK) (E : XK), Room k (A.deeper (envF (cellAt F x s.heap.objs.size) f s.heap.objs.size)) → ws.length = fr.length → sp ws [v] H Q E →
      wSs (ncx (L2.CX P w) P w K mg base N (cellAt F x s.heap.objs.size) f A outer s H E) F.body { nx := fun _ H' => Q .non H', rt := Q } (startF N [v] ws) H) : NOk P w K mg base (L2.CX P w) (k + 1) f F [x] fr sp := by
  refine ⟨len, fun A outer s H us vs ws Q E hr e0 hf hc C r hsp => ?_⟩
  have l1 := len _ _ _ _ _ hsp
  match vs, us, r, l1 with
  | [v], [u], .cons rv .nil, _ =>
    have lim0 : s.heap.NoLimit := e0.mod.nolimit.keeps (fun b o e => (e0.bs b o e).1)
    obtain ⟨od, sl, doc, pm, ctv, ho⟩ := fnO_at e0.hok hf
    refine codeAny_call_function hr.depth ho rfl S.co S.gen rfl (codeO_at e0.hok hc) ?_
    rw [hb doc pm ctv u]
    refine wpAny_pure (env_one S.kind S.par S.one S.onep fun g hns hcell kp => ⟨lim0.keeps kp, ?_⟩)
    show codeAny _ _ (.func F.body (envF (cellAt F x s.heap.objs.size) f s.heap.objs.size)) _ _
    refine codeAny_func ?_
    have I := inv_startC (CX := L2.CX P w) (f := f) (E := E) S hr.hd e0 rv C hns hcell kp
    refine wpAny_mono (body A outer s H v ws Q E (hr.deeper _) C.len hsp [] _ I) (fun fl s1 hs => ?_) fun e s1 hs => hs
    cases fl with
    | ret y =>
      obtain ⟨z, σ1, H1, J, rz, q⟩ := hs
      exact (⟨z, H1, J.os, J.bare, J.base, J.hok, rz, q⟩ : CE outer P w H s Q y s1)
    | next =>
      obtain ⟨σ1, H1, J, q⟩ := hs
      exact (⟨.non, H1, J.os, J.bare, J.base, J.hok, rfl, q⟩ : CE outer P w H s Q .none s1)
    | brk =>
      obtain ⟨_, _, _, q⟩ := hs
      exact q.elim
    | cont =>
      obtain ⟨_, _, _, q⟩ := hs
      exact q.elim
end
theorem startF_eq {N : List Str} {vs vc : List V} : startF N vs (vc.map some) = L2.start N (vs ++ vc) := by
  unfold startF L2.start
  rw [List.map_append, List.append_assoc, List.length_append, List.length_map, Nat.sub_sub]
/-- a closure's body by its code -/
theorem spV_go {T : Nat → FC} {D : Dt} {X : Cx} {E : XK} {code : List IS} {nn : Nat} {body : List Stmt} {vs : List V} {ws : List (Option V)} {H : Hp} {Q : VK} {m : Nat} (hN : X.N.length = nn) (hm : 1 + m ≤ nn) (hw : ws.length = m) (hs : spV T D X.prog X.w (.mk nn code) 1 ws vs H Q E) (hb : SSs T D X E code body) :
    wSs X body { nx := fun _ H' => Q .non H', rt := Q } (startF X.N vs ws) H := by
  obtain ⟨hl, n, rh, h, avs, cap, vcap, r1, r2, rfl, rp, q⟩ := hs
  cases n with
  | zero => exact q.elim
  | succ n =>
    have q : QE D X.prog X.w (bF ((ev T n).ss code (pad nn (catL avs cap)) h)) rh H Q E := q
    rw [startF_eq]
    have r3 : VRs D rh (catL avs cap) (vs ++ vcap) := by rw [catL_eq]; exact pr_append r1 r2
    rw [List.length_map] at hw
    have sr : SR D rh (pad nn (catL avs cap)) (L2.start X.N (vs ++ vcap)) := by
      rw [← hN]
      exact SR.start r3 (by rw [pr_length r3, List.length_append]; omega)
    refine hb n _ h _ H rh _ sr rp ?_
    cases e : (ev T n).ss code (pad nn (catL avs cap)) h with
    | nx s2 h2 => rw [e] at q; exact fun rh' H' σ' e2 rp2 sr2 => q rh' H' .non e2 rp2 rfl
    | ret v h2 => rw [e] at q; exact q
    | exc C h2 => rw [e] at q; exact q
    | no => rw [e] at q; exact q
theorem cxT_ncx {P : Program} {w : World} {K : PySem.W.Frag} {mg : Str → Option Value} {base : Heap} {N : List Str} {F : NF} {f : Addr} {A : Around} {outer : List Env} {s : Shared} {H : Hp} {E : XK} {k : Nat} (nd : N.Nodup) (hr : Room k (A.deeper (envF F f s.heap.objs.size))) : CxT (ncx (L2.CX P w) P w K mg base N F f A outer s H E) E k where
  tk := takes_of rfl rfl rfl rfl
  hp := passes_of rfl
  calm := rfl
  nd := nd
  room := hr
/-! ### the end of a def that makes a closure -/
theorem clo_end {D : Dt} {X : Cx} {σ : L2.St} {H1 : Hp} {s1 : Shared} {rh : Rh} {h : Hh} {cl : List (Str × Addr)} {f c' : Addr} {w : Nat} {cap : List AV} (I : Inv X [] σ H1 s1) (hex : X.ex = []) (hca : ∀ y c, X.env.cells.lookup y = some c → X.s_0.heap.objs.size ≤ c) (k0 : HOk X.prog X.w X.H_0 X.s_0.heap) (rp : Rep D X.prog X.w rh h X.H_0)
    (hsub : ∀ y c, cl.lookup y = some c → X.env.cells.lookup y = some c ∧ y ∈ D.fr w) (hE : LamX.ExtN X.H_0 H1) (hT : TabsN D.T H1) (f0 : X.H_0 f = none) (f1 : H1 f = some (FnO f (D.nf w cl c'))) (c1 : H1 c' = some (LamX.CodeO c' (D.nf w cl c').qual)) (hl : cap.length = (D.fr w).length)
    (hc : ∀ (i : Nat) (y : Str), (D.fr w)[i]? = some y → ∃ c x v u, cl.lookup y = some c ∧ cap[i]? = some x ∧ VR D rh x v ∧ RelV v u ∧ s1.heap.IsCell c (some u)) :
    ∃ H2, Un X.fs [] X.H_0 H2 X.s_0.heap s1.heap ∧ HOk X.prog X.w H2 s1.heap ∧ Ext rh X.H_0 (rh ++ [f]) H2 ∧ Rep D X.prog X.w (rh ++ [f]) (h.new (.clo w cap)) H2 := by
  -- the cells, what they hold
  have held : ∀ {c}, c ∈ cloCells cl → ∃ u, s1.heap.IsCell c (some u) ∧ X.s_0.heap.objs.size ≤ c ∧ H1 c = none := fun {c} z => by
    obtain ⟨y, hy⟩ := mem_cloCells.mp z
    obtain ⟨g1, g2⟩ := hsub y c hy
    obtain ⟨i, hi⟩ := List.mem_iff_getElem?.mp g2
    obtain ⟨c2, x, v, u, q1, _, _, _, q5⟩ := hc i y hi
    rw [hy] at q1
    cases q1
    exact ⟨u, q5, hca y c g1, I.freeC y c g1⟩
  let val : Addr → Value := fun c => match s1.heap.get? c with
    | some o => (match o.data with
      | .cell (some u) => u
      | _ => .none)
    | none => .none
  have val_eq : ∀ {c u}, s1.heap.IsCell c (some u) → val c = u := fun {c u} ⟨o, e1, e2⟩ => by
    show (match s1.heap.get? c with | some o => (match o.data with | .cell (some u) => u | _ => Value.none) | none => .none) = u
    rw [e1]
    dsimp only
    rw [e2]
  let H2 : Hp := fun b => if b ∈ cloCells cl then some (cellO b (val b)) else H1 b
  have in2 : ∀ {b}, b ∈ cloCells cl → H2 b = some (cellO b (val b)) := fun z => if_pos z
  have out2 : ∀ {b}, b ∉ cloCells cl → H2 b = H1 b := fun z => if_neg z
  have some1 : ∀ {b o}, H1 b = some o → H2 b = some o := fun {b o} e => by
    rw [out2 fun z => ?_]
    · exact e
    · obtain ⟨_, _, _, q⟩ := held z
      rw [e] at q
      cases q
  have lo : ∀ {b o}, X.H_0 b = some o → b < X.s_0.heap.objs.size := fun e => k0.lt e
  have up : ∀ {b o}, X.H_0 b = some o → (∀ ps, o ≠ .tbl ps) → H2 b = some o := fun {b o} e t => some1 (hE b o e t)
  have un : Un X.fs [] X.H_0 H1 X.s_0.heap s1.heap := by
    have := I.base
    rw [hex] at this
    exact this
  have tb : ∀ {b ps}, X.H_0 b = some (.tbl ps) → ∃ qs, H2 b = some (.tbl qs) := fun {b ps} e => by
    obtain ⟨m, q⟩ := un.tbls b ps e
    exact ⟨_, some1 q⟩
  have nf : f ∉ rh := fun z => rp.live f z f0
  have E2 : Ext rh X.H_0 (rh ++ [f]) H2 := ⟨⟨[f], rfl⟩, fun b o _ e t => up e t, fun b z n => by
      rcases List.mem_append.mp z with z | z
      · exact absurd z n
      · rw [List.mem_singleton.mp z]; exact f0, fun b xs e => up e (by intro ps z; cases z), fun b ps _ e => tb e, fun b F e => up e (fun ps => fnO_ne ps), fun b q e => up e (fun ps => LamX.codeO_ne ps)⟩
  have k2 : HOk X.prog X.w H2 s1.heap := fun b o e => by
    by_cases z : b ∈ cloCells cl
    · rw [in2 z] at e
      cases e
      obtain ⟨u, q, _, _⟩ := held z
      rw [val_eq q]
      obtain ⟨o, e1, e2⟩ := q
      exact ⟨⟨o, e1, e2⟩, ⟨o, e1⟩, fun h1 h2 ⟨o', y1, y2⟩ st => ⟨o', st _ y1, y2⟩⟩
    · rw [out2 z] at e
      exact objOk_move (fun b xs q => some1 q) (fun b c q => some1 q) (I.hok b o e)
  refine ⟨H2, ⟨un.keep, un.slot, fun b o e1 e2 e3 => ?_, un.there, fun b xs e => up e (by intro ps z; cases z), fun b o u e => up e (by intro ps z; cases z), fun b ps e => ?_⟩, k2, E2, ?_⟩
  · rw [out2 fun z => ?_]
    · exact un.free b o e1 e2 e3
    · obtain ⟨_, _, q, _⟩ := held z
      exact absurd (Nat.lt_of_lt_of_le (Heap.lt_size e1) q) (Nat.lt_irrefl _)
  · obtain ⟨m, q⟩ := un.tbls b ps e
    exact ⟨m, some1 q⟩
  · refine ⟨?_, ?_, fun i o e => ?_, fun a ha => ?_, fun p hp => ?_, fun i k y e => ?_⟩
    · show h.n + 1 = _
      rw [rp.len]; simp
    · refine List.nodup_append.mpr ⟨rp.nd, by simp, fun a ha b hb e => ?_⟩
      rw [List.mem_singleton.mp hb] at e
      exact nf (e ▸ ha)
    · rw [Hh.get_new] at e
      by_cases z : i = h.n
      · rw [if_pos z] at e
        cases e
        refine ⟨f, _, ?_, some1 f1, cl, c', rfl, some1 c1, hl, fun x y c e1 e2 => I.ok.inj x y c (hsub x c e1).1 (hsub y c e2).1, fun y c e1 => ?_, fun i0 y hy => ?_⟩
        · rw [z, rp.len, List.getElem?_append_right (Nat.le_refl _)]
          simp
        · have m := mem_cloCells.mpr ⟨y, e1⟩
          obtain ⟨u, q, q2, q3⟩ := held m
          refine ⟨fun y2 => ?_, _, in2 m⟩
          rcases List.mem_append.mp y2 with y2 | y2
          · cases z2 : X.H_0 c with
            | none => exact rp.live c y2 z2
            | some o => exact absurd (Nat.lt_of_lt_of_le (lo z2) q2) (Nat.lt_irrefl _)
          · rw [List.mem_singleton.mp y2, f1] at q3
            cases q3
        · obtain ⟨c, x, v, u, q1, q2, q3, q4, q5⟩ := hc i0 y hy
          refine ⟨c, x, v, u, q1, q2, q3.mono, q4, ?_⟩
          rw [in2 (mem_cloCells.mpr ⟨y, q1⟩), val_eq q5]
      · rw [if_neg z] at e
        obtain ⟨a, u, h1, h2, h3⟩ := rp.at_ i _ e
        refine ⟨a, u, by rw [List.getElem?_append_left (List.getElem?_eq_some_iff.mp h1).1]; exact h1, up h2 fun ps z2 => ?_, h3.mono E2⟩
        subst z2
        cases o with
        | met kvs => obtain ⟨_, z3, _⟩ := h3; cases z3
        | ins C fs => obtain ⟨_, _, z3, _⟩ := h3; cases z3
        | clo k0 c0 => obtain ⟨_, _, z3, _⟩ := h3; exact fnO_ne _ z3.symm
        | sus => obtain ⟨_, z3⟩ := h3; exact fnO_ne _ z3.symm
        | lst xs => obtain ⟨_, z3, _⟩ := h3; cases z3
        | tup xs => obtain ⟨_, z3, _⟩ := h3; cases z3
        | dct xs => obtain ⟨_, z3, _⟩ := h3; cases z3
    · rcases List.mem_append.mp ha with z | z
      · cases y : X.H_0 a with
        | none => exact absurd y (rp.live a z)
        | some u =>
          by_cases t : ∃ ps, u = .tbl ps
          · obtain ⟨ps, rfl⟩ := t
            obtain ⟨qs, q⟩ := tb y
            rw [q]; simp
          · rw [up y fun ps z => t ⟨ps, z⟩]; simp
      · rw [List.mem_singleton.mp z, some1 f1]; simp
    · obtain ⟨h0, ps0, h1, _, _⟩ := rp.tabs p hp
      obtain ⟨ps, g1, g2, g3⟩ := hT p hp
      refine ⟨fun z => ?_, ps, some1 g1, g2, fun pos cv hcv => ?_⟩
      · rcases List.mem_append.mp z with z | z
        · exact h0 z
        · rw [List.mem_singleton.mp z, f0] at h1
          cases h1
      · obtain ⟨c, e1, e2⟩ := g3 pos cv hcv
        exact ⟨c, e1, some1 e2⟩
    · rw [Hh.get_new] at e
      by_cases z : i = h.n
      · rw [if_pos z] at e
        cases e
        rw [z]
        exact List.mem_cons_self
      · rw [if_neg z] at e
        exact (show i ∈ addC (.clo w cap) h.n h.cs from mem_addC (rp.cs i k y e))
end Ck
-- SZ0
set_option Elab.async false
set_option linter.all false
set_option maxRecDepth 100000
set_option maxHeartbeats 4000000
set_option autoImplicit false
/-! SZ0: defs that make a closure. -/
namespace Ck
open PySem PySem.Spec PyProof.Rows L2 Lk NdefX
theorem WdOk.nf {W : Wd} (ok : WdOk W) : W.D.nf = nfW := congrArg Prod.fst ok.clo
theorem WdOk.fr {W : Wd} (ok : WdOk W) : W.D.fr = frW := congrArg Prod.snd ok.clo
theorem mkC {W : Wd} (ok : WdOk W) {p : He.Defn} (hp : p ∈ tf) {d : He.DefD} (hd : d.at_ = p) {fd : FuncData} (F : FunD W.K d.name d.qual d.params d.body d.scope (d.dvs W.K) (d.kws W.K) (He.fAd W.K d.at_) fd) {ps : List Str} {g : Str} {st : Stmt} {gp rp pos : Pos} {code : FC} {w : Nat}
    (hbody : d.body = [st, .Return (some (.Name g gp)) rp]) (Sc : FnScope (ps ++ [g]) ps d.scope) (hg : d.scope.names.lookup g = some .local) (hst : st = .FunctionDef g (C8.fnArgs st) (C8.fnBody st) [] none [] (C8.fnScope st) none g pos)
    (hn : nmW pos.line pos.col = d.qual ++ ".<locals>." ++ g) (hfree : ∀ y ∈ (C8.fnScope st).names, y.2 = .free → d.scope.names.lookup y.1 = some .cell ∨ d.scope.names.lookup y.1 = some .free) (hfr : ∀ y ∈ ps, (y, NameKind.free) ∈ (C8.fnScope st).names) (hfr2 : ∀ y ∈ (C8.fnScope st).names, y.2 = .free → y.1 ∈ ps)
    (hd0 : (C8.fnArgs st).defaults = []) (hk0 : (C8.fnArgs st).kw_defaults = []) (ha : ∀ env, annTrees (C8.fnArgs st) none env = []) (hw : nfW w = NF.of st g (d.qual ++ ".<locals>." ++ g)) (hfw : frW w = ps) (hdb : (g == ("__debug__" : Str)) = false) (hcd2 : (g == ("__classdict__" : Str)) = false)
    (hb : L2.Binds W.K fd ps []) (hev : ∀ (avs : List AV) (h : Hh) (n : Nat), avs.length = ps.length → (ev clos n).f code avs h = .no ∨ (ev clos n).f code avs h = .ok (.ref h.n) (h.new (.clo w avs))) :
    FnC clos W.D W.P W.w W.K W.mg W.base 1 (He.fAd W.K d.at_) ps.length code [] [] := by
  refine ⟨fd, ps, rfl, ⟨fun vs H Q E h => h.1, fun A outer s H args us vs Q E hr e0 hbt r hsp => ?_⟩, hb, .nil⟩
  obtain ⟨hl, n, rh, h, avs, vr, rp0, q⟩ := hsp
  obtain ⟨oc, od, dV, kV, doc, pm, an, cdv, ct, osl, efd, lk, hcode, _, _⟩ := F.ex
  obtain ⟨c, rfl⟩ := He.codeIn_ref hcode
  have hc : (He.cT W.K p).1 = c := by rw [← hd]; exact He.codeOf_eq lk (by rw [efd])
  have q1 : (ev clos n).f code avs h = .ok (.ref h.n) (h.new (.clo w avs)) := by
    rcases hev avs h n (by rw [pr_length vr, hl]) with z | z
    · rw [z] at q; exact q.elim
    · exact z
  rw [q1] at q
  subst efd
  have KX : W.K.In s.heap := e0.mod.kin.keeps fun b o e => (e0.bs b o e).1
  have nolim : s.heap.NoLimit := e0.mod.nolimit.keeps fun b o e => (e0.bs b o e).1
  have hkind : ∀ y ∈ ps.zip us, d.scope.names.lookup y.1 = some .local ∨ (d.scope.names.lookup y.1 = some .cell ∧ ((cellsFrom (s.heap.objs.size + 1) d.scope.names []).lookup y.1).isSome = true) := fun y hy => by
    rcases Sc.par y.1 (List.of_mem_zip hy).1 with z | z
    · exact .inl z
    · exact .inr ⟨z, PySem.W.cellsFrom_some _ _ _ (.inl z)⟩
  refine codeAny_call_function hr.depth (KX _ _ lk) rfl Sc.co Sc.gen rfl (PySem.W.codeRec_of KX hcode) (hbt _ _ _ _ ?_)
  refine wpAny_newFunctionEnv_cells Sc.kind hkind fun env he s1 x => ?_
  subst he
  refine ⟨nolim.keeps x.toInCall.keep, codeAny_func ?_⟩
  have I := inv_start (CX := L2.CX W.P W.w) (N := ps ++ [g]) (qual := d.qual) (f := He.fAd W.K d.at_) (cd := .ref c) (E := E) Sc hr.hd e0 hl r x
  have T := ok.tb p hp
  rw [hc] at T
  have hm : ((He.cT W.K p).2, nmW) ∈ W.D.T := by rw [ok.T]; exact List.mem_map.mpr ⟨p, hp, rfl⟩
  have hu : ∀ p2 ∈ W.D.T, p2.1 = (He.cT W.K p).2 → p2.2 = nmW := fun p2 h2 _ => by
    rw [ok.T] at h2
    obtain ⟨p3, _, e⟩ := List.mem_map.mp h2
    rw [← e]
  have nd : (ps ++ [g]).Nodup := Sc.nd
  have hi : (ps ++ [g])[ps.length]? = some g := by rw [List.getElem?_append_right (Nat.le_refl _)]; simp
  show wpAny _ _ (execs d.body _) _ _ _
  rw [hbody]
  have P1 := ps_ndefMS (X := cxOf (L2.CX W.P W.w) W.P W.w W.K W.mg W.base (ps ++ [g]) d.qual d.scope (He.fAd W.K d.at_) (.ref c) A outer s H E) (i := ps.length) (T := W.D.T) (nm := nmW) hst T rfl hm hn hu hfree hd0 hk0 (ha _) nd hi (.inl hg) (.inl rfl)
  refine wpAny_execs_cons (thn (P1.run [] s1 (L2.start (ps ++ [g]) vs) H { nx := fun σ2 H1 => ∃ f c', σ2 = (L2.start (ps ++ [g]) vs).set ps.length (some (.ref f)) ∧ LamX.ExtN H H1 ∧ TabsN W.D.T H1 ∧ H f = none ∧ H1 f = some (FnO f (W.D.nf w (cloFrom (cellsFrom (s.heap.objs.size + 1) d.scope.names []) (C8.fnScope st).names []) c')) ∧ H1 c' = some (LamX.CodeO c' (W.D.nf w (cloFrom (cellsFrom (s.heap.objs.size + 1) d.scope.names []) (C8.fnScope st).names []) c').qual), rt := fun _ _ => False } I
    ⟨rp0.tabs.tabs, fun f c' H1 g1 _ g3 g4 g5 g6 => ⟨f, c', rfl, g1, g3, g4, by rw [ok.nf, hw]; exact g5, by rw [ok.nf, hw]; exact g6⟩⟩) fun fl s2 hs => ?_)
  cases fl with
  | ret v => obtain ⟨_, _, _, _, _, z⟩ := hs; exact z.elim
  | brk => obtain ⟨_, _, _, z⟩ := hs; exact z.elim
  | cont => obtain ⟨_, _, _, z⟩ := hs; exact z.elim
  | next =>
    obtain ⟨σ2, H1, I2, f, c', eσ, g1, g3, g4, g5, g6⟩ := hs
    have hsl : ps.length < (L2.start (ps ++ [g]) vs).length := by unfold L2.start; simp; omega
    refine wpAny_execs_cons (wpAny_Return_some (thn ((pe_var (pos := gp) hi (.inl hg) hdb hcd2).run [] s2 σ2 H1 (fun v H' => v = .ref f ∧ H' = H1) I2 ⟨.ref f, by rw [eσ]; exact List.getElem?_set_self hsl, rfl, rfl⟩) fun u s3 ⟨v, H3, I3, r3, e1, e2⟩ => ?_))
    subst e1 e2
    have hfrw : W.D.fr w = ps := by rw [ok.fr]; exact hfw
    have cp := Caps.made (fr := ps) (js := List.range ps.length) I3.ok hfree hfr (by
      refine List.ext_getElem? fun i => ?_
      rw [List.getElem?_map, List.getElem?_map]
      by_cases z : i < ps.length
      · rw [List.getElem?_range z, List.getElem?_eq_getElem z]
        show some ((ps ++ [g])[i]?) = _
        rw [List.getElem?_append_left z, List.getElem?_eq_getElem z]
        rfl
      · rw [List.getElem?_eq_none (by simpa using z), List.getElem?_eq_none (by simpa using z)]
        rfl)
    have ca := cells_of I3 cp
    obtain ⟨H2, un, k2, E2, R2⟩ := clo_end (D := W.D) (w := w) (cap := avs) (rh := rh) (h := h) (f := f) (c' := c') I3 rfl (fun y c2 e => Nat.le_of_lt (x.above y c2 (PySem.mem_of_lookup e))) e0.hok rp0
      (fun y c2 e => ⟨cp.sub y c2 e, by
        rw [hfrw]
        rcases cloFrom_mem (PySem.mem_of_lookup e) with z | ⟨z, _⟩
        · cases z
        · exact hfr2 _ z rfl⟩) g1 g3 g4 g5 g6 (by rw [hfrw, pr_length vr, hl]) (fun i y hy => by
        rw [hfrw] at hy
        have li := (List.getElem?_eq_some_iff.mp hy).1
        obtain ⟨c2, z1, z2⟩ := ca.has i y hy
        have la : i < avs.length := by rw [pr_length vr, hl]; exact li
        obtain ⟨v, hv, rv⟩ := pr_get vr (List.getElem?_eq_getElem la)
        have hs2 : σ2[i]? = some (some v) := by
          rw [eσ, List.getElem?_set_ne (by omega)]
          unfold L2.start
          rw [List.getElem?_append_left (by rw [List.length_map, hl]; exact li), List.getElem?_map, hv]
          rfl
        obtain ⟨u2, w1, w2⟩ := z2 v (by rw [List.getElem?_map, List.getElem?_range li]; exact congrArg some (slotAt_of hs2))
        exact ⟨c2, _, v, u2, z1, List.getElem?_eq_getElem la, rv, w1, w2⟩)
    exact (⟨.ref f, H2, I3.os, I3.bare, un, k2, r3, q _ H2 (.ref f) E2 R2 ⟨f, rfl, by rw [rp0.len, List.getElem?_append_right (Nat.le_refl _)]; simp⟩⟩ : CE outer W.P W.w H s Q u s3)
def fnPos : Stmt → Pos
  | .FunctionDef _ _ _ _ _ _ _ _ _ p => p
  | _ => ⟨0, 0, 0, 0⟩
def isFnd (st : Stmt) (g : Str) (l : Nat) : Bool := match st with
  | .FunctionDef x _ _ [] none [] _ none y p => decide (x = g) && (decide (y = g) && decide (p.line = l))
  | _ => false
theorem isFnd_ok {st : Stmt} {g : Str} {l : Nat} (h : isFnd st g l = true) : st = .FunctionDef g (C8.fnArgs st) (C8.fnBody st) [] none [] (C8.fnScope st) none g (fnPos st) ∧ (fnPos st).line = l := by
  unfold isFnd at h
  split at h
  · simp only [Bool.and_eq_true, decide_eq_true_eq] at h
    obtain ⟨h1, h2, h3⟩ := h
    subst h1 h2
    exact ⟨rfl, h3⟩
  · cases h
def retPos : List Stmt → Pos × Pos
  | [_, .Return (some (.Name _ p)) q] => (p, q)
  | _ => (⟨0, 0, 0, 0⟩, ⟨0, 0, 0, 0⟩)
theorem ev2 {w : Nat} : ∀ (avs : List AV) (h : Hh) (n : Nat), avs.length = 2 → (ev clos n).f (.mk 3 [.set 2 (.clo w [0, 1]), .ret (.var 2)]) avs h = .no ∨ (ev clos n).f (.mk 3 [.set 2 (.clo w [0, 1]), .ret (.var 2)]) avs h = .ok (.ref h.n) (h.new (.clo w avs))
  | [a, b], h, 0, _ => .inl rfl
  | [a, b], h, 1, _ => .inl rfl
  | [a, b], h, 2, _ => .inl rfl
  | [a, b], h, 3, _ => .inl rfl
  | [a, b], h, 4, _ => .inl rfl
  | [a, b], h, n + 5, _ => .inr rfl
theorem ev1 {w : Nat} : ∀ (avs : List AV) (h : Hh) (n : Nat), avs.length = 1 → (ev clos n).f (.mk 2 [.set 1 (.clo w [0]), .ret (.var 1)]) avs h = .no ∨ (ev clos n).f (.mk 2 [.set 1 (.clo w [0]), .ret (.var 1)]) avs h = .ok (.ref h.n) (h.new (.clo w avs))
  | [a], h, 0, _ => .inl rfl
  | [a], h, 1, _ => .inl rfl
  | [a], h, 2, _ => .inl rfl
  | [a], h, 3, _ => .inl rfl
  | [a], h, 4, _ => .inl rfl
  | [a], h, n + 5, _ => .inr rfl
theorem f_choices_in (W : Wd) (ok : WdOk W) : FnC clos W.D W.P W.w W.K W.mg W.base 1 (He.fAd W.K d_choices_in.at_) 2 c_choices_in [] [] := by
  obtain ⟨fd, F⟩ := ok.def_ 73 (d := d_choices_in) rfl
  have z := isFnd_ok (st := s_ahead) (g := "ahead") (l := 537) (by kernel_rfl)
  exact mkC (ps := ["canal", "ways"]) (g := "ahead") (w := 0) (gp := (retPos (defBody s_choices_in)).1) (rp := (retPos (defBody s_choices_in)).2) ok (p := ("choices_in", none)) (.head _) rfl F (by kernel_rfl) (C8.fnScope_by (by kernel_rfl)) (by kernel_rfl) z.1 (by rw [show nmW (fnPos s_ahead).line (fnPos s_ahead).col = nmW 537 (fnPos s_ahead).col from by rw [z.2]]; kernel_rfl)
    (ndef_free (fr := ["canal", "ways"]) (by kernel_rfl)) (ndef_fr (sc := defScope s_choices_in) (by kernel_rfl)) (by decide +kernel) (by kernel_rfl) (by kernel_rfl) (fun _ => rfl) rfl rfl (by decide) (by decide) (F.bindsN fun kV doc pm an cdv ct us hl => by
    match us, hl with
    | [_, _], _ => rfl) ev2
theorem f_knot_in (W : Wd) (ok : WdOk W) : FnC clos W.D W.P W.w W.K W.mg W.base 1 (He.fAd W.K d_knot_in.at_) 2 c_knot_in [] [] := by
  obtain ⟨fd, F⟩ := ok.def_ 76 (d := d_knot_in) rfl
  have z := isFnd_ok (st := s_ended_knot) (g := "ended") (l := 549) (by kernel_rfl)
  exact mkC (ps := ["canal", "ways"]) (g := "ended") (w := 2) (gp := (retPos (defBody s_knot_in)).1) (rp := (retPos (defBody s_knot_in)).2) ok (p := ("knot_in", none)) (.tail _ (.tail _ (.head _))) rfl F (by kernel_rfl) (C8.fnScope_by (by kernel_rfl)) (by kernel_rfl) z.1 (by rw [show nmW (fnPos s_ended_knot).line (fnPos s_ended_knot).col = nmW 549 (fnPos s_ended_knot).col from by rw [z.2]]; kernel_rfl)
    (ndef_free (fr := ["canal", "ways"]) (by kernel_rfl)) (ndef_fr (sc := defScope s_knot_in) (by kernel_rfl)) (by decide +kernel) (by kernel_rfl) (by kernel_rfl) (fun _ => rfl) rfl rfl (by decide) (by decide) (F.bindsN fun kV doc pm an cdv ct us hl => by
    match us, hl with
    | [_, _], _ => rfl) ev2
theorem f_home_in (W : Wd) (ok : WdOk W) : FnC clos W.D W.P W.w W.K W.mg W.base 1 (He.fAd W.K d_home_in.at_) 1 c_home_in [] [] := by
  obtain ⟨fd, F⟩ := ok.def_ 74 (d := d_home_in) rfl
  have z := isFnd_ok (st := s_ended_home) (g := "ended") (l := 542) (by kernel_rfl)
  exact mkC (ps := ["ways"]) (g := "ended") (w := 1) (gp := (retPos (defBody s_home_in)).1) (rp := (retPos (defBody s_home_in)).2) ok (p := ("home_in", none)) (.tail _ (.head _)) rfl F (by kernel_rfl) (C8.fnScope_by (by kernel_rfl)) (by kernel_rfl) z.1 (by rw [show nmW (fnPos s_ended_home).line (fnPos s_ended_home).col = nmW 542 (fnPos s_ended_home).col from by rw [z.2]]; kernel_rfl)
    (ndef_free (fr := ["ways"]) (by kernel_rfl)) (ndef_fr (sc := defScope s_home_in) (by kernel_rfl)) (by decide +kernel) (by kernel_rfl) (by kernel_rfl) (fun _ => rfl) rfl rfl (by decide) (by decide) (F.bindsN fun kV doc pm an cdv ct us hl => by
    match us, hl with
    | [_], _ => rfl) ev1
end Ck
-- SH0
set_option Elab.async false
set_option linter.all false
set_option maxRecDepth 100000
set_option maxHeartbeats 4000000
set_option autoImplicit false
/-! SH0: refusal_shown, asked in an except suite; House.ask. -/
namespace Ck
open PySem PySem.Spec PyProof.Rows L2 Lk

theorem exF {W : Wd} (ok : WdOk W) : ∀ C, 0 < C → C < 11 → ∃ x, xnL[C]? = some x ∧ W.D.xA C = He.ga W.K x ∧ (He.Fa.exc x).ok W.K = true ∧ (He.Fa.exm x (PySem.Str.ofString "CanalError") true).ok W.K = true
  | 0, h, _ => absurd h (Nat.lt_irrefl _)
  | 1, _, _ => ⟨_, rfl, ok.xA 1 _ rfl, ok.fact 160 rfl, ok.fact 161 rfl⟩
  | 2, _, _ => ⟨_, rfl, ok.xA 2 _ rfl, ok.fact 162 rfl, ok.fact 163 rfl⟩
  | 3, _, _ => ⟨_, rfl, ok.xA 3 _ rfl, ok.fact 164 rfl, ok.fact 165 rfl⟩
  | 4, _, _ => ⟨_, rfl, ok.xA 4 _ rfl, ok.fact 166 rfl, ok.fact 167 rfl⟩
  | 5, _, _ => ⟨_, rfl, ok.xA 5 _ rfl, ok.fact 168 rfl, ok.fact 169 rfl⟩
  | 6, _, _ => ⟨_, rfl, ok.xA 6 _ rfl, ok.fact 170 rfl, ok.fact 171 rfl⟩
  | 7, _, _ => ⟨_, rfl, ok.xA 7 _ rfl, ok.fact 172 rfl, ok.fact 173 rfl⟩
  | 8, _, _ => ⟨_, rfl, ok.xA 8 _ rfl, ok.fact 174 rfl, ok.fact 175 rfl⟩
  | 9, _, _ => ⟨_, rfl, ok.xA 9 _ rfl, ok.fact 176 rfl, ok.fact 177 rfl⟩
  | 10, _, _ => ⟨_, rfl, ok.xA 10 _ rfl, ok.fact 178 rfl, ok.fact 179 rfl⟩
  | n + 11, _, h => absurd h (by omega)
theorem mem_xn {C : Nat} {x : Str} (h : xnL[C]? = some x) : x ∈ xnL := List.mem_of_getElem? h
theorem WdOk.mores {W : Wd} (ok : WdOk W) : (xnL.all (fun x => excB W.K (He.ga W.K x)) = true) ∧ (xnL.all (fun x => asksL.all fun y => isB W.K x y) = true) ∧ (He.eqO (PySem.W.specialIn W.K (.builtin "object.__class__") "__get__") (some (some (.builtin "getset_descriptor.__get__"))) = true) ∧ (decide (PySem.W.takesIn W.K (.builtin "object.__class__") = some true) = true) := by
  have h := ok.more
  unfold ex at h
  obtain ⟨_, h⟩ := He.ba h
  obtain ⟨h1, h⟩ := He.ba h
  obtain ⟨h2, h⟩ := He.ba h
  obtain ⟨h3, h4⟩ := He.ba h
  exact ⟨h1, h2, h3, h4⟩
theorem excC {W : Wd} (ok : WdOk W) {x : Str} (hx : x ∈ xnL) (hs : (He.Fa.exc x).ok W.K = true) : ExcC W.K (He.ga W.K x) := by
  obtain ⟨h1, _, h3, h4⟩ := ok.mores
  have z := List.all_eq_true.mp h1 x hx
  unfold excB at z
  obtain ⟨z1, z⟩ := He.ba z
  obtain ⟨z2, z⟩ := He.ba z
  obtain ⟨z3, z⟩ := He.ba z
  obtain ⟨z4, z5⟩ := He.ba z
  exact ⟨He.eqO_ok z1, He.eqO_ok z2, (He.exc_ok hs).2.2.1, z3, He.eqO_ok z4, He.eqO_ok h3, of_decide_eq_true h4, of_decide_eq_true z5⟩
theorem isKit {W : Wd} (ok : WdOk W) {x y : Str} (hx : x ∈ xnL) (hy : y ∈ asksL) : PySem.W.kitOne W.K (.ref (He.ga W.K x)) (.ref (He.ga W.K y)) = some (decide (x = y)) := of_decide_eq_true (List.all_eq_true.mp (List.all_eq_true.mp ok.mores.2.1 x hx) y hy)
/-! ### isinstance of what is held -/
theorem call_is {Y : Cx} {a D : Addr} {oe : Obj} (C : ExcC Y.K D) (hz : Zc (.ref D) none oe) (hf : ∃ vs, oe.data = .fields vs) (hp : (a, oe) ∈ Y.pn) : CallR Y (.builtin "isinstance") (rIsE Y.K D a) := fun pins s σ H xs us Q I r ⟨c, cv, b, ex, hcv, e, q⟩ => by
  subst ex
  match us, r with
  | [u1, u2], .cons r1 (.cons r2 .nil) =>
    cases (show u1 = Value.ref a from r1)
    cases hcv u2 r2
    have hget := (I.pin (a, oe) (List.mem_append_left _ hp)).1
    have J : PySem.W.InstAt s.heap a oe D none := by
      obtain ⟨vs, hv⟩ := hf
      obtain ⟨o1, o2, o3, o4⟩ := oe
      obtain ⟨z1, z2⟩ := hz
      have z1 : o1 = _ := z1
      have z2 : o2 = _ := z2
      have hv : o3 = _ := hv
      subst z1 z2 hv
      exact ⟨hget, rfl, rfl, trivial⟩
    refine PySem.W.kia_one (PySem.W.handS_kitx_exc C.hg C.hk C.hs C.hd C.ha C.hn C.ht C.hm) I.kIn J e (fun z => nomatch z) fun tk => ?_
    exact ⟨.bl b, H, I.kept (t' := tk) fun _ _ z => z, rfl, q⟩
section
variable {W : Wd} {x : Str} {a : Addr} {oe : Obj} {Y : Cx}
theorem isP {p p1 p2 pos : Pos} (ok : WdOk W) (hx : x ∈ xnL) (h0 : (He.Fa.exc x).ok W.K = true) (hz : Zc (.ref (He.ga W.K x)) none oe) (hf : ∃ vs, oe.data = .fields vs) (hp : Y.K = W.K ∧ Y.mg = W.mg ∧ (a, oe) ∈ Y.pn ∧ (Y.N[0]? = some (PySem.Str.ofString "error") ∧ Vis Y.env.scope (PySem.Str.ofString "error")) ∧ Gl Y (PySem.Str.ofString "isinstance") ∧ ∀ y ∈ asksL, Gl Y y)
    (T : Str) (hT : W.mg T = some (.ref (He.ga W.K T))) (hm : T ∈ asksL := by decide) (hdb : (T == ("__debug__" : Str)) = false := by decide) : PT Y (.Call (.Name "isinstance" p) [.Name "error" p1, .Name T p2] [] pos) (fun σ H Q => σ[0]? = some (some (.ref a)) ∧ Q (decide (x = T)) H) := by
  obtain ⟨eK, eM, pn, ⟨hN, hv⟩, gI, gA⟩ := hp
  have P := pt_val (X := Y) (e := .Call (.Name "isinstance" p) [.Name "error" p1, .Name T p2] [] pos) (pe_callB (call_is (Y := Y) (a := a) (oe := oe) (by rw [eK]; exact excC ok hx h0) hz hf pn) gI (by rw [eM]; exact fr_isinstance ok) rfl (pa_cons (pe_var hN hv) (pa_cons (C8.pe_gc (v := .ref (He.ga W.K T)) (gA T hm) ⟨_, by rw [eM]; exact hT, rfl⟩ hdb) pa_nil rfl) rfl) (by decide) (by decide) rfl rfl) (fun _ => rfl)
  refine ⟨fun pins s σ H Q I h => P.run pins s σ H Q I ⟨_, h.1, .ref (He.ga W.K T), .ref (He.ga W.K T), decide (x = T), rfl, fun u r => r, ?_, _, rfl, h.2⟩⟩
  rw [eK]
  exact isKit ok hx hm
end

abbrev rsY (W : Wd) (cdv : Value) (A : Around) (outer : List Env) (s : Shared) (H : Hp) (E : XK) (p : Addr × Obj) : Cx := L2H.cxH (L2.CX W.P W.w) W.P W.w W.K W.mg W.base ["error", "word"] d_refusal_shown.qual d_refusal_shown.scope (He.fAd W.K d_refusal_shown.at_) cdv A outer s H E p
theorem rs_body {W : Wd} (ok : WdOk W) {C : Nat} (hC : 0 < C) (hC2 : C < 11) {x : Str} (hx0 : xnL[C]? = some x) (hx : x ∈ xnL) (h0 : (He.Fa.exc x).ok W.K = true) {cdv : Value} {A : Around} {outer : List Env} {s : Shared} {H : Hp} {a : Addr} {oe : Obj} {E : XK} (hz : Zc (.ref (He.ga W.K x)) none oe) (hf : ∃ vs, oe.data = .fields vs)
    (hp : (rsY W cdv A outer s H E (a, oe)).K = W.K ∧ (rsY W cdv A outer s H E (a, oe)).mg = W.mg ∧ (a, oe) ∈ (rsY W cdv A outer s H E (a, oe)).pn ∧ ((rsY W cdv A outer s H E (a, oe)).N[0]? = some (PySem.Str.ofString "error") ∧ Vis (rsY W cdv A outer s H E (a, oe)).env.scope (PySem.Str.ofString "error")) ∧ Gl (rsY W cdv A outer s H E (a, oe)) (PySem.Str.ofString "isinstance") ∧ ∀ y ∈ asksL, Gl (rsY W cdv A outer s H E (a, oe)) y) (nd : (rsY W cdv A outer s H E (a, oe)).N.Nodup) :
    wSs (rsY W cdv A outer s H E (a, oe)) d_refusal_shown.body { nx := fun _ _ => False, rt := fun v H' => v = .str (strOf (refused C)) ∧ H' = H } (L2.start ["error", "word"] [.ref a]) H := by
  have P : PSs (rsY W cdv A outer s H E (a, oe)) d_refusal_shown.body _ := pss_cons (ps_set (i := 1) nd rfl (.inl rfl) pe_str) (pss_cons (ps_if (isP ok hx h0 hz hf hp "Twice" (He.glo_ok ok.kin ok.G (ok.fact 81 rfl))) (pss_one (ps_set (i := 1) nd rfl (.inl rfl) pe_str)) (pss_one (ps_if (isP ok hx h0 hz hf hp "TooMany" (He.glo_ok ok.kin ok.G (ok.fact 83 rfl))) (pss_one (ps_set (i := 1) nd rfl (.inl rfl) pe_str)) (pss_one (ps_if (isP ok hx h0 hz hf hp "Unknown" (He.glo_ok ok.kin ok.G (ok.fact 82 rfl))) (pss_one (ps_set (i := 1) nd rfl (.inl rfl) pe_str)) (pss_one (ps_if (isP ok hx h0 hz hf hp "NotLinked" (He.glo_ok ok.kin ok.G (ok.fact 84 rfl))) (pss_one (ps_set (i := 1) nd rfl (.inl rfl) pe_str)) (pss_one (ps_if (isP ok hx h0 hz hf hp "BadNumber" (He.glo_ok ok.kin ok.G (ok.fact 80 rfl))) (pss_one (ps_set (i := 1) nd rfl (.inl rfl) pe_str)) (pss_one (ps_if (isP ok hx h0 hz hf hp "TooDry" (He.glo_ok ok.kin ok.G (ok.fact 86 rfl))) (pss_one (ps_set (i := 1) nd rfl (.inl rfl) pe_str)) (pss_one (ps_if (isP ok hx h0 hz hf hp "TooWide" (He.glo_ok ok.kin ok.G (ok.fact 85 rfl))) (pss_one (ps_set (i := 1) nd rfl (.inl rfl) pe_str)) pss_nil))))))))))))) (pss_one (ps_ret (pe_op op_add_str pe_str (pe_var (i := 1) rfl (.inl rfl))))))
  refine of_PSs P ?_
  match C, hC, hC2, hx0 with
  | 1, _, _, hx0 =>
    cases Option.some.inj hx0
    refine ⟨rfl, ite_ff ?_⟩
    refine ⟨rfl, ite_ff ?_⟩
    refine ⟨rfl, ite_ff ?_⟩
    refine ⟨rfl, ite_ff ?_⟩
    refine ⟨rfl, ite_ff ?_⟩
    refine ⟨rfl, ite_ff ?_⟩
    refine ⟨rfl, ite_ff ?_⟩
    exact ⟨_, rfl, _, _, rfl, rfl, by decide, by kernel_rfl, rfl⟩
  | 2, _, _, hx0 =>
    cases Option.some.inj hx0
    refine ⟨rfl, ite_ff ?_⟩
    refine ⟨rfl, ite_ff ?_⟩
    refine ⟨rfl, ite_ff ?_⟩
    refine ⟨rfl, ite_ff ?_⟩
    refine ⟨rfl, ite_ff ?_⟩
    refine ⟨rfl, ite_ff ?_⟩
    refine ⟨rfl, ite_ff ?_⟩
    exact ⟨_, rfl, _, _, rfl, rfl, by decide, by kernel_rfl, rfl⟩
  | 3, _, _, hx0 =>
    cases Option.some.inj hx0
    refine ⟨rfl, ite_ff ?_⟩
    refine ⟨rfl, ite_ff ?_⟩
    refine ⟨rfl, ite_ff ?_⟩
    refine ⟨rfl, ite_ff ?_⟩
    refine ⟨rfl, ite_tt ?_⟩
    exact ⟨_, rfl, _, _, rfl, rfl, by decide, by kernel_rfl, rfl⟩
  | 4, _, _, hx0 =>
    cases Option.some.inj hx0
    refine ⟨rfl, ite_tt ?_⟩
    exact ⟨_, rfl, _, _, rfl, rfl, by decide, by kernel_rfl, rfl⟩
  | 5, _, _, hx0 =>
    cases Option.some.inj hx0
    refine ⟨rfl, ite_ff ?_⟩
    refine ⟨rfl, ite_ff ?_⟩
    refine ⟨rfl, ite_tt ?_⟩
    exact ⟨_, rfl, _, _, rfl, rfl, by decide, by kernel_rfl, rfl⟩
  | 6, _, _, hx0 =>
    cases Option.some.inj hx0
    refine ⟨rfl, ite_ff ?_⟩
    refine ⟨rfl, ite_tt ?_⟩
    exact ⟨_, rfl, _, _, rfl, rfl, by decide, by kernel_rfl, rfl⟩
  | 7, _, _, hx0 =>
    cases Option.some.inj hx0
    refine ⟨rfl, ite_ff ?_⟩
    refine ⟨rfl, ite_ff ?_⟩
    refine ⟨rfl, ite_ff ?_⟩
    refine ⟨rfl, ite_tt ?_⟩
    exact ⟨_, rfl, _, _, rfl, rfl, by decide, by kernel_rfl, rfl⟩
  | 8, _, _, hx0 =>
    cases Option.some.inj hx0
    refine ⟨rfl, ite_ff ?_⟩
    refine ⟨rfl, ite_ff ?_⟩
    refine ⟨rfl, ite_ff ?_⟩
    refine ⟨rfl, ite_ff ?_⟩
    refine ⟨rfl, ite_ff ?_⟩
    refine ⟨rfl, ite_ff ?_⟩
    refine ⟨rfl, ite_tt ?_⟩
    exact ⟨_, rfl, _, _, rfl, rfl, by decide, by kernel_rfl, rfl⟩
  | 9, _, _, hx0 =>
    cases Option.some.inj hx0
    refine ⟨rfl, ite_ff ?_⟩
    refine ⟨rfl, ite_ff ?_⟩
    refine ⟨rfl, ite_ff ?_⟩
    refine ⟨rfl, ite_ff ?_⟩
    refine ⟨rfl, ite_ff ?_⟩
    refine ⟨rfl, ite_tt ?_⟩
    exact ⟨_, rfl, _, _, rfl, rfl, by decide, by kernel_rfl, rfl⟩
  | 10, _, _, hx0 =>
    cases Option.some.inj hx0
    refine ⟨rfl, ite_ff ?_⟩
    refine ⟨rfl, ite_ff ?_⟩
    refine ⟨rfl, ite_ff ?_⟩
    refine ⟨rfl, ite_ff ?_⟩
    refine ⟨rfl, ite_ff ?_⟩
    refine ⟨rfl, ite_ff ?_⟩
    refine ⟨rfl, ite_ff ?_⟩
    exact ⟨_, rfl, _, _, rfl, rfl, by decide, by kernel_rfl, rfl⟩
  | 0, h, _, _ => exact absurd h (Nat.lt_irrefl _)
  | n + 11, _, h, _ => exact absurd h (by omega)
/-- the call of refusal_shown, an exception in hand -/
theorem rs_run {W : Wd} (ok : WdOk W) {C : Nat} (hC : 0 < C) (hC2 : C < 11) {fd : FuncData} (F : FunD W.K d_refusal_shown.name d_refusal_shown.qual d_refusal_shown.params d_refusal_shown.body d_refusal_shown.scope (d_refusal_shown.dvs W.K) (d_refusal_shown.kws W.K) (He.fAd W.K d_refusal_shown.at_) fd)
    {A : Around} {outer : List Env} {s : Shared} {H : Hp} {a : Addr} {oe : Obj} {E : XK} (hr : L2H.RoomH 1 A) (hp : L2H.PinOk outer H s (a, oe)) (hz : Zc (.ref (W.D.xA C)) none oe) (hf : ∃ vs, oe.data = .fields vs) (e0 : Env0 W.P W.w W.K W.mg W.base A outer s H) (hb : BindsTo s fd ⟨[.ref a], []⟩ [("error", .ref a)]) :
    codeAny (model W.P W.w) A (.call (.ref (He.fAd W.K d_refusal_shown.at_)) ⟨[.ref a], []⟩) (CR (L2.CX W.P W.w) outer W.P W.w H s (fun v H' => v = .str (strOf (refused C)) ∧ H' = H) E) s := by
  obtain ⟨x, hx0, exA, h0, _⟩ := exF ok C hC hC2
  have hx := mem_xn hx0
  rw [exA] at hz
  obtain ⟨oc, od, dV, kV, doc, pm, an, cdv, ct, osl, efd, lk, hcode, _, _⟩ := F.ex
  subst efd
  have Sc : FnScope ["error", "word"] ["error"] d_refusal_shown.scope := C8.fnScope_by (by kernel_rfl)
  have KX : W.K.In s.heap := e0.mod.kin.keeps fun b o e => (e0.bs b o e).1
  have nolim : s.heap.NoLimit := e0.mod.nolimit.keeps fun b o e => (e0.bs b o e).1
  refine codeAny_call_function hr.depth (KX _ _ lk) rfl Sc.co Sc.gen rfl (PySem.W.codeRec_of KX hcode) (hb _ _ _ _ ?_)
  refine wpAny_newFunctionEnv_cells Sc.kind (fun y hy => .inl (by
    have := List.mem_singleton.mp hy
    subst this
    kernel_rfl)) fun env he s1 xx => ?_
  subst he
  refine ⟨nolim.keeps xx.toInCall.keep, codeAny_func ?_⟩
  have I := L2H.inv_startH (CX := L2.CX W.P W.w) (vs := [.ref a]) (us := [.ref a]) (E := E) (f := He.fAd W.K d_refusal_shown.at_) (cd := cdv) (qual := d_refusal_shown.qual) Sc hp e0 rfl (.cons rfl .nil) xx
  have hp2 : (rsY W cdv A outer s H E (a, oe)).K = W.K ∧ (rsY W cdv A outer s H E (a, oe)).mg = W.mg ∧ (a, oe) ∈ (rsY W cdv A outer s H E (a, oe)).pn ∧ ((rsY W cdv A outer s H E (a, oe)).N[0]? = some (PySem.Str.ofString "error") ∧ Vis (rsY W cdv A outer s H E (a, oe)).env.scope (PySem.Str.ofString "error")) ∧ Gl (rsY W cdv A outer s H E (a, oe)) (PySem.Str.ofString "isinstance") ∧ ∀ y ∈ asksL, Gl (rsY W cdv A outer s H E (a, oe)) y :=
    ⟨rfl, rfl, .head _, ⟨rfl, .inl rfl⟩, rfl, fun y hy => (show ∀ y ∈ asksL, d_refusal_shown.scope.names.lookup y = some .globalImplicit by decide +kernel) y hy⟩
  have nd : (rsY W cdv A outer s H E (a, oe)).N.Nodup := Sc.nd
  have B := rs_body (E := E) (cdv := cdv) (A := A) (outer := outer) (s := s) (H := H) ok hC hC2 hx0 hx h0 hz hf hp2 nd
  refine wpAny_mono (B [] s1 I) (fun fl s2 hs => ?_) fun e s2 hs => hs
  cases fl with
  | ret u =>
    obtain ⟨v, σ2, H2, J, rv, q⟩ := hs
    exact (⟨v, H2, J.os, J.bare, J.base, J.hok, rv, q⟩ : CE outer W.P W.w H s (fun v H' => v = .str (strOf (refused C)) ∧ H' = H) u s2)
  | next => obtain ⟨_, _, _, z⟩ := hs; exact z.elim
  | brk => obtain ⟨_, _, _, z⟩ := hs; exact z.elim
  | cont => obtain ⟨_, _, _, z⟩ := hs; exact z.elim
/-- refusal_shown as it is asked in a suite -/
structure RsOk (W : Wd) (f : Addr) : Prop where
  kp : PySem.W.keepIn W.K (.ref f) = true
  mg : W.mg (PySem.Str.ofString "refusal_shown") = some (.ref f)
  run : ∀ {C : Nat} {A : Around} {outer : List Env} {s : Shared} {H : Hp} {a : Addr} {oe : Obj}, 0 < C → C < 11 → L2H.RoomH 1 A → L2H.PinOk outer H s (a, oe) → Zc (.ref (W.D.xA C)) none oe → (∃ vs, oe.data = .fields vs) → Env0 W.P W.w W.K W.mg W.base A outer s H → W.K.In s.heap →
    codeAny (model W.P W.w) A (.call (.ref f) ⟨[.ref a], []⟩) (CR (L2.CX W.P W.w) outer W.P W.w H s (fun v H' => v = .str (strOf (refused C)) ∧ H' = H) fun _ _ _ => False) s
theorem rs_ok {W : Wd} (ok : WdOk W) : RsOk W (He.fAd W.K d_refusal_shown.at_) := by
  obtain ⟨fd, F⟩ := ok.def_ 112 (d := d_refusal_shown) rfl
  have hB := F.bindsN (ps := ["error"]) fun kV doc pm an cdv ct us hl => by
    match us, hl with
    | [_], _ => rfl
  exact ⟨ok.kp 112 rfl, He.glo_ok ok.kin ok.G (ok.fact 67 rfl), fun hC hC2 rm pk hz hff E0 kin => rs_run ok hC hC2 F rm pk hz hff E0 (hB _ _ kin rfl)⟩
/-! ### try: return .., except CanalError as e: return refusal_shown(e) -/
def tsW (W : Wd) (i : Nat) : Addr → Value → Option Addr → TS := fun a cls d D σ H => ∃ (σ0 : L2.St) (C : Nat), σ = σ0.set i (some (.ref a)) ∧ 0 < C ∧ C < 11 ∧ cls = .ref (W.D.xA C) ∧ d = none ∧ D.rt (.str (strOf (refused C))) H
theorem one_val {v : V} {us : List Value} (r : Vals [v] us) : ∃ u, us = [u] ∧ RelV v u := by
  cases r with
  | cons r1 rr => cases rr; exact ⟨_, rfl, r1⟩
section
variable {W : Wd} {X : Cx} {k i : Nat} {f : Addr}
theorem rs_suite {p p2 q rp2 : Pos} (R : RsOk W f) (hX : (X.prog, X.w, X.K, X.mg, X.base) = (W.P, W.w, W.K, W.mg, W.base)) (room : Room (k + 1) X.A) (hi : X.N[i]? = some (PySem.Str.ofString "e")) (hl : X.env.kindOf "e" = some .local) (hg2 : Gl X (PySem.Str.ofString "refusal_shown"))
    (a : Addr) (oe : Obj) (cls : Value) (d : Option Addr) (pn : List (Addr × Obj)) (hz : Zc cls d oe) (hff : ∃ vs, oe.data = .fields vs) : PSs (X.suite a ((a, oe) :: pn)) [.Return (some (.Call (.Name "refusal_shown" p) [.Name "e" p2] [] q)) rp2] (tsW W i a cls d) := by
  have h1 : (X.suite a ((a, oe) :: pn)).prog = W.P := congrArg (fun z => z.1) hX
  have h2 : (X.suite a ((a, oe) :: pn)).w = W.w := congrArg (fun z => z.2.1) hX
  have h3 : (X.suite a ((a, oe) :: pn)).K = W.K := congrArg (fun z => z.2.2.1) hX
  have h4 : (X.suite a ((a, oe) :: pn)).mg = W.mg := congrArg (fun z => z.2.2.2.1) hX
  have h5 : (X.suite a ((a, oe) :: pn)).base = W.base := congrArg (fun z => z.2.2.2.2) hX
  have hN : (X.suite a ((a, oe) :: pn)).N[i]? = some (PySem.Str.ofString "e") := hi
  have hv : Vis (X.suite a ((a, oe) :: pn)).env.scope (PySem.Str.ofString "e") := .inl hl
  have hg : Gl (X.suite a ((a, oe) :: pn)) (PySem.Str.ofString "refusal_shown") := hg2
  have rm : L2H.RoomH 1 (X.suite a ((a, oe) :: pn)).A := (show L2H.RoomH (k + 1) (X.A.mark (some (.ref a))) from ⟨room.dp, room.un⟩).mono (Nat.succ_le_succ (Nat.zero_le k))
  have hpin : (a, oe) ∈ (X.suite a ((a, oe) :: pn)).pn := .head _
  have xeF : ∀ u s, (X.suite a ((a, oe) :: pn)).xe u s = False := fun _ _ => rfl
  generalize X.suite a ((a, oe) :: pn) = Y at h1 h2 h3 h4 h5 hN hv hg rm hpin xeF
  refine ⟨fun pins s σ H D I h => ?_⟩
  obtain ⟨σ0, C, eσ, hC, hC2, ec, ed, hD⟩ := h
  subst ec ed
  have li : i < σ0.length := by
    have := I.len
    rw [eσ, List.length_set] at this
    rw [this]
    exact (List.getElem?_eq_some_iff.mp hN).1
  have hσ : σ[i]? = some (some (.ref a)) := by rw [eσ]; exact List.getElem?_set_self li
  have pa : PA Y [.Name (PySem.Str.ofString "e") p2] (tCons (tVar i) tNil) := pa_cons (pe_var hN hv) pa_nil rfl
  refine wpAny_execs_cons (wpAny_Return_some ?_)
  refine wpAny_Call_Name_kw (ld_glob I hg (by rw [h4]; exact R.mg) ?_ (by decide))
  refine PySem.W.callWith_K (h₀ := Y.base) I.ok.mod.kin (by rw [h3]; exact R.kp) (thn (pa.run _ pins s σ H (fun vs H' => vs = [.ref a] ∧ H' = H) I ⟨_, hσ, rfl, rfl⟩) fun us s1 hq => ?_) rfl rfl
  obtain ⟨vs, H1, I1, r, e1, e2⟩ := hq
  subst e1 e2
  refine ⟨I1.kIn, ?_⟩
  obtain ⟨u, eu, r1⟩ := one_val r
  subst eu
  cases (show u = Value.ref a from r1)
  have P1 := I1.pin (a, oe) (List.mem_append_left _ hpin)
  have pk : L2H.PinOk Y.stack H1 s1 (a, oe) := ⟨P1.1, P1.2.1, fun hm => (List.mem_cons.mp (I1.stkSub a hm)).elim P1.2.2.1 P1.2.2.2.1, P1.2.2.2.2⟩
  have E0 := I1.env0
  have kin := I1.kIn
  rw [h1, h2, h3, h4, h5] at E0
  rw [h3] at kin
  have run := R.run hC hC2 rm pk hz hff E0 kin
  rw [← h1, ← h2] at run
  refine wpAny_call (codeAny_mono run fun r s2 hq => ?_)
  cases r with
  | error u =>
    obtain ⟨_, _, _, _, _, _, _, _, _, _, _, _, z⟩ := hq
    exact z.elim
  | ok fl =>
    cases fl with
    | ret u =>
      obtain ⟨v, H2, J, rv, ev, eH⟩ := I1.after hq
      subst ev eH
      exact ⟨_, σ, H2, J, rv, hD⟩
    | next => exact hq.elim
    | brk => exact hq.elim
    | cont => exact hq.elim
end
def tbW (D0 : Dt) (P : Program) (w : World) (e : IE) : WX → TS := fun Wx D σ H => ∃ (E' : XK) (n : Nat) (s : Sg) (h : Hh) (rh : Rh), (∀ cls d (σ' : L2.St) H', E' cls d H' → Wx cls d σ' H') ∧ SR D0 rh s σ ∧ Rep D0 P w rh h H ∧ QE D0 P w ((ev clos n).e e s h) rh H D.rt E'
theorem ss_try {W : Wd} (ok : WdOk W) {X : Cx} {E : XK} {k i : Nat} {f : Addr} {e : IE} {ex : PySem.Expr} {np p p2 pos rp rp2 hp q : Pos} (R : RsOk W f) (hX : (X.prog, X.w, X.K, X.mg, X.base) = (W.P, W.w, W.K, W.mg, W.base)) (cx : CxT X E (k + 1)) (hstk : X.stack = X.env :: X.outer) (hf : X.env.frame = some X.env.locals) (hi : X.N[i]? = some (PySem.Str.ofString "e")) (hl : X.env.kindOf "e" = some .local)
    (hg1 : Gl X (PySem.Str.ofString "CanalError")) (hg2 : Gl X (PySem.Str.ofString "refusal_shown")) (he : ∀ pn xe E', CxE (X.tr pn xe) E' (k + 1) → SE clos W.D (X.tr pn xe) E' e ex) :
    SS clos W.D X E (.tryRet e) (.Try [.Return (some ex) rp] [.ExceptHandler (some (.Name "CanalError" np)) (some "e") [.Return (some (.Call (.Name "refusal_shown" p) [.Name "e" p2] [] q)) rp2] hp] [] [] pos) := by
  have h3 : X.K = W.K := congrArg (fun z => z.2.2.1) hX
  have h4 : X.mg = W.mg := congrArg (fun z => z.2.2.2.1) hX
  intro n s h σ H rh N sr rp0 qs
  cases n with
  | zero => exact qs.elim
  | succ n =>
    have hgC : X.mg (PySem.Str.ofString "CanalError") = some (.ref (He.ga W.K (PySem.Str.ofString "CanalError"))) := by rw [h4]; exact He.glo_ok ok.kin ok.G (ok.fact 77 rfl)
    refine of_PS (ps_try_as (i := i) (c := .ref (He.ga W.K (PySem.Str.ofString "CanalError"))) (tb := tbW W.D X.prog X.w e) (ts := tsW W i) hstk hf cx.nd hi hl ⟨hg1, by decide, .inl hgC⟩ cx.tk (fun Wx pn xe tk po => ⟨fun pins s0 σ H D I h0 => ?_⟩) (rs_suite R hX cx.room hi hl hg2)) ?_
    · obtain ⟨E', n, s, h, rh, hW, sr, rp, q⟩ := h0
      exact (pss_one (ps_ret pE)).run pins s0 σ H D I (he pn xe E' ⟨cx.calm, cx.nd, cx.room, passes_call tk hW⟩ n s h σ H rh _ sr rp q)
    · have qs : QS W.D X.prog X.w (match (ev clos n).e e s h with | .ok v h => RS.ret v h | .exc C h => (match Nat.blt 0 C && Nat.blt C 11 with | true => .ret (.str (litS (refused C))) h | false => .no) | .no => .no) rh H N E := qs
      refine ⟨fun cls d H' => ∃ C, 0 < C ∧ C < 11 ∧ cls = .ref (W.D.xA C) ∧ d = none ∧ N.rt (.str (strOf (refused C))) H', n, s, h, rh, fun cls d σ' H' hh => ?_, sr, rp0, ?_⟩
      · obtain ⟨C, z1, z2, z3, z4, z5⟩ := hh
        obtain ⟨x, y1, y2, _, y4⟩ := exF ok C z1 z2
        refine ⟨true, ?_, fun _ a na => ⟨σ', C, rfl, z1, z2, z3, z4, z5⟩, fun z => nomatch z⟩
        rw [z3, y2, h3]
        exact He.exm_ok y4
      · cases er : (ev clos n).e e s h with
        | ok v h' => rw [er] at qs; exact qs
        | no => rw [er] at qs; exact qs.elim
        | exc C h' =>
          rw [er] at qs
          dsimp only at qs
          cases z : Nat.blt 0 C && Nat.blt C 11 with
          | false => rw [z] at qs; exact qs.elim
          | true =>
            rw [z] at qs
            rw [Bool.and_eq_true, nblt, nblt] at z
            intro rh' H' e1 r1
            exact ⟨C, z.1, z.2, rfl, rfl, qs rh' H' _ e1 r1 (by show V.str _ = V.str _; rw [sV_lit])⟩
end Ck
-- SZ1
set_option Elab.async false
set_option linter.all false
set_option maxRecDepth 100000
set_option maxHeartbeats 4000000
set_option autoImplicit false
namespace Ck
open NdefX PySem PySem.Spec PyProof.Rows L2 Lk
theorem n_ahead (W : Wd) (ok : WdOk W) (f : Addr) (cl : List (Str × Addr)) (c' : Addr) : NOk W.P W.w W.K W.mg W.base (L2.CX W.P W.w) 9 f (nfW 0 cl c') ["state"] [(PySem.Str.ofString "canal"), (PySem.Str.ofString "ways")] (spV clos W.D W.P W.w c_ahead 1) := by
  refine nok_cell (N := [(PySem.Str.ofString "state"), (PySem.Str.ofString "canal"), (PySem.Str.ofString "ways"), (PySem.Str.ofString "deed")]) (x := "state") (F := nfW 0 cl c') (k := 8) ⟨by kernel_rfl, by kernel_rfl, by kernel_rfl, by decide, by decide, by kernel_rfl, fun _ _ => rfl, fun _ => rfl, (show ∀ y ∈ (C8.fnScope s_ahead).names, y.2 = .cell → y.1 = "state" by decide +kernel), (show ∀ y ∈ (C8.fnScope s_ahead).names, y.2 = .free → y.1 ∈ [(PySem.Str.ofString "canal"), (PySem.Str.ofString "ways")] by decide +kernel), (show ∀ y ∈ [(PySem.Str.ofString "canal"), (PySem.Str.ofString "ways")], (C8.fnScope s_ahead).names.lookup y = some .free by decide +kernel)⟩ (fun _ _ _ _ => rfl) (fun ws vs H Q E h => h.1) fun A outer s H v ws Q E hr hw hs => ?_
  refine spV_go (X := ncx (L2.CX W.P W.w) W.P W.w W.K W.mg W.base [(PySem.Str.ofString "state"), (PySem.Str.ofString "canal"), (PySem.Str.ofString "ways"), (PySem.Str.ofString "deed")] (cellAt (nfW 0 cl c') "state" s.heap.objs.size) f A outer s H E) (E := E) (m := 2) rfl (show 1 + 2 ≤ 4 by decide) hw hs ?_
  have cx := cxT_ncx (P := W.P) (w := W.w) (K := W.K) (mg := W.mg) (base := W.base) (N := [(PySem.Str.ofString "state"), (PySem.Str.ofString "canal"), (PySem.Str.ofString "ways"), (PySem.Str.ofString "deed")]) (F := cellAt (nfW 0 cl c') "state" s.heap.objs.size) (f := f) (A := A) (outer := outer) (s := s) (H := H) (E := E) (by decide) hr
  exact (sss_cons (ss_ret (se_comp cx.ex (ow := [("deed", 3)]) (si_lst (se_call cx.ex (f_may W ok) (by decide) rfl (glo_may ok) (ok.kp 50 rfl) (sl_cons (se_var (pe_var rfl (.inr (.inr rfl)))) (sl_cons (se_var (pe_var rfl (.inr (.inr rfl)))) (sl_cons (se_var (pe_var rfl (.inr (.inl rfl)))) sl_nil stE_Name) stE_Name) stE_Name) rfl (by decide) rfl rfl)) (blkOk_by (by kernel_rfl)) rfl (by decide) (fun _ _ _ _ _ => (pg_name cx.ex.blk.nd rfl (.inl rfl) (.inr rfl))) True.intro (fun _ _ _ _ _ => (se_tup (sl_cons (se_var (pe_var rfl (.inl rfl))) (sl_cons (se_call cx.ex.blk (f_after W ok) (by decide) rfl (glo_after ok) (ok.kp 49 rfl) (sl_cons (se_var (pe_var rfl (.inr (.inr rfl)))) (sl_cons (se_var (pe_var rfl (.inr (.inr rfl)))) (sl_cons (se_var (pe_var rfl (.inr (.inl rfl)))) (sl_cons (se_var (pe_var rfl (.inl rfl))) sl_nil stE_Name) stE_Name) stE_Name) stE_Name) rfl (by decide) rfl rfl) sl_nil stE_Call) stE_Name))) (fun _ => rfl)))
  sss_nil)
theorem n_ended_home (W : Wd) (ok : WdOk W) (f : Addr) (cl : List (Str × Addr)) (c' : Addr) : NOk W.P W.w W.K W.mg W.base (L2.CX W.P W.w) 9 f (nfW 1 cl c') ["state"] [(PySem.Str.ofString "ways")] (spV clos W.D W.P W.w c_ended_home 1) := by
  refine nok_of (N := [(PySem.Str.ofString "state"), (PySem.Str.ofString "ways")]) (F := nfW 1 cl c') (k := 8) (nscope_by (by kernel_rfl)) (fun _ _ _ us hl => by match us, hl with | [_], _ => rfl) (fun ws vs H Q E h => h.1) fun A outer s H vs ws Q E hr _ _ hw hs => ⟨_, pSs, ?_⟩
  refine spV_go (X := ncx (L2.CX W.P W.w) W.P W.w W.K W.mg W.base [(PySem.Str.ofString "state"), (PySem.Str.ofString "ways")] (nfW 1 cl c') f A outer s H E) (E := E) (m := 1) rfl (show 1 + 1 ≤ 2 by decide) hw hs ?_
  have cx := cxT_ncx (P := W.P) (w := W.w) (K := W.K) (mg := W.mg) (base := W.base) (N := [(PySem.Str.ofString "state"), (PySem.Str.ofString "ways")]) (F := nfW 1 cl c') (f := f) (A := A) (outer := outer) (s := s) (H := H) (E := E) (by decide) hr
  exact (sss_cons (ss_ret (se_call cx.ex (f_all_home W ok) (by decide) rfl (glo_all_home ok) (ok.kp 34 rfl) (sl_cons (se_var (pe_var rfl (.inr (.inr rfl)))) (sl_cons (se_var (pe_var rfl (.inl rfl))) sl_nil stE_Name) stE_Name) rfl (by decide) rfl rfl))
  sss_nil)
theorem n_ended_knot (W : Wd) (ok : WdOk W) (f : Addr) (cl : List (Str × Addr)) (c' : Addr) : NOk W.P W.w W.K W.mg W.base (L2.CX W.P W.w) 9 f (nfW 2 cl c') ["state"] [(PySem.Str.ofString "canal"), (PySem.Str.ofString "ways")] (spV clos W.D W.P W.w c_ended_knot 1) := by
  refine nok_of (N := [(PySem.Str.ofString "state"), (PySem.Str.ofString "canal"), (PySem.Str.ofString "ways")]) (F := nfW 2 cl c') (k := 8) (nscope_by (by kernel_rfl)) (fun _ _ _ us hl => by match us, hl with | [_], _ => rfl) (fun ws vs H Q E h => h.1) fun A outer s H vs ws Q E hr _ _ hw hs => ⟨_, pSs, ?_⟩
  refine spV_go (X := ncx (L2.CX W.P W.w) W.P W.w W.K W.mg W.base [(PySem.Str.ofString "state"), (PySem.Str.ofString "canal"), (PySem.Str.ofString "ways")] (nfW 2 cl c') f A outer s H E) (E := E) (m := 2) rfl (show 1 + 2 ≤ 3 by decide) hw hs ?_
  have cx := cxT_ncx (P := W.P) (w := W.w) (K := W.K) (mg := W.mg) (base := W.base) (N := [(PySem.Str.ofString "state"), (PySem.Str.ofString "canal"), (PySem.Str.ofString "ways")]) (F := nfW 2 cl c') (f := f) (A := A) (outer := outer) (s := s) (H := H) (E := E) (by decide) hr
  exact (sss_cons (ss_ret (se_call cx.ex (f_is_knot W ok) (by decide) rfl (glo_is_knot ok) (ok.kp 75 rfl) (sl_cons (se_var (pe_var rfl (.inr (.inr rfl)))) (sl_cons (se_var (pe_var rfl (.inr (.inr rfl)))) (sl_cons (se_var (pe_var rfl (.inl rfl))) sl_nil stE_Name) stE_Name) stE_Name) rfl (by decide) rfl rfl))
  sss_nil)
theorem cloC (W : Wd) (ok : WdOk W) : CloC clos W.D W.P W.w W.K W.mg W.base 9 where
  ok := fun kk f cl c' => by
    refine ⟨["state"], ?_⟩
    rw [ok.nf, ok.fr]
    match kk with
    | 0 => exact n_ahead W ok f cl c'
    | 1 => exact n_ended_home W ok f cl c'
    | _ + 2 => exact n_ended_knot W ok f cl c'
  nf := fun kk cl c' => by
    rw [ok.nf]
    match kk with
    | 0 => exact ⟨rfl, rfl⟩
    | 1 => exact ⟨rfl, rfl⟩
    | _ + 2 => exact ⟨rfl, rfl⟩
end Ck
-- SG0
set_option Elab.async false
set_option linter.all false
set_option maxRecDepth 100000
set_option maxHeartbeats 4000000
set_option autoImplicit false
namespace Ck
open PySem PySem.Spec PyProof.Rows L2 Lk
theorem f_next_layer (W : Wd) (ok : WdOk W) : FnC clos W.D W.P W.w W.K W.mg W.base 10 (He.fAd W.K d_next_layer.at_) 4 c_next_layer [] [] := by
  obtain ⟨fd, F⟩ := ok.def_ 69 (d := d_next_layer) rfl
  refine fnC (W := W) (N := [(PySem.Str.ofString "layer"), (PySem.Str.ofString "ahead"), (PySem.Str.ofString "met"), (PySem.Str.ofString "most"), (PySem.Str.ofString "found"), (PySem.Str.ofString "state"), (PySem.Str.ofString "deed"), (PySem.Str.ofString "behind")]) (ps := [(PySem.Str.ofString "layer"), (PySem.Str.ofString "ahead"), (PySem.Str.ofString "met"), (PySem.Str.ofString "most")]) (d := d_next_layer) (k := 9) F (C8.fnScope_by (by kernel_rfl)) rfl rfl (by decide) (fun _ => F.bindsN fun kV doc pm an cdv ct us hl => by
    match us, hl with
    | [_, _, _, _], _ => rfl) .nil fun cdv A outer s H E cx => ?_
  exact (sss_cons (ss_set cx rfl (.inl rfl) (se_lst sl_nil) rfl (.inr rfl))
  (sss_cons (ss_for cx (si_lst (se_var (pe_var rfl (.inl rfl)))) (pg_name cx.ex.nd rfl (.inl rfl) (.inr rfl)) (sss_cons (ss_for cx (si_lst (se_callv cx.ex (cloC W ok) (by decide) rfl (.inl rfl) (sl_cons (se_var (pe_var rfl (.inl rfl))) sl_nil stE_Name) (by decide) (by decide) rfl rfl)) (pg_tup cx.ex.calm (pgs_cons (pg_name cx.ex.nd rfl (.inl rfl) (.inr rfl)) (pgs_cons (pg_name cx.ex.nd rfl (.inl rfl) (.inr rfl)) pgs_nil rfl) rfl) rfl rfl) (sss_cons (ss_iff (st_cmp (op_notInAll cx.ex.hu) (v_notin ok.dt) (se_var (pe_var rfl (.inl rfl))) (se_var (pe_var rfl (.inl rfl))) (by with_unfolding_all rfl)) (sss_cons (ss_iff (st_cmp op_ge (v_ge ok.dt) (se_len ok.dt (se_var (pe_var rfl (.inl rfl))) ⟨rfl, fr_len ok⟩ rfl) (se_var (pe_var rfl (.inl rfl))) (nomark _)) (sss_cons (ss_raise cx (raise_TooWide ok rfl rfl))
  sss_nil) sss_nil)
  (sss_cons (ss_setI ok.dt cx (se_var (pe_var rfl (.inl rfl))) (se_var (pe_var rfl (.inl rfl))) (se_tup (sl_cons (se_var (pe_var rfl (.inl rfl))) (sl_cons (se_var (pe_var rfl (.inl rfl))) sl_nil stE_Name) stE_Name)) rfl rfl rfl (fun _ => rfl))
  (sss_cons (ss_app (se_var (pe_var rfl (.inl rfl))) (se_var (pe_var rfl (.inl rfl))) rfl rfl rfl rfl rfl)
  sss_nil))) sss_nil)
  sss_nil) (fun _ => rfl))
  sss_nil) (fun _ => rfl))
  (sss_cons (ss_ret (se_var (pe_var rfl (.inl rfl))))
  sss_nil)))
theorem f_first_ended (W : Wd) (ok : WdOk W) : FnC clos W.D W.P W.w W.K W.mg W.base 10 (He.fAd W.K d_first_ended.at_) 2 c_first_ended [] [] := by
  obtain ⟨fd, F⟩ := ok.def_ 70 (d := d_first_ended) rfl
  refine fnC (W := W) (N := [(PySem.Str.ofString "layer"), (PySem.Str.ofString "ended"), (PySem.Str.ofString "state")]) (ps := [(PySem.Str.ofString "layer"), (PySem.Str.ofString "ended")]) (d := d_first_ended) (k := 9) F (C8.fnScope_by (by kernel_rfl)) rfl rfl (by decide) (fun _ => F.bindsN fun kV doc pm an cdv ct us hl => by
    match us, hl with
    | [_, _], _ => rfl) .nil fun cdv A outer s H E cx => ?_
  exact (sss_cons (ss_for cx (si_lst (se_var (pe_var rfl (.inl rfl)))) (pg_name cx.ex.nd rfl (.inl rfl) (.inr rfl)) (sss_cons (ss_iff (st_val (se_callv cx.ex (cloC W ok) (by decide) rfl (.inl rfl) (sl_cons (se_var (pe_var rfl (.inl rfl))) sl_nil stE_Name) (by decide) (by decide) rfl rfl) (fun _ => rfl)) (sss_cons (ss_ret (se_lst (sl_cons (se_var (pe_var rfl (.inl rfl))) sl_nil stE_Name)))
  sss_nil) sss_nil)
  sss_nil) (fun _ => rfl))
  (sss_cons (ss_ret (se_lst sl_nil))
  sss_nil))
theorem f_layered (W : Wd) (ok : WdOk W) : FnC clos W.D W.P W.w W.K W.mg W.base 11 (He.fAd W.K d_layered.at_) 4 c_layered [] [] := by
  obtain ⟨fd, F⟩ := ok.def_ 72 (d := d_layered) rfl
  refine fnC (W := W) (N := [(PySem.Str.ofString "first"), (PySem.Str.ofString "ahead"), (PySem.Str.ofString "ended"), (PySem.Str.ofString "most"), (PySem.Str.ofString "met"), (PySem.Str.ofString "layer"), (PySem.Str.ofString "layers"), (PySem.Str.ofString "goal")]) (ps := [(PySem.Str.ofString "first"), (PySem.Str.ofString "ahead"), (PySem.Str.ofString "ended"), (PySem.Str.ofString "most")]) (d := d_layered) (k := 10) F (C8.fnScope_by (by kernel_rfl)) rfl rfl (by decide) (fun _ => F.bindsN fun kV doc pm an cdv ct us hl => by
    match us, hl with
    | [_, _, _, _], _ => rfl) .nil fun cdv A outer s H E cx => ?_
  exact (sss_cons (ss_set cx rfl (.inl rfl) (se_met ok.dt cx.ex.hu (se_var (pe_var rfl (.inl rfl))) se_non) rfl (.inr rfl))
  (sss_cons (ss_set cx rfl (.inl rfl) (se_lst (sl_cons (se_var (pe_var rfl (.inl rfl))) sl_nil stE_Name)) rfl (.inr rfl))
  (sss_cons (ss_set cx rfl (.inl rfl) (se_lst sl_nil) rfl (.inr rfl))
  (sss_cons (ss_while cx (st_cmp op_gt (v_gt ok.dt) (se_len ok.dt (se_var (pe_var rfl (.inl rfl))) ⟨rfl, fr_len ok⟩ rfl) (se_int rfl) (nomark _)) (sss_cons (ss_app (se_var (pe_var rfl (.inl rfl))) (se_var (pe_var rfl (.inl rfl))) rfl rfl rfl rfl rfl)
  (sss_cons (ss_set cx rfl (.inl rfl) (se_call cx.ex (f_first_ended W ok) (by decide) rfl (glo_first_ended ok) (ok.kp 70 rfl) (sl_cons (se_var (pe_var rfl (.inl rfl))) (sl_cons (se_var (pe_var rfl (.inl rfl))) sl_nil stE_Name) stE_Name) rfl (by decide) rfl rfl) rfl (.inr rfl))
  (sss_cons (ss_iff (st_cmp op_gt (v_gt ok.dt) (se_len ok.dt (se_var (pe_var rfl (.inl rfl))) ⟨rfl, fr_len ok⟩ rfl) (se_int rfl) (nomark _)) (sss_cons (ss_ret (se_tup (sl_cons (se_str (cs := [102, 111, 117, 110, 100]) (by kernel_rfl) (by kernel_rfl)) (sl_cons (se_call cx.ex (f_row_to W ok) (by decide) rfl (glo_row_to ok) (ok.kp 71 rfl) (sl_cons (se_idx ok.dt cx.ex.hu (se_var (pe_var rfl (.inl rfl))) (se_int rfl) (fun _ _ => rfl)) (sl_cons (se_var (pe_var rfl (.inl rfl))) sl_nil stE_Name) stE_Subscript) rfl (by decide) rfl rfl) (sl_cons (se_var (pe_var rfl (.inl rfl))) sl_nil stE_Name) stE_Call) stE_Constant)))
  sss_nil) sss_nil)
  (sss_cons (ss_set cx rfl (.inl rfl) (se_call cx.ex (f_next_layer W ok) (by decide) rfl (glo_next_layer ok) (ok.kp 69 rfl) (sl_cons (se_var (pe_var rfl (.inl rfl))) (sl_cons (se_var (pe_var rfl (.inl rfl))) (sl_cons (se_var (pe_var rfl (.inl rfl))) (sl_cons (se_var (pe_var rfl (.inl rfl))) sl_nil stE_Name) stE_Name) stE_Name) stE_Name) rfl (by decide) rfl rfl) rfl (.inr rfl))
  sss_nil)))))
  (sss_cons (ss_ret (se_tup (sl_cons (se_str (cs := [99, 108, 111, 115, 101, 100]) (by kernel_rfl) (by kernel_rfl)) (sl_cons (se_var (pe_var rfl (.inl rfl))) sl_nil stE_Name) stE_Constant)))
  sss_nil)))))
theorem f_look (W : Wd) (ok : WdOk W) : FnC clos W.D W.P W.w W.K W.mg W.base 12 (He.fAd W.K d_look.at_) 4 c_look [] [] := by
  obtain ⟨fd, F⟩ := ok.def_ 77 (d := d_look) rfl
  refine fnC (W := W) (N := [(PySem.Str.ofString "canal"), (PySem.Str.ofString "ways"), (PySem.Str.ofString "state"), (PySem.Str.ofString "most"), (PySem.Str.ofString "told")]) (ps := [(PySem.Str.ofString "canal"), (PySem.Str.ofString "ways"), (PySem.Str.ofString "state"), (PySem.Str.ofString "most")]) (d := d_look) (k := 11) F (C8.fnScope_by (by kernel_rfl)) rfl rfl (by decide) (fun _ => F.bindsN fun kV doc pm an cdv ct us hl => by
    match us, hl with
    | [_, _, _, _], _ => rfl) .nil fun cdv A outer s H E cx => ?_
  exact (sss_cons (ss_set cx rfl (.inl rfl) (se_call cx.ex (f_layered W ok) (by decide) rfl (glo_layered ok) (ok.kp 72 rfl) (sl_cons (se_var (pe_var rfl (.inl rfl))) (sl_cons (se_call cx.ex (f_choices_in W ok) (by decide) rfl (glo_choices_in ok) (ok.kp 73 rfl) (sl_cons (se_var (pe_var rfl (.inl rfl))) (sl_cons (se_var (pe_var rfl (.inl rfl))) sl_nil stE_Name) stE_Name) rfl (by decide) rfl rfl) (sl_cons (se_call cx.ex (f_home_in W ok) (by decide) rfl (glo_home_in ok) (ok.kp 74 rfl) (sl_cons (se_var (pe_var rfl (.inl rfl))) sl_nil stE_Name) rfl (by decide) rfl rfl) (sl_cons (se_var (pe_var rfl (.inl rfl))) sl_nil stE_Name) stE_Call) stE_Call) stE_Name) rfl (by decide) rfl rfl) rfl (.inr rfl))
  (sss_cons (ss_iff (st_cmp (op_eqAll ok.dt cx.ex.hu) (v_eq ok.dt) (se_idx ok.dt cx.ex.hu (se_var (pe_var rfl (.inl rfl))) (se_int rfl) (fun _ _ => rfl)) (se_str (cs := [102, 111, 117, 110, 100]) (by kernel_rfl) (by kernel_rfl)) (nomark _)) (sss_cons (ss_ret (se_tup (sl_cons (se_str (cs := [104, 111, 109, 101]) (by kernel_rfl) (by kernel_rfl)) (sl_cons (se_idx ok.dt cx.ex.hu (se_var (pe_var rfl (.inl rfl))) (se_int rfl) (fun _ _ => rfl)) (sl_cons (se_idx ok.dt cx.ex.hu (se_var (pe_var rfl (.inl rfl))) (se_int rfl) (fun _ _ => rfl)) sl_nil stE_Subscript) stE_Subscript) stE_Constant)))
  sss_nil) sss_nil)
  (sss_cons (ss_ret (se_tup (sl_cons (se_str (cs := [100, 111, 111, 109, 101, 100]) (by kernel_rfl) (by kernel_rfl)) (sl_cons (se_idx ok.dt cx.ex.hu (se_var (pe_var rfl (.inl rfl))) (se_int rfl) (fun _ _ => rfl)) sl_nil stE_Subscript) stE_Constant)))
  sss_nil)))
theorem f_look_for_knot (W : Wd) (ok : WdOk W) : FnC clos W.D W.P W.w W.K W.mg W.base 12 (He.fAd W.K d_look_for_knot.at_) 4 c_look_for_knot [] [] := by
  obtain ⟨fd, F⟩ := ok.def_ 78 (d := d_look_for_knot) rfl
  refine fnC (W := W) (N := [(PySem.Str.ofString "canal"), (PySem.Str.ofString "ways"), (PySem.Str.ofString "state"), (PySem.Str.ofString "most"), (PySem.Str.ofString "told")]) (ps := [(PySem.Str.ofString "canal"), (PySem.Str.ofString "ways"), (PySem.Str.ofString "state"), (PySem.Str.ofString "most")]) (d := d_look_for_knot) (k := 11) F (C8.fnScope_by (by kernel_rfl)) rfl rfl (by decide) (fun _ => F.bindsN fun kV doc pm an cdv ct us hl => by
    match us, hl with
    | [_, _, _, _], _ => rfl) .nil fun cdv A outer s H E cx => ?_
  exact (sss_cons (ss_set cx rfl (.inl rfl) (se_call cx.ex (f_layered W ok) (by decide) rfl (glo_layered ok) (ok.kp 72 rfl) (sl_cons (se_var (pe_var rfl (.inl rfl))) (sl_cons (se_call cx.ex (f_choices_in W ok) (by decide) rfl (glo_choices_in ok) (ok.kp 73 rfl) (sl_cons (se_var (pe_var rfl (.inl rfl))) (sl_cons (se_var (pe_var rfl (.inl rfl))) sl_nil stE_Name) stE_Name) rfl (by decide) rfl rfl) (sl_cons (se_call cx.ex (f_knot_in W ok) (by decide) rfl (glo_knot_in ok) (ok.kp 76 rfl) (sl_cons (se_var (pe_var rfl (.inl rfl))) (sl_cons (se_var (pe_var rfl (.inl rfl))) sl_nil stE_Name) stE_Name) rfl (by decide) rfl rfl) (sl_cons (se_var (pe_var rfl (.inl rfl))) sl_nil stE_Name) stE_Call) stE_Call) stE_Name) rfl (by decide) rfl rfl) rfl (.inr rfl))
  (sss_cons (ss_iff (st_cmp (op_eqAll ok.dt cx.ex.hu) (v_eq ok.dt) (se_idx ok.dt cx.ex.hu (se_var (pe_var rfl (.inl rfl))) (se_int rfl) (fun _ _ => rfl)) (se_str (cs := [102, 111, 117, 110, 100]) (by kernel_rfl) (by kernel_rfl)) (nomark _)) (sss_cons (ss_ret (se_tup (sl_cons (se_str (cs := [107, 110, 111, 116]) (by kernel_rfl) (by kernel_rfl)) (sl_cons (se_idx ok.dt cx.ex.hu (se_var (pe_var rfl (.inl rfl))) (se_int rfl) (fun _ _ => rfl)) (sl_cons (se_idx ok.dt cx.ex.hu (se_var (pe_var rfl (.inl rfl))) (se_int rfl) (fun _ _ => rfl)) sl_nil stE_Subscript) stE_Subscript) stE_Constant)))
  sss_nil) sss_nil)
  (sss_cons (ss_ret (se_tup (sl_cons (se_str (cs := [102, 114, 101, 101]) (by kernel_rfl) (by kernel_rfl)) (sl_cons (se_idx ok.dt cx.ex.hu (se_var (pe_var rfl (.inl rfl))) (se_int rfl) (fun _ _ => rfl)) sl_nil stE_Subscript) stE_Constant)))
  sss_nil)))
theorem f_Keeper_init (W : Wd) (ok : WdOk W) : FnC clos W.D W.P W.w W.K W.mg W.base 13 (He.fAd W.K d_Keeper_init.at_) 3 c_Keeper_init [] [] := by
  obtain ⟨fd, F⟩ := ok.def_ 79 (d := d_Keeper_init) rfl
  refine fnC (W := W) (N := [(PySem.Str.ofString "self"), (PySem.Str.ofString "book"), (PySem.Str.ofString "most"), (PySem.Str.ofString "found")]) (ps := [(PySem.Str.ofString "self"), (PySem.Str.ofString "book"), (PySem.Str.ofString "most")]) (d := d_Keeper_init) (k := 12) F (C8.fnScope_by (by kernel_rfl)) rfl rfl (by decide) (fun _ => binds_all F (List.cons_ne_nil _ _) fun T kV doc pm an cdv ct us its hl hi => by
    match us, hl with
    | [_, _, _], _ => exact ⟨_, rfl, by match its, hi with | [_], _ => rfl⟩) .nil fun cdv A outer s H E cx => ?_
  exact (sss_cons (ss_setF ok.dt ok.kk (by decide) (fld_kept ok) (se_var (pe_var rfl (.inl rfl))) (se_meth0 cx.ex (f_Book_copied W ok) (by decide) (met_Book_copied ok) (se_var (pe_var rfl (.inl rfl))) rfl) rfl)
  (sss_cons (ss_setF ok.dt ok.kk (by decide) (fld_bound ok) (se_var (pe_var rfl (.inl rfl))) (se_var (pe_var rfl (.inl rfl))) rfl)
  (sss_cons (ss_set cx rfl (.inl rfl) (se_call cx.ex (f_look W ok) (by decide) rfl (glo_look ok) (ok.kp 77 rfl) (sl_cons (se_meth0 cx.ex (f_Book_canal W ok) (by decide) (met_Book_canal ok) (se_attr ok.dt ok.kk (by decide) (fld_kept ok) (se_var (pe_var rfl (.inl rfl))) rfl) rfl) (sl_cons (se_meth0 cx.ex (f_Book_ways W ok) (by decide) (met_Book_ways ok) (se_attr ok.dt ok.kk (by decide) (fld_kept ok) (se_var (pe_var rfl (.inl rfl))) rfl) rfl) (sl_cons (se_meth0 cx.ex (f_Book_state W ok) (by decide) (met_Book_state ok) (se_attr ok.dt ok.kk (by decide) (fld_kept ok) (se_var (pe_var rfl (.inl rfl))) rfl) rfl) (sl_cons (se_var (pe_var rfl (.inl rfl))) sl_nil stE_Name) stE_Call) stE_Call) stE_Call) rfl (by decide) rfl rfl) rfl (.inr rfl))
  (sss_cons (ss_iff (st_cmp (op_eqAll ok.dt cx.ex.hu) (v_eq ok.dt) (se_idx ok.dt cx.ex.hu (se_var (pe_var rfl (.inl rfl))) (se_int rfl) (fun _ _ => rfl)) (se_str (cs := [100, 111, 111, 109, 101, 100]) (by kernel_rfl) (by kernel_rfl)) (nomark _)) (sss_cons (ss_raise cx (raise_Torn ok rfl rfl))
  sss_nil) sss_nil)
  (sss_cons (ss_setF ok.dt ok.kk (by decide) (fld_coming ok) (se_var (pe_var rfl (.inl rfl))) (se_list (se_idx ok.dt cx.ex.hu (se_var (pe_var rfl (.inl rfl))) (se_int rfl) (fun _ _ => rfl)) ⟨rfl, fr_list ok⟩ rfl) rfl)
  sss_nil)))))
theorem f_Keeper_wish (W : Wd) (ok : WdOk W) : FnC clos W.D W.P W.w W.K W.mg W.base 13 (He.fAd W.K d_Keeper_wish.at_) 2 c_Keeper_wish [] [] := by
  obtain ⟨fd, F⟩ := ok.def_ 84 (d := d_Keeper_wish) rfl
  refine fnC (W := W) (N := [(PySem.Str.ofString "self"), (PySem.Str.ofString "entry"), (PySem.Str.ofString "word"), (PySem.Str.ofString "beyond"), (PySem.Str.ofString "found")]) (ps := [(PySem.Str.ofString "self"), (PySem.Str.ofString "entry")]) (d := d_Keeper_wish) (k := 12) F (C8.fnScope_by (by kernel_rfl)) rfl rfl (by decide) (fun _ => F.bindsN fun kV doc pm an cdv ct us hl => by
    match us, hl with
    | [_, _], _ => rfl) .nil fun cdv A outer s H E cx => ?_
  exact (sss_cons (ss_set cx rfl (.inl rfl) (se_meth cx.ex (f_Book_fault W ok) (by decide) (met_Book_fault ok) (se_attr ok.dt ok.kk (by decide) (fld_kept ok) (se_var (pe_var rfl (.inl rfl))) rfl) (sl_cons (se_var (pe_var rfl (.inl rfl))) sl_nil stE_Name) rfl rfl rfl rfl) rfl (.inr rfl))
  (sss_cons (ss_iff (st_cmp (op_neAll ok.dt cx.ex.hu) (v_ne ok.dt) (se_var (pe_var rfl (.inl rfl))) (se_str (cs := []) (by kernel_rfl) (by kernel_rfl)) (nomark _)) (sss_cons (ss_ret (se_tup (sl_cons (se_str (cs := [110, 111, 116]) (by kernel_rfl) (by kernel_rfl)) (sl_cons (se_var (pe_var rfl (.inl rfl))) sl_nil stE_Name) stE_Constant)))
  sss_nil) sss_nil)
  (sss_cons (ss_iff (st_cmp (op_eqAll ok.dt cx.ex.hu) (v_eq ok.dt) (se_idx ok.dt cx.ex.hu (se_var (pe_var rfl (.inl rfl))) (se_int rfl) (fun _ _ => rfl)) (se_str (cs := [114, 97, 105, 110]) (by kernel_rfl) (by kernel_rfl)) (nomark _)) (sss_cons (ss_ret (se_meth cx.ex (f_Keeper_taken W ok) (by decide) (met_Keeper_taken ok) (se_var (pe_var rfl (.inl rfl))) (sl_cons (se_var (pe_var rfl (.inl rfl))) (sl_cons (se_attr ok.dt ok.kk (by decide) (fld_coming ok) (se_var (pe_var rfl (.inl rfl))) rfl) sl_nil stE_Attribute) stE_Name) rfl rfl rfl rfl))
  sss_nil) sss_nil)
  (sss_cons (ss_iff (st_val (se_meth cx.ex (f_Keeper_begins_with W ok) (by decide) (met_Keeper_begins_with ok) (se_var (pe_var rfl (.inl rfl))) (sl_cons (se_var (pe_var rfl (.inl rfl))) sl_nil stE_Name) rfl rfl rfl rfl) (fun _ => rfl)) (sss_cons (ss_ret (se_meth cx.ex (f_Keeper_taken W ok) (by decide) (met_Keeper_taken ok) (se_var (pe_var rfl (.inl rfl))) (sl_cons (se_var (pe_var rfl (.inl rfl))) (sl_cons (se_slc ok.dt (se_attr ok.dt ok.kk (by decide) (fld_coming ok) (se_var (pe_var rfl (.inl rfl))) rfl) (se_int rfl) True.intro) sl_nil stE_Subscript) stE_Name) rfl rfl rfl rfl))
  sss_nil) sss_nil)
  (sss_cons (ss_set cx rfl (.inl rfl) (se_meth cx.ex (f_Book_behind W ok) (by decide) (met_Book_behind ok) (se_attr ok.dt ok.kk (by decide) (fld_kept ok) (se_var (pe_var rfl (.inl rfl))) rfl) (sl_cons (se_var (pe_var rfl (.inl rfl))) sl_nil stE_Name) rfl rfl rfl rfl) rfl (.inr rfl))
  (sss_cons (ss_set cx rfl (.inl rfl) (se_call cx.ex (f_look W ok) (by decide) rfl (glo_look ok) (ok.kp 77 rfl) (sl_cons (se_meth0 cx.ex (f_Book_canal W ok) (by decide) (met_Book_canal ok) (se_attr ok.dt ok.kk (by decide) (fld_kept ok) (se_var (pe_var rfl (.inl rfl))) rfl) rfl) (sl_cons (se_idx ok.dt cx.ex.hu (se_var (pe_var rfl (.inl rfl))) (se_int rfl) (fun _ _ => rfl)) (sl_cons (se_idx ok.dt cx.ex.hu (se_var (pe_var rfl (.inl rfl))) (se_int rfl) (fun _ _ => rfl)) (sl_cons (se_attr ok.dt ok.kk (by decide) (fld_bound ok) (se_var (pe_var rfl (.inl rfl))) rfl) sl_nil stE_Attribute) stE_Subscript) stE_Subscript) stE_Call) rfl (by decide) rfl rfl) rfl (.inr rfl))
  (sss_cons (ss_iff (st_cmp (op_eqAll ok.dt cx.ex.hu) (v_eq ok.dt) (se_idx ok.dt cx.ex.hu (se_var (pe_var rfl (.inl rfl))) (se_int rfl) (fun _ _ => rfl)) (se_str (cs := [100, 111, 111, 109, 101, 100]) (by kernel_rfl) (by kernel_rfl)) (nomark _)) (sss_cons (ss_ret (se_tup (sl_cons (se_str (cs := [110, 111]) (by kernel_rfl) (by kernel_rfl)) (sl_cons (se_idx ok.dt cx.ex.hu (se_var (pe_var rfl (.inl rfl))) (se_int rfl) (fun _ _ => rfl)) sl_nil stE_Subscript) stE_Constant)))
  sss_nil) sss_nil)
  (sss_cons (ss_ret (se_meth cx.ex (f_Keeper_taken W ok) (by decide) (met_Keeper_taken ok) (se_var (pe_var rfl (.inl rfl))) (sl_cons (se_var (pe_var rfl (.inl rfl))) (sl_cons (se_idx ok.dt cx.ex.hu (se_var (pe_var rfl (.inl rfl))) (se_int rfl) (fun _ _ => rfl)) sl_nil stE_Subscript) stE_Name) rfl rfl rfl rfl))
  sss_nil))))))))
theorem f_Keeper_work (W : Wd) (ok : WdOk W) : FnC clos W.D W.P W.w W.K W.mg W.base 14 (He.fAd W.K d_Keeper_work.at_) 1 c_Keeper_work [] [] := by
  obtain ⟨fd, F⟩ := ok.def_ 85 (d := d_Keeper_work) rfl
  refine fnC (W := W) (N := [(PySem.Str.ofString "self"), (PySem.Str.ofString "deed"), (PySem.Str.ofString "canal")]) (ps := [(PySem.Str.ofString "self")]) (d := d_Keeper_work) (k := 13) F (C8.fnScope_by (by kernel_rfl)) rfl rfl (by decide) (fun _ => F.bindsN fun kV doc pm an cdv ct us hl => by
    match us, hl with
    | [_], _ => rfl) .nil fun cdv A outer s H E cx => ?_
  exact (sss_cons (ss_iff (st_cmp (op_eqAll ok.dt cx.ex.hu) (v_eq ok.dt) (se_len ok.dt (se_attr ok.dt ok.kk (by decide) (fld_coming ok) (se_var (pe_var rfl (.inl rfl))) rfl) ⟨rfl, fr_len ok⟩ rfl) (se_int rfl) (nomark _)) (sss_cons (ss_ret (se_tup (sl_cons (se_str (cs := [110, 111, 116]) (by kernel_rfl) (by kernel_rfl)) (sl_cons (se_str (cs := [100, 111, 110, 101]) (by kernel_rfl) (by kernel_rfl)) sl_nil stE_Constant) stE_Constant)))
  sss_nil) sss_nil)
  (sss_cons (ss_set cx rfl (.inl rfl) (se_idx ok.dt cx.ex.hu (se_attr ok.dt ok.kk (by decide) (fld_coming ok) (se_var (pe_var rfl (.inl rfl))) rfl) (se_int rfl) (fun _ _ => rfl)) rfl (.inr rfl))
  (sss_cons (ss_set cx rfl (.inl rfl) (se_meth0 cx.ex (f_Book_canal W ok) (by decide) (met_Book_canal ok) (se_attr ok.dt ok.kk (by decide) (fld_kept ok) (se_var (pe_var rfl (.inl rfl))) rfl) rfl) rfl (.inr rfl))
  (sss_cons (ss_iff (st_cmp (op_eqAll ok.dt cx.ex.hu) (v_eq ok.dt) (se_idx ok.dt cx.ex.hu (se_var (pe_var rfl (.inl rfl))) (se_int rfl) (fun _ _ => rfl)) (se_str (cs := [112, 97, 115, 115]) (by kernel_rfl) (by kernel_rfl)) (nomark _)) (sss_cons (ss_ret (se_meth cx.ex (f_Keeper_wish W ok) (by decide) (met_Keeper_wish ok) (se_var (pe_var rfl (.inl rfl))) (sl_cons (se_tup (sl_cons (se_str (cs := [112, 97, 115, 115]) (by kernel_rfl) (by kernel_rfl)) (sl_cons (se_idx ok.dt cx.ex.hu (se_meth0 cx.ex (f_Book_names W ok) (by decide) (met_Book_names ok) (se_attr ok.dt ok.kk (by decide) (fld_kept ok) (se_var (pe_var rfl (.inl rfl))) rfl) rfl) (se_idx ok.dt cx.ex.hu (se_var (pe_var rfl (.inl rfl))) (se_int rfl) (fun _ _ => rfl)) (fun _ _ => rfl)) sl_nil stE_Subscript) stE_Constant)) sl_nil stE_Tuple) rfl rfl rfl rfl))
  sss_nil) sss_nil)
  (sss_cons (ss_iff (st_cmp (op_eqAll ok.dt cx.ex.hu) (v_eq ok.dt) (se_idx ok.dt cx.ex.hu (se_var (pe_var rfl (.inl rfl))) (se_int rfl) (fun _ _ => rfl)) (se_str (cs := [108, 101, 116]) (by kernel_rfl) (by kernel_rfl)) (nomark _)) (sss_cons (ss_ret (se_meth cx.ex (f_Keeper_wish W ok) (by decide) (met_Keeper_wish ok) (se_var (pe_var rfl (.inl rfl))) (sl_cons (se_tup (sl_cons (se_str (cs := [108, 101, 116]) (by kernel_rfl) (by kernel_rfl)) (sl_cons (se_attr ok.dt ok.kk (by decide) (fld_name ok) (se_idx ok.dt cx.ex.hu (se_attr ok.dt ok.kk (by decide) (fld_locks ok) (se_var (pe_var rfl (.inl rfl))) rfl) (se_idx ok.dt cx.ex.hu (se_var (pe_var rfl (.inl rfl))) (se_int rfl) (fun _ _ => rfl)) (fun _ _ => rfl)) rfl) sl_nil stE_Attribute) stE_Constant)) sl_nil stE_Tuple) rfl rfl rfl rfl))
  sss_nil) sss_nil)
  (sss_cons (ss_ret (se_meth cx.ex (f_Keeper_wish W ok) (by decide) (met_Keeper_wish ok) (se_var (pe_var rfl (.inl rfl))) (sl_cons (se_tup (sl_cons (se_str (cs := [110, 105, 103, 104, 116]) (by kernel_rfl) (by kernel_rfl)) (sl_cons (se_tuple (se_idx ok.dt cx.ex.hu (se_attr ok.dt ok.kk (by decide) (fld_nights ok) (se_var (pe_var rfl (.inl rfl))) rfl) (se_idx ok.dt cx.ex.hu (se_meth0 cx.ex (f_Book_state W ok) (by decide) (met_Book_state ok) (se_attr ok.dt ok.kk (by decide) (fld_kept ok) (se_var (pe_var rfl (.inl rfl))) rfl) rfl) (se_int rfl) (fun _ _ => rfl)) (fun _ _ => rfl)) ⟨rfl, fr_tuple ok⟩ rfl) sl_nil stE_Call) stE_Constant)) sl_nil stE_Tuple) rfl rfl rfl rfl))
  sss_nil))))))
theorem f_House_init (W : Wd) (ok : WdOk W) : FnC clos W.D W.P W.w W.K W.mg W.base 15 (He.fAd W.K d_House_init.at_) 2 c_House_init [] [] := by
  obtain ⟨fd, F⟩ := ok.def_ 98 (d := d_House_init) rfl
  refine fnC (W := W) (N := [(PySem.Str.ofString "self"), (PySem.Str.ofString "text"), (PySem.Str.ofString "both")]) (ps := [(PySem.Str.ofString "self"), (PySem.Str.ofString "text")]) (d := d_House_init) (k := 14) F (C8.fnScope_by (by kernel_rfl)) rfl rfl (by decide) (fun _ => F.bindsN fun kV doc pm an cdv ct us hl => by
    match us, hl with
    | [_, _], _ => rfl) .nil fun cdv A outer s H E cx => ?_
  exact (sss_cons (ss_set cx rfl (.inl rfl) (se_call cx.ex (f_parted W ok) (by decide) rfl (glo_parted ok) (ok.kp 12 rfl) (sl_cons (se_var (pe_var rfl (.inl rfl))) sl_nil stE_Name) rfl (by decide) rfl rfl) rfl (.inr rfl))
  (sss_cons (ss_iff (st_cmp (op_eqAll ok.dt cx.ex.hu) (v_eq ok.dt) (se_idx ok.dt cx.ex.hu (se_var (pe_var rfl (.inl rfl))) (se_int rfl) (fun _ _ => rfl)) (se_lst sl_nil) (nomark _)) (sss_cons (ss_raise cx (raise_BadRow ok rfl rfl))
  sss_nil) sss_nil)
  (sss_cons (ss_setF ok.dt ok.kk (by decide) (fld_bound ok) (se_var (pe_var rfl (.inl rfl))) (se_call cx.ex (f_most_of W ok) (by decide) rfl (glo_most_of ok) (ok.kp 13 rfl) (sl_cons (se_idx ok.dt cx.ex.hu (se_idx ok.dt cx.ex.hu (se_var (pe_var rfl (.inl rfl))) (se_int rfl) (fun _ _ => rfl)) (se_int rfl) (fun _ _ => rfl)) sl_nil stE_Subscript) rfl (by decide) rfl rfl) rfl)
  (sss_cons (ss_thru (sss_cons (ss_setF ok.dt ok.kk (by decide) (fld_land ok) (se_var (pe_var rfl (.inl rfl))) (se_call cx.nox.ex (f_canal_of W ok) (by decide) rfl (glo_canal_of ok) (ok.kp 97 rfl) (sl_cons (se_idx ok.dt cx.nox.ex.hu (se_var (pe_var rfl (.inl rfl))) (se_int rfl) (fun _ _ => rfl)) sl_nil stE_Subscript) rfl (by decide) rfl rfl) rfl)
  sss_nil))
  (sss_cons (ss_setF ok.dt ok.kk (by decide) (fld_master ok) (se_var (pe_var rfl (.inl rfl))) (se_make cx.ex (f_Keeper_init W ok) (by decide) (by decide) (mkr_Keeper ok) rfl (cls_Keeper ok) (sl_cons (se_make cx.ex (f_Book_init W ok) (by decide) (by decide) (mkr_Book ok) rfl (cls_Book ok) (sl_cons (se_attr ok.dt ok.kk (by decide) (fld_land ok) (se_var (pe_var rfl (.inl rfl))) rfl) sl_nil stE_Attribute) rfl (by decide) rfl rfl) (sl_cons (se_attr ok.dt ok.kk (by decide) (fld_bound ok) (se_var (pe_var rfl (.inl rfl))) rfl) sl_nil stE_Attribute) stE_Call) rfl (by decide) rfl rfl) rfl)
  sss_nil)))))
theorem f_House_knots (W : Wd) (ok : WdOk W) : FnC clos W.D W.P W.w W.K W.mg W.base 13 (He.fAd W.K d_House_knots.at_) 1 c_House_knots [] [] := by
  obtain ⟨fd, F⟩ := ok.def_ 102 (d := d_House_knots) rfl
  refine fnC (W := W) (N := [(PySem.Str.ofString "self"), (PySem.Str.ofString "book"), (PySem.Str.ofString "found")]) (ps := [(PySem.Str.ofString "self")]) (d := d_House_knots) (k := 12) F (C8.fnScope_by (by kernel_rfl)) rfl rfl (by decide) (fun _ => F.bindsN fun kV doc pm an cdv ct us hl => by
    match us, hl with
    | [_], _ => rfl) .nil fun cdv A outer s H E cx => ?_
  exact (sss_cons (ss_set cx rfl (.inl rfl) (se_meth0 cx.ex (f_Keeper_book W ok) (by decide) (met_Keeper_book ok) (se_attr ok.dt ok.kk (by decide) (fld_master ok) (se_var (pe_var rfl (.inl rfl))) rfl) rfl) rfl (.inr rfl))
  (sss_cons (ss_set cx rfl (.inl rfl) (se_call cx.ex (f_look_for_knot W ok) (by decide) rfl (glo_look_for_knot ok) (ok.kp 78 rfl) (sl_cons (se_attr ok.dt ok.kk (by decide) (fld_land ok) (se_var (pe_var rfl (.inl rfl))) rfl) (sl_cons (se_meth0 cx.ex (f_Book_ways W ok) (by decide) (met_Book_ways ok) (se_var (pe_var rfl (.inl rfl))) rfl) (sl_cons (se_meth0 cx.ex (f_Book_state W ok) (by decide) (met_Book_state ok) (se_var (pe_var rfl (.inl rfl))) rfl) (sl_cons (se_attr ok.dt ok.kk (by decide) (fld_bound ok) (se_var (pe_var rfl (.inl rfl))) rfl) sl_nil stE_Attribute) stE_Call) stE_Call) stE_Attribute) rfl (by decide) rfl rfl) rfl (.inr rfl))
  (sss_cons (ss_iff (st_cmp (op_eqAll ok.dt cx.ex.hu) (v_eq ok.dt) (se_idx ok.dt cx.ex.hu (se_var (pe_var rfl (.inl rfl))) (se_int rfl) (fun _ _ => rfl)) (se_str (cs := [102, 114, 101, 101]) (by kernel_rfl) (by kernel_rfl)) (nomark _)) (sss_cons (ss_ret (se_bin op_addAll (v_add ok.dt) (se_str (cs := [102, 114, 101, 101, 32]) (by kernel_rfl) (by kernel_rfl)) (se_tostr ok.dt se_dead ⟨rfl, fr_str ok⟩ rfl)))
  sss_nil) sss_nil)
  (sss_cons (ss_ret (se_call cx.ex (f_worded W ok) (by decide) rfl (glo_worded ok) (ok.kp 10 rfl) (sl_cons (se_str (cs := [107, 110, 111, 116]) (by kernel_rfl) (by kernel_rfl)) (sl_cons (se_call cx.ex (f_deeds_shown W ok) (by decide) rfl (glo_deeds_shown ok) (ok.kp 9 rfl) (sl_cons (se_attr ok.dt ok.kk (by decide) (fld_land ok) (se_var (pe_var rfl (.inl rfl))) rfl) (sl_cons (se_meth0 cx.ex (f_Book_names W ok) (by decide) (met_Book_names ok) (se_var (pe_var rfl (.inl rfl))) rfl) (sl_cons (se_idx ok.dt cx.ex.hu (se_var (pe_var rfl (.inl rfl))) (se_int rfl) (fun _ _ => rfl)) sl_nil stE_Subscript) stE_Call) stE_Attribute) rfl (by decide) rfl rfl) sl_nil stE_Call) stE_Constant) rfl (by decide) rfl rfl))
  sss_nil))))
theorem f_House_reply (W : Wd) (ok : WdOk W) : FnC clos W.D W.P W.w W.K W.mg W.base 15 (He.fAd W.K d_House_reply.at_) 2 c_House_reply [] [] := by
  obtain ⟨fd, F⟩ := ok.def_ 103 (d := d_House_reply) rfl
  refine fnC (W := W) (N := [(PySem.Str.ofString "self"), (PySem.Str.ofString "row"), (PySem.Str.ofString "words")]) (ps := [(PySem.Str.ofString "self"), (PySem.Str.ofString "row")]) (d := d_House_reply) (k := 14) F (C8.fnScope_by (by kernel_rfl)) rfl rfl (by decide) (fun _ => F.bindsN fun kV doc pm an cdv ct us hl => by
    match us, hl with
    | [_, _], _ => rfl) .nil fun cdv A outer s H E cx => ?_
  exact (sss_cons (ss_set cx rfl (.inl rfl) (se_split ok.dt (se_var (pe_var rfl (.inl rfl))) (by kernel_rfl) rfl rfl rfl) rfl (.inr rfl))
  (sss_cons (ss_iff (st_cmp (op_eqAll ok.dt cx.ex.hu) (v_eq ok.dt) (se_var (pe_var rfl (.inl rfl))) (se_str (cs := [119, 111, 114, 107]) (by kernel_rfl) (by kernel_rfl)) (nomark _)) (sss_cons (ss_ret (se_meth cx.ex (f_House_answered W ok) (by decide) (met_House_answered ok) (se_var (pe_var rfl (.inl rfl))) (sl_cons (se_meth0 cx.ex (f_Keeper_work W ok) (by decide) (met_Keeper_work ok) (se_attr ok.dt ok.kk (by decide) (fld_master ok) (se_var (pe_var rfl (.inl rfl))) rfl) rfl) sl_nil stE_Call) rfl rfl rfl rfl))
  sss_nil) sss_nil)
  (sss_cons (ss_iff (st_cmp (op_eqAll ok.dt cx.ex.hu) (v_eq ok.dt) (se_var (pe_var rfl (.inl rfl))) (se_str (cs := [112, 108, 97, 110]) (by kernel_rfl) (by kernel_rfl)) (nomark _)) (sss_cons (ss_ret (se_call cx.ex (f_worded W ok) (by decide) rfl (glo_worded ok) (ok.kp 10 rfl) (sl_cons (se_str (cs := [112, 108, 97, 110]) (by kernel_rfl) (by kernel_rfl)) (sl_cons (se_meth0 cx.ex (f_House_planned W ok) (by decide) (met_House_planned ok) (se_var (pe_var rfl (.inl rfl))) rfl) sl_nil stE_Call) stE_Constant) rfl (by decide) rfl rfl))
  sss_nil) sss_nil)
  (sss_cons (ss_iff (st_cmp (op_eqAll ok.dt cx.ex.hu) (v_eq ok.dt) (se_var (pe_var rfl (.inl rfl))) (se_str (cs := [119, 97, 116, 101, 114, 115]) (by kernel_rfl) (by kernel_rfl)) (nomark _)) (sss_cons (ss_ret (se_meth0 cx.ex (f_House_waters W ok) (by decide) (met_House_waters ok) (se_var (pe_var rfl (.inl rfl))) rfl))
  sss_nil) sss_nil)
  (sss_cons (ss_iff (st_cmp (op_eqAll ok.dt cx.ex.hu) (v_eq ok.dt) (se_var (pe_var rfl (.inl rfl))) (se_str (cs := [107, 110, 111, 116, 115]) (by kernel_rfl) (by kernel_rfl)) (nomark _)) (sss_cons (ss_ret (se_meth0 cx.ex (f_House_knots W ok) (by decide) (met_House_knots ok) (se_var (pe_var rfl (.inl rfl))) rfl))
  sss_nil) sss_nil)
  (sss_cons (ss_iff (st_of (sw_and (st_cmp (op_eqAll ok.dt cx.ex.hu) (v_eq ok.dt) (se_idx ok.dt cx.ex.hu (se_var (pe_var rfl (.inl rfl))) (se_int rfl) (fun _ _ => rfl)) (se_str (cs := [97, 100, 118, 105, 99, 101]) (by kernel_rfl) (by kernel_rfl)) (nomark _)) (sw_and (st_cmp (op_eqAll ok.dt cx.ex.hu) (v_eq ok.dt) (se_len ok.dt (se_var (pe_var rfl (.inl rfl))) ⟨rfl, fr_len ok⟩ rfl) (se_int rfl) (nomark _)) (sw_and1 (st_val (se_isname (x := "is_name") ok.dt cx.ex (f_is_name W ok) (by decide) rfl (glo_is_name ok) (ok.kp 110 rfl) (se_idx ok.dt cx.ex.hu (se_var (pe_var rfl (.inl rfl))) (se_int rfl) (fun _ _ => rfl)) rfl (by decide)) (fun _ => rfl)))))) (sss_cons (ss_ret (se_call cx.ex (f_worded W ok) (by decide) rfl (glo_worded ok) (ok.kp 10 rfl) (sl_cons (se_str (cs := [97, 100, 118, 105, 99, 101]) (by kernel_rfl) (by kernel_rfl)) (sl_cons (se_join ok.dt (se_call cx.ex (f_advice W ok) (by decide) rfl (glo_advice ok) (ok.kp 7 rfl) (sl_cons (se_meth0 cx.ex (f_Keeper_book W ok) (by decide) (met_Keeper_book ok) (se_attr ok.dt ok.kk (by decide) (fld_master ok) (se_var (pe_var rfl (.inl rfl))) rfl) rfl) (sl_cons (se_idx ok.dt cx.ex.hu (se_var (pe_var rfl (.inl rfl))) (se_int rfl) (fun _ _ => rfl)) sl_nil stE_Subscript) stE_Call) rfl (by decide) rfl rfl) (by kernel_rfl) rfl rfl rfl) sl_nil stE_Call) stE_Constant) rfl (by decide) rfl rfl))
  sss_nil) sss_nil)
  (sss_cons (ss_ret (se_meth cx.ex (f_House_answered W ok) (by decide) (met_House_answered ok) (se_var (pe_var rfl (.inl rfl))) (sl_cons (se_meth cx.ex (f_Keeper_wish W ok) (by decide) (met_Keeper_wish ok) (se_attr ok.dt ok.kk (by decide) (fld_master ok) (se_var (pe_var rfl (.inl rfl))) rfl) (sl_cons (se_call cx.ex (f_entry_of W ok) (by decide) rfl (glo_entry_of ok) (ok.kp 68 rfl) (sl_cons (se_var (pe_var rfl (.inl rfl))) sl_nil stE_Name) rfl (by decide) rfl rfl) sl_nil stE_Call) rfl rfl rfl rfl) sl_nil stE_Call) rfl rfl rfl rfl))
  sss_nil)))))))
theorem f_House_ask (W : Wd) (ok : WdOk W) : FnC clos W.D W.P W.w W.K W.mg W.base 16 (He.fAd W.K d_House_ask.at_) 2 c_House_ask [] [] := by
  obtain ⟨fd, F⟩ := ok.def_ 104 (d := d_House_ask) rfl
  refine fnC (W := W) (N := [(PySem.Str.ofString "self"), (PySem.Str.ofString "row"), (PySem.Str.ofString "e")]) (ps := [(PySem.Str.ofString "self"), (PySem.Str.ofString "row")]) (d := d_House_ask) (k := 15) F (C8.fnScope_by (by kernel_rfl)) rfl rfl (by decide) (fun _ => F.bindsN fun kV doc pm an cdv ct us hl => by
    match us, hl with
    | [_, _], _ => rfl) .nil fun cdv A outer s H E cx => ?_
  exact (sss_cons (ss_try ok (rs_ok ok) (i := 2) rfl cx rfl rfl rfl rfl rfl rfl (fun _ _ _ cy => (se_meth cy (f_House_reply W ok) (by decide) (met_House_reply ok) (se_var (pe_var rfl (.inl rfl))) (sl_cons (se_var (pe_var rfl (.inl rfl))) sl_nil stE_Name) rfl rfl rfl rfl)))
  sss_nil)
end Ck
-- SG1
set_option Elab.async false
set_option linter.all false
set_option maxRecDepth 100000
set_option maxHeartbeats 4000000
set_option autoImplicit false
namespace Ck
open PySem PySem.Spec PyProof.Rows L2 Lk
theorem f__law_yes (W : Wd) (ok : WdOk W) : FnC clos W.D W.P W.w W.K W.mg W.base 17 (He.fAd W.K d__law_yes.at_) 2 c__law_yes [] [] := by
  obtain ⟨fd, F⟩ := ok.def_ 107 (d := d__law_yes) rfl
  refine fnC (W := W) (N := [(PySem.Str.ofString "house"), (PySem.Str.ofString "row"), (PySem.Str.ofString "found")]) (ps := [(PySem.Str.ofString "house"), (PySem.Str.ofString "row")]) (d := d__law_yes) (k := 16) F (C8.fnScope_by (by kernel_rfl)) rfl rfl (by decide) (fun _ => F.bindsN fun kV doc pm an cdv ct us hl => by
    match us, hl with
    | [_, _], _ => rfl) .nil fun cdv A outer s H E cx => ?_
  exact (sss_cons (ss_set cx rfl (.inl rfl) (se_meth cx.ex (f_House_ask W ok) (by decide) (met_House_ask ok) (se_var (pe_var rfl (.inl rfl))) (sl_cons (se_var (pe_var rfl (.inl rfl))) sl_nil stE_Name) rfl rfl rfl rfl) rfl (.inr rfl))
  (sss_cons (ss_ret (se_and (se_isstr (se_var (pe_var rfl (.inl rfl))) ⟨rfl, fr_isinstance ok⟩ ⟨rfl, fr_str ok⟩ rfl) (se_lone (se_cmp (op_eqAll ok.dt cx.ex.hu) (v_eq ok.dt) (se_slc ok.dt (se_var (pe_var rfl (.inl rfl))) True.intro (se_int rfl)) (se_str (cs := [121, 101, 115]) (by kernel_rfl) (by kernel_rfl)) (nomark _)))))
  sss_nil))
theorem f__law_begun (W : Wd) (ok : WdOk W) : FnC clos W.D W.P W.w W.K W.mg W.base 18 (He.fAd W.K d__law_begun.at_) 3 c__law_begun [] [] := by
  obtain ⟨fd, F⟩ := ok.def_ 108 (d := d__law_begun) rfl
  refine fnC (W := W) (N := [(PySem.Str.ofString "house"), (PySem.Str.ofString "n"), (PySem.Str.ofString "kind"), (PySem.Str.ofString "name")]) (ps := [(PySem.Str.ofString "house"), (PySem.Str.ofString "n"), (PySem.Str.ofString "kind")]) (d := d__law_begun) (k := 17) F (C8.fnScope_by (by kernel_rfl)) rfl rfl (by decide) (fun _ => F.bindsN fun kV doc pm an cdv ct us hl => by
    match us, hl with
    | [_, _, _], _ => rfl) .nil fun cdv A outer s H E cx => ?_
  exact (sss_cons (ss_iff (st_cmp (op_eqAll ok.dt cx.ex.hu) (v_eq ok.dt) (se_var (pe_var rfl (.inl rfl))) (se_int rfl) (nomark _)) (sss_cons (ss_for cx (si_lst (se_slc ok.dt (se_var (pe_var rfl (.inl rfl))) (se_int rfl) True.intro)) (pg_name cx.ex.nd rfl (.inl rfl) (.inr rfl)) (sss_cons (ss_iff (st_of (sw_or (st_not (st_val (se_call cx.ex (f__law_yes W ok) (by decide) rfl (glo__law_yes ok) (ok.kp 107 rfl) (sl_cons (se_var (pe_var rfl (.inl rfl))) (sl_cons (se_bin op_addAll (v_add ok.dt) (se_bin op_addAll (v_add ok.dt) (se_str (cs := [99, 111, 109, 101, 32]) (by kernel_rfl) (by kernel_rfl)) (se_var (pe_var rfl (.inl rfl)))) (se_call cx.ex (f__law_named W ok) (by decide) rfl (glo__law_named ok) (ok.kp 105 rfl) (sl_cons (se_str (cs := [32, 35, 48, 32, 35, 50, 32, 117, 112]) (by kernel_rfl) (by kernel_rfl)) (sl_cons (se_var (pe_var rfl (.inl rfl))) sl_nil stE_Name) stE_Constant) rfl (by decide) rfl rfl)) sl_nil stE_BinOp) stE_Name) rfl (by decide) rfl rfl) (fun _ => rfl))) (sw_or1 (st_not (st_val (se_call cx.ex (f__law_yes W ok) (by decide) rfl (glo__law_yes ok) (ok.kp 107 rfl) (sl_cons (se_var (pe_var rfl (.inl rfl))) (sl_cons (se_str (cs := [119, 111, 114, 107]) (by kernel_rfl) (by kernel_rfl)) sl_nil stE_Constant) stE_Name) rfl (by decide) rfl rfl) (fun _ => rfl)))))) (sss_cons (ss_ret se_bl)
  sss_nil) sss_nil)
  sss_nil) (fun _ => rfl))
  sss_nil) sss_nil)
  (sss_cons (ss_ret (se_or (se_cmp (op_eqAll ok.dt cx.ex.hu) (v_eq ok.dt) (se_var (pe_var rfl (.inl rfl))) (se_int rfl) (nomark _)) (se_lone (se_call cx.ex (f__law_yes W ok) (by decide) rfl (glo__law_yes ok) (ok.kp 107 rfl) (sl_cons (se_var (pe_var rfl (.inl rfl))) (sl_cons (se_call cx.ex (f__law_named W ok) (by decide) rfl (glo__law_named ok) (ok.kp 105 rfl) (sl_cons (se_str (cs := [99, 111, 109, 101, 32, 35, 52, 32, 35, 48, 32, 35, 50, 32, 117, 112]) (by kernel_rfl) (by kernel_rfl)) (sl_cons (se_var (pe_var rfl (.inl rfl))) sl_nil stE_Name) stE_Constant) rfl (by decide) rfl rfl) sl_nil stE_Call) stE_Name) rfl (by decide) rfl rfl))))
  sss_nil))
end Ck
-- LC
set_option Elab.async false
set_option linter.all false
set_option maxRecDepth 100000
set_option maxHeartbeats 1000000
set_option autoImplicit false
/-! LC: what the kernel's looks say; the garbage of a turn is forgotten. -/
namespace Ck
open PySem PySem.Spec PyProof.Rows L2
theorem eqPs_ok : ∀ {s t : List Pc}, eqAV.eqPs s t = true → s = t
  | [], [], _ => rfl
  | [], _ :: _, h => by cases h
  | _ :: _, [], h => by cases h
  | p :: s, q :: t, h => by
    have h : ((match (generalizing := false) p, q with
      | .l a, .l b => Nat.beq a b
      | .nm a, .nm b => Nat.beq a b
      | .num a b, .num c d => eqI a c && eqI b d
      | .hd a b, .hd c d => eqI a c && eqI b d
      | _, _ => false) && eqAV.eqPs s t) = true := h
    rw [Bool.and_eq_true] at h
    obtain ⟨h1, h2⟩ := h
    rw [eqPs_ok h2]
    cases p <;> cases q <;> first | cases h1 | skip
    · rw [nbeq.mp h1]
    · rw [nbeq.mp h1]
    · rw [Bool.and_eq_true, eqI_iff, eqI_iff] at h1
      rw [h1.1, h1.2]
    · rw [Bool.and_eq_true, eqI_iff, eqI_iff] at h1
      rw [h1.1, h1.2]
theorem eqAV_ok {a b : AV} (h : eqAV a b = true) : a = b := by
  cases a with
  | non => cases b <;> first | rfl | cases h
  | bl x => cases b with
    | bl y =>
      have h : (match (generalizing := false) x with | true => y | false => !y) = true := h
      cases x <;> cases y <;> first | rfl | cases h
    | _ => cases h
  | int c m => cases b with
    | int d k =>
      have h : (eqI c d && eqI m k) = true := h
      rw [Bool.and_eq_true, eqI_iff, eqI_iff] at h
      rw [h.1, h.2]
    | _ => cases h
  | str s => cases b with
    | str t => rw [eqPs_ok h]
    | _ => cases h
  | ref i => cases b with
    | ref j => rw [nbeq.mp h]
    | _ => cases h
  | scr => cases b <;> first | rfl | cases h
theorem eqAVs_ok : ∀ {s t : List AV}, eqAVs s t = true → s = t
  | [], [], _ => rfl
  | [], _ :: _, h => by cases h
  | _ :: _, [], h => by cases h
  | a :: s, b :: t, h => by
    have h : (eqAV a b && eqAVs s t) = true := h
    rw [Bool.and_eq_true] at h
    rw [eqAV_ok h.1, eqAVs_ok h.2]
theorem eqFs2_ok : ∀ {s t : List (Nat × AV)}, eqFs2 s t = true → s = t
  | [], [], _ => rfl
  | [], _ :: _, h => by cases h
  | _ :: _, [], h => by cases h
  | (f, a) :: s, (g, b) :: t, h => by
    have h : (Nat.beq f g && (eqAV a b && eqFs2 s t)) = true := h
    rw [Bool.and_eq_true, Bool.and_eq_true] at h
    rw [nbeq.mp h.1, eqAV_ok h.2.1, eqFs2_ok h.2.2]
theorem eqDs_ok : ∀ {s t : List (List Nat × AV)}, eqDs s t = true → s = t
  | [], [], _ => rfl
  | [], _ :: _, h => by cases h
  | _ :: _, [], h => by cases h
  | (f, a) :: s, (g, b) :: t, h => by
    have h : (eqN f g && (eqAV a b && eqDs s t)) = true := h
    rw [Bool.and_eq_true, Bool.and_eq_true, eqN_eq] at h
    rw [h.1, eqAV_ok h.2.1, eqDs_ok h.2.2]
theorem eqMs_ok : ∀ {s t : List (AV × AV)}, eqMs s t = true → s = t
  | [], [], _ => rfl
  | [], _ :: _, h => by cases h
  | _ :: _, [], h => by cases h
  | (f, a) :: s, (g, b) :: t, h => by
    have h : (eqAV f g && (eqAV a b && eqMs s t)) = true := h
    rw [Bool.and_eq_true, Bool.and_eq_true] at h
    rw [eqAV_ok h.1, eqAV_ok h.2.1, eqMs_ok h.2.2]
theorem eqAO_ok {a b : AO} (h : eqAO a b = true) : a = b := by
  cases a with
  | lst x => cases b with
    | lst y => rw [eqAVs_ok h]
    | _ => cases h
  | tup x => cases b with
    | tup y => rw [eqAVs_ok h]
    | _ => cases h
  | dct x => cases b with
    | dct y => rw [eqDs_ok h]
    | _ => cases h
  | met x => cases b with
    | met y => rw [eqMs_ok h]
    | _ => cases h
  | ins C x => cases b with
    | ins D y =>
      have h : (Nat.beq C D && eqFs2 x y) = true := h
      rw [Bool.and_eq_true] at h
      rw [nbeq.mp h.1, eqFs2_ok h.2]
    | _ => cases h
  | clo w x => cases b with
    | clo v y =>
      have h : (Nat.beq w v && eqAVs x y) = true := h
      rw [Bool.and_eq_true] at h
      rw [nbeq.mp h.1, eqAVs_ok h.2]
    | _ => cases h
  | sus => cases b <;> cases h
theorem trLe_ok : ∀ {t t' : Tr}, trLe t t' = true → ∀ {i : Nat} {o : AO}, t.get i = some o → t'.get i = some o
  | .e, _, _, i, o, e => by cases e
  | .n l v r, .e, h, i, o, e => by cases h
  | .n l v r, .n l' v' r', h, i, o, e => by
    have h : ((match (generalizing := false) v with
      | none => true
      | some o => (match (generalizing := false) v' with
        | some o' => eqAO o o'
        | none => false)) && (trLe l l' && trLe r r')) = true := h
    rw [Bool.and_eq_true, Bool.and_eq_true] at h
    obtain ⟨h1, h2, h3⟩ := h
    rw [get_n] at e ⊢
    by_cases z : i = 0
    · rw [if_pos z] at e ⊢
      subst e
      cases v' with
      | none => cases h1
      | some o' =>
        have h1 : eqAO o o' = true := h1
        rw [eqAO_ok h1]
    · rw [if_neg z] at e ⊢
      by_cases y : i % 2 = 1
      · rw [if_pos y] at e ⊢
        exact trLe_ok h2 e
      · rw [if_neg y] at e ⊢
        exact trLe_ok h3 e
theorem inTr_ok {n : Nat} : ∀ {t : Tr}, inTr n t = true → ∀ {i : Nat} {o : AO}, t.get i = some o → inAO n o = true
  | .e, _, i, o, e => by cases e
  | .n l v r, h, i, o, e => by
    have h : ((match (generalizing := false) v with
      | some o => inAO n o
      | none => true) && (inTr n l && inTr n r)) = true := h
    rw [Bool.and_eq_true, Bool.and_eq_true] at h
    obtain ⟨h1, h2, h3⟩ := h
    rw [get_n] at e
    by_cases z : i = 0
    · rw [if_pos z] at e
      subst e
      exact h1
    · rw [if_neg z] at e
      by_cases y : i % 2 = 1
      · rw [if_pos y] at e
        exact inTr_ok h2 e
      · rw [if_neg y] at e
        exact inTr_ok h3 e
section
variable {D : Dt} {P : Program} {w : World} {rh more : Rh} {H : Hp} {a : Addr}
theorem VR.less {x : AV} {v : V} (r : VR D (rh ++ more) x v) (h : inAV rh.length x = true) : VR D rh x v := by
  cases x with
  | ref i =>
    obtain ⟨b, e, h2⟩ := r
    have h : Nat.blt i rh.length = true := h
    exact ⟨b, e, by rw [List.getElem?_append_left (nblt.mp h)] at h2; exact h2⟩
  | _ => exact r
theorem VRs.less : ∀ {xs : List AV} {vs : List V}, VRs D (rh ++ more) xs vs → inAVs rh.length xs = true → VRs D rh xs vs
  | _, _, .nil, _ => .nil
  | x :: xs, _, .cons r t, h => by
    have h : (inAV rh.length x && inAVs rh.length xs) = true := h
    rw [Bool.and_eq_true] at h
    exact .cons (r.less h.1) (VRs.less t h.2)
theorem inFs_mem {n : Nat} : ∀ {s : List (Nat × AV)}, inFs n s = true → ∀ p ∈ s, inAV n p.2 = true
  | (f, a) :: s, h, p, hp => by
    have h : (inAV n a && inFs n s) = true := h
    rw [Bool.and_eq_true] at h
    rcases List.mem_cons.mp hp with e | hp
    · rw [e]; exact h.1
    · exact inFs_mem h.2 p hp
theorem inDs_mem {n : Nat} : ∀ {s : List (List Nat × AV)}, inDs n s = true → ∀ p ∈ s, inAV n p.2 = true
  | (f, a) :: s, h, p, hp => by
    have h : (inAV n a && inDs n s) = true := h
    rw [Bool.and_eq_true] at h
    rcases List.mem_cons.mp hp with e | hp
    · rw [e]; exact h.1
    · exact inDs_mem h.2 p hp
theorem inMs_mem {n : Nat} : ∀ {s : List (AV × AV)}, inMs n s = true → ∀ p ∈ s, inAV n p.1 = true ∧ inAV n p.2 = true
  | (f, a) :: s, h, p, hp => by
    have h : (inAV n f && (inAV n a && inMs n s)) = true := h
    rw [Bool.and_eq_true, Bool.and_eq_true] at h
    rcases List.mem_cons.mp hp with e | hp
    · rw [e]; exact ⟨h.1, h.2.1⟩
    · exact inMs_mem h.2.2 p hp
theorem inAVs_mem {n : Nat} : ∀ {s : List AV}, inAVs n s = true → ∀ p ∈ s, inAV n p = true
  | a :: s, h, p, hp => by
    have h : (inAV n a && inAVs n s) = true := h
    rw [Bool.and_eq_true] at h
    rcases List.mem_cons.mp hp with e | hp
    · rw [e]; exact h.1
    · exact inAVs_mem h.2 p hp
theorem pr_monoM {α β : Type} {F G : α → β → Prop} : ∀ {xs : List α} {ys : List β}, (∀ a ∈ xs, ∀ b, F a b → G a b) → Paired F xs ys → Paired G xs ys
  | _, _, _, .nil => .nil
  | _, _, f, .cons r t => .cons (f _ List.mem_cons_self _ r) (pr_monoM (fun a h => f a (List.mem_cons_of_mem _ h)) t)
theorem OR.less {o : AO} {ho : HO} (r : OR D P w (rh ++ more) H a o ho) (h : inAO rh.length o = true) : OR D P w rh H a o ho := by
  cases o with
  | lst xs => obtain ⟨vs, h1, h2⟩ := r; exact ⟨vs, h1, h2.less h⟩
  | tup xs => obtain ⟨vs, h1, h2⟩ := r; exact ⟨vs, h1, h2.less h⟩
  | dct kvs =>
    obtain ⟨ks, h1, h2⟩ := r
    exact ⟨ks, h1, pr_monoM (fun p hp b z => ⟨z.1, z.2.less (inDs_mem h p hp)⟩) h2⟩
  | met kvs =>
    obtain ⟨xs, h1, h2, h3, h4⟩ := r
    refine ⟨xs, h1, h2, h3, pr_monoM (fun p hp b z => ?_) h4⟩
    obtain ⟨z1, z2, v, z3, z4⟩ := z
    exact ⟨z1.less (inMs_mem h p hp).1, z2, v, z3.less (inMs_mem h p hp).2, z4⟩
  | ins C fs =>
    obtain ⟨dx, ks, h1, h2, h3, h4⟩ := r
    exact ⟨dx, ks, h1, h2, h3, pr_monoM (fun p hp b z => ⟨z.1, z.2.1, z.2.2.less (inFs_mem h p hp)⟩) h4⟩
  | sus => exact r
  | clo k cap =>
    obtain ⟨cl, c', h1, h3, h4, h5, h6, h7⟩ := r
    refine ⟨cl, c', h1, h3, h4, h5, fun y c hc => ?_, fun i y hy => ?_⟩
    · obtain ⟨n, u, q⟩ := h6 y c hc
      exact ⟨fun z => n (List.mem_append_left _ z), u, q⟩
    · obtain ⟨c, x, v, u, q1, q2, q3, q4, q5⟩ := h7 i y hy
      exact ⟨c, x, v, u, q1, q2, q3.less (inAVs_mem h x (List.mem_of_getElem? q2)), q4, q5⟩
/-- the garbage is forgotten: h's objects stand in h2 -/
theorem Rep.shrink {h h2 : Hh} {H0 : Hp} (r0 : Rep D P w rh h H0) (r : Rep D P w (rh ++ more) h2 H) (le : trLe h.t h2.t = true) (inn : inTr h.n h.t = true) : Rep D P w rh h H where
  len := r0.len
  nd := r0.nd
  at_ := fun i o e => by
    obtain ⟨b, ho, e1, _, _⟩ := r0.at_ i o e
    obtain ⟨b2, ho2, g1, g2, g3⟩ := r.at_ i o (trLe_ok le e)
    rw [List.getElem?_append_left (List.getElem?_eq_some_iff.mp e1).1, e1] at g1
    cases g1
    refine ⟨b, ho2, e1, g2, g3.less ?_⟩
    rw [← r0.len]
    exact inTr_ok inn e
  live := fun b hb => r.live b (List.mem_append_left _ hb)
  tabs := fun p hp => by
    obtain ⟨h0, z⟩ := r.tabs p hp
    exact ⟨fun y => h0 (List.mem_append_left _ y), z⟩
  cs := r0.cs
end
theorem sgLe_ok : ∀ {s t : Sg}, sgLe s t = true → s.length = t.length ∧ ∀ (i : Nat) (x : AV), s[i]? = some (some x) → t[i]? = some (some x)
  | [], [], _ => ⟨rfl, fun i x e => by simp at e⟩
  | [], _ :: _, h => by cases h
  | _ :: _, [], h => by cases h
  | a :: s, b :: t, h => by
    have h : ((match (generalizing := false) a with
      | none => true
      | some x => (match (generalizing := false) b with
        | some y => eqAV x y
        | none => false)) && sgLe s t) = true := h
    rw [Bool.and_eq_true] at h
    obtain ⟨l, f⟩ := sgLe_ok h.2
    refine ⟨by simp [l], fun i x e => ?_⟩
    cases i with
    | zero =>
      have e : a = some x := by simpa using e
      subst e
      cases b with
      | none => cases h.1
      | some y =>
        have h1 : eqAV x y = true := h.1
        rw [eqAV_ok h1]
        rfl
    | succ i => simpa using f i x (by simpa using e)
theorem inSg_ok {n : Nat} : ∀ {s : Sg}, inSg n s = true → ∀ (i : Nat) (x : AV), s[i]? = some (some x) → inAV n x = true
  | [], _, i, x, e => by simp at e
  | a :: s, h, i, x, e => by
    have h : ((match (generalizing := false) a with
      | some x => inAV n x
      | none => true) && inSg n s) = true := h
    rw [Bool.and_eq_true] at h
    cases i with
    | zero =>
      have e : a = some x := by simpa using e
      subst e
      exact h.1
    | succ i => exact inSg_ok h.2 i x (by simpa using e)
/-- the slots of the main line, behind a turn -/
theorem SR.shrink {D : Dt} {rh more : Rh} {s s2 : Sg} {σ : L2.St} (r : SR D (rh ++ more) s2 σ) (le : sgLe s s2 = true) (inn : inSg rh.length s = true) : SR D rh s σ := by
  obtain ⟨l, f⟩ := sgLe_ok le
  refine ⟨l.trans r.len, fun i x e => ?_⟩
  obtain ⟨v, h1, h2⟩ := r.at_ i x (f i x e)
  exact ⟨v, h1, h2.less (inSg_ok inn i x e)⟩
/-- a slot of which nothing is told is stored -/
theorem SR.free {D : Dt} {rh : Rh} {s : Sg} {σ : L2.St} (r : SR D rh s σ) {i : Nat} (n : noneAt s i = true) (v : Option V) : SR D rh s (σ.set i v) := by
  refine ⟨by rw [List.length_set]; exact r.len, fun j x e => ?_⟩
  by_cases z : j = i
  · subst z
    unfold noneAt at n
    rw [nth_eq, e] at n
    cases n
  · obtain ⟨u, h1, h2⟩ := r.at_ j x e
    exact ⟨u, by rw [List.getElem?_set_ne (Ne.symm z)]; exact h1, h2⟩
end Ck
-- LD
set_option Elab.async false
set_option linter.all false
set_option maxRecDepth 100000
set_option maxHeartbeats 1000000
set_option autoImplicit false
namespace Ck
open PySem PySem.Spec PyProof.Rows L2 Lk

/-! ### the law's statements -/
def lawSt (i : Nat) : Stmt := d_law.body.getD i (.Pass ⟨0, 0, 0, 0⟩)
def forBody : Stmt → List Stmt
  | .For _ _ b _ _ => b
  | _ => []
def forSt (i : Nat) : Stmt := (forBody (lawSt 10)).getD i (.Pass ⟨0, 0, 0, 0⟩)
def asgEx : Stmt → PySem.Expr
  | .Assign _ e _ => e
  | _ => .Constant .none 0 ⟨0, 0, 0, 0⟩
def ifTest : Stmt → PySem.Expr
  | .If t _ _ _ => t
  | _ => .Constant .none 0 ⟨0, 0, 0, 0⟩
def lawN : List Str := [(PySem.Str.ofString "script"), (PySem.Str.ofString "kind"), (PySem.Str.ofString "n"), (PySem.Str.ofString "k"), (PySem.Str.ofString "room"), (PySem.Str.ofString "rows"), (PySem.Str.ofString "house"), (PySem.Str.ofString "row"), (PySem.Str.ofString "faults"), (PySem.Str.ofString "asked"), (PySem.Str.ofString "ahead"), (PySem.Str.ofString "fault"), (PySem.Str.ofString "found")]
theorem law_split : d_law.body = lawSt 0 :: lawSt 1 :: lawSt 2 :: ([lawSt 3, lawSt 4, lawSt 5, lawSt 6, lawSt 7, lawSt 8, lawSt 9] ++ [lawSt 10, lawSt 11]) := by kernel_rfl
theorem for_split : forBody (lawSt 10) = [forSt 0, forSt 1, forSt 2, forSt 3] := by kernel_rfl
theorem sss_app {T : Nat → FC} {D : Dt} {X : Cx} {E : XK} : ∀ {as : List IS} {sts : List Stmt}, Paired (SS T D X E) as sts → ∀ (n : Nat) (s : Sg) (h : Hh) (σ : L2.St) (H : Hp) (rh : Rh) (N : Ends) (rest : List Stmt), SR D rh s σ → Rep D X.prog X.w rh h H →
    QS D X.prog X.w ((ev T n).ss as s h) rh H { N with nx := fun σ1 H1 => wSs X rest N σ1 H1 } E → wSs X (sts ++ rest) N σ H
  | _, _, _, 0, s, h, σ, H, rh, N, rest, sr, rp, q => q.elim
  | _, _, .nil, n + 1, s, h, σ, H, rh, N, rest, sr, rp, q => by
    have z := QS.nxt rp sr (show QS D X.prog X.w (.nx s h) rh H { N with nx := fun σ1 H1 => wSs X rest N σ1 H1 } E from q)
    exact z
  | _ :: as, st :: sts, .cons ha hs, n + 1, s, h, σ, H, rh, N, rest, sr, rp, q => by
    refine of_PSs (pss_cons pS pSs) ?_
    show wS X st { N with nx := fun σ1 H1 => wSs X (sts ++ rest) N σ1 H1 } σ H
    exact (ha n s h σ H rh _ sr rp (q_bS q)).mono (fun σ1 H1 ⟨rh1, h1, s1, e, r, sr1, q1⟩ => sss_app hs n s1 h1 σ1 H1 rh1 N rest sr1 r q1) (fun _ _ z => z) (fun _ _ z => z) (fun _ _ z => z)
section
variable {W : Wd} {f : Addr} {cdv : Value} {A : Around} {outer : List Env} {s : Shared} {H : Hp} {E : XK}
abbrev cxL (W : Wd) (f : Addr) (cdv : Value) (A : Around) (outer : List Env) (s : Shared) (H : Hp) (E : XK) : Cx := cxW W lawN d_law f cdv A outer s H E
theorem ls_3 (ok : WdOk W) (cx : CxT (cxL W f cdv A outer s H E) E 18) : SS clos W.D (cxL W f cdv A outer s H E) E law_3 (lawSt 3) := by
  exact (ss_set cx rfl (.inl rfl) (se_pair (ca := [114, 101, 97, 99, 104, 32, 35, 48, 32, 48, 32, 57, 57, 57, 57, 57, 57, 57, 57, 57, 57, 57, 57, 32, 57, 32, 53, 32, 115, 101, 97]) (cb := [114, 101, 97, 99, 104, 32, 35, 49, 32, 48, 32, 57, 57, 57, 57, 57, 57, 57, 57, 57, 57, 57, 57, 32, 57, 32, 57, 57, 57, 57, 57, 57, 57, 57, 57, 57, 57, 57, 32, 35, 48]) (by kernel_rfl) (by kernel_rfl)) rfl (.inr rfl))
theorem ls_4 (ok : WdOk W) (cx : CxT (cxL W f cdv A outer s H E) E 18) : SS clos W.D (cxL W f cdv A outer s H E) E law_4 (lawSt 4) := by
  exact (ss_set cx rfl (.inl rfl) (se_bin op_addAll (v_add ok.dt) (se_var (pe_var rfl (.inl rfl))) (se_lst (sl_cons (se_fstr ok.dt (by decide) (by kernel_rfl) (se_var (pe_var rfl (.inl rfl)))) (sl_cons (se_str (cs := [110, 105, 103, 104, 116, 32, 35, 49, 32, 53, 32, 51, 32, 35, 48, 32, 53, 32, 51]) (by kernel_rfl) (by kernel_rfl)) (sl_cons (se_idx ok.dt cx.ex.hu (se_pair (ca := [107, 101, 101, 112, 101, 114, 32, 49]) (cb := [107, 101, 101, 112, 101, 114, 32, 54, 48]) (by kernel_rfl) (by kernel_rfl)) (se_mn ok.dt cx.ex.calm (se_var (pe_var rfl (.inl rfl))) (se_int rfl) ⟨rfl, fr_min ok⟩ rfl rfl rfl) (fun _ _ => rfl)) sl_nil stE_Subscript) stE_Constant) rfl))) rfl (.inr rfl))
theorem ls_5 (ok : WdOk W) (cx : CxT (cxL W f cdv A outer s H E) E 18) : SS clos W.D (cxL W f cdv A outer s H E) E law_5 (lawSt 5) := by
  exact (ss_set cx rfl (.inl rfl) (se_make cx.ex (f_House_init W ok) (by decide) (by decide) (mkr_House ok) rfl (cls_House ok) (sl_cons (se_join ok.dt (se_comp cx.ex (ow := [("row", 7)]) (si_lst (se_var (pe_var rfl (.inl rfl)))) (blkOk_by (by kernel_rfl)) rfl (by decide) (fun _ _ _ _ _ => (pg_name cx.ex.blk.nd rfl (.inl rfl) (.inr rfl))) True.intro (fun _ _ _ _ _ => (se_call cx.ex.blk (f__law_named W ok) (by decide) rfl (glo__law_named ok) (ok.kp 105 rfl) (sl_cons (se_var (pe_var rfl (.inl rfl))) (sl_cons (se_var (pe_var rfl (.inr (.inl rfl)))) sl_nil stE_Name) stE_Name) rfl (by decide) rfl rfl)) (fun _ => rfl)) (by kernel_rfl) rfl rfl rfl) sl_nil stE_Call) rfl (by decide) rfl rfl) rfl (.inr rfl))
theorem ls_6 (ok : WdOk W) (cx : CxT (cxL W f cdv A outer s H E) E 18) : SS clos W.D (cxL W f cdv A outer s H E) E law_6 (lawSt 6) := by
  exact (ss_iff (st_not (st_val (se_call cx.ex (f__law_begun W ok) (by decide) rfl (glo__law_begun ok) (ok.kp 108 rfl) (sl_cons (se_var (pe_var rfl (.inl rfl))) (sl_cons (se_var (pe_var rfl (.inr (.inl rfl)))) (sl_cons (se_var (pe_var rfl (.inl rfl))) sl_nil stE_Name) stE_Name) stE_Name) rfl (by decide) rfl rfl) (fun _ => rfl))) (sss_cons (ss_ret se_bl)
  sss_nil) sss_nil)
theorem ls_7 (ok : WdOk W) (cx : CxT (cxL W f cdv A outer s H E) E 18) : SS clos W.D (cxL W f cdv A outer s H E) E law_7 (lawSt 7) := by
  exact (ss_set cx rfl (.inl rfl) (se_call cx.ex (f__law_faults W ok) (by decide) rfl (glo__law_faults ok) (ok.kp 106 rfl) (sl_cons (se_var (pe_var rfl (.inl rfl))) sl_nil stE_Name) rfl (by decide) rfl rfl) rfl (.inr rfl))
theorem ls_8 (ok : WdOk W) (cx : CxT (cxL W f cdv A outer s H E) E 18) : SS clos W.D (cxL W f cdv A outer s H E) E law_8 (lawSt 8) := by
  exact (ss_set cx rfl (.inl rfl) (se_pair (ca := [112, 108, 97, 110]) (cb := [119, 97, 116, 101, 114, 115]) (by kernel_rfl) (by kernel_rfl)) rfl (.inr rfl))
theorem ls_9 (ok : WdOk W) (cx : CxT (cxL W f cdv A outer s H E) E 18) : SS clos W.D (cxL W f cdv A outer s H E) E law_9 (lawSt 9) := by
  exact (ss_set cx rfl (.inl rfl) (se_lst (sl_cons (se_meth cx.ex (f_House_ask W ok) (by decide) (met_House_ask ok) (se_var (pe_var rfl (.inl rfl))) (sl_cons (se_idx ok.dt cx.ex.hu (se_var (pe_var rfl (.inl rfl))) (se_int rfl) (fun _ _ => rfl)) sl_nil stE_Subscript) rfl rfl rfl rfl) (sl_cons (se_meth cx.ex (f_House_ask W ok) (by decide) (met_House_ask ok) (se_var (pe_var rfl (.inl rfl))) (sl_cons (se_idx ok.dt cx.ex.hu (se_var (pe_var rfl (.inl rfl))) (se_int rfl) (fun _ _ => rfl)) sl_nil stE_Subscript) rfl rfl rfl rfl) sl_nil stE_Call) stE_Call)) rfl (.inr rfl))
theorem ls_e1 (ok : WdOk W) (cx : CxT (cxL W f cdv A outer s H E) E 18) : SE clos W.D (cxL W f cdv A outer s H E) E law_e1 (asgEx (forSt 1)) := by
  exact (se_meth cx.ex (f_House_ask W ok) (by decide) (met_House_ask ok) (se_var (pe_var rfl (.inl rfl))) (sl_cons (se_call cx.ex (f__law_named W ok) (by decide) rfl (glo__law_named ok) (ok.kp 105 rfl) (sl_cons (se_idx ok.dt cx.ex.hu (se_var (pe_var rfl (.inl rfl))) (se_int rfl) (fun _ _ => rfl)) (sl_cons (se_var (pe_var rfl (.inr (.inl rfl)))) sl_nil stE_Name) stE_Subscript) rfl (by decide) rfl rfl) sl_nil stE_Call) rfl rfl rfl rfl)
theorem ls_t2 (ok : WdOk W) (cx : CxT (cxL W f cdv A outer s H E) E 18) : ST clos W.D (cxL W f cdv A outer s H E) E law_t2 (ifTest (forSt 2)) := by
  exact (st_of (sw_or (st_not (st_val (se_isstr (se_var (pe_var rfl (.inl rfl))) ⟨rfl, fr_isinstance ok⟩ ⟨rfl, fr_str ok⟩ rfl) (fun _ => rfl))) (sw_or1 (st_cmp (op_neAll ok.dt cx.ex.hu) (v_ne ok.dt) (se_var (pe_var rfl (.inl rfl))) (se_bin op_addAll (v_add ok.dt) (se_str (cs := [114, 101, 102, 117, 115, 101, 100, 32]) (by kernel_rfl) (by kernel_rfl)) (se_idx ok.dt cx.ex.hu (se_var (pe_var rfl (.inl rfl))) (se_int rfl) (fun _ _ => rfl))) (nomark _)))))
theorem ls_11 (ok : WdOk W) (cx : CxT (cxL W f cdv A outer s H E) E 18) : SS clos W.D (cxL W f cdv A outer s H E) E law_11 (lawSt 11) := by
  exact (ss_ret (se_cmp (op_eqAll ok.dt cx.ex.hu) (v_eq ok.dt) (se_lst (sl_cons (se_meth cx.ex (f_House_ask W ok) (by decide) (met_House_ask ok) (se_var (pe_var rfl (.inl rfl))) (sl_cons (se_idx ok.dt cx.ex.hu (se_var (pe_var rfl (.inl rfl))) (se_int rfl) (fun _ _ => rfl)) sl_nil stE_Subscript) rfl rfl rfl rfl) (sl_cons (se_meth cx.ex (f_House_ask W ok) (by decide) (met_House_ask ok) (se_var (pe_var rfl (.inl rfl))) (sl_cons (se_idx ok.dt cx.ex.hu (se_var (pe_var rfl (.inl rfl))) (se_int rfl) (fun _ _ => rfl)) sl_nil stE_Subscript) rfl rfl rfl rfl) sl_nil stE_Call) stE_Call)) (se_var (pe_var rfl (.inl rfl))) (nomark _)))
theorem ls_pre (ok : WdOk W) (cx : CxT (cxL W f cdv A outer s H E) E 18) : Paired (SS clos W.D (cxL W f cdv A outer s H E) E) law_pre [lawSt 3, lawSt 4, lawSt 5, lawSt 6, lawSt 7, lawSt 8, lawSt 9] := .cons (ls_3 ok cx) (.cons (ls_4 ok cx) (.cons (ls_5 ok cx) (.cons (ls_6 ok cx) (.cons (ls_7 ok cx) (.cons (ls_8 ok cx) (.cons (ls_9 ok cx) .nil))))))
end
end Ck
-- LE
set_option Elab.async false
set_option linter.all false
set_option maxRecDepth 100000
set_option maxHeartbeats 1000000
set_option autoImplicit false
/-! LE: the world of a script; the law's head. -/
namespace Ck
open PySem PySem.Spec PyProof.Rows L2 Lk
/-! ### the world of a script -/
def mkD (K : PySem.W.Frag) (a : Addr) (room c : Int) : Dt where
  scr := a
  room := room
  nmS := nameC c
  cA := fun C => He.ga K (cnL.getD C (PySem.Str.ofString ""))
  xA := fun C => He.ga K (xnL.getD C (PySem.Str.ofString ""))
  fN := fun f => fnL.getD f (PySem.Str.ofString "")
  T := tf.map fun p => ((He.cT K p).2, nmW)
  nf := nfW
  fr := frW
theorem getD_of {α : Type} {xs : List α} {i : Nat} {x d : α} (h : xs[i]? = some x) : xs.getD i d = x := by
  rw [List.getD_eq_getElem?_getD, h]; rfl
theorem fnL_inj : ∀ f, f < 24 → ∀ g, g < 24 → fnL.getD f (PySem.Str.ofString "") = fnL.getD g (PySem.Str.ofString "") → f = g := by decide +kernel
theorem mkD_ok (K : PySem.W.Frag) (a : Addr) {room c : Int} (h1 : 2 ≤ room) (h2 : room ≤ 1000000000) : DtOk (mkD K a room c) where
  lo := h1
  hi := h2
  low := nameC_low c
  one := fun k => by show 1 ≤ (nameC c k).length; rw [nameC_len]; omega
  len := fun k => by
    show (nameC c k).length ≤ 12
    rw [nameC_len]
    have := Int.emod_lt_of_pos c (show (0 : Int) < 12 by decide)
    omega
  sea := nameC_sea c
  inj := fun i j hi hj h => nameC_inj c hi hj h
  fld := fun f g hf hg h => fnL_inj f hf g hg h
theorem cnL_get : ∀ C, C < 6 → ∃ x, cnL[C]? = some x := fun C hC => by
  have : cnL.length = 6 := by rfl
  exact ⟨cnL[C]'(by omega), List.getElem?_eq_getElem (by omega)⟩
theorem clsF {K : PySem.W.Frag} (c : He.SaysD fa fn K) : ∀ C, C < 6 → ∀ x, cnL[C]? = some x → (He.Fa.cls x).ok K = true
  | 0, _, x, h => by cases Option.some.inj h; exact c.fact 109 rfl
  | 1, _, x, h => by cases Option.some.inj h; exact c.fact 110 rfl
  | 2, _, x, h => by cases Option.some.inj h; exact c.fact 111 rfl
  | 3, _, x, h => by cases Option.some.inj h; exact c.fact 112 rfl
  | 4, _, x, h => by cases Option.some.inj h; exact c.fact 113 rfl
  | 5, _, x, h => by cases Option.some.inj h; exact c.fact 114 rfl
  | n + 6, h, _, _ => absurd h (by omega)
/-- what is known of the module -/
structure Base (K : PySem.W.Frag) (mg : Str → Option Value) (base : Heap) : Prop where
  kin : K.In base
  G : base.Ns mainGlobals mg
  says : He.SaysD fa fn K
  more : ex K = true
  tb : ∀ p ∈ tf, LamX.TabB base mg (He.cT K p).1 (He.cT K p).2
def mkW (P : Program) (w : World) (K : PySem.W.Frag) (mg : Str → Option Value) (base : Heap) (a : Addr) (room c : Int) : Wd := ⟨P, w, K, mg, base, mkD K a room c⟩
theorem mkW_ok {P : Program} {w : World} {K : PySem.W.Frag} {mg : Str → Option Value} {base : Heap} (B : Base K mg base) (a : Addr) {room : Int} (c : Int) (h1 : 2 ≤ room) (h2 : room ≤ 1000000000) : WdOk (mkW P w K mg base a room c) where
  dt := mkD_ok K a h1 h2
  kk := {
    cls := fun C hC => by
      obtain ⟨x, hx⟩ := cnL_get C hC
      show Cls K (He.ga K (cnL.getD C (PySem.Str.ofString "")))
      rw [getD_of hx]
      exact He.cls_ok (clsF B.says C hC x hx)
    noat := fun C f hC hf => by
      obtain ⟨x, hx⟩ := cnL_get C hC
      obtain ⟨y, hy⟩ := fnL_get f hf
      show NoAttr K (He.ga K (cnL.getD C (PySem.Str.ofString ""))) (fnL.getD f (PySem.Str.ofString ""))
      rw [getD_of hx, getD_of hy]
      exact He.noat_ok (B.says.facts (f := .noat x y) (List.mem_append_right _ (List.mem_flatMap.mpr ⟨x, List.mem_of_getElem? hx, List.mem_map.mpr ⟨y, List.mem_of_getElem? hy, rfl⟩⟩))) }
  kin := B.kin
  G := B.G
  fact := fun i f h => B.says.fact i h
  def_ := fun i d h => B.says.def_ i h
  cA := fun C x h => by show He.ga K (cnL.getD C _) = _; rw [getD_of h]; rfl
  xA := fun C x h => by show He.ga K (xnL.getD C _) = _; rw [getD_of h]; rfl
  fN := fun f x h => getD_of h
  ways := fun H => by
    have h := B.more
    unfold ex at h
    exact He.tupB_ok (He.ba h).1 H
  more := B.more
  clo := rfl
  T := rfl
  tb := B.tb
/-! ### the head of the law -/
def nmsV (c : Int) : List V := (List.range 18).map fun k => V.str (strOf (nameC c k))
theorem nms_ok (K : PySem.W.Frag) (a : Addr) (room c : Int) (rh : Rh) : VRs (mkD K a room c) rh nms18 (nmsV c) := by
  have one : ∀ k : Nat, VR (mkD K a room c) rh (.str [.nm k]) (.str (strOf (nameC c k))) := fun k => by
    show V.str _ = V.str (strOf (sC (mkD K a room c) [.nm k]))
    rw [sC_cons, sC_nil, List.append_nil]
    rfl
  exact .cons (one 0) (.cons (one 1) (.cons (one 2) (.cons (one 3) (.cons (one 4) (.cons (one 5) (.cons (one 6) (.cons (one 7) (.cons (one 8) (.cons (one 9) (.cons (one 10) (.cons (one 11) (.cons (one 12) (.cons (one 13) (.cons (one 14) (.cons (one 15) (.cons (one 16) (.cons (one 17) .nil)))))))))))))))))
theorem upd_upd {H : Hp} {p : Addr} {a b : HO} : upd (upd H p a) p b = upd H p b := by
  funext x
  by_cases z : x = p
  · rw [z, upd_same, upd_same]
  · rw [upd_ne z, upd_ne z, upd_ne z]
theorem sqL_upd {K : PySem.W.Frag} {H : Hp} {a p : Addr} {xs : List V} {l : HO} (h : SqL K H a xs) (np : H p = none) : SqL K (upd H p l) a xs := by
  rcases h with (h | ⟨o, h⟩) | h
  · exact .inl (.inl (by rw [upd_ne (ne_of_none h np)]; exact h))
  · exact .inl (.inr ⟨o, by rw [upd_ne (ne_of_none h np)]; exact h⟩)
  · exact .inr h
section
variable {W : Wd} {f : Addr} {cdv : Value} {A : Around} {outer : List Env} {s : Shared} {H : Hp} {E : XK}
/-- the kind, the names, the room -/
theorem law_head (ok : WdOk W) (cx : CxT (cxL W f cdv A outer s H E) E 18) {rest : List Stmt} {N : Ends} {a : Addr} {ns : List Int} (sq : SqL W.K H a (ns.map V.int))
    (q : ∀ p, H p = none → wSs (cxL W f cdv A outer s H E) rest N ([some (.ref a), some (.int (ns.getD 0 0 % 3)), some (.ref p), none, some (.int (1 + ns.getD 2 0 % 1000000000)), none, none, none, none, none, none, none, none]) (upd H p (.lst (nmsV (ns.getD 1 0))))) :
    wSs (cxL W f cdv A outer s H E) (lawSt 0 :: lawSt 1 :: lawSt 2 :: rest) N (L2.start lawN [.ref a]) H := by
  obtain ⟨fdc, psc, Fc, Bc⟩ := (f__law_cell_at W ok).ok
  obtain ⟨fdn, psn, Fn, Bn⟩ := (f__law_name W ok).ok
  have P0 : PS (cxL W f cdv A outer s H E) (lawSt 0) _ := ps_set (i := 1) cx.nd rfl (.inl rfl) (pe_op op_mod (pe_call Fc (cx.room.mono (by decide)) rfl (glo__law_cell_at ok) (ok.kp 113 rfl) Bc .nil cx.ex.ps (pa_cons (pe_var (i := 0) rfl (.inr (.inl rfl))) (pa_cons pe_int pa_nil rfl) rfl) (by decide) rfl rfl) pe_int) rfl (.inr rfl)
  have P1 : PS (cxL W f cdv A outer s H E) (lawSt 1) _ := ps_set (i := 2) cx.nd rfl (.inr rfl) (pe_lc (own := [("k", 3)]) (tt := tYes) (g := gName 3) cx.calm cx.nd (pi_range1 rfl (fr_range ok) (pa_cons pe_int pa_nil rfl) rfl) (blkOk_by (by kernel_rfl)) (fun _ _ _ _ _ => pg_name (i := 3) cx.nd rfl (.inl rfl) (.inr rfl)) (fun _ _ _ _ _ => pts_nil)
    (fun _ _ _ _ _ => pe_call Fn (cx.room.mono (by decide)) rfl (glo__law_name ok) (ok.kp 114 rfl) Bn .nil cx.ex.blk.ps (pa_cons (pe_call Fc (cx.room.mono (by decide)) rfl (glo__law_cell_at ok) (ok.kp 113 rfl) Bc .nil cx.ex.blk.ps (pa_cons (pe_var (i := 0) rfl (.inr (.inl rfl))) (pa_cons pe_int pa_nil rfl) rfl) (by decide) rfl rfl) (pa_cons (pe_var (i := 3) rfl (.inl rfl)) pa_nil rfl) rfl) (by decide) rfl rfl) (fun _ => rfl)) rfl (.inl rfl)
  have P2 : PS (cxL W f cdv A outer s H E) (lawSt 2) _ := ps_set (i := 4) cx.nd rfl (.inl rfl) (pe_op op_add pe_int (pe_op op_mod (pe_call Fc (cx.room.mono (by decide)) rfl (glo__law_cell_at ok) (ok.kp 113 rfl) Bc .nil cx.ex.ps (pa_cons (pe_var (i := 0) rfl (.inr (.inl rfl))) (pa_cons pe_int pa_nil rfl) rfl) (by decide) rfl rfl) pe_int)) rfl (.inr rfl)
  refine of_PSs (pss_cons P0 (pss_cons P1 (pss_cons P2 pSs))) ?_
  refine ⟨_, rfl, a, 0, ns, rfl, sq, _, 3, rfl, rfl, (show (0 : Int) < 3 by decide), ?_⟩
  refine ⟨18, rfl, by decide, by decide, fun p np => ?_⟩
  have sqp : ∀ l : HO, SqL W.K (upd H p l) a (ns.map V.int) := fun l => sqL_upd sq np
  refine ⟨fun i m H' => i ≤ 18 ∧ m = 18 - i ∧ H' = upd H p (.lst ((List.range i).map fun k => V.str (strOf (nameC (ns.getD 1 0) k)))), ⟨18, Nat.zero_le _, rfl, rfl⟩, ?_⟩
  rintro i m H' ⟨hi, rfl, rfl⟩
  by_cases h18 : i = 18
  · subst h18
    refine .inl ⟨Nat.le_refl _, ?_⟩
    exact ⟨_, rfl, a, 2, ns, rfl, sqp _, _, 1000000000, rfl, rfl, (show (0 : Int) < 1000000000 by decide), 1, _, rfl, rfl, q p np⟩
  · refine .inr ⟨show i < 18 by omega, fun H' => H' = upd H p (.lst ((List.range (i + 1)).map fun k => V.str (strOf (nameC (ns.getD 1 0) k)))), fun H' e => ⟨18 - (i + 1), by omega, by omega, rfl, e⟩, ?_⟩
    rintro x H' ⟨rfl, rfl⟩
    refine ⟨rfl, ?_⟩
    show tCall spLN [] Ex0 (tCons (tCall (spCA W.K) [] Ex0 (tCons (tVar 0) (tCons (tC (.int 1)) tNil))) (tCons (tVar 3) tNil)) _ _ _
    refine ⟨_, rfl, a, 1, ns, rfl, sqp _, _, rfl, _, i, by rw [Int.zero_add]; rfl, _, upd_same, ?_, ?_⟩
    · rw [List.length_map, List.length_range, sizeLine_eq]; omega
    · rw [upd_upd, List.range_succ, List.map_append]
      rfl
end
end Ck
-- LF
set_option Elab.async false
set_option linter.all false
set_option maxRecDepth 100000
set_option maxHeartbeats 1000000
set_option autoImplicit false
/-! LF: the law's loop, and the law. -/
namespace Ck
open PySem PySem.Spec PyProof.Rows L2 Lk
theorem slAt_ok {s : Sg} {i j : Nat} (h : slAt s i = .ref j) : s[i]? = some (some (.ref j)) := by
  unfold slAt at h
  rw [nth_eq] at h
  split at h
  · rename_i v e
    rw [e, h]
  · cases h
theorem lstAt_ok {h : Hh} {v : AV} {x : AV} {xs : List AV} (e : lstAt h v = x :: xs) : ∃ j, v = .ref j ∧ h.get j = some (.lst (x :: xs)) := by
  cases v with
  | ref j =>
    unfold lstAt at e
    dsimp only at e
    split at e
    · rename_i ys ey
      rw [← e]
      exact ⟨j, rfl, ey⟩
    · cases e
  | _ => cases e
theorem chkFs_mem {s : Sg} {h : Hh} : ∀ {l : List AV}, chkFs s h l = true → ∀ x ∈ l, chkF s h x = true
  | v :: vs, e, x, hx => by
    have e : (chkF s h v && chkFs s h vs) = true := e
    rw [Bool.and_eq_true] at e
    rcases List.mem_cons.mp hx with z | z
    · rw [z]; exact e.1
    · exact chkFs_mem e.2 x z
/-- what the kernel has seen behind the law's opening -/
structure Seen (s : Sg) (h : Hh) : Prop where
  tr : inTr h.n h.t = true
  sg : inSg h.n s = true
  n3 : noneAt s 3 = true
  n11 : noneAt s 11 = true
  n12 : noneAt s 12 = true
  scr : s[0]? = some (some .scr)
  flt : ∃ j f fs, s[8]? = some (some (.ref j)) ∧ h.get j = some (.lst (f :: fs)) ∧ ∀ x ∈ f :: fs, chkF s h x = true
  cls : ∃ j fs, s[6]? = some (some (.ref j)) ∧ slAt s 6 = .ref j ∧ h.get j = some (.ins 5 fs)
  ask : ∃ i j a b c d, s[9]? = some (some (.ref i)) ∧ h.get i = some (.lst [a, b]) ∧ s[10]? = some (some (.ref j)) ∧ h.get j = some (.lst [c, d]) ∧ chkA s h a c = true ∧ chkA s h b d = true
  fin : chkE s h = true
theorem seen_of {s : Sg} {h : Hh} (e : chkAll s h = true) : Seen s h := by
  unfold chkAll at e
  simp only [Bool.and_eq_true] at e
  obtain ⟨⟨e1, e2, e3, e4, e5, e6, e7, e8⟩, e9, e10, e11⟩ := e
  refine ⟨e1, e2, e3, e4, e5, ?_, ?_, ?_, ?_, e11⟩
  · unfold scrAt at e6
    rw [nth_eq] at e6
    split at e6
    · rename_i z; exact z
    · cases e6
  · unfold lstOk at e7
    split at e7
    · rename_i j ej
      split at e7
      · rename_i f fs ef
        refine ⟨j, f, fs, slAt_ok ej, ef, ?_⟩
        have : lstAt h (slAt s 8) = f :: fs := by
          rw [ej]
          unfold lstAt
          dsimp only
          rw [ef]
        rw [this] at e9
        exact chkFs_mem e9
      · cases e7
    · cases e7
  · unfold isHouse at e8
    split at e8
    · rename_i C eC
      have := nbeq.mp e8
      subst this
      unfold clsOf at eC
      split at eC
      · rename_i j ej
        split at eC
        · rename_i D fs ef
          cases eC
          exact ⟨j, fs, slAt_ok ej, ej, ef⟩
        · cases eC
      · cases eC
    · cases e8
  · unfold chkAs at e10
    split at e10
    · rename_i a b c d x1 x2
      rw [Bool.and_eq_true] at e10
      obtain ⟨i, y1, y2⟩ := lstAt_ok x1
      obtain ⟨j, y3, y4⟩ := lstAt_ok x2
      exact ⟨i, j, a, b, c, d, slAt_ok y1, y2, slAt_ok y3, y4, e10.1, e10.2⟩
    · cases e10
/-- the script's list, out of the reach of what is tracked -/
def ScrAt (K : PySem.W.Frag) (rh : Rh) (H : Hp) (a : Addr) (xs : List V) : Prop := (Rd H a (.lst xs) ∧ a ∉ rh) ∨ ∀ H', SqL K H' a xs
theorem ScrAt.sq {K : PySem.W.Frag} {rh : Rh} {H : Hp} {a : Addr} {xs : List V} (h : ScrAt K rh H a xs) : SqL K H a xs := h.elim (fun z => .inl z.1) fun z => z H
theorem ScrAt.ext {K : PySem.W.Frag} {rh rh' : Rh} {H H' : Hp} {a : Addr} {xs : List V} (e : Ext rh H rh' H') (h : ScrAt K rh H a xs) : ScrAt K rh' H' a xs := by
  rcases h with ⟨h | ⟨o, h⟩, n⟩ | h
  · exact .inl ⟨.inl (e.keep _ _ n h (fun _ z => by cases z)), e.out n h⟩
  · exact .inl ⟨.inr ⟨o, e.keep _ _ n h (fun _ z => by cases z)⟩, e.out n h⟩
  · exact .inr h
theorem ScrAt.less {K : PySem.W.Frag} {rh more : Rh} {H : Hp} {a : Addr} {xs : List V} (h : ScrAt K (rh ++ more) H a xs) : ScrAt K rh H a xs := h.imp (fun z => ⟨z.1, fun y => z.2 (List.mem_append_left _ y)⟩) id
/-- what stands at each turn -/
structure Iv (W : Wd) (rh : Rh) (s : Sg) (h : Hh) (a : Addr) (xs : List V) (σ : L2.St) (H : Hp) : Prop where
  rep : Rep W.D W.P W.w rh h H
  sr : SR W.D rh s σ
  sc : ScrAt W.K rh H a xs
theorem atI_nat {α : Type} {xs : List α} {i : Nat} {x : α} (h : xs[i]? = some x) : atI xs (i : Int) = some x := by
  have := (List.getElem?_eq_some_iff.mp h).1
  unfold atI ixN
  rw [if_pos (by omega), if_pos (by omega)]
  show xs[(i : Int).toNat]? = _
  rw [Int.toNat_natCast]
  exact h
section
variable {W : Wd} {f : Addr} {cdv : Value} {A : Around} {outer : List Env} {s0 : Shared} {H0 : Hp} {E : XK} {rh : Rh} {s : Sg} {h : Hh} {a : Addr} {ns : List Int} {σ : L2.St} {H : Hp}
/-- behind some garbage: all stands as it stood -/
theorem Iv.next {rh' : Rh} {h' : Hh} {σ' : L2.St} {H' : Hp} {xs : List V} (I : Iv W rh s h a xs σ H) (S : Seen s h) (e : Ext rh H rh' H') (r : Rep W.D W.P W.w rh' h' H') (le : trLe h.t h'.t = true) (sr : SR W.D rh s σ') : Iv W rh s h a xs σ' H' := by
  obtain ⟨more, em⟩ := e.pre
  subst em
  exact ⟨I.rep.shrink r le S.tr, sr, (I.sc.ext e).less⟩
theorem ask_go (ok : WdOk W) {q c : AV} {x : V} {Q : VK} (S : Seen s h) (I : Iv W rh s h a (ns.map V.int) σ H) (hc : chkA s h q c = true) (vx : VR W.D rh q x)
    (hQ : ∀ rh' h' v y H', Ext rh H rh' H' → Rep W.D W.P W.w rh' h' H' → VR W.D rh' v y → trLe h.t h'.t = true → eq0 v c = some true → Q y H') :
    ∃ b dx fs, σ[6]? = some (some (.ref b)) ∧ H b = some (.ins (W.D.cA 5) dx fs) ∧ fs.lookup (PySem.Str.ofString "ask") = none ∧ spF clos W.D W.P W.w c_House_ask 2 [.ref b, x] H Q E := by
  obtain ⟨j, fs, c1, c2, c3⟩ := S.cls
  obtain ⟨v6, w1, w2⟩ := I.sr.at_ 6 _ c1
  obtain ⟨b, dx, ks, rfl, _, hb, _, _, rr⟩ := I.rep.ins c3 w2
  refine ⟨b, dx, ks, w1, hb, fld_none (met_House_ask ok).no rr, rfl, fuel, rh, h, [slAt s 6, q], .cons (by rw [c2]; exact w2) (.cons vx .nil), I.rep, ?_⟩
  unfold chkA at hc
  cases er : (ev clos fuel).f c_House_ask [slAt s 6, q] h with
  | ok v h2 =>
    rw [er] at hc
    dsimp only at hc
    rw [Bool.and_eq_true] at hc
    intro rh' H' y e2 r2 vy
    refine hQ rh' h2 v y H' e2 r2 vy hc.1 ?_
    have := hc.2
    cases z : eq0 v c with
    | none => rw [z] at this; cases this
    | some t =>
      rw [z] at this
      cases t with
      | true => rfl
      | false => cases this
  | exc C h2 => rw [er] at hc; cases hc
  | no => rw [er] at hc; cases hc

theorem two_get {α : Type} {x y : α} (k : Nat) : [x, y][k % 2]? = some (if k % 2 = 0 then x else y) := by
  have : k % 2 = 0 ∨ k % 2 = 1 := by omega
  rcases this with h | h <;> rw [h] <;> rfl
theorem int_mod2 (k : Nat) : (k : Int) % 2 = ((k % 2 : Nat) : Int) := by omega
theorem law_turn (ok : WdOk W) (cx : CxT (cxL W f cdv A outer s0 H0 E) E 18) (hscr : W.D.scr = a) (S : Seen s h) (I : Iv W rh s h a (ns.map V.int) σ H) {k : Nat} (hk : k < ns.length) {D : Ends} (hD : ∀ σ' H', Iv W rh s h a (ns.map V.int) σ' H' → D.nx σ' H') :
    wSs (cxL W f cdv A outer s0 H0 E) (forBody (lawSt 10)) D (σ.set 3 (some (.int (k : Int)))) H := by
  obtain ⟨fda, psa, hpa, Fa, Ba, va⟩ := (f_House_ask W ok).ok
  have M := met_House_ask ok
  have B0 : PS (cxL W f cdv A outer s0 H0 E) (forSt 0) _ := ps_set (i := 11) cx.nd rfl (.inl rfl) (pe_ix ix_list (pe_var (i := 8) rfl (.inl rfl)) (pe_op op_mod (pe_ix ix_list (pe_var (i := 0) rfl (.inr (.inl rfl))) (pe_var (i := 3) rfl (.inl rfl)) (fun _ _ => rfl)) (pe_callB call_len rfl (fr_len ok) rfl (pa_cons (pe_var (i := 8) rfl (.inl rfl)) pa_nil rfl) (by decide) (by decide) rfl rfl)) (fun _ _ => rfl)) rfl (.inr rfl)
  have B1 : PS (cxL W f cdv A outer s0 H0 E) (forSt 1) _ := ps_set (i := 12) cx.nd rfl (.inl rfl) (pE (e := asgEx (forSt 1))) rfl (.inr rfl)
  have B2 : PS (cxL W f cdv A outer s0 H0 E) (forSt 2) _ := ps_if (pT (e := ifTest (forSt 2))) (pss_one (ps_ret pe_bl)) pss_nil
  have B3 : PS (cxL W f cdv A outer s0 H0 E) (forSt 3) _ := ps_if (pt_cmpR (op_neAll ok.dt cx.ex.hu) (pe_meth (pe_var (i := 6) rfl (.inl rfl)) M.c M.mt Fa (cx.room.mono (by decide)) Ba va cx.ex.ps (pa_cons (pe_ix ix_list (pe_var (i := 9) rfl (.inl rfl)) (pe_op op_mod (pe_var (i := 3) rfl (.inl rfl)) pe_int) (fun _ _ => rfl)) pa_nil rfl) rfl rfl rfl) (pe_ix ix_list (pe_var (i := 10) rfl (.inl rfl)) (pe_op op_mod (pe_var (i := 3) rfl (.inl rfl)) pe_int) (fun _ _ => rfl)) (nomark _)) (pss_one (ps_ret pe_bl)) pss_nil
  rw [for_split]
  refine of_PSs (pss_cons B0 (pss_cons B1 (pss_cons B2 (pss_one B3)))) ?_
  obtain ⟨i9, j9, qa, qb, c, d, a1, a2, a3, a4, a5, a6⟩ := S.ask
  have l10 : 10 < s.length := (List.getElem?_eq_some_iff.mp a3).1
  have ls : s.length = σ.length := I.sr.len
  have I1 : Iv W rh s h a (ns.map V.int) (σ.set 3 (some (.int (k : Int)))) H := ⟨I.rep, I.sr.free S.n3 _, I.sc⟩
  have k3 : (σ.set 3 (some (V.int (k : Int))))[3]? = some (some (.int (k : Int))) := List.getElem?_set_self (by omega)
  generalize hσ1 : σ.set 3 (some (V.int (k : Int))) = σ1 at I1 k3
  have ls1 : σ1.length = σ.length := by rw [← hσ1, List.length_set]
  obtain ⟨vz, z1, z2⟩ := I1.sr.at_ 0 _ S.scr
  have z2 : vz = .ref W.D.scr := z2
  rw [hscr] at z2
  subst z2
  obtain ⟨j8, f0, fs, c1, c2, c3⟩ := S.flt
  obtain ⟨v8, w1, w2⟩ := I1.sr.at_ 8 _ c1
  obtain ⟨b8, vs8, rfl, _, hb8, rr8⟩ := I1.rep.lst c2 w2
  have l8 : vs8.length = (f0 :: fs).length := (pr_length rr8).symm
  have hpos : (0 : Int) < (vs8.length : Nat) := by rw [l8, List.length_cons]; omega
  obtain ⟨z, hz⟩ : ∃ z, ns[k]? = some z := ⟨_, List.getElem?_eq_getElem hk⟩
  have m0 := Int.emod_nonneg z (show (vs8.length : Int) ≠ 0 by omega)
  have m1 := Int.emod_lt_of_pos z hpos
  obtain ⟨t, et⟩ : ∃ t : Nat, z % (vs8.length : Int) = (t : Int) := ⟨(z % (vs8.length : Int)).toNat, (Int.toNat_of_nonneg m0).symm⟩
  have ht : t < (f0 :: fs).length := by rw [← l8]; omega
  obtain ⟨v, hv, vv⟩ := pr_get rr8 (List.getElem?_eq_getElem ht)
  have hx := c3 _ (List.getElem_mem ht)
  generalize (f0 :: fs)[t]'ht = x0 at vv hx
  have s8 : SqL W.K H b8 vs8 := .inl (.inl hb8)
  refine ⟨_, w1, _, z1, _, k3, a, _, (k : Int), .int z, rfl, rfl, I1.sc.sq, atI_nat (by rw [List.getElem?_map, hz]; rfl), ?_⟩
  refine ⟨_, w1, .ref b8, vs8.length, rfl, .inl ⟨vs8, s8, rfl⟩, z, (vs8.length : Int), rfl, rfl, hpos, ?_⟩
  refine ⟨b8, vs8, z % (vs8.length : Int), v, rfl, rfl, s8, by rw [et]; exact atI_nat hv, ?_⟩
  -- found = ..
  unfold chkF at hx
  cases e1 : (ev clos fuel).e law_e1 (setN s 11 (some x0)) h with
  | exc C h2 => rw [e1] at hx; cases hx
  | no => rw [e1] at hx; cases hx
  | ok xv h1 =>
    rw [e1] at hx
    dsimp only at hx
    cases e2 : (ev clos fuel).t law_t2 (setN (setN s 11 (some x0)) 12 (some xv)) h1 with
    | exc C h2 => rw [e2] at hx; cases hx
    | no => rw [e2] at hx; cases hx
    | ok bt h2 =>
      rw [e2] at hx
      cases bt with
      | true => cases hx
      | false =>
        dsimp only at hx
        have sr2 := I1.sr.set 11 vv
        refine ls_e1 ok cx fuel (setN s 11 (some x0)) h (σ1.set 11 (some v)) H rh _ sr2 I.rep ?_
        rw [e1]
        intro rh1 H1 y x1 r1 vy
        have sr3 := (sr2.ext x1).set 12 vy
        refine ls_t2 ok cx fuel (setN (setN s 11 (some x0)) 12 (some xv)) h1 ((σ1.set 11 (some v)).set 12 (some y)) H1 rh1 _ sr3 r1 ?_
        rw [e2]
        intro rh2 H2 x2 r2
        refine ite_ff ?_
        have I3 : Iv W rh s h a (ns.map V.int) ((σ1.set 11 (some v)).set 12 (some y)) H2 := I1.next S (x1.trans x2) r2 hx ((I1.sr.free S.n11 _).free S.n12 _)
        have k3' : ((σ1.set 11 (some v)).set 12 (some y))[3]? = some (some (.int (k : Int))) := by rw [List.getElem?_set_ne (by decide), List.getElem?_set_ne (by decide)]; exact k3
        generalize (σ1.set 11 (some v)).set 12 (some y) = σ3 at I3 k3'
        -- what is asked
        have hc : chkA s h (if k % 2 = 0 then qa else qb) (if k % 2 = 0 then c else d) = true := by
          by_cases e : k % 2 = 0
          · rw [if_pos e, if_pos e]; exact a5
          · rw [if_neg e, if_neg e]; exact a6
        obtain ⟨v9, y1, y2⟩ := I3.sr.at_ 9 _ a1
        obtain ⟨b9, vs9, rfl, _, hb9, rr9⟩ := I3.rep.lst a2 y2
        obtain ⟨v9', g1, g2⟩ := pr_get rr9 (two_get k)
        obtain ⟨v10, y3, y4⟩ := I3.sr.at_ 10 _ a3
        refine (ask_go (E := E) (Q := fun x H1 => tOp (rNeAll W.K) (fun _ _ Q => Q x H1) (fun σ H Q => ∃ v, σ3[10]? = some (some v) ∧ ∃ w, σ3[3]? = some (some w) ∧ ∃ i j, w = .int i ∧ V.int 2 = .int j ∧ (0 : Int) < j ∧ rIxL W.K v (.int (i % j)) H1 Q) σ3 H1 fun u H5 => ∃ t, u = .bl t ∧ if t = true then D.rt (.bl false) H5 else D.nx σ3 H5) ok S I3 hc g2 (fun rh4 h4 w5 y5 H4 x4 r4 v5 le4 eq => ?_)).elim fun b ⟨dx, fs6, q1, q2, q3, q4⟩ => ?_
        · have hj : h4.get j9 = some (.lst [c, d]) := trLe_ok le4 a4
          obtain ⟨b10, vs10, rfl, _, hb10, rr10⟩ := r4.lst hj (y4.ext x4)
          obtain ⟨v10', g3, g4⟩ := pr_get rr10 (two_get k)
          refine ⟨_, y3, _, k3', (k : Int), 2, rfl, rfl, (show (0 : Int) < 2 by decide), b10, vs10, (k : Int) % 2, v10', rfl, rfl, .inl (.inl hb10), by rw [int_mod2]; exact atI_nat g3, ?_⟩
          have ef : cmpB .ne w5 (if k % 2 = 0 then c else d) h4 = some false := by
            have : eqF h4 w5 (if k % 2 = 0 then c else d) = some true := by
              cases w5 with
              | ref i => cases hh : (if k % 2 = 0 then c else d) <;> rw [hh] at eq <;> cases eq
              | _ => exact eq
            show notO _ = _
            rw [this]
            rfl
          exact v_ne (X := cxL W f cdv A outer s0 H0 E) ok.dt y5 v10' H4 rh4 h4 w5 (if k % 2 = 0 then c else d) false _ r4 v5 g4 ef ⟨false, rfl, ite_ff (hD σ3 H4 (I3.next S x4 r4 le4 I3.sr))⟩
        · refine ⟨_, q1, b, dx, fs6, rfl, q2, q3, _, y1, _, k3', (k : Int), 2, rfl, rfl, (show (0 : Int) < 2 by decide), b9, vs9, (k : Int) % 2, v9', rfl, rfl, .inl (.inl hb9), by rw [int_mod2]; exact atI_nat g1, ?_⟩
          exact q4
theorem law_loop (ok : WdOk W) (cx : CxT (cxL W f cdv A outer s0 H0 E) E 18) (hscr : W.D.scr = a) (S : Seen s h) (I : Iv W rh s h a (ns.map V.int) σ H) (hl : ns.length ≤ 63) {D : Ends} (hD : ∀ σ' H', Iv W rh s h a (ns.map V.int) σ' H' → D.nx σ' H') :
    wS (cxL W f cdv A outer s0 H0 E) (lawSt 10) D σ H := by
  have P : PS (cxL W f cdv A outer s0 H0 E) (lawSt 10) _ := ps_for cx.hp cx.calm (pi_range2 rfl (fr_range ok) (pa_cons pe_int (pa_cons (pe_callB call_len rfl (fr_len ok) rfl (pa_cons (pe_var (i := 0) rfl (.inr (.inl rfl))) pa_nil rfl) (by decide) (by decide) rfl rfl) pa_nil rfl) rfl) rfl rfl) (pg_name (i := 3) cx.nd rfl (.inl rfl) (.inr rfl)) (pSs (sts := forBody (lawSt 10))) (fun _ => rfl)
  refine of_PS P ?_
  obtain ⟨vz, z1, z2⟩ := I.sr.at_ 0 _ S.scr
  have z2 : vz = .ref W.D.scr := z2
  rw [hscr] at z2
  subst z2
  refine ⟨_, z1, .ref a, ns.length, rfl, .inl ⟨_, I.sc.sq, (List.length_map _).symm⟩, 3, (ns.length : Int), rfl, ⟨by decide, by decide, by omega, by omega⟩, ?_⟩
  refine ⟨fun i m σ H => i ≤ ((ns.length : Int) - 3).toNat ∧ m = ((ns.length : Int) - 3).toNat - i ∧ Iv W rh s h a (ns.map V.int) σ H, ⟨_, Nat.zero_le _, rfl, I⟩, ?_⟩
  rintro i m σ' H' ⟨hi, rfl, I'⟩
  by_cases e : i < ((ns.length : Int) - 3).toNat
  · refine .inr ⟨e, fun σ H => Iv W rh s h a (ns.map V.int) σ H, fun σ2 H2 I2 => ⟨_, by omega, by omega, rfl, I2⟩, ?_⟩
    rintro x H2 ⟨rfl, rfl⟩
    show wSs _ _ _ (σ'.set 3 (some (.int (3 + (i : Int))))) H2
    rw [show (3 : Int) + (i : Int) = ((3 + i : Nat) : Int) by omega]
    exact law_turn ok cx hscr S I' (by omega) fun σ2 H2 I2 => I2
  · exact .inl ⟨show _ ≤ i by omega, hD σ' H' I'⟩
/-- the law, from its opening on -/
theorem law_all (ok : WdOk W) (cx : CxT (cxL W f cdv A outer s0 H0 E) E 18) (hscr : W.D.scr = a) (hl : ns.length ≤ 63) {kind : Nat} {room : AV} (hchk : chk kind room = true) (hk : ns.getD 0 0 % 3 = (kind : Int)) (hr : ∀ rh, VR W.D rh room (.int (1 + ns.getD 2 0 % 1000000000))) (hn : ∀ rh, VRs W.D rh nms18 (nmsV (ns.getD 1 0)))
    (sq : ScrAt W.K [] H0 a (ns.map V.int)) (tab : TabR W.D [] H0) {N : Ends} (hN : ∀ H', N.rt (.bl true) H') : wSs (cxL W f cdv A outer s0 H0 E) d_law.body N (L2.start lawN [.ref a]) H0 := by
  rw [law_split]
  refine law_head ok cx sq.sq fun p np => ?_
  have r0 : Rep W.D W.P W.w [] ⟨0, .e, []⟩ H0 := ⟨rfl, .nil, fun i o e => (by cases (show Tr.e.get i = some o from e)), fun b hb => (nomatch hb), tab, fun i k x e => (by cases (show Tr.e.get i = some _ from e))⟩
  obtain ⟨r1, x1⟩ := r0.new (q := p) (o := .lst nms18) (ho := .lst (nmsV (ns.getD 1 0))) np (OR.lstN (hn _))
  have r1 : Rep W.D W.P W.w [p] hp0 (upd H0 p (.lst (nmsV (ns.getD 1 0)))) := r1
  have sr1 : SR W.D [p] (sl0 kind room) [some (.ref a), some (.int (ns.getD 0 0 % 3)), some (.ref p), none, some (.int (1 + ns.getD 2 0 % 1000000000)), none, none, none, none, none, none, none, none] := by
    refine ⟨rfl, fun i x e => ?_⟩
    match i, e with
    | 0, e => cases e; exact ⟨_, rfl, by show V.ref a = V.ref W.D.scr; rw [hscr]⟩
    | 1, e => cases e; exact ⟨_, rfl, by show V.int _ = V.int _; rw [Int.zero_mul, Int.add_zero, hk]; rfl⟩
    | 2, e => cases e; exact ⟨_, rfl, p, rfl, rfl⟩
    | 3, e => cases e
    | 4, e => cases e; exact ⟨_, rfl, hr _⟩
    | 5, e => cases e
    | 6, e => cases e
    | 7, e => cases e
    | 8, e => cases e
    | 9, e => cases e
    | 10, e => cases e
    | 11, e => cases e
    | 12, e => cases e
    | n + 13, e => simp [sl0] at e
  unfold chk at hchk
  cases e : (ev clos fuel).ss law_pre (sl0 kind room) hp0 with
  | ret v h2 => rw [e] at hchk; cases hchk
  | exc C h2 => rw [e] at hchk; cases hchk
  | no => rw [e] at hchk; cases hchk
  | nx s h =>
    rw [e] at hchk
    have S := seen_of hchk
    refine sss_app (ls_pre ok cx) fuel (sl0 kind room) hp0 _ _ [p] N [lawSt 10, lawSt 11] sr1 r1 ?_
    rw [e]
    intro rh2 H2 σ2 x2 r2 sr2
    have I : Iv W rh2 s h a (ns.map V.int) σ2 H2 := ⟨r2, sr2, (sq.ext x1).ext x2⟩
    refine of_PSs (pss_cons pS pSs) ?_
    show wS (cxL W f cdv A outer s0 H0 E) (lawSt 10) { N with nx := fun σ1 H1 => wSs (cxL W f cdv A outer s0 H0 E) [lawSt 11] N σ1 H1 } σ2 H2
    refine law_loop ok cx hscr S I hl fun σ3 H3 I3 => ?_
    refine (sss_cons (ls_11 ok cx) sss_nil) fuel s h σ3 H3 rh2 N I3.sr I3.rep ?_
    have fin := S.fin
    unfold chkE at fin
    split at fin
    · rename_i h9 e9
      rw [e9]
      intro rh' H' y _ _ vy
      cases (show y = V.bl true from vy)
      exact hN H'
    · cases fin
end
end Ck
-- LG
set_option Elab.async false
set_option linter.all false
set_option maxRecDepth 100000
set_option maxHeartbeats 1000000
set_option autoImplicit false
/-! LG: the law's promise, the head's facts, the statement. -/
namespace Ck
open PySem PySem.Spec PyProof.Rows L2 Lk
def spLaw (K : PySem.W.Frag) : Sp := fun vs H Q _ => ∃ (a : Addr) (ns : List Int), vs = [.ref a] ∧ ns.length ≤ 63 ∧ (∀ p ∈ tf, H (He.cT K p).2 = some (.tbl #[])) ∧ SqL K H a (ns.map V.int) ∧ ∀ H', Q (.bl true) H'
theorem chk_of : ∀ k : Nat, k < 3 → chk k (.int (.ofNat 0) 1) = true ∧ chk k (.int (.ofNat 1) 0) = true
  | 0, _ => ⟨chk_0_01, chk_0_10⟩
  | 1, _ => ⟨chk_1_01, chk_1_10⟩
  | 2, _ => ⟨chk_2_01, chk_2_10⟩
  | n + 3, h => absurd h (by omega)
theorem kind_of (z : Int) : ∃ k : Nat, k < 3 ∧ z % 3 = (k : Int) := ⟨(z % 3).toNat, by omega, by omega⟩
theorem scr_of {K : PySem.W.Frag} {H : Hp} {a : Addr} {xs : List V} (h : SqL K H a xs) : ScrAt K [] H a xs := h.elim (fun z => .inl ⟨z, List.not_mem_nil⟩) fun z => .inr fun _ => .inr z
theorem tab_of {K : PySem.W.Frag} {H : Hp} {a : Addr} {room c : Int} (h : ∀ p ∈ tf, H (He.cT K p).2 = some (.tbl #[])) : TabR (mkD K a room c) [] H := fun p hp => by
  obtain ⟨q, hq, e⟩ := List.mem_map.mp (show p ∈ tf.map fun p => ((He.cT K p).2, nmW) from hp)
  subst e
  exact ⟨List.not_mem_nil, #[], h q hq, trivial, fun pos cv e => nomatch (show (none : Option Value) = some cv from e)⟩
theorem ok_law {P : Program} {w : World} {K : PySem.W.Frag} {mg : Str → Option Value} {base : Heap} {fd : FuncData} (B : Base K mg base) (F : FunD K d_law.name d_law.qual d_law.params d_law.body d_law.scope (d_law.dvs K) (d_law.kws K) (He.fAd K d_law.at_) fd) : FnOk P w K mg base (L2.CX P w) 19 (He.fAd K d_law.at_) fd [(PySem.Str.ofString "script")] (spLaw K) := by
  refine F.ok (N := lawN) (C8.fnScope_by (by kernel_rfl)) (fun vs H Q E h => by obtain ⟨a, ns, rfl, _⟩ := h; rfl) fun cdv A outer s H vs Q E hr h => ?_
  obtain ⟨a, ns, rfl, hl, tb, sq, q⟩ := h
  obtain ⟨k, hk, ek⟩ := kind_of (ns.getD 0 0)
  have m0 := Int.emod_nonneg (ns.getD 2 0) (show (1000000000 : Int) ≠ 0 by decide)
  have m1 := Int.emod_lt_of_pos (ns.getD 2 0) (show (0 : Int) < 1000000000 by decide)
  by_cases e : ns.getD 2 0 % 1000000000 = 0
  · refine ⟨wSs (cxL (mkW P w K mg base a 2 (ns.getD 1 0)) (He.fAd K d_law.at_) cdv A outer s H E) d_law.body, pSs, ?_⟩
    exact law_all (W := mkW P w K mg base a 2 (ns.getD 1 0)) (mkW_ok B a _ (by decide) (by decide)) (cxW_ok (W := mkW P w K mg base a 2 (ns.getD 1 0)) (by decide +kernel) hr) rfl hl (chk_of k hk).2 ek (fun rh => by show V.int _ = V.int _; rw [e]; rfl) (fun rh => nms_ok K a 2 _ rh) (scr_of sq) (tab_of tb) q
  · refine ⟨wSs (cxL (mkW P w K mg base a (1 + ns.getD 2 0 % 1000000000) (ns.getD 1 0)) (He.fAd K d_law.at_) cdv A outer s H E) d_law.body, pSs, ?_⟩
    exact law_all (W := mkW P w K mg base a (1 + ns.getD 2 0 % 1000000000) (ns.getD 1 0)) (mkW_ok B a _ (by omega) (by omega)) (cxW_ok (W := mkW P w K mg base a (1 + ns.getD 2 0 % 1000000000) (ns.getD 1 0)) (by decide +kernel) hr) rfl hl (chk_of k hk).1 ek (fun rh => by show V.int _ = V.int (0 + 1 * _); rw [Int.zero_add, Int.one_mul]; rfl) (fun rh => nms_ok K a _ _ rh) (scr_of sq) (tab_of tb) q
end Ck
namespace Lk
open PySem PySem.Spec PyProof.Rows L2
theorem law_at {P : Program} {w : World} {K : PySem.W.Frag} {h : Heap} {mg : Str → Option Value} {f : Addr} (X : K.In h) (G : h.Ns mainGlobals mg) (hf : mg (PySem.Str.ofString "law") = some (.ref f)) (c : He.SaysX fa fn [] tf ex w h K) :
    ∃ (fd : FuncData) (cs : List (Addr × Addr)) (sp : Sp), (∀ p ∈ cs, h.get? p.2 = some { cls := .none, data := .fields #[] }) ∧ (∀ p ∈ cs, K.lookup p.2 = none) ∧ (∀ p ∈ cs, PySem.W.CodeHd h p.1 p.2) ∧ (∀ (s : Shared) (u : Value), BindsTo s fd ⟨[u], []⟩ [((PySem.Str.ofString "script"), u)]) ∧
    (∀ (H : Hp) (a : Addr) (ns : List Int), ns.length ≤ 63 → (∀ z ∈ ns, Builtin.Int.intBits z ≤ 1048576) → (∀ p ∈ cs, H p.2 = some (.tbl #[])) → SqL K H a (ns.map V.int) → sp [.ref a] H (fun v _ => v = .bl true) fun _ _ _ => False) ∧
    ∀ base : Heap, K.In base → base.Ns mainGlobals mg → (∀ p ∈ cs, LamX.TabB base mg p.1 p.2) → FnOk P w K mg base (L2.CX P w) 19 f fd [(PySem.Str.ofString "script")] sp := by
  have cd : He.SaysD fa fn K := c.t.d
  obtain ⟨fd, F⟩ := cd.def_ 115 (d := d_law) rfl
  have e := hf.symm.trans (He.glo_ok X G (cd.fact 70 (f := .glo (PySem.Str.ofString "law")) rfl))
  cases e
  have b := FunD.bindsA (ps := [(PySem.Str.ofString "script")]) F fun _ _ _ _ _ _ us hl => match us, hl with | [_], _ => rfl
  refine ⟨fd, tf.map (He.cT K), Ck.spLaw K, fun p hp => ?_, fun p hp => ?_, fun p hp => ?_, fun s v => b s [v] rfl, fun H a ns hl _ hT hS => ⟨a, ns, rfl, hl, fun p hp => hT _ (List.mem_map.mpr ⟨p, hp, rfl⟩), hS, fun _ => rfl⟩, fun base hB hG hT => Ck.ok_law ⟨hB, hG, cd, c.more, fun p hp => hT _ (List.mem_map.mpr ⟨p, hp, rfl⟩)⟩ F⟩
  · obtain ⟨q, hq, e⟩ := List.mem_map.mp hp
    subst e
    exact c.empty q hq
  · obtain ⟨q, hq, e⟩ := List.mem_map.mp hp
    subst e
    exact c.out q hq
  · obtain ⟨q, hq, e⟩ := List.mem_map.mp hp
    subst e
    exact PySem.W.codeHd_of_K X (c.hd q hq)
end Lk
-- LH
set_option Elab.async false
set_option linter.all false
set_option maxRecDepth 100000
set_option maxHeartbeats 0
open PySem PySem.W PySem.Calls PyProof.Rows
theorem PySem.Challenge.cw_lockhouse_k85_refused_rows_holds : PySem.Challenge.rw_lockhouse_k85_refused_rows.Holds := by
  w_on; o_law
  refine HandSHeadRun.head_any (r := OpenLaw.row PySem.Challenge.rw_lockhouse_k85_refused_rows) (q := view (OpenLaw.row PySem.Challenge.rw_lockhouse_k85_refused_rows).prog [129]) (H := Lk.hkA) (ob := Lk.obA) (M := 20000) (loose := Lk.nms) (d := HandSHeadRun.topDef (OpenLaw.row PySem.Challenge.rw_lockhouse_k85_refused_rows).prog 129) (kwd := []) Lk.obA_eq
    (by kernel_rfl) (fun s => by kernel_rfl) Lk.run (by kernel_rfl) (by kernel_rfl) (by kernel_rfl) (by rfl) (by first | assumption | decide +kernel) (by decide +kernel) ⟨rfl, rfl, rfl, rfl, rfl, by decide +kernel⟩ ?hw ?hc
  case hw => w_witness2
  case hc =>
    refine LamX.walk_ofTsE (l := PySem.Challenge.rw_lockhouse_k85_refused_rows) (n := 63) (k := 19) (x := (PySem.Str.ofString "script")) (CX := fun w => L2.CX (PySem.Challenge.rw_lockhouse_k85_refused_rows).prog w) rfl (by decide) (by kernel_rfl) ⟨rfl, by decide, by decide⟩ ?F ?C
    case F =>
      intro w mg fa h Y G hmg0
      obtain ⟨K, KX, c⟩ := Y
      have hmg : mg (PySem.Str.ofString "law") = some (.ref fa) := by
        have e : (HandSHeadRun.topDef (OpenLaw.row PySem.Challenge.rw_lockhouse_k85_refused_rows).prog 129).name = (PySem.Str.ofString "law") := by kernel_rfl
        rw [← e]
        exact hmg0
      exact ⟨K, KX, Lk.law_at KX G hmg c⟩
    case C => exact fun w H s e s' ⟨_, _, _, _, _, _, _, _, _, _, _, _, z⟩ => z
