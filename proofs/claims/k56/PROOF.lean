import PyProof.Rows.All
import Wide.All
import OpenK.AllK
import Wide.FinOn
import KE.KStateDown
import HandS.ForMost
import HandS.More
import HandS.Sort
import HandS.SortInts
import HandS.SortKw
import HandS.Strs
import HandS.DictComp
import HandS.Property
import HandS.Deep
import HandS.Walk
import HandS.Zip
import HandS.Style
import HandS.Conv
import HandS.Steps
import HandS.Defaults
import HandS.WordsExc
import HandS.Flow
import HandS.Head0
import HandS.Head1
import HandS.Head2
import HandS.HeadEnd
import HandS.HeadHook1
import HandS.HeadHook2
import KE.DataMinMax
import KE.SortData
import PySem.Challenge.RW_risingbars_k56_whole_worlds_are_explaine
set_option Elab.async false
set_option linter.all false
set_option maxRecDepth 100000
set_option maxHeartbeats 0
/-! printed by gen_k0.py: the text by places, the names of each def by slot, the facts of the top -/
namespace Rb
open PySem PySem.Spec PyProof.Rows L2
def topS (i : Nat) : Stmt := PySem.Challenge.pw_risingbars_k56_whole_worlds_are_explaine.main.body.getD i (.Pass ⟨0, 0, 0, 0⟩)
abbrev s_is_name : Stmt := topS 23
abbrev s_is_drift : Stmt := topS 24
abbrev s_are_names : Stmt := topS 25
abbrev s_is_event : Stmt := topS 26
abbrev s_Log_init : Stmt := inClass (topS 27) 0
abbrev s_Log_item_names : Stmt := inClass (topS 27) 1
abbrev s_Log_grades : Stmt := inClass (topS 27) 2
abbrev s_Log_judges : Stmt := inClass (topS 27) 3
abbrev s_Log_events : Stmt := inClass (topS 27) 4
abbrev s_Log_drift_of : Stmt := inClass (topS 27) 5
abbrev s_Log_is_answer : Stmt := inClass (topS 27) 6
abbrev s_Log_answers : Stmt := inClass (topS 27) 7
abbrev s_Log_answers_of : Stmt := inClass (topS 27) 8
abbrev s_Log_answer_at : Stmt := inClass (topS 27) 9
abbrev s_Log_judge_at : Stmt := inClass (topS 27) 10
abbrev s_Log_item_at : Stmt := inClass (topS 27) 11
abbrev s_Log_grade_at : Stmt := inClass (topS 27) 12
abbrev s_Log_span_at : Stmt := inClass (topS 27) 13
abbrev s_Log_stretch_at : Stmt := inClass (topS 27) 14
abbrev s_Log_stretch_of : Stmt := inClass (topS 27) 15
abbrev s_Log_stretches : Stmt := inClass (topS 27) 16
abbrev s_Log_with_events : Stmt := inClass (topS 27) 20
abbrev s_Log_check_event : Stmt := inClass (topS 27) 21
abbrev s_Log_with_event_at : Stmt := inClass (topS 27) 22
abbrev s_Log_with_event : Stmt := inClass (topS 27) 23
abbrev s_check_bars : Stmt := topS 29
abbrev s_is_move : Stmt := topS 30
abbrev s_World_init : Stmt := inClass (topS 31) 0
abbrev s_World_quality_of : Stmt := inClass (topS 31) 1
abbrev s_World_bars_of : Stmt := inClass (topS 31) 2
abbrev s_World_move : Stmt := inClass (topS 31) 3
abbrev s_World_check_room : Stmt := inClass (topS 31) 4
abbrev s_World_set_anew : Stmt := inClass (topS 31) 5
abbrev s_World_would_say : Stmt := inClass (topS 31) 6
abbrev s_World_answer : Stmt := inClass (topS 31) 7
abbrev s_World_log : Stmt := inClass (topS 31) 8
abbrev s_World_bars_at : Stmt := inClass (topS 31) 9
abbrev s_links_in : Stmt := topS 33
abbrev s_links_of : Stmt := topS 34
abbrev s_ends_of : Stmt := topS 35
abbrev s_lengths_to : Stmt := topS 36
abbrev s_first_way : Stmt := topS 37
abbrev s_reached : Stmt := topS 38
abbrev s_better_by : Stmt := topS 39
abbrev s_worse_than : Stmt := topS 40
abbrev s_ring_of : Stmt := topS 42
abbrev s_explains : Stmt := topS 43
abbrev s_check_explained : Stmt := topS 45
abbrev s_check_item : Stmt := topS 46
abbrev s_check_ask : Stmt := topS 47
abbrev s_check_room : Stmt := topS 48
abbrev s_pairs_of : Stmt := topS 49
abbrev s_made_sure : Stmt := topS 50
abbrev s_outcomes : Stmt := topS 51
abbrev s_worse_in : Stmt := topS 53
abbrev s_sure_pairs : Stmt := topS 54
abbrev s_l_row : Stmt := topS 56
abbrev s_l_numbers : Stmt := topS 57
abbrev s_l_names : Stmt := topS 58
abbrev s_l_in_order : Stmt := topS 59
abbrev s_l_links : Stmt := topS 60
abbrev s_l_pairs : Stmt := topS 61
abbrev s_l_bars : Stmt := topS 66
abbrev s_l_moved : Stmt := topS 67
abbrev s_l_world : Stmt := topS 70
abbrev s_l_world_made : Stmt := topS 71
abbrev s_l_says : Stmt := topS 72
abbrev s_l_parts : Stmt := topS 73
abbrev s_l_deed : Stmt := topS 74
abbrev s_l_is_explained : Stmt := topS 76
abbrev s_law : Stmt := topS 77
abbrev N_is_name : List Str := ["text", "sign"]
abbrev N_is_drift : List Str := ["text"]
abbrev N_are_names : List Str := ["texts", "most", "text"]
abbrev N_is_event : List Str := ["event", "items", "grades", "judges"]
abbrev N_Log_init : List Str := ["self", "items", "grades", "judges", "events", "judge", "names", "event"]
abbrev N_Log_item_names : List Str := ["self"]
abbrev N_Log_grades : List Str := ["self"]
abbrev N_Log_judges : List Str := ["self"]
abbrev N_Log_events : List Str := ["self"]
abbrev N_Log_drift_of : List Str := ["self", "judge", "name", "drift"]
abbrev N_Log_is_answer : List Str := ["self", "place"]
abbrev N_Log_answers : List Str := ["self", "place"]
abbrev N_Log_answers_of : List Str := ["self", "judge", "place"]
abbrev N_Log_answer_at : List Str := ["self", "place"]
abbrev N_Log_judge_at : List Str := ["self", "place"]
abbrev N_Log_item_at : List Str := ["self", "place"]
abbrev N_Log_grade_at : List Str := ["self", "place"]
abbrev N_Log_span_at : List Str := ["self", "judge", "place", "resets", "at", "event", "first"]
abbrev N_Log_stretch_at : List Str := ["self", "judge", "place", "answers", "first", "last", "at"]
abbrev N_Log_stretch_of : List Str := ["self", "place"]
abbrev N_Log_stretches : List Str := ["self", "judge", "found", "place"]
abbrev N_Log_with_events : List Str := ["self", "events"]
abbrev N_Log_check_event : List Str := ["self", "event"]
abbrev N_Log_with_event_at : List Str := ["self", "place", "event"]
abbrev N_Log_with_event : List Str := ["self", "event"]
abbrev N_check_bars : List Str := ["grades", "bars", "at"]
abbrev N_is_move : List Str := ["drift", "bars", "others", "one", "other"]
abbrev N_World_init : List Str := ["self", "grades", "qualities", "judges", "names", "name", "drift", "_", "bars"]
abbrev N_World_quality_of : List Str := ["self", "item"]
abbrev N_World_bars_of : List Str := ["self", "judge"]
abbrev N_World_move : List Str := ["self", "judge", "bars", "present"]
abbrev N_World_check_room : List Str := ["self"]
abbrev N_World_set_anew : List Str := ["self", "judge", "bars"]
abbrev N_World_would_say : List Str := ["self", "judge", "item", "bars", "quality", "bar"]
abbrev N_World_answer : List Str := ["self", "judge", "item", "grade"]
abbrev N_World_log : List Str := ["self"]
abbrev N_World_bars_at : List Str := ["self", "place", "bars"]
abbrev N_links_in : List Str := ["log", "drift", "stretch", "grades", "place", "found", "first", "second"]
abbrev N_links_of : List Str := ["log", "found", "judge", "drift", "stretch"]
abbrev N_ends_of : List Str := ["log", "items", "place", "first", "second"]
abbrev N_lengths_to : List Str := ["ends", "better", "lengths", "queue", "here", "_", "begin", "end"]
abbrev N_first_way : List Str := ["ends", "worse", "better", "lengths", "left", "_", "begin", "end", "way", "here", "link"]
abbrev N_reached : List Str := ["items", "ends", "found", "end", "item", "middle"]
abbrev N_better_by : List Str := ["log", "places", "kept", "place", "pairs", "first", "second", "begin", "end"]
abbrev N_worse_than : List Str := ["log", "better", "worse", "item"]
abbrev N_ring_of : List Str := ["log", "ends", "rings", "item", "found", "ring"]
abbrev N_explains : List Str := ["log", "qualities", "_", "begin", "end"]
abbrev N_check_explained : List Str := ["log"]
abbrev N_check_item : List Str := ["log", "item"]
abbrev N_check_ask : List Str := ["log", "judge", "item"]
abbrev N_check_room : List Str := ["log", "many"]
abbrev N_pairs_of : List Str := ["log", "worse", "one", "other"]
abbrev N_made_sure : List Str := ["log", "judge", "item", "before", "found", "grade", "later", "pair"]
abbrev N_outcomes : List Str := ["log", "judge", "item"]
abbrev N_worse_in : List Str := ["log", "worse", "item"]
abbrev N_sure_pairs : List Str := ["log", "worse", "one", "other"]
abbrev N_l_row : List Str := ["_law_cell", "_law_many", "_law_row_here", "_law_rest", "_law_state", "_law_k"]
abbrev N_l_numbers : List Str := ["_law_script", "_law_many", "_law_cells", "_law_each", "_law_numbers_here", "_law_cell", "_law_number"]
abbrev N_l_names : List Str := ["_law_number", "_law_many", "_law_letters", "_law_base", "_law_k", "_law_place", "_law_names_here", "_law_own", "_law_spot"]
abbrev N_l_in_order : List Str := ["_law_parts_here", "_law_one", "_law_other", "_law_first", "_law_second", "_law_place", "_law_drift"]
abbrev N_l_links : List Str := ["_law_parts_here", "_law_places", "_law_place", "_law_found", "_law_one", "_law_other"]
abbrev N_l_pairs : List Str := ["_law_parts_here", "_law_names_here", "_law_known", "_law_one", "_law_other", "_law_middle", "_law_low", "_law_high", "_law_found"]
abbrev N_l_bars : List Str := ["_law_numbers_here", "_law_at", "_law_grades", "_law_k"]
abbrev N_l_moved : List Str := ["_law_drift", "_law_bars_here", "_law_numbers_here", "_law_at", "_law_k"]
abbrev N_l_world : List Str := ["_law_numbers_here", "_law_at", "_law_names_here", "_law_grades", "_law_own", "_law_k", "_law_name"]
abbrev N_l_world_made : List Str := ["_law_own", "_law_judges", "_law_name"]
abbrev N_l_says : List Str := ["_law_own", "_law_judge", "_law_item", "_law_bar"]
abbrev N_l_parts : List Str := ["_law_own", "_law_judges", "_law_name"]
abbrev N_l_deed : List Str := ["_law_world_here", "_law_own", "_law_draws", "_law_judge", "_law_kind", "_law_names_here", "_law_item", "_law_grade", "_law_bars_here"]
abbrev N_l_is_explained : List Str := ["_law_parts_here", "_law_qualities", "_law_told", "_law_places", "_law_place", "_law_answer", "_law_bars_here", "_law_k", "_law_other"]
abbrev N_law : List Str := ["_law_script", "_law_numbers_here", "_law_own", "_law_world_here", "_law_sure", "_law_k", "_law_parts_here", "_law_log_here", "_law_told", "_law_place", "_law_pairs_here", "_law_pair", "_law_low", "_law_high", "_law_judge", "_law_item", "_law_grade", "_law_made_here"]
theorem sc_is_name : FnScope N_is_name ["text"] (defScope s_is_name) := ⟨rfl, rfl, rfl, by decide +kernel, rfl, by decide +kernel, by decide +kernel⟩
theorem sc_is_drift : FnScope N_is_drift ["text"] (defScope s_is_drift) := ⟨rfl, rfl, rfl, by decide +kernel, rfl, by decide +kernel, by decide +kernel⟩
theorem sc_are_names : FnScope N_are_names ["texts", "most"] (defScope s_are_names) := ⟨rfl, rfl, rfl, by decide +kernel, rfl, by decide +kernel, by decide +kernel⟩
theorem sc_is_event : FnScope N_is_event ["event", "items", "grades", "judges"] (defScope s_is_event) := ⟨rfl, rfl, rfl, by decide +kernel, rfl, by decide +kernel, by decide +kernel⟩
theorem sc_Log_init : FnScope N_Log_init ["self", "items", "grades", "judges", "events"] (defScope s_Log_init) := ⟨rfl, rfl, rfl, by decide +kernel, rfl, by decide +kernel, by decide +kernel⟩
theorem sc_Log_item_names : FnScope N_Log_item_names ["self"] (defScope s_Log_item_names) := ⟨rfl, rfl, rfl, by decide +kernel, rfl, by decide +kernel, by decide +kernel⟩
theorem sc_Log_grades : FnScope N_Log_grades ["self"] (defScope s_Log_grades) := ⟨rfl, rfl, rfl, by decide +kernel, rfl, by decide +kernel, by decide +kernel⟩
theorem sc_Log_judges : FnScope N_Log_judges ["self"] (defScope s_Log_judges) := ⟨rfl, rfl, rfl, by decide +kernel, rfl, by decide +kernel, by decide +kernel⟩
theorem sc_Log_events : FnScope N_Log_events ["self"] (defScope s_Log_events) := ⟨rfl, rfl, rfl, by decide +kernel, rfl, by decide +kernel, by decide +kernel⟩
theorem sc_Log_drift_of : FnScope N_Log_drift_of ["self", "judge"] (defScope s_Log_drift_of) := ⟨rfl, rfl, rfl, by decide +kernel, rfl, by decide +kernel, by decide +kernel⟩
theorem sc_Log_is_answer : FnScope N_Log_is_answer ["self", "place"] (defScope s_Log_is_answer) := ⟨rfl, rfl, rfl, by decide +kernel, rfl, by decide +kernel, by decide +kernel⟩
theorem sc_Log_answers : FnScope N_Log_answers ["self"] (defScope s_Log_answers) := ⟨rfl, rfl, rfl, by decide +kernel, rfl, by decide +kernel, by decide +kernel⟩
theorem sc_Log_answers_of : FnScope N_Log_answers_of ["self", "judge"] (defScope s_Log_answers_of) := ⟨rfl, rfl, rfl, by decide +kernel, rfl, by decide +kernel, by decide +kernel⟩
theorem sc_Log_answer_at : FnScope N_Log_answer_at ["self", "place"] (defScope s_Log_answer_at) := ⟨rfl, rfl, rfl, by decide +kernel, rfl, by decide +kernel, by decide +kernel⟩
theorem sc_Log_judge_at : FnScope N_Log_judge_at ["self", "place"] (defScope s_Log_judge_at) := ⟨rfl, rfl, rfl, by decide +kernel, rfl, by decide +kernel, by decide +kernel⟩
theorem sc_Log_item_at : FnScope N_Log_item_at ["self", "place"] (defScope s_Log_item_at) := ⟨rfl, rfl, rfl, by decide +kernel, rfl, by decide +kernel, by decide +kernel⟩
theorem sc_Log_grade_at : FnScope N_Log_grade_at ["self", "place"] (defScope s_Log_grade_at) := ⟨rfl, rfl, rfl, by decide +kernel, rfl, by decide +kernel, by decide +kernel⟩
theorem sc_Log_span_at : FnScope N_Log_span_at ["self", "judge", "place"] (defScope s_Log_span_at) := ⟨rfl, rfl, rfl, by decide +kernel, rfl, by decide +kernel, by decide +kernel⟩
theorem sc_Log_stretch_at : FnScope N_Log_stretch_at ["self", "judge", "place"] (defScope s_Log_stretch_at) := ⟨rfl, rfl, rfl, by decide +kernel, rfl, by decide +kernel, by decide +kernel⟩
theorem sc_Log_stretch_of : FnScope N_Log_stretch_of ["self", "place"] (defScope s_Log_stretch_of) := ⟨rfl, rfl, rfl, by decide +kernel, rfl, by decide +kernel, by decide +kernel⟩
theorem sc_Log_stretches : FnScope N_Log_stretches ["self", "judge"] (defScope s_Log_stretches) := ⟨rfl, rfl, rfl, by decide +kernel, rfl, by decide +kernel, by decide +kernel⟩
theorem sc_Log_with_events : FnScope N_Log_with_events ["self", "events"] (defScope s_Log_with_events) := ⟨rfl, rfl, rfl, by decide +kernel, rfl, by decide +kernel, by decide +kernel⟩
theorem sc_Log_check_event : FnScope N_Log_check_event ["self", "event"] (defScope s_Log_check_event) := ⟨rfl, rfl, rfl, by decide +kernel, rfl, by decide +kernel, by decide +kernel⟩
theorem sc_Log_with_event_at : FnScope N_Log_with_event_at ["self", "place", "event"] (defScope s_Log_with_event_at) := ⟨rfl, rfl, rfl, by decide +kernel, rfl, by decide +kernel, by decide +kernel⟩
theorem sc_Log_with_event : FnScope N_Log_with_event ["self", "event"] (defScope s_Log_with_event) := ⟨rfl, rfl, rfl, by decide +kernel, rfl, by decide +kernel, by decide +kernel⟩
theorem sc_check_bars : FnScope N_check_bars ["grades", "bars"] (defScope s_check_bars) := ⟨rfl, rfl, rfl, by decide +kernel, rfl, by decide +kernel, by decide +kernel⟩
theorem sc_is_move : FnScope N_is_move ["drift", "bars", "others"] (defScope s_is_move) := ⟨rfl, rfl, rfl, by decide +kernel, rfl, by decide +kernel, by decide +kernel⟩
theorem sc_World_init : FnScope N_World_init ["self", "grades", "qualities", "judges"] (defScope s_World_init) := ⟨rfl, rfl, rfl, by decide +kernel, rfl, by decide +kernel, by decide +kernel⟩
theorem sc_World_quality_of : FnScope N_World_quality_of ["self", "item"] (defScope s_World_quality_of) := ⟨rfl, rfl, rfl, by decide +kernel, rfl, by decide +kernel, by decide +kernel⟩
theorem sc_World_bars_of : FnScope N_World_bars_of ["self", "judge"] (defScope s_World_bars_of) := ⟨rfl, rfl, rfl, by decide +kernel, rfl, by decide +kernel, by decide +kernel⟩
theorem sc_World_move : FnScope N_World_move ["self", "judge", "bars"] (defScope s_World_move) := ⟨rfl, rfl, rfl, by decide +kernel, rfl, by decide +kernel, by decide +kernel⟩
theorem sc_World_check_room : FnScope N_World_check_room ["self"] (defScope s_World_check_room) := ⟨rfl, rfl, rfl, by decide +kernel, rfl, by decide +kernel, by decide +kernel⟩
theorem sc_World_set_anew : FnScope N_World_set_anew ["self", "judge", "bars"] (defScope s_World_set_anew) := ⟨rfl, rfl, rfl, by decide +kernel, rfl, by decide +kernel, by decide +kernel⟩
theorem sc_World_would_say : FnScope N_World_would_say ["self", "judge", "item"] (defScope s_World_would_say) := ⟨rfl, rfl, rfl, by decide +kernel, rfl, by decide +kernel, by decide +kernel⟩
theorem sc_World_answer : FnScope N_World_answer ["self", "judge", "item"] (defScope s_World_answer) := ⟨rfl, rfl, rfl, by decide +kernel, rfl, by decide +kernel, by decide +kernel⟩
theorem sc_World_log : FnScope N_World_log ["self"] (defScope s_World_log) := ⟨rfl, rfl, rfl, by decide +kernel, rfl, by decide +kernel, by decide +kernel⟩
theorem sc_World_bars_at : FnScope N_World_bars_at ["self"] (defScope s_World_bars_at) := ⟨rfl, rfl, rfl, by decide +kernel, rfl, by decide +kernel, by decide +kernel⟩
theorem sc_links_in : FnScope N_links_in ["log", "drift", "stretch"] (defScope s_links_in) := ⟨rfl, rfl, rfl, by decide +kernel, rfl, by decide +kernel, by decide +kernel⟩
theorem sc_links_of : FnScope N_links_of ["log"] (defScope s_links_of) := ⟨rfl, rfl, rfl, by decide +kernel, rfl, by decide +kernel, by decide +kernel⟩
theorem sc_ends_of : FnScope N_ends_of ["log"] (defScope s_ends_of) := ⟨rfl, rfl, rfl, by decide +kernel, rfl, by decide +kernel, by decide +kernel⟩
theorem sc_lengths_to : FnScope N_lengths_to ["ends", "better"] (defScope s_lengths_to) := ⟨rfl, rfl, rfl, by decide +kernel, rfl, by decide +kernel, by decide +kernel⟩
theorem sc_first_way : FnScope N_first_way ["ends", "worse", "better"] (defScope s_first_way) := ⟨rfl, rfl, rfl, by decide +kernel, rfl, by decide +kernel, by decide +kernel⟩
theorem sc_reached : FnScope N_reached ["items", "ends"] (defScope s_reached) := ⟨rfl, rfl, rfl, by decide +kernel, rfl, by decide +kernel, by decide +kernel⟩
theorem sc_better_by : FnScope N_better_by ["log", "places"] (defScope s_better_by) := ⟨rfl, rfl, rfl, by decide +kernel, rfl, by decide +kernel, by decide +kernel⟩
theorem sc_worse_than : FnScope N_worse_than ["log"] (defScope s_worse_than) := ⟨rfl, rfl, rfl, by decide +kernel, rfl, by decide +kernel, by decide +kernel⟩
theorem sc_ring_of : FnScope N_ring_of ["log"] (defScope s_ring_of) := ⟨rfl, rfl, rfl, by decide +kernel, rfl, by decide +kernel, by decide +kernel⟩
theorem sc_explains : FnScope N_explains ["log", "qualities"] (defScope s_explains) := ⟨rfl, rfl, rfl, by decide +kernel, rfl, by decide +kernel, by decide +kernel⟩
theorem sc_check_explained : FnScope N_check_explained ["log"] (defScope s_check_explained) := ⟨rfl, rfl, rfl, by decide +kernel, rfl, by decide +kernel, by decide +kernel⟩
theorem sc_check_item : FnScope N_check_item ["log", "item"] (defScope s_check_item) := ⟨rfl, rfl, rfl, by decide +kernel, rfl, by decide +kernel, by decide +kernel⟩
theorem sc_check_ask : FnScope N_check_ask ["log", "judge", "item"] (defScope s_check_ask) := ⟨rfl, rfl, rfl, by decide +kernel, rfl, by decide +kernel, by decide +kernel⟩
theorem sc_check_room : FnScope N_check_room ["log", "many"] (defScope s_check_room) := ⟨rfl, rfl, rfl, by decide +kernel, rfl, by decide +kernel, by decide +kernel⟩
theorem sc_pairs_of : FnScope N_pairs_of ["log"] (defScope s_pairs_of) := ⟨rfl, rfl, rfl, by decide +kernel, rfl, by decide +kernel, by decide +kernel⟩
theorem sc_made_sure : FnScope N_made_sure ["log", "judge", "item"] (defScope s_made_sure) := ⟨rfl, rfl, rfl, by decide +kernel, rfl, by decide +kernel, by decide +kernel⟩
theorem sc_outcomes : FnScope N_outcomes ["log", "judge", "item"] (defScope s_outcomes) := ⟨rfl, rfl, rfl, by decide +kernel, rfl, by decide +kernel, by decide +kernel⟩
theorem sc_worse_in : FnScope N_worse_in ["log"] (defScope s_worse_in) := ⟨rfl, rfl, rfl, by decide +kernel, rfl, by decide +kernel, by decide +kernel⟩
theorem sc_sure_pairs : FnScope N_sure_pairs ["log"] (defScope s_sure_pairs) := ⟨rfl, rfl, rfl, by decide +kernel, rfl, by decide +kernel, by decide +kernel⟩
theorem sc_l_row : FnScope N_l_row ["_law_cell", "_law_many"] (defScope s_l_row) := ⟨rfl, rfl, rfl, by decide +kernel, rfl, by decide +kernel, by decide +kernel⟩
theorem sc_l_numbers : FnScope N_l_numbers ["_law_script", "_law_many"] (defScope s_l_numbers) := ⟨rfl, rfl, rfl, by decide +kernel, rfl, by decide +kernel, by decide +kernel⟩
theorem sc_l_names : FnScope N_l_names ["_law_number", "_law_many"] (defScope s_l_names) := ⟨rfl, rfl, rfl, by decide +kernel, rfl, by decide +kernel, by decide +kernel⟩
theorem sc_l_in_order : FnScope N_l_in_order ["_law_parts_here", "_law_one", "_law_other"] (defScope s_l_in_order) := ⟨rfl, rfl, rfl, by decide +kernel, rfl, by decide +kernel, by decide +kernel⟩
theorem sc_l_links : FnScope N_l_links ["_law_parts_here"] (defScope s_l_links) := ⟨rfl, rfl, rfl, by decide +kernel, rfl, by decide +kernel, by decide +kernel⟩
theorem sc_l_pairs : FnScope N_l_pairs ["_law_parts_here"] (defScope s_l_pairs) := ⟨rfl, rfl, rfl, by decide +kernel, rfl, by decide +kernel, by decide +kernel⟩
theorem sc_l_bars : FnScope N_l_bars ["_law_numbers_here", "_law_at", "_law_grades"] (defScope s_l_bars) := ⟨rfl, rfl, rfl, by decide +kernel, rfl, by decide +kernel, by decide +kernel⟩
theorem sc_l_moved : FnScope N_l_moved ["_law_drift", "_law_bars_here", "_law_numbers_here", "_law_at"] (defScope s_l_moved) := ⟨rfl, rfl, rfl, by decide +kernel, rfl, by decide +kernel, by decide +kernel⟩
theorem sc_l_world : FnScope N_l_world ["_law_numbers_here", "_law_at"] (defScope s_l_world) := ⟨rfl, rfl, rfl, by decide +kernel, rfl, by decide +kernel, by decide +kernel⟩
theorem sc_l_world_made : FnScope N_l_world_made ["_law_own"] (defScope s_l_world_made) := ⟨rfl, rfl, rfl, by decide +kernel, rfl, by decide +kernel, by decide +kernel⟩
theorem sc_l_says : FnScope N_l_says ["_law_own", "_law_judge", "_law_item"] (defScope s_l_says) := ⟨rfl, rfl, rfl, by decide +kernel, rfl, by decide +kernel, by decide +kernel⟩
theorem sc_l_parts : FnScope N_l_parts ["_law_own"] (defScope s_l_parts) := ⟨rfl, rfl, rfl, by decide +kernel, rfl, by decide +kernel, by decide +kernel⟩
theorem sc_l_deed : FnScope N_l_deed ["_law_world_here", "_law_own", "_law_draws"] (defScope s_l_deed) := ⟨rfl, rfl, rfl, by decide +kernel, rfl, by decide +kernel, by decide +kernel⟩
theorem sc_l_is_explained : FnScope N_l_is_explained ["_law_parts_here", "_law_qualities", "_law_told"] (defScope s_l_is_explained) := ⟨rfl, rfl, rfl, by decide +kernel, rfl, by decide +kernel, by decide +kernel⟩
theorem sc_law : FnScope N_law ["_law_script"] (defScope s_law) := ⟨rfl, rfl, rfl, by decide +kernel, rfl, by decide +kernel, by decide +kernel⟩
abbrev Frg := PySem.W.Frag
/-- a def of the text at f -/
abbrev DefAt (K : Frg) (x qual : Str) (st : Stmt) (f : Addr) : Prop := ∃ fd, FunD K x qual (defArgs st) (defBody st) (defScope st) [] [] f fd
abbrev fA (K : Frg) (x : Str) : Addr := He.ga K x
abbrev mA (K : Frg) (c m : Str) : Addr := He.ma K (He.ga K c) m
structure XB (mg : Str → Option Value) : Prop where
  b_len : mg "len" = none
  b_all : mg "all" = none
  b_any : mg "any" = none
  b_set : mg "set" = none
  b_max : mg "max" = none
  b_min : mg "min" = none
  b_sorted : mg "sorted" = none
  b_range : mg "range" = none
  b_list : mg "list" = none
  b_dict : mg "dict" = none
  b_zip : mg "zip" = none
  b_enumerate : mg "enumerate" = none
  b_abs : mg "abs" = none
  b_int : mg "int" = none
structure XC (mg : Str → Option Value) : Prop where
  c_LETTERS : ∃ t, mg "LETTERS" = some (.str "abcdefghijklmnopqrstuvwxyz0123456789" t)
  c_RISES : ∃ t, mg "RISES" = some (.str "rises" t)
  c_FALLS : ∃ t, mg "FALLS" = some (.str "falls" t)
  c_STAYS : ∃ t, mg "STAYS" = some (.str "stays" t)
  c_ANSWER : ∃ t, mg "ANSWER" = some (.str "answer" t)
  c_RESET : ∃ t, mg "RESET" = some (.str "reset" t)
  c_MOST_ITEMS : ∃ t, mg "MOST_ITEMS" = some (.int 20 t)
  c_MOST_JUDGES : ∃ t, mg "MOST_JUDGES" = some (.int 8 t)
  c_MOST_EVENTS : ∃ t, mg "MOST_EVENTS" = some (.int 120 t)
  c_MOST_GRADE : ∃ t, mg "MOST_GRADE" = some (.int 9 t)
structure XG (K : Frg) (mg : Str → Option Value) : Prop where
  g_is_name : mg "is_name" = some (.ref (fA K "is_name"))
  g_is_drift : mg "is_drift" = some (.ref (fA K "is_drift"))
  g_are_names : mg "are_names" = some (.ref (fA K "are_names"))
  g_is_event : mg "is_event" = some (.ref (fA K "is_event"))
  g_check_bars : mg "check_bars" = some (.ref (fA K "check_bars"))
  g_is_move : mg "is_move" = some (.ref (fA K "is_move"))
  g_links_in : mg "links_in" = some (.ref (fA K "links_in"))
  g_links_of : mg "links_of" = some (.ref (fA K "links_of"))
  g_ends_of : mg "ends_of" = some (.ref (fA K "ends_of"))
  g_lengths_to : mg "lengths_to" = some (.ref (fA K "lengths_to"))
  g_first_way : mg "first_way" = some (.ref (fA K "first_way"))
  g_reached : mg "reached" = some (.ref (fA K "reached"))
  g_better_by : mg "better_by" = some (.ref (fA K "better_by"))
  g_worse_than : mg "worse_than" = some (.ref (fA K "worse_than"))
  g_ring_of : mg "ring_of" = some (.ref (fA K "ring_of"))
  g_explains : mg "explains" = some (.ref (fA K "explains"))
  g_check_explained : mg "check_explained" = some (.ref (fA K "check_explained"))
  g_check_item : mg "check_item" = some (.ref (fA K "check_item"))
  g_check_ask : mg "check_ask" = some (.ref (fA K "check_ask"))
  g_check_room : mg "check_room" = some (.ref (fA K "check_room"))
  g_pairs_of : mg "pairs_of" = some (.ref (fA K "pairs_of"))
  g_made_sure : mg "made_sure" = some (.ref (fA K "made_sure"))
  g_outcomes : mg "outcomes" = some (.ref (fA K "outcomes"))
  g_worse_in : mg "worse_in" = some (.ref (fA K "worse_in"))
  g_sure_pairs : mg "sure_pairs" = some (.ref (fA K "sure_pairs"))
  g_l_row : mg "_law_row" = some (.ref (fA K "_law_row"))
  g_l_numbers : mg "_law_numbers" = some (.ref (fA K "_law_numbers"))
  g_l_names : mg "_law_names" = some (.ref (fA K "_law_names"))
  g_l_in_order : mg "_law_in_order" = some (.ref (fA K "_law_in_order"))
  g_l_links : mg "_law_links" = some (.ref (fA K "_law_links"))
  g_l_pairs : mg "_law_pairs" = some (.ref (fA K "_law_pairs"))
  g_l_bars : mg "_law_bars" = some (.ref (fA K "_law_bars"))
  g_l_moved : mg "_law_moved" = some (.ref (fA K "_law_moved"))
  g_l_world : mg "_law_world" = some (.ref (fA K "_law_world"))
  g_l_world_made : mg "_law_world_made" = some (.ref (fA K "_law_world_made"))
  g_l_says : mg "_law_says" = some (.ref (fA K "_law_says"))
  g_l_parts : mg "_law_parts" = some (.ref (fA K "_law_parts"))
  g_l_deed : mg "_law_deed" = some (.ref (fA K "_law_deed"))
  g_l_is_explained : mg "_law_is_explained" = some (.ref (fA K "_law_is_explained"))
  g_law : mg "law" = some (.ref (fA K "law"))
  g_Log : mg "Log" = some (.ref (fA K "Log"))
  g_World : mg "World" = some (.ref (fA K "World"))
structure XD (K : Frg) : Prop where
  d_is_name : DefAt K "is_name" "is_name" s_is_name (fA K "is_name")
  d_is_drift : DefAt K "is_drift" "is_drift" s_is_drift (fA K "is_drift")
  d_are_names : DefAt K "are_names" "are_names" s_are_names (fA K "are_names")
  d_is_event : DefAt K "is_event" "is_event" s_is_event (fA K "is_event")
  d_check_bars : DefAt K "check_bars" "check_bars" s_check_bars (fA K "check_bars")
  d_is_move : DefAt K "is_move" "is_move" s_is_move (fA K "is_move")
  d_links_in : DefAt K "links_in" "links_in" s_links_in (fA K "links_in")
  d_links_of : DefAt K "links_of" "links_of" s_links_of (fA K "links_of")
  d_ends_of : DefAt K "ends_of" "ends_of" s_ends_of (fA K "ends_of")
  d_lengths_to : DefAt K "lengths_to" "lengths_to" s_lengths_to (fA K "lengths_to")
  d_first_way : DefAt K "first_way" "first_way" s_first_way (fA K "first_way")
  d_reached : DefAt K "reached" "reached" s_reached (fA K "reached")
  d_better_by : DefAt K "better_by" "better_by" s_better_by (fA K "better_by")
  d_worse_than : DefAt K "worse_than" "worse_than" s_worse_than (fA K "worse_than")
  d_ring_of : DefAt K "ring_of" "ring_of" s_ring_of (fA K "ring_of")
  d_explains : DefAt K "explains" "explains" s_explains (fA K "explains")
  d_check_explained : DefAt K "check_explained" "check_explained" s_check_explained (fA K "check_explained")
  d_check_item : DefAt K "check_item" "check_item" s_check_item (fA K "check_item")
  d_check_ask : DefAt K "check_ask" "check_ask" s_check_ask (fA K "check_ask")
  d_check_room : DefAt K "check_room" "check_room" s_check_room (fA K "check_room")
  d_pairs_of : DefAt K "pairs_of" "pairs_of" s_pairs_of (fA K "pairs_of")
  d_made_sure : DefAt K "made_sure" "made_sure" s_made_sure (fA K "made_sure")
  d_outcomes : DefAt K "outcomes" "outcomes" s_outcomes (fA K "outcomes")
  d_worse_in : DefAt K "worse_in" "worse_in" s_worse_in (fA K "worse_in")
  d_sure_pairs : DefAt K "sure_pairs" "sure_pairs" s_sure_pairs (fA K "sure_pairs")
  d_l_row : DefAt K "_law_row" "_law_row" s_l_row (fA K "_law_row")
  d_l_numbers : DefAt K "_law_numbers" "_law_numbers" s_l_numbers (fA K "_law_numbers")
  d_l_names : DefAt K "_law_names" "_law_names" s_l_names (fA K "_law_names")
  d_l_in_order : DefAt K "_law_in_order" "_law_in_order" s_l_in_order (fA K "_law_in_order")
  d_l_links : DefAt K "_law_links" "_law_links" s_l_links (fA K "_law_links")
  d_l_pairs : DefAt K "_law_pairs" "_law_pairs" s_l_pairs (fA K "_law_pairs")
  d_l_bars : DefAt K "_law_bars" "_law_bars" s_l_bars (fA K "_law_bars")
  d_l_moved : DefAt K "_law_moved" "_law_moved" s_l_moved (fA K "_law_moved")
  d_l_world : DefAt K "_law_world" "_law_world" s_l_world (fA K "_law_world")
  d_l_world_made : DefAt K "_law_world_made" "_law_world_made" s_l_world_made (fA K "_law_world_made")
  d_l_says : DefAt K "_law_says" "_law_says" s_l_says (fA K "_law_says")
  d_l_parts : DefAt K "_law_parts" "_law_parts" s_l_parts (fA K "_law_parts")
  d_l_deed : DefAt K "_law_deed" "_law_deed" s_l_deed (fA K "_law_deed")
  d_l_is_explained : DefAt K "_law_is_explained" "_law_is_explained" s_l_is_explained (fA K "_law_is_explained")
  d_law : DefAt K "law" "law" s_law (fA K "law")
structure XM (K : Frg) : Prop where
  d_Log_init : DefAt K "__init__" "Log.__init__" s_Log_init (mA K "Log" "__init__")
  d_Log_item_names : ∃ p g, PropOf K (fA K "Log") "item_names" p g ∧ DefAt K "item_names" "Log.item_names" s_Log_item_names g
  d_Log_grades : ∃ p g, PropOf K (fA K "Log") "grades" p g ∧ DefAt K "grades" "Log.grades" s_Log_grades g
  d_Log_judges : ∃ p g, PropOf K (fA K "Log") "judges" p g ∧ DefAt K "judges" "Log.judges" s_Log_judges g
  d_Log_events : ∃ p g, PropOf K (fA K "Log") "events" p g ∧ DefAt K "events" "Log.events" s_Log_events g
  d_Log_drift_of : DefAt K "drift_of" "Log.drift_of" s_Log_drift_of (mA K "Log" "drift_of")
  m_Log_drift_of : Meth K (fA K "Log") "drift_of" (mA K "Log" "drift_of")
  d_Log_is_answer : DefAt K "is_answer" "Log.is_answer" s_Log_is_answer (mA K "Log" "is_answer")
  m_Log_is_answer : Meth K (fA K "Log") "is_answer" (mA K "Log" "is_answer")
  d_Log_answers : DefAt K "answers" "Log.answers" s_Log_answers (mA K "Log" "answers")
  m_Log_answers : Meth K (fA K "Log") "answers" (mA K "Log" "answers")
  d_Log_answers_of : DefAt K "answers_of" "Log.answers_of" s_Log_answers_of (mA K "Log" "answers_of")
  m_Log_answers_of : Meth K (fA K "Log") "answers_of" (mA K "Log" "answers_of")
  d_Log_answer_at : DefAt K "answer_at" "Log.answer_at" s_Log_answer_at (mA K "Log" "answer_at")
  m_Log_answer_at : Meth K (fA K "Log") "answer_at" (mA K "Log" "answer_at")
  d_Log_judge_at : DefAt K "judge_at" "Log.judge_at" s_Log_judge_at (mA K "Log" "judge_at")
  m_Log_judge_at : Meth K (fA K "Log") "judge_at" (mA K "Log" "judge_at")
  d_Log_item_at : DefAt K "item_at" "Log.item_at" s_Log_item_at (mA K "Log" "item_at")
  m_Log_item_at : Meth K (fA K "Log") "item_at" (mA K "Log" "item_at")
  d_Log_grade_at : DefAt K "grade_at" "Log.grade_at" s_Log_grade_at (mA K "Log" "grade_at")
  m_Log_grade_at : Meth K (fA K "Log") "grade_at" (mA K "Log" "grade_at")
  d_Log_span_at : DefAt K "span_at" "Log.span_at" s_Log_span_at (mA K "Log" "span_at")
  m_Log_span_at : Meth K (fA K "Log") "span_at" (mA K "Log" "span_at")
  d_Log_stretch_at : DefAt K "stretch_at" "Log.stretch_at" s_Log_stretch_at (mA K "Log" "stretch_at")
  m_Log_stretch_at : Meth K (fA K "Log") "stretch_at" (mA K "Log" "stretch_at")
  d_Log_stretch_of : DefAt K "stretch_of" "Log.stretch_of" s_Log_stretch_of (mA K "Log" "stretch_of")
  m_Log_stretch_of : Meth K (fA K "Log") "stretch_of" (mA K "Log" "stretch_of")
  d_Log_stretches : DefAt K "stretches" "Log.stretches" s_Log_stretches (mA K "Log" "stretches")
  m_Log_stretches : Meth K (fA K "Log") "stretches" (mA K "Log" "stretches")
  d_Log_with_events : DefAt K "with_events" "Log.with_events" s_Log_with_events (mA K "Log" "with_events")
  m_Log_with_events : Meth K (fA K "Log") "with_events" (mA K "Log" "with_events")
  d_Log_check_event : DefAt K "check_event" "Log.check_event" s_Log_check_event (mA K "Log" "check_event")
  m_Log_check_event : Meth K (fA K "Log") "check_event" (mA K "Log" "check_event")
  d_Log_with_event_at : DefAt K "with_event_at" "Log.with_event_at" s_Log_with_event_at (mA K "Log" "with_event_at")
  m_Log_with_event_at : Meth K (fA K "Log") "with_event_at" (mA K "Log" "with_event_at")
  d_Log_with_event : DefAt K "with_event" "Log.with_event" s_Log_with_event (mA K "Log" "with_event")
  m_Log_with_event : Meth K (fA K "Log") "with_event" (mA K "Log" "with_event")
  d_World_init : DefAt K "__init__" "World.__init__" s_World_init (mA K "World" "__init__")
  d_World_quality_of : DefAt K "quality_of" "World.quality_of" s_World_quality_of (mA K "World" "quality_of")
  m_World_quality_of : Meth K (fA K "World") "quality_of" (mA K "World" "quality_of")
  d_World_bars_of : DefAt K "bars_of" "World.bars_of" s_World_bars_of (mA K "World" "bars_of")
  m_World_bars_of : Meth K (fA K "World") "bars_of" (mA K "World" "bars_of")
  d_World_move : DefAt K "move" "World.move" s_World_move (mA K "World" "move")
  m_World_move : Meth K (fA K "World") "move" (mA K "World" "move")
  d_World_check_room : DefAt K "check_room" "World.check_room" s_World_check_room (mA K "World" "check_room")
  m_World_check_room : Meth K (fA K "World") "check_room" (mA K "World" "check_room")
  d_World_set_anew : DefAt K "set_anew" "World.set_anew" s_World_set_anew (mA K "World" "set_anew")
  m_World_set_anew : Meth K (fA K "World") "set_anew" (mA K "World" "set_anew")
  d_World_would_say : DefAt K "would_say" "World.would_say" s_World_would_say (mA K "World" "would_say")
  m_World_would_say : Meth K (fA K "World") "would_say" (mA K "World" "would_say")
  d_World_answer : DefAt K "answer" "World.answer" s_World_answer (mA K "World" "answer")
  m_World_answer : Meth K (fA K "World") "answer" (mA K "World" "answer")
  d_World_log : DefAt K "log" "World.log" s_World_log (mA K "World" "log")
  m_World_log : Meth K (fA K "World") "log" (mA K "World" "log")
  d_World_bars_at : DefAt K "bars_at" "World.bars_at" s_World_bars_at (mA K "World" "bars_at")
  m_World_bars_at : Meth K (fA K "World") "bars_at" (mA K "World" "bars_at")
structure XK_ (K : Frg) : Prop where
  cl_Log : Cls K (fA K "Log")
  mk_Log : Mk K (fA K "Log") (mA K "Log" "__init__")
  n_Log_items : NoAttr K (fA K "Log") "_items"
  n_Log_grades : NoAttr K (fA K "Log") "_grades"
  n_Log_judges : NoAttr K (fA K "Log") "_judges"
  n_Log_events : NoAttr K (fA K "Log") "_events"
  cl_World : Cls K (fA K "World")
  mk_World : Mk K (fA K "World") (mA K "World" "__init__")
  n_World_log : NoAttr K (fA K "World") "_log"
  n_World_qualities : NoAttr K (fA K "World") "_qualities"
  n_World_bars : NoAttr K (fA K "World") "_bars"
  n_World_told : NoAttr K (fA K "World") "_told"
/-- what is known of the top -/
structure TX (K : Frg) (mg : Str → Option Value) : Prop where
  B : XB mg
  C : XC mg
  G : XG K mg
  D : XD K
  M : XM K
  T : XK_ K
end Rb
namespace Rb
open PySem PySem.Spec PyProof.Rows L2
/-! ### a def and its promise -/
/-- the def at f keeps the promise sp -/
structure OkF (P : Program) (w : World) (K : Frg) (mg : Str → Option Value) (base : Heap) (k : Nat) (f : Addr) (ps : List Str) (sp : Sp) : Prop where
  ex : ∃ fd, FnOk P w K mg base CX0 k f fd ps sp ∧ Binds K fd ps [] ∧ PySem.W.keepIn K (.ref f) = true ∧ ∃ oc od osl, K.lookup f = some ⟨oc, od, .func fd, osl⟩
section
variable {P : Program} {w : World} {K : Frg} {mg : Str → Option Value} {base : Heap}
theorem okD {x qual : Str} {st : Stmt} {f : Addr} {N ps : List Str} {k : Nat} {sp : Sp} (F : DefAt K x qual st f) (S : FnScope N ps (defScope st)) (len : ∀ vs H Q E, sp vs H Q E → vs.length = ps.length)
    (hb : ∀ (kV doc pm : Value) (an : Option Addr) (cdv ct : Value) (us : List Value), us.length = ps.length → bindArgs (PySem.W.fnOf x qual (defArgs st) (defBody st) (defScope st) .none kV doc pm an cdv ct) ⟨us, []⟩ = pure (ps.zip us))
    (hbody : ∀ (cdv : Value) (A : Around) (outer : List Env) (s : Shared) (H : Hp) (vs : List V) (Q : VK) (E : XK), Room k (A.deeper (envOfC qual (defScope st) s.heap.objs.size f cdv)) → sp vs H Q E →
      ∃ t, PSs (cxOf CX0 P w K mg base N qual (defScope st) f cdv A outer s H E).nox (defBody st) t ∧ t { nx := fun _ H' => Q .non H', rt := Q } (start N vs) H) : OkF P w K mg base (k + 1) f ps sp := by
  obtain ⟨fd, FF⟩ := F
  refine ⟨fd, FunD.ok FF S len fun cdv A outer s H vs Q E hr h => ?_, FF.bindsN hb, FF.kp, by obtain ⟨oc, od, _, _, _, _, _, _, _, osl, _, lk, _⟩ := FF.ex; exact ⟨oc, od, osl, lk⟩⟩
  obtain ⟨t, h1, h2⟩ := hbody cdv A outer s H vs Q E hr h
  exact ⟨t, h1.nox, h2⟩
theorem OkF.mono {j k : Nat} {f : Addr} {ps : List Str} {sp : Sp} (F : OkF P w K mg base j f ps sp) (h : j ≤ k) : OkF P w K mg base k f ps sp := by
  obtain ⟨fd, a, b, c⟩ := F.ex
  exact ⟨fd, a.mono h, b, c⟩
end
/-! ### heaps -/
theorem sNew {H : Hp} {p : Addr} {o : HO} (h : H p = none) : Same H (upd H p o) := fun a u e => by
  rw [upd_ne (ne_of_none e h)]
  exact e
theorem sMut {H H' : Hp} {p : Addr} {o : HO} (e : Same H H') (h : H p = none) : Same H (upd H' p o) := fun a u ha => by
  rw [upd_ne (ne_of_none ha h)]
  exact e a u ha
/-- H without what stands at D -/
def del (H : Hp) (D : Addr) : Hp := fun b => if b = D then none else H b
theorem del_same {H : Hp} {D : Addr} : del H D D = none := by unfold del; rw [if_pos rfl]
theorem del_ne {H : Hp} {D b : Addr} (h : b ≠ D) : del H D b = H b := by unfold del; rw [if_neg h]
theorem del_upd {H : Hp} {D : Addr} {o : HO} : del (upd H D o) D = del H D := by
  funext b
  unfold del upd
  split <;> rfl
theorem sDel {H H' : Hp} {D : Addr} (e : Same H H') : Same (del H D) (del H' D) := fun b o h => by
  by_cases hb : b = D
  · subst hb; rw [del_same] at h; cases h
  · rw [del_ne hb] at h ⊢
    exact e b o h
theorem sDelR {H H' : Hp} {D : Addr} (e : Same H H') (h : H D = none) : Same H (del H' D) := fun b o hb => by
  rw [del_ne (ne_of_none hb h)]
  exact e b o hb
theorem del_le {H : Hp} {D : Addr} : Same (del H D) H := fun b o h => by
  by_cases hb : b = D
  · subst hb; rw [del_same] at h; cases h
  · rw [del_ne hb] at h
    exact h
theorem del_put {H : Hp} {D : Addr} {o : HO} : Same (del H D) (upd H D o) := by
  rw [← del_upd (H := H) (D := D) (o := o)]
  exact del_le
/-! ### how data stands in the heap -/
abbrev Rp (α : Type) := Hp → V → α → Prop
class Mono {α : Type} (r : Rp α) : Prop where
  mono : ∀ {H H' : Hp} {v : V} {x : α}, Same H H' → r H v x → r H' v x
def rInt : Rp Int := fun _ v i => v = .int i
def rStr : Rp Str := fun _ v z => v = .str z
def rBl : Rp Bool := fun _ v b => v = .bl b
def rVal : Rp V := fun _ v x => v = x
instance : Mono rInt := ⟨fun _ h => h⟩
instance : Mono rStr := ⟨fun _ h => h⟩
instance : Mono rBl := ⟨fun _ h => h⟩
instance : Mono rVal := ⟨fun _ h => h⟩
theorem pMono {α : Type} {r : Rp α} [Mono r] {H H' : Hp} (e : Same H H') {vs : List V} {xs : List α} (h : Paired (r H) vs xs) : Paired (r H') vs xs := Paired.mapP h fun _ _ q => Mono.mono e q
def rLst {α : Type} (r : Rp α) : Rp (List α) := fun H v xs => ∃ a vs, v = .ref a ∧ H a = some (.lst vs) ∧ Paired (r H) vs xs
def rT2 {α β : Type} (ra : Rp α) (rb : Rp β) : Rp (α × β) := fun H v p => ∃ a x y, v = .ref a ∧ H a = some (.tup [x, y]) ∧ ra H x p.1 ∧ rb H y p.2
def rT3 {α β γ : Type} (ra : Rp α) (rb : Rp β) (rc : Rp γ) : Rp (α × β × γ) := fun H v p => ∃ a x y z, v = .ref a ∧ H a = some (.tup [x, y, z]) ∧ ra H x p.1 ∧ rb H y p.2.1 ∧ rc H z p.2.2
instance {α : Type} {r : Rp α} [Mono r] : Mono (rLst r) := ⟨fun e h => by
  obtain ⟨a, vs, h1, h2, h3⟩ := h
  exact ⟨a, vs, h1, e _ _ h2, pMono e h3⟩⟩
instance {α β : Type} {ra : Rp α} {rb : Rp β} [Mono ra] [Mono rb] : Mono (rT2 ra rb) := ⟨fun e h => by
  obtain ⟨a, x, y, h1, h2, h3, h4⟩ := h
  exact ⟨a, x, y, h1, e _ _ h2, Mono.mono e h3, Mono.mono e h4⟩⟩
instance {α β γ : Type} {ra : Rp α} {rb : Rp β} {rc : Rp γ} [Mono ra] [Mono rb] [Mono rc] : Mono (rT3 ra rb rc) := ⟨fun e h => by
  obtain ⟨a, x, y, z, h1, h2, h3, h4, h5⟩ := h
  exact ⟨a, x, y, z, h1, e _ _ h2, Mono.mono e h3, Mono.mono e h4, Mono.mono e h5⟩⟩
/-- lists of plain values -/
theorem paired_map {α : Type} {r : Rp α} {H : Hp} {f : α → V} (h : ∀ v x, r H v x ↔ v = f x) : ∀ {vs : List V} {xs : List α}, Paired (r H) vs xs ↔ vs = xs.map f := by
  intro vs xs
  constructor
  · intro p
    induction p with
    | nil => rfl
    | cons q _ ih => rw [(h _ _).mp q, ih]; rfl
  · intro e
    subst e
    induction xs with
    | nil => exact .nil
    | cons x xs ih => exact .cons ((h _ _).mpr rfl) ih
theorem pStr {H : Hp} {vs : List V} {xs : List Str} : Paired (rStr H) vs xs ↔ vs = xs.map .str := paired_map fun _ _ => Iff.rfl
theorem pInt {H : Hp} {vs : List V} {xs : List Int} : Paired (rInt H) vs xs ↔ vs = xs.map .int := paired_map fun _ _ => Iff.rfl
theorem pBl {H : Hp} {vs : List V} {xs : List Bool} : Paired (rBl H) vs xs ↔ vs = xs.map .bl := paired_map fun _ _ => Iff.rfl
theorem pLen {α : Type} {F : V → α → Prop} {vs : List V} {xs : List α} (h : Paired F vs xs) : vs.length = xs.length := Paired.length h
theorem pGet {α : Type} {F : V → α → Prop} : ∀ {vs : List V} {xs : List α}, Paired F vs xs → ∀ {i : Nat} {v : V}, vs[i]? = some v → ∃ x, xs[i]? = some x ∧ F v x
  | _, _, .nil, i, v, h => by simp at h
  | _, _, .cons q _, 0, v, h => by simp at h; subst h; exact ⟨_, rfl, q⟩
  | _, _, .cons _ t, i + 1, v, h => by
    obtain ⟨x, h1, h2⟩ := pGet t (i := i) (v := v) (by simpa using h)
    exact ⟨x, by simpa using h1, h2⟩
theorem pGet' {α : Type} {F : V → α → Prop} : ∀ {vs : List V} {xs : List α}, Paired F vs xs → ∀ {i : Nat} {x : α}, xs[i]? = some x → ∃ v, vs[i]? = some v ∧ F v x
  | _, _, .nil, i, v, h => by simp at h
  | _, _, .cons q _, 0, v, h => by simp at h; subst h; exact ⟨_, rfl, q⟩
  | _, _, .cons _ t, i + 1, v, h => by
    obtain ⟨x, h1, h2⟩ := pGet' t (i := i) (x := v) (by simpa using h)
    exact ⟨x, by simpa using h1, h2⟩
theorem pSnoc {α : Type} {F : V → α → Prop} {vs : List V} {xs : List α} {v : V} {x : α} (h : Paired F vs xs) (q : F v x) : Paired F (vs ++ [v]) (xs ++ [x]) := by
  induction h with
  | nil => exact .cons q .nil
  | cons a _ ih => exact .cons a ih
theorem pApp {α : Type} {F : V → α → Prop} {vs ws : List V} {xs ys : List α} (h : Paired F vs xs) (q : Paired F ws ys) : Paired F (vs ++ ws) (xs ++ ys) := by
  induction h with
  | nil => exact q
  | cons a _ ih => exact .cons a ih
/-! ### comprehensions that change nothing that stands -/
/-- what is made in the first i turns -/
def outs {α : Type} (f : Nat → Option α) (i : Nat) : List α := (List.range i).filterMap f
theorem outs_succ {α : Type} (f : Nat → Option α) (i : Nat) : outs f (i + 1) = outs f i ++ (f i).toList := by
  unfold outs
  rw [List.range_succ, List.filterMap_append]
  cases h : f i <;> simp [h]
theorem outs_len {α : Type} (f : Nat → Option α) (i : Nat) : (outs f i).length ≤ i := by
  unfold outs
  have := List.length_filterMap_le f (List.range i)
  rwa [List.length_range] at this
/-- the i-th turn's outcome over a list -/
theorem outs_list {α β : Type} (xs : List β) (f : β → Option α) : outs (fun i => (xs[i]?).bind f) xs.length = xs.filterMap f := by
  unfold outs
  induction xs with
  | nil => rfl
  | cons x xs ih =>
    rw [List.length_cons, List.range_succ_eq_map, List.filterMap_cons, List.filterMap_map]
    have e : ((fun i => ((x :: xs)[i]?).bind f) ∘ Nat.succ) = fun i => (xs[i]?).bind f := by funext i; simp
    rw [e, ih]
    cases h : f x <;> simp [h]
theorem outs_map {α β : Type} (xs : List β) (f : β → α) : outs (fun i : Nat => (xs[i]?).map f) xs.length = xs.map f := by
  have e : (fun i : Nat => (xs[i]?).map f) = fun i : Nat => (xs[i]?).bind fun x => some (f x) := by
    funext i
    cases xs[i]? <;> rfl
  rw [e, outs_list]
  exact List.filterMap_eq_map ▸ rfl
section
variable {α : Type} {r : Rp α} [Mono r] {J : It} {n : Nat} {G : Hp → Prop} {Y : Nat → Hp → V → Hp → Prop}
/-- the new list at D holds these -/
def MadeL (r : Rp α) (H0 : Hp) (D : Addr) (xs : List α) (H : Hp) : Prop := Same H0 (del H D) ∧ ∃ vs, H D = some (.lst vs) ∧ Paired (r (del H D)) vs xs
theorem lcP (w : Walk J n G Y) (r : Rp α) [Mono r] {g : TG} {tt : TT} {te : TE} {vs : List Nat} {σ : L2.St} {H0 : Hp} {D : Addr} {Qd : Hp → Prop} (hD : H0 D = none) (hn : n < sizeLine) (out : Nat → Option α)
    (hG : ∀ H, Same H0 H → G H)
    (turn : ∀ i x H H' (KT : V → Hp → Prop) (KF : Hp → Prop), i < n → Same H0 H → (∃ acc, H D = some (.lst acc)) → Y i H x H' →
      (∀ y H4 z, out i = some z → Same H H4 → r (del H4 D) y z → KT y H4) → (∀ H3, out i = none → Same H H3 → KF H3) →
      g x (wipe σ vs) H' fun σ2 H2 => wipe σ2 vs = wipe σ vs ∧ tt σ2 H2 fun b H3 => if b = true then te σ2 H3 KT else KF H3)
    (hd : ∀ H, MadeL r H0 D (outs out n) H → Qd H) :
    ∃ W : Nat → Nat → Hp → Prop, (∃ m, W 0 m (upd H0 D (.lst []))) ∧ ∀ i m H, W i m H →
      (J.stop i H ∧ Qd H) ∨ (J.go i H ∧ ∃ Nx : Hp → Prop, (∀ H', Nx H' → ∃ m', m' < m ∧ W (i + 1) m' H') ∧ ∀ x H', J.yld i H x H' → g x (wipe σ vs) H' fun σ2 H2 => wipe σ2 vs = wipe σ vs ∧ tt σ2 H2 fun b H3 =>
        if b = true then te σ2 H3 fun y H4 => ∃ acc, H4 D = some (.lst acc) ∧ acc.length < sizeLine ∧ Nx (upd H4 D (.lst (acc ++ [y]))) else Nx H3) := by
  have back : ∀ {H : Hp}, Same H0 (del H D) → Same H0 H := fun e => e.trans del_le
  refine lc_it w (fun i H => MadeL r H0 D (outs out i) H) ⟨?_, [], upd_same, .nil⟩ (fun i H _ p => hG H (back p.1)) (fun i x H H' hi p y => ?_) hd
  · rw [del_upd]
    exact sDelR (Same.refl H0) hD
  · obtain ⟨p1, acc, p2, p3⟩ := p
    have hl : acc.length < sizeLine := by
      have h1 := pLen p3
      have h2 := outs_len out i
      omega
    refine turn i x H H' _ _ hi (back p1) ⟨acc, p2⟩ y (fun y H4 z ho e q => ⟨acc, e _ _ p2, hl, ?_⟩) (fun H3 ho e => ?_)
    · refine ⟨?_, _, upd_same, ?_⟩
      · rw [del_upd]
        exact p1.trans (sDel e)
      · rw [del_upd, outs_succ, ho]
        exact pSnoc (pMono (sDel e) p3) q
    · refine ⟨p1.trans (sDel e), acc, e _ _ p2, ?_⟩
      rw [outs_succ, ho]
      show Paired _ acc (outs out i ++ [])
      rw [List.append_nil]
      exact pMono (sDel e) p3
theorem yes_it {te : TE} {KT : V → Hp → Prop} {KF : Hp → Prop} {σ : L2.St} {H : Hp} (h : te σ H KT) : tYes σ H fun b H3 => if b = true then te σ H3 KT else KF H3 := iteT (B := KF H) h
theorem MadeL.same {r : Rp α} {H0 H : Hp} {D : Addr} {xs : List α} (m : MadeL r H0 D xs H) : Same H0 H := m.1.trans del_le
theorem MadeL.rep {r : Rp α} [Mono r] {H0 H : Hp} {D : Addr} {xs : List α} (m : MadeL r H0 D xs H) : rLst r H (.ref D) xs := by
  obtain ⟨_, vs, h1, h2⟩ := m
  exact ⟨D, vs, rfl, h1, pMono del_le h2⟩
end
end Rb
namespace Rb
open PySem PySem.Spec PyProof.Rows L2
/-! ### calls of defs by their promises -/
section
variable {X : Cx} {k : Nat} {f C : Addr} {ps : List Str} {sp : Sp} {x m : Str} {p pos apos : Pos} {e o : Expr} {es : List Expr} {t : TA} {ta : TE}
theorem pcall (F : OkF X.prog X.w X.K X.mg X.base k f ps sp) (hr : Room k X.A) (hg : Gl X x) (hm : X.mg x = some (.ref f)) (ha : PA X (e :: es) t) (hdb : (x == ("__debug__" : Str)) = false := by decide)
    (he : starEach (e :: es) X.env = (false, eval e X.env) :: starEach es X.env := by rfl) (hpl : (backTo pos (starEach es X.env)).any (·.1) = false := by rfl) :
    PE X (.Call (.Name x p) (e :: es) [] pos) (tCall sp [] E0 t) := by
  obtain ⟨fd, G, b, kp, _⟩ := F.ex
  exact pe_call G hr hg hm kp b .nil pass0 ha hdb he hpl
theorem pmeth {pl : Sem Bool} (F : OkF X.prog X.w X.K X.mg X.base k f ps sp) (c : Cls X.K C) (hm : Meth X.K C m f) (hr : Room k X.A) (he : PE X o ta) (ha : PA X (e :: es) t)
    (hst : starEach (e :: es) X.env = (false, eval e X.env) :: starEach es X.env := by rfl) (hpl : (backTo pos (starEach es X.env)).any (·.1) = false := by rfl)
    (ht : eval (.Call (.Attribute o m apos) (e :: es) [] pos) X.env = (do
      let ov ← eval o X.env
      standAt apos.atName
      let (f, first) ← holding [ov] (getMethod ov m pl)
      callWith pos f first (backTo pos (starEach (e :: es) X.env)) (backToKw pos (keywordEach [] X.env))) := by rfl) :
    PE X (.Call (.Attribute o m apos) (e :: es) [] pos) (tMeth C m sp [] E0 ta t) := by
  obtain ⟨fd, G, b, kp, _⟩ := F.ex
  exact pe_meth he c hm G hr b .nil pass0 ha hst hpl ht
theorem pmeth0 {pl : Sem Bool} (F : OkF X.prog X.w X.K X.mg X.base k f ps sp) (c : Cls X.K C) (hm : Meth X.K C m f) (hr : Room k X.A) (he : PE X o ta)
    (ht : eval (.Call (.Attribute o m apos) [] [] pos) X.env = (do
      let ov ← eval o X.env
      standAt apos.atName
      let (f, first) ← holding [ov] (getMethod ov m pl)
      callWith pos f first (backTo pos (starEach [] X.env)) (backToKw pos (keywordEach [] X.env))) := by rfl) :
    PE X (.Call (.Attribute o m apos) [] [] pos) (tMeth C m sp [] E0 ta tNil) := by
  obtain ⟨fd, G, b, kp, _⟩ := F.ex
  exact pe_meth0 he c hm G hr b .nil pass0 ht
theorem pmake (F : OkF X.prog X.w X.K X.mg X.base k f ps sp) (M : Mk X.K C f) (hr : Room (k + 1) X.A) (hg : Gl X x) (hm : X.mg x = some (.ref C)) (ha : PA X (e :: es) t) (hdb : (x == ("__debug__" : Str)) = false := by decide)
    (he : starEach (e :: es) X.env = (false, eval e X.env) :: starEach es X.env := by rfl) (hpl : (backTo pos (starEach es X.env)).any (·.1) = false := by rfl) :
    PE X (.Call (.Name x p) (e :: es) [] pos) (tMake C sp [] E0 t) := by
  obtain ⟨fd, G, b, kp, _⟩ := F.ex
  exact pe_make M G hr hg hm b .nil pass0 ha hdb he hpl
/-- a property whose getter keeps the promise -/
def OkP (P : Program) (w : World) (K : Frg) (mg : Str → Option Value) (base : Heap) (k : Nat) (C : Addr) (f : Str) (sp : Sp) : Prop := ∃ p g, PropOf K C f p g ∧ OkF P w K mg base k g ["self"] sp
theorem pprop (F : OkP X.prog X.w X.K X.mg X.base k C m sp) (c : Cls X.K C) (hr : Room (k + 1) X.A) (he : PE X e ta) (hab : attributeBase e m X.env (eval e X.env) = eval e X.env := by rfl) : PE X (.Attribute e m pos) (tProp C sp [] E0 ta) := by
  obtain ⟨q, g, hp, F⟩ := F
  obtain ⟨fd, G, b, kp, _⟩ := F.ex
  exact pe_prop he c hp G hr b .nil pass0 hab
end
/-! ### readings by parts -/
section
variable {K : Frg} {σ : L2.St} {H : Hp} {i : Nat} {p C dx : Addr} {fs : List (Str × V)} {f m : Str} {v : V} {Q : VK} {sp : Sp} {t : TA} {E : XK}
theorem fld_it (h0 : σ[i]? = some (some (.ref p))) (hp : H p = some (.ins C dx fs)) (c : Cls K C) (n : NoAttr K C f) (l : fs.lookup f = some v) (q : Q v H) : tFld K (tVar i) f σ H Q :=
  ⟨_, h0, p, C, dx, fs, v, rfl, hp, c, n, l, q⟩
theorem meth_it (h0 : σ[i]? = some (some (.ref p))) (hp : H p = some (.ins C dx fs)) (l : fs.lookup m = none) (q : t σ H fun vs H2 => sp (.ref p :: (vs ++ [])) H2 Q E) : tMeth C m sp [] E (tVar i) t σ H Q :=
  ⟨_, h0, p, dx, fs, rfl, hp, l, q⟩
theorem prop_it (h0 : σ[i]? = some (some (.ref p))) (hp : H p = some (.ins C dx fs)) (q : sp [.ref p] H Q E) : tProp C sp [] E (tVar i) σ H Q := ⟨_, h0, p, dx, fs, rfl, hp, q⟩
end
theorem str_ne {a b : Str} (h : (decide (a = b)) = false) : ¬ a = b := of_decide_eq_false h
/-! ### the data of a log -/
inductive Ev where
  | ans (j i : Str) (g : Nat)
  | rst (j : Str)
  deriving DecidableEq
def rEv : Rp Ev := fun H v e => match e with
  | .ans j i g => ∃ a, v = .ref a ∧ H a = some (.tup [.str "answer", .str j, .str i, .int g])
  | .rst j => ∃ a, v = .ref a ∧ H a = some (.tup [.str "reset", .str j])
instance : Mono rEv := ⟨fun {H H' v x} e h => by
  cases x with
  | ans j i g => obtain ⟨a, h1, h2⟩ := h; exact ⟨a, h1, e _ _ h2⟩
  | rst j => obtain ⟨a, h1, h2⟩ := h; exact ⟨a, h1, e _ _ h2⟩⟩
structure LogD where
  items : List Str
  grades : Nat
  judges : List (Str × Str)
  events : List Ev
def lflds (pi : Addr) (g : Nat) (pj pe : Addr) : List (Str × V) := [("_items", .ref pi), ("_grades", .int g), ("_judges", .ref pj), ("_events", .ref pe)]
/-- a Log stands at p -/
structure LogAt (K : Frg) (H : Hp) (p : Addr) (L : LogD) : Prop where
  ex : ∃ dx pi pj pe vj ve, H p = some (.ins (fA K "Log") dx (lflds pi L.grades pj pe)) ∧ H pi = some (.lst (L.items.map V.str)) ∧ H pj = some (.lst vj) ∧ Paired (rT2 rStr rStr H) vj L.judges ∧ H pe = some (.lst ve) ∧ Paired (rEv H) ve L.events
theorem LogAt.mono {K : Frg} {H H' : Hp} {p : Addr} {L : LogD} (e : Same H H') (h : LogAt K H p L) : LogAt K H' p L := by
  obtain ⟨dx, pi, pj, pe, vj, ve, h1, h2, h3, h4, h5, h6⟩ := h.ex
  exact ⟨dx, pi, pj, pe, vj, ve, e _ _ h1, e _ _ h2, e _ _ h3, pMono e h4, e _ _ h5, pMono e h6⟩
def rLog (K : Frg) : Rp LogD := fun H v L => ∃ p, v = .ref p ∧ LogAt K H p L
instance {K : Frg} : Mono (rLog K) := ⟨fun e h => by obtain ⟨p, h1, h2⟩ := h; exact ⟨p, h1, h2.mono e⟩⟩
section
variable {pi pj pe : Addr} {g : Nat}
theorem lk_hit {f : Str} {v : V} {r : List (Str × V)} : ((f, v) :: r).lookup f = some v := by
  show (match f == f with | true => some v | false => r.lookup f) = some v
  rw [beq_self_eq_true]
theorem lk_miss {f g : Str} {v : V} {r : List (Str × V)} (h : decide (f = g) = false) : ((g, v) :: r).lookup f = r.lookup f := by
  show (match f == g with | true => some v | false => r.lookup f) = r.lookup f
  rw [show (f == g) = false from h]
theorem lf_items : (lflds pi g pj pe).lookup ("_items" : Str) = some (V.ref pi) := lk_hit
theorem lf_grades : (lflds pi g pj pe).lookup ("_grades" : Str) = some (V.int g) := (lk_miss (by decide +kernel)).trans lk_hit
theorem lf_judges : (lflds pi g pj pe).lookup ("_judges" : Str) = some (V.ref pj) := (lk_miss (by decide +kernel)).trans ((lk_miss (by decide +kernel)).trans lk_hit)
theorem lf_events : (lflds pi g pj pe).lookup ("_events" : Str) = some (V.ref pe) := (lk_miss (by decide +kernel)).trans ((lk_miss (by decide +kernel)).trans ((lk_miss (by decide +kernel)).trans lk_hit))
def notLf (m : Str) : Bool := !decide (m = "_items") && (!decide (m = "_grades") && (!decide (m = "_judges") && !decide (m = "_events")))
theorem lf_no {m : Str} (h : notLf m = true) : (lflds pi g pj pe).lookup m = none := by
  unfold notLf at h
  simp only [Bool.and_eq_true, Bool.not_eq_true'] at h
  obtain ⟨h1, h2, h3, h4⟩ := h
  exact (lk_miss h1).trans ((lk_miss h2).trans ((lk_miss h3).trans ((lk_miss h4).trans rfl)))
theorem lf_made {pi pj pe : Addr} {g : Nat} : putF "_events" (.ref pe) (putF "_judges" (.ref pj) (putF "_grades" (.int g) (putF "_items" (.ref pi) []))) = lflds pi g pj pe := by
  have n1 : ¬ ("_items" : Str) = "_grades" := str_ne (by decide +kernel)
  have n2 : ¬ ("_items" : Str) = "_judges" := str_ne (by decide +kernel)
  have n3 : ¬ ("_items" : Str) = "_events" := str_ne (by decide +kernel)
  have n4 : ¬ ("_grades" : Str) = "_judges" := str_ne (by decide +kernel)
  have n5 : ¬ ("_grades" : Str) = "_events" := str_ne (by decide +kernel)
  have n6 : ¬ ("_judges" : Str) = "_events" := str_ne (by decide +kernel)
  simp only [putF, if_neg n1, if_neg n2, if_neg n3, if_neg n4, if_neg n5, if_neg n6]
  rfl
end
/-! ### what the answers of a log are -/
def isAns : Ev → Bool
  | .ans _ _ _ => true
  | .rst _ => false
def evJ : Ev → Str
  | .ans j _ _ => j
  | .rst j => j
/-- the places of all answers -/
def ansP (es : List Ev) : List Nat := outs (fun i => (es[i]?).bind fun e => if isAns e then some i else none) es.length
/-- those of a judge -/
def ansJ (es : List Ev) (j : Str) : List Nat := (ansP es).filter fun i => decide ((es[i]?).map evJ = some j)
theorem mem_ansP {es : List Ev} {i : Nat} : i ∈ ansP es ↔ ∃ j x g, es[i]? = some (.ans j x g) := by
  unfold ansP outs
  rw [List.mem_filterMap]
  constructor
  · rintro ⟨k, _, h⟩
    cases e : es[k]? with
    | none => rw [e] at h; cases h
    | some v =>
      rw [e] at h
      cases v with
      | ans j x g =>
        have hk : k = i := by simpa [isAns] using h
        subst hk
        exact ⟨j, x, g, e⟩
      | rst j => simp [isAns] at h
  · rintro ⟨j, x, g, e⟩
    refine ⟨i, ?_, by rw [e]; simp [isAns]⟩
    rw [List.mem_range]
    exact (List.getElem?_eq_some_iff.mp e).1
theorem mem_ansJ {es : List Ev} {i : Nat} {j : Str} : i ∈ ansJ es j ↔ ∃ x g, es[i]? = some (.ans j x g) := by
  unfold ansJ
  rw [List.mem_filter, mem_ansP]
  constructor
  · rintro ⟨⟨j', x, g, e⟩, h⟩
    have h2 := of_decide_eq_true h
    rw [e] at h2
    have h3 : j' = j := Option.some.inj h2
    exact ⟨x, g, h3 ▸ e⟩
  · rintro ⟨x, g, e⟩
    exact ⟨⟨j, x, g, e⟩, decide_eq_true (by rw [e]; rfl)⟩
def rNat : Rp Nat := fun _ v n => v = .int (n : Int)
instance : Mono rNat := ⟨fun _ h => h⟩
theorem pNat {H : Hp} {vs : List V} {xs : List Nat} : Paired (rNat H) vs xs ↔ vs = xs.map fun n : Nat => V.int (n : Int) := paired_map fun _ _ => Iff.rfl
/-- a drift -/
def DriftOk (d : Str) : Prop := d = "rises" ∨ d = "falls" ∨ d = "stays"
/-- a name as the logs want it -/
def letters : Str := "abcdefghijklmnopqrstuvwxyz0123456789"
structure NameOk (z : Str) : Prop where
  pos : 1 ≤ z.length
  le : z.length ≤ 12
  sig : ∀ c ∈ z.cps.toList, c ∈ letters.cps.toList
structure NamesOk (n : Nat) (zs : List Str) : Prop where
  pos : 1 ≤ zs.length
  le : zs.length ≤ n
  ok : ∀ z ∈ zs, NameOk z
  nd : zs.Nodup
def EvOk (items : List Str) (grades : Nat) (names : List Str) : Ev → Prop
  | .ans j i g => j ∈ names ∧ i ∈ items ∧ g ≤ grades
  | .rst j => j ∈ names
structure LogOk (L : LogD) : Prop where
  items : NamesOk 20 L.items
  judges : NamesOk 8 (L.judges.map (·.1))
  drifts : ∀ p ∈ L.judges, DriftOk p.2
  g1 : 1 ≤ L.grades
  g9 : L.grades ≤ 9
  few : L.events.length ≤ 120
  evs : ∀ e ∈ L.events, EvOk L.items L.grades (L.judges.map (·.1)) e
end Rb
/-! set(xs) of a list of different texts: how many it holds -/
namespace Rb
open PySem PySem.Spec PyProof.Rows
section
variable {prog : Program} {w : World}
/-- the texts of l are in the set at S -/
abbrev TxtSet (prog : Program) (w : World) (h : Heap) (S : Addr) (l : List Str) : Prop := h.SetOf (PySem.strKind prog w) S (fun k => decide (k ∈ l)) l.length
theorem TxtSet.kept {h h' : Heap} {S : Addr} {l : List Str} (x : TxtSet prog w h S l) (k : ∀ o, h.get? S = some o → h'.get? S = some o) : TxtSet prog w h' S l := by
  obtain ⟨o, es, ep, t, ho, r⟩ := x
  exact ⟨o, es, ep, t, k o ho, r⟩
theorem txt_at : ∀ {us : List Value} {xs : List Str} (_ : StrsAre us xs) {i : Nat} {v : Value}, us[i]? = some v → ∃ x t, xs[i]? = some x ∧ v = .str x t
  | _, _, .nil, i, v, h => by simp at h
  | _, _, .cons x t r, 0, v, h => ⟨x, t, rfl, by simpa using h.symm⟩
  | _, _, .cons x t r, i + 1, v, h => by
    obtain ⟨y, u, h1, h2⟩ := txt_at r (i := i) (v := v) (by simpa using h)
    exact ⟨y, u, by simpa using h1, h2⟩
variable {A : Around} {R : Result → Shared → Prop} {I : Addr} {fp wr : List Addr} {G : Array GenState → Array GenState → Prop} {n : Nat} {Pv : Nat → Value → Prop} {Sv : Nat → Shared → Prop}
/-- the turns: what is left over is put into the set, text by text -/
theorem txt_turns (W : WalksS prog w A.in1 I fp wr G n Pv Sv) {S : Addr} (out : S ∉ fp) : ∀ (rest pre : List Str) (s : Shared), (pre ++ rest).Nodup → (pre ++ rest).length = n → n + 1 < scanBound →
    (∀ i v, Pv i v → ∃ x t, (pre ++ rest)[i]? = some x ∧ v = .str x t) → Sv pre.length s → TxtSet prog w s.heap S pre →
    (∀ s', Moved (S :: wr) G s s' → TxtSet prog w s'.heap S (pre ++ rest) → R (.ok (.ret .none)) s') → codeAny (model prog w) A (.builtin "set.update.loop" ⟨[.ref S, .ref I], []⟩) R s
  | [], pre, s, nd, len, few, val, st, x, k => by
    have notw : S ∉ wr := fun m => out (W.sub _ m)
    rw [List.append_nil] at len k
    refine codeAny_builtin PyProof.Rows.F.entry_set_update_loop ?_
    rw [Around.under_plainId PyProof.Rows.F.plain_set_update_loop _]
    refine wpAny_bind (m := pyNext (.ref I)) (W.done s _ _ (len ▸ st) fun s' mv => ?_)
    exact wpAny_pure (k s' (mv.mono fun b hb => .tail _ hb) (x.kept fun o e => mv.heap S o notw e))
  | y :: rest, pre, s, nd, len, few, val, st, x, k => by
    have notw : S ∉ wr := fun m => out (W.sub _ m)
    have lt : pre.length < n := by rw [← len, List.length_append, List.length_cons]; omega
    have notin : y ∉ pre := fun m => (List.nodup_append.mp nd).2.2 y m y (.head _) rfl
    refine codeAny_builtin PyProof.Rows.F.entry_set_update_loop ?_
    rw [Around.under_plainId PyProof.Rows.F.plain_set_update_loop _]
    refine wpAny_bind (m := pyNext (.ref I)) (W.item pre.length s _ _ lt st fun v s' hv st' mv => ?_)
    obtain ⟨z, t, hz, rfl⟩ := val _ v hv
    have ez : z = y := by simpa using hz.symm
    subst ez
    have x' : TxtSet prog w s'.heap S pre := x.kept fun o e => mv.heap S o notw e
    refine wpAny_bind (m := holding [Value.str z t] (setAdd S (.str z t))) (wpAny_holding ?_)
    unfold setAdd
    refine wpAny_holding (wpAny_bind ((PySem.strKind prog w).pyHash (k := z) (strKind_is _ _ _ _) ?_))
    refine wpAny_setAddHashed_of (knd := PySem.strKind prog w) (s := { s' with toks := s'.toks + 1 }) (strKind_is _ _ _ _) rfl x' (by omega) fun h' sb x2 => ?_
    have x3 : TxtSet prog w h' S (pre ++ [z]) := by
      refine SetOf_congr x2 (fun q => ?_) ?_
      · rw [show decide (q ∈ pre ++ [z]) = (decide (q ∈ pre) || decide (q = z)) from by simp]
      · rw [decide_eq_false notin]
        simp
    have stay : ∀ b, b ≠ S → ∀ o, s'.heap.get? b = some o → h'.get? b = some o := fun b hb o e => by rw [sb.2 b hb]; exact e
    have e1 : pre ++ z :: rest = (pre ++ [z]) ++ rest := by simp
    refine wpAny_pure ⟨plainId_quiet PyProof.Rows.F.plain_set_update_loop _, txt_turns W out rest (pre ++ [z]) _ (e1 ▸ nd) (e1 ▸ len) few (e1 ▸ val)
      (by rw [List.length_append]; exact W.frame _ s' _ _ st' (Nat.le_succ _) fun b hb o e => stay b (fun q => out (q ▸ hb)) o e) x3 fun s2 mv2 x4 => k s2 (Moved.trans W.gtrans ((mv.mono fun b hb => .tail _ hb).then_heap (Nat.le_succ _) fun b o hb e => stay b (fun q => hb (q ▸ .head _)) o e) mv2) (e1 ▸ x4)⟩
end
section
variable {prog : Program} {w : World} {A : Around} {E : Value → Shared → Prop} {s : Shared}
/-- an empty set, just laid -/
def emptySet (led : Bool) : Obj := { cls := .type "set", dict := none, data := .set #[] 0 (.fresh 0 0 led) }
/-- what is wanted behind the set's __init__ -/
def TxtEnd (prog : Program) (w : World) (s : Shared) (xs : List Str) (s2 : Shared) : Prop :=
  ∃ h' tk, s2 = { s with heap := h', toks := tk } ∧ TxtSet prog w h' s.heap.objs.size xs ∧ ∀ b o, b < s.heap.objs.size → s.heap.get? b = some o → h'.get? b = some o
/-- the set's __init__ over a list of different texts -/
theorem txt_init {B : Around} {Qf : PySem.Fin → Shared → Prop} {Qe : Value → Shared → Prop} {l : Addr} {items : Array Value} {xs : List Str} {led : Bool} (hh : B.handled = none) (hl : s.heap.IsList l items) (hi : StrsAre items.toList xs) (nd : xs.Nodup) (few : xs.length + 1 < scanBound)
    (h : ∀ s2, TxtEnd prog w s xs s2 → Qf (.done (.ret .none)) s2) :
    wpAny (model prog w) B (Builtin.«set.__init__» ⟨[.ref s.heap.objs.size, .ref l], []⟩) Qf Qe { s with heap := s.heap.push (emptySet led) } := by
  have g1 := PySem.F.sub_list_frozenset
  have g2 := PySem.F.sub_list_set
  have g3 : (Value.type "list" == Value.type "dict") = false := by decide
  have len : xs.length = items.size := (StrsAre.len_eq hi).symm.trans Array.length_toList
  have atS : (s.heap.push (emptySet led)).get? s.heap.objs.size = some (emptySet led) := Heap.get?_push_size _ rfl
  have tyS : Shared.TypeIs { s with heap := s.heap.push (emptySet led) } (.ref s.heap.objs.size) "set" := ⟨_, atS, rfl⟩
  obtain ⟨⟨k1, k2, k3, k4⟩, at0, e1, n1, e3⟩ := id hl
  cases e1
  cases e3
  have lS : l < s.heap.objs.size := Heap.lt_size at0
  have atL := Heap.get?_push_of_some (emptySet led) at0
  have hl1 := hl.push (emptySet led)
  unfold emptySet at atS atL hl1
  unfold emptySet Builtin.«set.__init__» noKeywords Builtin.Frozenset.updateFrom
  generalize hPI : pyIter = PI
  wp_walk
  subst hPI
  refine wpAny_pyIter_list hl1 (wpAny_bind (wpAny_runValue ?_))
  have apart : l ≠ (s.heap.push { cls := .type "set", dict := none, data := .set #[] 0 (.fresh 0 0 led) }).objs.size := by
    rw [Heap.size_push]
    exact Nat.ne_of_lt (Nat.lt_succ_of_lt lS)
  have out : s.heap.objs.size ∉ [(s.heap.push { cls := .type "set", dict := none, data := .set #[] 0 (.fresh 0 0 led) }).objs.size, l] := by
    rw [Heap.size_push]
    intro m
    rcases List.mem_cons.mp m with m | m
    · exact absurd m (Nat.ne_of_lt (Nat.lt_succ_self _))
    · exact absurd (List.mem_singleton.mp m) (Nat.ne_of_gt lS)
  have quiet : B.in1.handled = none := by simp [hh]
  refine txt_turns ((Walks.list quiet _ l apart items).toS) out xs [] _ nd len (by rw [← len]; exact few) (fun i v hv => txt_at hi (by rw [Array.getElem?_toList]; exact hv)) ?_ ?_ fun s2 mv x => ?_
  · exact ⟨⟨_, Heap.get?_push_size _ rfl, rfl, rfl⟩, hl1.push _⟩
  · have at2 := Heap.get?_push_of_some { cls := .type "list_iterator", data := .fields #[.ref l, .int 0 0] } atS
    exact SetOf_congr ((PyProof.Rows.setObjOf_fresh (knd := PySem.strKind prog w) led).setOf at2 (by unfold scanBound; omega)) (fun _ => rfl) rfl
  · obtain ⟨h2, gs2, dr2, tk2, os2⟩ := s2
    obtain rfl : gs2 = s.gens := mv.gens
    obtain rfl : dr2 = s.drawn := mv.drawn
    obtain rfl : os2 = s.os := mv.os
    refine wpAny_pure (wpAny_pure (h _ ⟨h2, tk2, rfl, x, fun b o hb e => mv.heap b o ?_ (Heap.get?_push_of_some _ (Heap.get?_push_of_some _ e))⟩))
    intro m
    rw [Heap.size_push] at m
    rcases List.mem_cons.mp m with m | m
    · exact Nat.ne_of_lt hb m
    · exact absurd (List.mem_singleton.mp m) (Nat.ne_of_lt (Nat.lt_succ_of_lt hb))
/-- set(xs), xs a list of different texts -/
theorem call_set_txts {l : Addr} {items : Array Value} {xs : List Str} {Q : Value → Shared → Prop} (hh : A.handled = none) (hl : s.heap.IsList l items) (hi : StrsAre items.toList xs) (nd : xs.Nodup) (few : xs.length + 1 < scanBound)
    (h : ∀ s2, TxtEnd prog w s xs s2 → Q (.ref s.heap.objs.size) s2) : wpAny (model prog w) A (call (.type "set") [.ref l]) Q E s := by
  have f1 := PySem.F.called_set.made
  have f2 := PySem.F.called_set.sub
  obtain ⟨c, tl, f3⟩ := PySem.F.called_set.mro
  have f4 := PySem.F.called_set.canCreate
  have f5 := PySem.F.called_set.notType
  have f6 := PySem.F.typeCall_set_1 (.ref l)
  have f7 := PySem.F.called_set.init.lookup
  have f8 := PySem.F.called_set.init.bind (.ref s.heap.objs.size)
  refine wpAny_call (codeAny_of_tree ?_)
  refine wpAny_pure (show _ ∧ _ from ⟨Code.quiet_builtin _ (by decide +kernel), codeAny_builtin PySem.F.entry_type_call ?_⟩)
  rw [Around.under_plain (weight_type_call_type "set" [.ref l] []) rfl]
  repeat (any_goals (first | assumption | wp_step))
  refine codeAny_mono (code_set_new_1 (.ref l) (E := E) (Q₁ := fun v s1 => ∃ led : Bool, v = .ref s.heap.objs.size ∧ s1 = { s with heap := s.heap.push (emptySet led) }) fun led => ⟨led, rfl, rfl⟩) fun r s1 hr => ?_
  cases r with
  | error e => exact hr
  | ok fl =>
    cases fl with
    | next => exact hr.elim
    | brk => exact hr.elim
    | cont => exact hr.elim
    | ret v =>
      obtain ⟨led, rfl, rfl⟩ := hr
      have tyS : Shared.TypeIs { s with heap := s.heap.push (emptySet led) } (.ref s.heap.objs.size) "set" := ⟨_, Heap.get?_push_size _ rfl, rfl⟩
      repeat (any_goals (first | assumption | wp_step))
      refine codeAny_mono (codeAny_call_builtin (R := wants (fun r s2 => r = .none ∧ TxtEnd prog w s xs s2) E) PySem.F.called_set.init.plain PySem.F.entry_set_init (check_set_init_1 tyS ?_)) fun r2 s2 hr2 => ?_
      · exact txt_init (by simp [hh]) hl hi nd few fun s2 x => ⟨rfl, x⟩
      · cases r2 with
        | error e => exact hr2
        | ok fl2 =>
          cases fl2 with
          | next => exact hr2.elim
          | brk => exact hr2.elim
          | cont => exact hr2.elim
          | ret v2 =>
            obtain ⟨rfl, x⟩ := hr2
            repeat (any_goals (first | assumption | wp_step))
            exact h _ x
end
open L2 in
/-- len(set(xs)), xs a list of different texts -/
def tLenTxts (K : Frg) (ta : TE) : TE := fun σ H Q => ta σ H fun x H1 => ∃ (l : Addr) (xs : List Str), x = .ref l ∧ SqL K H1 l (xs.map V.str) ∧ xs.Nodup ∧ xs.length ≤ 4000 ∧ Q (.int (xs.length : Nat)) H1
open L2 in
theorem pe_lenTxts {X : Cx} {a : Expr} {ta : TE} {p p2 q pos : Pos} (hg : Gl X "len") (hm : X.mg "len" = none) (hg2 : Gl X "set") (hm2 : X.mg "set" = none) (ha : PE X a ta) (hc : X.calm = true := by rfl)
    (na : starEach [a] X.env = (false, eval a X.env) :: starEach [] X.env := by rfl) : PE X (.Call (.Name "len" p) [.Call (.Name "set" p2) [a] [] q] [] pos) (tLenTxts X.K ta) := by
  refine ⟨fun pins s σ H Q I h => Call_ (ld_blt I hg hm PySem.boot_len (callWith_builtin1 (args_cons (Call_ (ld_blt I hg2 hm2 PyProof.Rows.boot_set ?_)) rfl) rfl rfl))⟩
  refine callWith_type1 (args_cons (thn (ha.run pins s σ H _ I h) fun v s1 z => args_nil ?_) na) na rfl
  obtain ⟨x, H1, I1, r1, l, xs, rfl, hs, nd, few, k⟩ := z
  obtain rfl : v = Value.ref l := r1
  obtain ⟨us, ru, pl, _⟩ := I1.list hs
  refine call_set_txts (I1.ok.hd hc) pl.isList (by simpa using Vals.strs ru) nd (by unfold scanBound; omega) fun s2 z => args_nil ?_
  obtain ⟨h2, tk, rfl, ⟨o, es, ep, t, ho, hex, hd, _, _, _, hf, hn⟩, keep⟩ := z
  have I2 : Inv X pins σ H1 { s1 with heap := h2, toks := tk } := I1.kept fun b o e => keep b o (Heap.lt_size e) e
  exact call_len_set ho hex hd hf (by rw [hn]; omega) ⟨.int (xs.length : Nat), H1, I2.tok _, ⟨_, by rw [hn]⟩, k⟩
end Rb
/-! max(xs, default=d), min(xs, default=d) of ints; sorted of data that are alike -/
namespace Rb
open PySem PySem.Spec PyProof.Rows L2 PySem.W
theorem foldl_max : ∀ (ns : List Int) (n : Int), (ns.foldl max n = n ∨ ns.foldl max n ∈ ns) ∧ n ≤ ns.foldl max n ∧ ∀ y ∈ ns, y ≤ ns.foldl max n
  | [], n => ⟨.inl rfl, Int.le_refl _, fun _ h => nomatch h⟩
  | k :: r, n => by
    obtain ⟨h1, h2, h3⟩ := foldl_max r (max n k)
    rw [List.foldl_cons]
    refine ⟨?_, by omega, fun y hy => ?_⟩
    · rcases h1 with h1 | h1
      · rw [h1]
        by_cases c : n ≤ k
        · exact .inr (by rw [Int.max_eq_right c]; exact .head _)
        · exact .inl (Int.max_eq_left (by omega))
      · exact .inr (.tail _ h1)
    · rcases List.mem_cons.mp hy with rfl | hy
      · omega
      · exact h3 y hy
theorem foldl_min : ∀ (ns : List Int) (n : Int), (ns.foldl min n = n ∨ ns.foldl min n ∈ ns) ∧ ns.foldl min n ≤ n ∧ ∀ y ∈ ns, ns.foldl min n ≤ y
  | [], n => ⟨.inl rfl, Int.le_refl _, fun _ h => nomatch h⟩
  | k :: r, n => by
    obtain ⟨h1, h2, h3⟩ := foldl_min r (min n k)
    rw [List.foldl_cons]
    refine ⟨?_, by omega, fun y hy => ?_⟩
    · rcases h1 with h1 | h1
      · rw [h1]
        by_cases c : n ≤ k
        · exact .inl (Int.min_eq_left c)
        · exact .inr (by rw [Int.min_eq_right (by omega)]; exact .head _)
      · exact .inr (.tail _ h1)
    · rcases List.mem_cons.mp hy with rfl | hy
      · omega
      · exact h3 y hy
theorem reads_ints {h : Heap} : ∀ {us : List Value} {ns : List Int}, Vals (ns.map V.int) us → ReadsAll h us (ns.map PyData.int) []
  | _, [], .nil => .nil
  | _, n :: ns, .cons r t => by
    obtain ⟨k, rfl⟩ := r
    exact .cons (as := []) (bs := []) (.int n k) (reads_ints t)
theorem alike_all_ints (ns : List Int) : AlikeAll (ns.map PyData.int) := by
  refine ⟨fun x hx y hy => ?_, fun x hx => ?_⟩
  · obtain ⟨a, _, rfl⟩ := List.mem_map.mp hx
    obtain ⟨b, _, rfl⟩ := List.mem_map.mp hy
    rfl
  · obtain ⟨a, _, rfl⟩ := List.mem_map.mp hx
    exact fun z => nomatch z
section
variable {X : Cx} (K : Frg)
def rMaxD (K : Frg) : List V → List V → Hp → VK → Prop := fun vs zs H Q => ∃ (a : Addr) (ns : List Int) (d : V), vs = [.ref a] ∧ zs = [d] ∧ SqL K H a (ns.map V.int) ∧ (ns = [] → Q d H) ∧ ∀ m, m ∈ ns → (∀ y ∈ ns, y ≤ m) → Q (.int m) H
def rMinD (K : Frg) : List V → List V → Hp → VK → Prop := fun vs zs H Q => ∃ (a : Addr) (ns : List Int) (d : V), vs = [.ref a] ∧ zs = [d] ∧ SqL K H a (ns.map V.int) ∧ (ns = [] → Q d H) ∧ ∀ m, m ∈ ns → (∀ y ∈ ns, m ≤ y) → Q (.int m) H
theorem maxD (hu : X.A.units + 64 < cLine) (hc : X.calm = true := by rfl) (h : X.K = K := by rfl) : CallRK X (.builtin "max") [Str.ofString "default"] (rMaxD K) := by
  subst h
  intro pins s σ H vs zs us ws Q I rv rz z
  obtain ⟨a, ns, d, rfl, rfl, hs, q0, q1⟩ := z
  cases rz with
  | @cons _ dv _ _ rd rt =>
  cases rt
  have e1 := Vals.ref1 rv
  subst e1
  obtain ⟨its, ri, pl, _⟩ := I.list hs
  refine max_list_default (I.ok.hd hc) pl.isList (reads_ints (h := s.heap) (by simpa using ri)) (alike_all_ints ns) (by rw [PySem.W.depth_ints]; omega) (fun e h' tk k => ?_) (fun y ys i v h' tk bs e hv r k => ?_)
  · have e0 : ns = [] := by cases ns with
      | nil => rfl
      | cons _ _ => cases e
    exact ⟨d, H, I.kept k, rd, q0 e0⟩
  · cases ns with
    | nil => cases e
    | cons n r' =>
      obtain ⟨rfl, rfl⟩ := List.cons.inj e
      rw [maxD_ints] at r
      cases r with
      | int _ t =>
        obtain ⟨m1, m2, m3⟩ := foldl_max r' n
        refine ⟨.int (r'.foldl max n), H, I.kept k, ⟨t, rfl⟩, q1 _ ?_ fun y hy => ?_⟩
        · rcases m1 with m1 | m1
          · rw [m1]; exact .head _
          · exact .tail _ m1
        · rcases List.mem_cons.mp hy with rfl | hy
          · exact m2
          · exact m3 y hy
theorem minD (hu : X.A.units + 64 < cLine) (hc : X.calm = true := by rfl) (h : X.K = K := by rfl) : CallRK X (.builtin "min") [Str.ofString "default"] (rMinD K) := by
  subst h
  intro pins s σ H vs zs us ws Q I rv rz z
  obtain ⟨a, ns, d, rfl, rfl, hs, q0, q1⟩ := z
  cases rz with
  | @cons _ dv _ _ rd rt =>
  cases rt
  have e1 := Vals.ref1 rv
  subst e1
  obtain ⟨its, ri, pl, _⟩ := I.list hs
  refine min_list_default (I.ok.hd hc) pl.isList (reads_ints (h := s.heap) (by simpa using ri)) (alike_all_ints ns) (by rw [PySem.W.depth_ints]; omega) (fun e h' tk k => ?_) (fun y ys i v h' tk bs e hv r k => ?_)
  · have e0 : ns = [] := by cases ns with
      | nil => rfl
      | cons _ _ => cases e
    exact ⟨d, H, I.kept k, rd, q0 e0⟩
  · cases ns with
    | nil => cases e
    | cons n r' =>
      obtain ⟨rfl, rfl⟩ := List.cons.inj e
      rw [minD_ints] at r
      cases r with
      | int _ t =>
        obtain ⟨m1, m2, m3⟩ := foldl_min r' n
        refine ⟨.int (r'.foldl min n), H, I.kept k, ⟨t, rfl⟩, q1 _ ?_ fun y hy => ?_⟩
        · rcases m1 with m1 | m1
          · rw [m1]; exact .head _
          · exact .tail _ m1
        · rcases List.mem_cons.mp hy with rfl | hy
          · exact m2
          · exact m3 y hy
/-- sorted(xs), xs data that are alike: some arrangement of them -/
def rSortD (K : Frg) : List V → Hp → VK → Prop := fun vs H Q => ∃ (a : Addr) (xs : List V) (ds : List PyData), vs = [.ref a] ∧ SqL K H a xs ∧ DpAll K H xs ds ∧ AllAlike ds ∧ Sortable ds ∧ (∀ d ∈ ds, d.depth ≤ 50) ∧
  ∀ ys p, ys.Perm xs → H p = none → Q (.ref p) (upd H p (.lst ys))
theorem dp_len {H : Hp} {xs : List V} {ds : List PyData} (h : DpAll K H xs ds) : xs.length = ds.length := by
  induction xs generalizing ds with
  | nil => cases h; rfl
  | cons x xs ih =>
    cases h with
    | cons _ t => exact congrArg Nat.succ (ih t)
theorem zip_data {H : Hp} {pins : List (Addr × Obj)} {σ : L2.St} {s : Shared} (I : Inv X pins σ H s) : ∀ {xs : List V} {ds : List PyData} {us : List Value}, DpAll X.K H xs ds → Vals xs us →
    EachIs (fun v (b : V × PyData) => RelV b.1 v) us (xs.zip ds) ∧ EachIs (fun v (b : V × PyData) => ∃ as, Reads s.heap v b.2 as) us (xs.zip ds)
  | _, _, _, .nil, .nil => ⟨.nil, .nil⟩
  | _, _, _, .cons d t, .cons r rt => by
    obtain ⟨h1, h2⟩ := zip_data I t rt
    exact ⟨.cons r h1, .cons (Dp.reads I _ _ _ d r) h2⟩
theorem vals_each : ∀ {us : List Value} {bs : List (V × PyData)}, EachIs (fun v (b : V × PyData) => RelV b.1 v) us bs → Vals (bs.map (·.1)) us
  | _, _, .nil => .nil
  | _, _, .cons r t => .cons r (vals_each t)
theorem sortD (hu : X.A.units + 64 < cLine) (h : X.K = K := by rfl) : CallR X (.builtin "sorted") (rSortD K) := by
  subst h
  intro pins s σ H vs us Q I rv z
  obtain ⟨a, xs, ds, rfl, hs, hd, al, so, dp, q⟩ := z
  rw [Vals.ref1 rv]
  obtain ⟨its, ri, pl, hz⟩ := I.list hs
  have hl := dp_len X.K hd
  have e2 : (xs.zip ds).map (·.2) = ds := List.map_snd_zip (by omega)
  have e1 : (xs.zip ds).map (·.1) = xs := List.map_fst_zip (by omega)
  obtain ⟨z1, z2⟩ := zip_data I hd ri
  have lz : (xs.zip ds).length = xs.length := by rw [List.length_zip]; omega
  refine sorted_data (enc := fun b : V × PyData => b.2) pl.isList z1 z2 (by rw [e2]; exact al) (by rw [e2]; exact so) (by rw [lz]; exact hz) (fun b hb => ?_) fun out hlo ho => ?_
  · have := dp b.2 (by rw [← e2]; exact List.mem_map_of_mem hb)
    omega
  · obtain ⟨ep, he⟩ := PyProof.Rows.sortedAll_at s.heap its out.toArray
    have perm : ((xs.zip ds).mergeSort (dataLe false fun b : V × PyData => b.2)).Perm (xs.zip ds) := List.mergeSort_perm _ _
    refine ⟨.ref _, upd H (s.heap.objs.size + 1) (.lst (((xs.zip ds).mergeSort (dataLe false fun b : V × PyData => b.2)).map (·.1))), I.laid (t' := s.toks) (fun _ _ => PyProof.Rows.sortedAll_old) (Nat.le_succ _) ⟨?_, out, ep, vals_each ho, he⟩, rfl, q _ _ ?_ (I.hok.fresh (Nat.le_succ _))⟩
    · rw [List.length_map, perm.length_eq, lz]; exact hz
    · have := perm.map (·.1)
      rwa [e1] at this
end
end Rb
/-! the rules of the hand layer whose reading names the written part, with that part as a letter: a comprehension's block wants it so -/
namespace Rb
open PySem PySem.Spec PyProof.Rows L2
section
variable {X : Cx} (K : Frg) (h : X.K = K := by rfl)
include h
theorem ixT : IxR X (rIxT K) := by subst h; exact ix_tup
theorem ixL : IxR X (rIxL K) := by subst h; exact ix_list
def rLen2 (K : Frg) : List V → Hp → VK → Prop := fun xs H Q => ∃ p ys, xs = [.ref p] ∧ (SqL K H p ys ∨ SqT K H p ys) ∧ Q (.int ys.length) H
theorem lenK : CallR X (.builtin "len") (rLen2 K) := by subst h; exact call_len_seq
def rList2 (K : Frg) : List V → Hp → VK → Prop := fun xs H Q => ∃ p ys, xs = [.ref p] ∧ (SqL K H p ys ∨ SqT K H p ys) ∧ ∀ l, H l = none → Q (.ref l) (upd H l (.lst ys))
theorem listK : CallR X (.type "list") (rList2 K) := by subst h; exact call_list_of
theorem inK : OpR X (compareOp .In) (rIn K false) := by subst h; exact op_in_seq
theorem notInK : OpR X (compareOp .NotIn) (rIn K true) := by subst h; exact op_notIn_seq
theorem slL : SlR X (rSlL K) := by subst h; exact sl_list
theorem sortPK : CallR X (.builtin "sorted") (rSortedP K) := by subst h; exact cr_sortedP
theorem sortIK : CallR X (.builtin "sorted") (rSortedI K) := by subst h; exact cr_sortedI
end
section
variable {X : Cx} (K : Frg)
theorem notInDK (hu : X.A.units + 65 < cLine) (h : X.K = K := by rfl) : OpR X (compareOp .NotIn) (rNotInD K) := by subst h; exact op_notInD hu
theorem inDK (hu : X.A.units + 65 < cLine) (h : X.K = K := by rfl) : OpR X (compareOp .In) (rInD K) := by subst h; exact op_inD hu
theorem neK (hu : X.A.units + 64 < cLine) (h : X.K = K := by rfl) : OpR X (compareOp .NotEq) (rNeD K) := by subst h; exact op_neD hu
theorem eqK (hu : X.A.units + 64 < cLine) (h : X.K = K := by rfl) : OpR X (compareOp .Eq) (rEqD K) := by subst h; exact op_eqD hu
theorem anyK (hc : X.calm = true := by rfl) (h : X.K = K := by rfl) : CallR X (.builtin "any") (rAny K) := by subst h; exact cr_any hc
theorem allK (hc : X.calm = true := by rfl) (h : X.K = K := by rfl) : CallR X (.builtin "all") (rAll K) := by subst h; exact cr_all hc
theorem piL {tg l : Expr} {tl : TE} (hl : PE X l tl) (h : X.K = K := by rfl) : PI X tg l (iList K tl) := by subst h; exact pi_list hl
theorem piT {tg l : Expr} {tl : TE} (hl : PE X l tl) (h : X.K = K := by rfl) : PI X tg l (iTup K tl) := by subst h; exact pi_tup hl
theorem pgT {es : List Expr} {k n : Nat} {pos : Pos} {t : TGs} (hg : PGs X es t) (hc : X.calm = true := by rfl) (hn : (assignEach es X.env).length = n := by rfl) (hst : (assignEach es X.env).findIdx? (·.1) = none := by rfl) (h : X.K = K := by rfl) : PG X (.Tuple es k pos) (gTup K n t) := by
  subst h; exact pg_tup hc hg hn hst
theorem peF {e : Expr} {f : Str} {pos : Pos} {ta : TE} (he : PE X e ta) (hb : attributeBase e f X.env (eval e X.env) = eval e X.env := by rfl) (h : X.K = K := by rfl) : PE X (.Attribute e f pos) (tFld K ta f) := by subst h; exact pe_fld he hb
theorem psF {o value : Expr} {f : Str} {pos pos' : Pos} {ta tv : TE} (ha : PE X o ta) (hv : PE X value tv) (hs : swapsWith value (some (.Attribute o f pos')) pos.line X.env = pure false := by rfl) (h : X.K = K := by rfl) : PS X (.Assign [.Attribute o f pos'] value pos) (sFld K ta tv f) := by
  subst h; exact ps_fld ha hv hs
theorem enumK {e : Expr} {ta : TA} {p pos tpos : Pos} {elts : List Expr} {kk : Nat} (hg : Gl X "enumerate") (hm : X.mg "enumerate" = none) (ha : PA X [e] ta) (hs : starEach [e] X.env = [(false, eval e X.env)] := by rfl) (h : X.K = K := by rfl) :
    PI X (.Tuple elts kk tpos) (.Call (.Name "enumerate" p) [e] [] pos) (iEnum K ta) := by subst h; exact pi_enum hg hm ha hs
end
theorem at0 {H : Hp} {K : Frg} {a : Addr} {xs : List V} {i : Int} {v : V} {Q : VK} (ha : SqT K H a xs) (hi : atI xs i = some v) (q : Q v H) : rIxT K (.ref a) (.int i) H Q := ⟨a, xs, i, v, rfl, rfl, ha, hi, q⟩
end Rb
namespace Rb
open PySem PySem.Spec PyProof.Rows L2
/-! ### a list of truths, all true -/
theorem all_true {α : Type} {n : Nat} {f : Nat → Option Bool} (h : ∀ i, i < n → f i = some true) : (outs f n).all id = true := by
  rw [List.all_eq_true]
  intro b hb
  obtain ⟨i, hi, e⟩ := List.mem_filterMap.mp hb
  rw [h i (List.mem_range.mp hi)] at e
  exact Option.some.inj e ▸ rfl
/-- what a comprehension of truths leaves -/
theorem MadeL.bls {H0 H : Hp} {D : Addr} {bs : List Bool} (m : MadeL rBl H0 D bs H) : H D = some (.lst (bs.map V.bl)) := by
  obtain ⟨_, vs, h1, h2⟩ := m
  rw [h1, pBl.mp h2]
theorem MadeL.strs {H0 H : Hp} {D : Addr} {bs : List Str} (m : MadeL rStr H0 D bs H) : H D = some (.lst (bs.map V.str)) := by
  obtain ⟨_, vs, h1, h2⟩ := m
  rw [h1, pStr.mp h2]
theorem MadeL.nats {H0 H : Hp} {D : Addr} {bs : List Nat} (m : MadeL rNat H0 D bs H) : H D = some (.lst (bs.map fun n : Nat => V.int (n : Int))) := by
  obtain ⟨_, vs, h1, h2⟩ := m
  rw [h1, pNat.mp h2]
theorem MadeL.ints {H0 H : Hp} {D : Addr} {bs : List Int} (m : MadeL rInt H0 D bs H) : H D = some (.lst (bs.map V.int)) := by
  obtain ⟨_, vs, h1, h2⟩ := m
  rw [h1, pInt.mp h2]
section
variable {P : Program} {w : World} {K : Frg} {mg : Str → Option Value} {base : Heap}
def spIsName : Sp := fun vs H Q _ => ∃ z : Str, vs = [.str z] ∧ NameOk z ∧ ∀ H', Same H H' → Q (.bl true) H'
theorem ok_is_name (T : TX K mg) : OkF P w K mg base 1 (fA K "is_name") ["text"] spIsName := by
  refine okD T.D.d_is_name sc_is_name (fun vs H Q E h => ?_) (fun _ _ _ _ _ _ us hl => match us, hl with | [_], _ => rfl) (fun cdv A outer s H vs Q E hr h => ?_)
  · obtain ⟨z, rfl, _⟩ := h
    rfl
  · obtain ⟨z, rfl, ok, q⟩ := h
    obtain ⟨tL, gL⟩ := T.C.c_LETTERS
    refine ⟨_, pss_one (ps_ret (pe_and (pe_chain op_le op_le pe_int (pe_callB call_len_str rfl T.B.b_len boot_len (pa_cons (pv 0) pa_nil)) pe_int)
      (pe_one (pe_callB (cr_all rfl) rfl T.B.b_all boot_all (pa_cons
        (pe_lc (own := [("sign", 1)]) (g := gName 1) (tt := tYes) rfl sc_is_name.nd (pi_str (pv 0)) (blkOk_by (N := N_is_name) (sc := defScope s_is_name) (by decide +kernel))
          (fun _ _ _ _ _ => pg_name (i := 1) sc_is_name.nd rfl (Or.inl rfl)) (fun _ _ _ _ _ => pts_nil)
          (fun _ _ _ _ _ => pe_cmpR op_in_sign (pv 1) (pe_glob (v := .str letters) rfl gL ⟨_, rfl⟩) (by with_unfolding_all rfl))) pa_nil))))), ?_⟩
    have hz : z.length ≤ sizeLine := Nat.le_trans ok.le (by decide)
    have h1 := ok.pos
    have h2 := ok.le
    refine ⟨_, rfl, z, rfl, hz, _, _, rfl, rfl, true, congrArg V.bl (decide_eq_true (by omega)), iteT ?_⟩
    refine ⟨_, _, rfl, rfl, true, congrArg V.bl (decide_eq_true (by omega)), iteT ?_⟩
    refine ⟨_, rfl, z, rfl, fun D hD => lcP walk_str rBl hD (Nat.lt_of_le_of_lt ok.le (by decide)) (fun i => some true) (fun _ _ => trivial) ?_ ?_⟩
    · rintro i x H1 H2 KT KF hi e _ ⟨rfl, c, hc, rfl⟩ kt _
      refine ⟨rfl, yes_it ⟨_, rfl, c, letters, rfl, rfl, kt _ _ true rfl (Same.refl _) ?_⟩⟩
      exact congrArg V.bl (decide_eq_true (ok.sig c (List.mem_of_getElem? (by simpa using hc))))
    · intro H1 m
      refine ⟨D, _, rfl, SqL.of m.bls, ?_⟩
      rw [all_true (α := Nat) fun _ _ => rfl]
      exact q _ m.same
/-- a drift is one -/
def spIsDrift : Sp := fun vs H Q _ => ∃ z : Str, vs = [.str z] ∧ DriftOk z ∧ ∀ H', Same H H' → Q (.bl true) H'
theorem inV_drift {z : Str} (h : DriftOk z) : inV (.str z) [.str "rises", .str "falls", .str "stays"] = true := by
  rcases h with rfl | rfl | rfl <;> decide +kernel
theorem ok_is_drift (T : TX K mg) : OkF P w K mg base 1 (fA K "is_drift") ["text"] spIsDrift := by
  refine okD T.D.d_is_drift sc_is_drift (fun vs H Q E h => ?_) (fun _ _ _ _ _ _ us hl => match us, hl with | [_], _ => rfl) (fun cdv A outer s H vs Q E hr h => ?_)
  · obtain ⟨z, rfl, _⟩ := h
    rfl
  · obtain ⟨z, rfl, ok, q⟩ := h
    obtain ⟨t1, g1⟩ := T.C.c_RISES
    obtain ⟨t2, g2⟩ := T.C.c_FALLS
    obtain ⟨t3, g3⟩ := T.C.c_STAYS
    refine ⟨_, pss_one (ps_ret (pe_cmpR op_in_seq (pv 0) (pe_tup (pa_cons (pe_glob (v := .str "rises") rfl g1 ⟨_, rfl⟩) (pa_cons (pe_glob (v := .str "falls") rfl g2 ⟨_, rfl⟩) (pa_cons (pe_glob (v := .str "stays") rfl g3 ⟨_, rfl⟩) pa_nil)))) (by with_unfolding_all rfl))), ?_⟩
    refine ⟨_, rfl, by show 3 ≤ sizeLine; decide, fun p hp => ⟨p, _, rfl, .inr (SqT.of upd_same), rfl, rfl, ?_⟩⟩
    show Q (.bl (inV (.str z) [.str "rises", .str "falls", .str "stays"])) _
    rw [inV_drift ok]
    exact q _ (sNew hp)
/-- names are -/
def spAreNames : Sp := fun vs H Q _ => ∃ (a : Addr) (zs : List Str) (n : Nat), vs = [.ref a, .int n] ∧ n ≤ 20 ∧ H a = some (.lst (zs.map V.str)) ∧ NamesOk n zs ∧ ∀ H', Same H H' → Q (.bl true) H'
theorem ok_are_names (T : TX K mg) : OkF P w K mg base 2 (fA K "are_names") ["texts", "most"] spAreNames := by
  refine okD T.D.d_are_names sc_are_names (fun vs H Q E h => ?_) (fun _ _ _ _ _ _ us hl => match us, hl with | [_, _], _ => rfl) (fun cdv A outer s H vs Q E hr h => ?_)
  · obtain ⟨a, zs, n, rfl, _⟩ := h
    rfl
  · obtain ⟨a, zs, n, rfl, hn, ha, ok, q⟩ := h
    have G := ok_is_name (P := P) (w := w) (base := base) T
    refine ⟨_, pss_one (ps_ret (pe_and (pe_chain op_le op_le pe_int (pe_callB call_len_seq rfl T.B.b_len boot_len (pa_cons (pv 0) pa_nil)) (pv 1))
      (pe_and (pe_callB (cr_all rfl) rfl T.B.b_all boot_all (pa_cons
        (pe_lc (own := [("text", 2)]) (g := gName 2) (tt := tYes) rfl sc_are_names.nd (pi_list (pv 0)) (blkOk_by (N := N_are_names) (sc := defScope s_are_names) (by decide +kernel))
          (fun _ _ _ _ _ => pg_name (i := 2) sc_are_names.nd rfl (Or.inl rfl)) (fun _ _ _ _ _ => pts_nil)
          (fun _ _ _ _ _ => pcall G hr rfl T.G.g_is_name (pa_cons (pv 2) pa_nil))) pa_nil))
      (pe_one (pe_cmpR op_eq (pe_lenTxts rfl T.B.b_len rfl T.B.b_set (pv 0)) (pe_callB call_len_seq rfl T.B.b_len boot_len (pa_cons (pv 0) pa_nil)) (nomark _)))))), ?_⟩
    have h1 := ok.pos
    have h2 := ok.le
    have hl : (zs.map V.str).length = zs.length := List.length_map _
    refine ⟨_, rfl, a, _, rfl, .inl (SqL.of ha), _, _, rfl, rfl, true, congrArg V.bl (decide_eq_true (by omega)), iteT ?_⟩
    refine ⟨_, rfl, _, _, rfl, rfl, true, congrArg V.bl (decide_eq_true (by omega)), iteT ?_⟩
    refine ⟨_, rfl, a, rfl, ⟨_, SqL.of ha⟩, fun D hD => lcP walk_list rBl hD (by rw [hl]; exact Nat.lt_of_le_of_lt (Nat.le_trans h2 hn) (by decide)) (fun i => some true) (fun _ e => SqL.of (e _ _ ha)) ?_ ?_⟩
    · rintro i x H1 H2 KT KF hi e _ ⟨rfl, hx⟩ kt _
      obtain ⟨z, hz, rfl⟩ : ∃ z, zs[i]? = some z ∧ x = V.str z := by
        rw [List.getElem?_map] at hx
        cases ez : zs[i]? with
        | none => rw [ez] at hx; cases hx
        | some z => rw [ez] at hx; exact ⟨z, rfl, (Option.some.inj hx).symm⟩
      exact ⟨rfl, yes_it ⟨_, rfl, z, rfl, ok.ok z (List.mem_of_getElem? hz), fun H3 e3 => kt _ _ true rfl e3 rfl⟩⟩
    · intro H1 m
      refine ⟨D, _, rfl, SqL.of m.bls, true, ?_, iteT ?_⟩
      · rw [all_true (α := Nat) fun _ _ => rfl]
      · have ha1 := m.same _ _ ha
        refine ⟨_, rfl, a, zs, rfl, SqL.of ha1, ok.nd, by omega, _, rfl, a, _, rfl, .inl (SqL.of ha1), rfl, ?_⟩
        rw [hl, decide_eq_true rfl]
        exact q _ m.same
end
end Rb
namespace Rb
open PySem PySem.Spec PyProof.Rows L2
theorem inV_str {z : Str} {xs : List Str} : inV (.str z) (xs.map V.str) = decide (z ∈ xs) := by
  unfold inV
  rw [List.any_map]
  induction xs with
  | nil => rfl
  | cons x xs ih =>
    rw [List.any_cons, ih]
    show ((x == z) || decide (z ∈ xs)) = decide (z ∈ x :: xs)
    by_cases h : z = x
    · subst h; simp
    · have e : (x == z) = false := by simpa [beq_iff_eq] using (fun q : x = z => h q.symm)
      rw [e]
      simp [h]
theorem in_str {z : Str} {xs : List Str} (h : z ∈ xs) : inV (.str z) (xs.map V.str) = true := by rw [inV_str]; exact decide_eq_true h
/-- the sequence at a -/
theorem at_tup {H : Hp} {K : Frg} {a : Addr} {xs : List V} {i : Int} {v : V} {Q : VK} (ha : H a = some (.tup xs)) (hi : atI xs i = some v) (q : Q v H) : rIxT K (.ref a) (.int i) H Q :=
  ⟨a, xs, i, v, rfl, rfl, SqT.of ha, hi, q⟩
theorem at_lst {H : Hp} {K : Frg} {a : Addr} {xs : List V} {i : Int} {v : V} {Q : VK} (ha : H a = some (.lst xs)) (hi : atI xs i = some v) (q : Q v H) : rIxL K (.ref a) (.int i) H Q :=
  ⟨a, xs, i, v, rfl, rfl, SqL.of ha, hi, q⟩
theorem in_lst {H : Hp} {K : Frg} {a : Addr} {xs : List Str} {z : Str} {Q : VK} (ha : H a = some (.lst (xs.map V.str))) (q : Q (.bl (decide (z ∈ xs))) H) : rIn K false (.str z) (.ref a) H Q :=
  ⟨a, _, rfl, .inl (SqL.of ha), rfl, flat_strs xs, by rw [← inV_str] at q; exact q⟩
theorem notin_lst {H : Hp} {K : Frg} {a : Addr} {xs : List Str} {z : Str} {Q : VK} (ha : H a = some (.lst (xs.map V.str))) (q : Q (.bl (!decide (z ∈ xs))) H) : rIn K true (.str z) (.ref a) H Q :=
  ⟨a, _, rfl, .inl (SqL.of ha), rfl, flat_strs xs, by rw [← inV_str] at q; exact q⟩
section
variable {P : Program} {w : World} {K : Frg} {mg : Str → Option Value} {base : Heap}
def spIsEvent : Sp := fun vs H Q _ => ∃ (v : V) (pi pn : Addr) (g : Nat) (items names : List Str) (e : Ev), vs = [v, .ref pi, .int g, .ref pn] ∧ rEv H v e ∧ H pi = some (.lst (items.map V.str)) ∧ H pn = some (.lst (names.map V.str)) ∧ EvOk items g names e ∧
  ∀ H', Same H H' → Q (.bl true) H'
theorem ok_is_event (T : TX K mg) : OkF P w K mg base 1 (fA K "is_event") ["event", "items", "grades", "judges"] spIsEvent := by
  refine okD T.D.d_is_event sc_is_event (fun vs H Q E h => ?_) (fun _ _ _ _ _ _ us hl => match us, hl with | [_, _, _, _], _ => rfl) (fun cdv A outer s H vs Q E hr h => ?_)
  · obtain ⟨v, pi, pn, g, items, names, e, rfl, _⟩ := h
    rfl
  · obtain ⟨v, pi, pn, g, items, names, e, rfl, he, hi, hn, ok, q⟩ := h
    obtain ⟨t1, g1⟩ := T.C.c_RESET
    obtain ⟨t2, g2⟩ := T.C.c_ANSWER
    refine ⟨_, pss_cons (ps_if (PW.pt (pw_and (pt_cmpR op_eq (pe_callB call_len_seq rfl T.B.b_len boot_len (pa_cons (pv 0) pa_nil)) pe_int (nomark _)) (pw_and1 (pt_cmpR op_eq (pe_ix ix_tup (pv 0) pe_int (fun _ _ => rfl)) (pe_glob (v := .str "reset") rfl g1 ⟨_, rfl⟩) (nomark _)))))
        (pss_one (ps_ret (pe_cmpR op_in_seq (pe_ix ix_tup (pv 0) pe_int (fun _ _ => rfl)) (pv 3) (by with_unfolding_all rfl)))) pss_nil)
      (pss_cons (ps_if (PW.pt (pw_or (pt_cmpR op_ne (pe_callB call_len_seq rfl T.B.b_len boot_len (pa_cons (pv 0) pa_nil)) pe_int (nomark _)) (pw_or1 (pt_cmpR op_ne (pe_ix ix_tup (pv 0) pe_int (fun _ _ => rfl)) (pe_glob (v := .str "answer") rfl g2 ⟨_, rfl⟩) (nomark _)))))
        (pss_one (ps_ret pe_bl)) pss_nil)
      (pss_one (ps_ret (pe_and (pe_cmpR op_in_seq (pe_ix ix_tup (pv 0) pe_int (fun _ _ => rfl)) (pv 3) (by with_unfolding_all rfl)) (pe_and (pe_cmpR op_in_seq (pe_ix ix_tup (pv 0) pe_int (fun _ _ => rfl)) (pv 1) (by with_unfolding_all rfl))
        (pe_one (pe_chain op_le op_le pe_int (pe_ix ix_tup (pv 0) pe_int (fun _ _ => rfl)) (pv 2)))))))), ?_⟩
    cases e with
    | rst j =>
      obtain ⟨a, rfl, ha⟩ := he
      refine ⟨_, rfl, a, _, rfl, .inr (SqT.of ha), rfl, true, rfl, iteT ?_⟩
      refine ⟨_, rfl, a, _, _, _, rfl, rfl, SqT.of ha, rfl, rfl, true, congrArg V.bl (decide_eq_true rfl), iteT ?_⟩
      refine ⟨_, rfl, a, _, _, _, rfl, rfl, SqT.of ha, rfl, _, rfl, pn, _, rfl, .inl (SqL.of hn), rfl, flat_strs names, ?_⟩
      show Q (.bl (inV (.str j) (names.map V.str))) H
      rw [in_str (show j ∈ names from ok)]
      exact q H (Same.refl H)
    | ans j i gr =>
      obtain ⟨a, rfl, ha⟩ := he
      obtain ⟨o1, o2, o3⟩ := ok
      refine ⟨_, rfl, a, _, rfl, .inr (SqT.of ha), rfl, false, rfl, iteF (iteF ?_)⟩
      refine ⟨_, rfl, a, _, rfl, .inr (SqT.of ha), rfl, false, rfl, iteF ?_⟩
      refine ⟨_, rfl, a, _, _, _, rfl, rfl, SqT.of ha, rfl, rfl, false, congrArg (fun b => V.bl (!b)) (decide_eq_true rfl), iteF ?_⟩
      refine ⟨_, rfl, a, _, _, _, rfl, rfl, SqT.of ha, rfl, _, rfl, pn, _, rfl, .inl (SqL.of hn), rfl, flat_strs names, true, congrArg V.bl (in_str o1), iteT ?_⟩
      refine ⟨_, rfl, a, _, _, _, rfl, rfl, SqT.of ha, rfl, _, rfl, pi, _, rfl, .inl (SqL.of hi), rfl, flat_strs items, true, congrArg V.bl (in_str o2), iteT ?_⟩
      refine ⟨_, rfl, a, _, _, _, rfl, rfl, SqT.of ha, rfl, _, _, rfl, rfl, true, congrArg V.bl (decide_eq_true (by omega)), iteT ?_⟩
      refine ⟨_, rfl, _, _, rfl, rfl, ?_⟩
      show Q (.bl (decide ((gr : Int) ≤ (g : Int)))) H
      rw [decide_eq_true (show (gr : Int) ≤ (g : Int) by omega)]
      exact q H (Same.refl H)
end
end Rb
namespace Rb
open PySem PySem.Spec PyProof.Rows L2
/-- the parts of a log stand at these places -/
structure LogParts (H : Hp) (pi pj pe : Addr) (L : LogD) : Prop where
  i : H pi = some (.lst (L.items.map V.str))
  j : ∃ vj, H pj = some (.lst vj) ∧ Paired (rT2 rStr rStr H) vj L.judges
  e : ∃ ve, H pe = some (.lst ve) ∧ Paired (rEv H) ve L.events
theorem LogParts.mono {H H' : Hp} {pi pj pe : Addr} {L : LogD} (e : Same H H') (h : LogParts H pi pj pe L) : LogParts H' pi pj pe L := by
  obtain ⟨vj, h1, h2⟩ := h.j
  obtain ⟨ve, h3, h4⟩ := h.e
  exact ⟨e _ _ h.i, ⟨vj, e _ _ h1, pMono e h2⟩, ⟨ve, e _ _ h3, pMono e h4⟩⟩
/-- all that was tracked stands, but at p -/
def SameX (p : Addr) (H H' : Hp) : Prop := ∀ b o, H b = some o → b ≠ p → H' b = some o
theorem small_putF {f : Str} {v : V} {fs : List (Str × V)} {n : Nat} (h : fs.length ≤ n) (hn : n + 1 < 1000) : (putF f v fs).length < 1000 := by
  have := length_putF f v fs
  omega
theorem sfld_it {K : Frg} {σ : L2.St} {H : Hp} {p C dx : Addr} {fs : List (Str × V)} {f : Str} {y : V} {D : Ends} (h0 : σ[0]? = some (some (.ref p))) (c : Cls K C) (n : NoAttr K C f) (few : fs.length < 1000) (hp : H p = some (.ins C dx fs))
    (k : ∀ G, SameX p H G → G p = some (.ins C dx (putF f y fs)) → D.nx σ G) :
    tVar 0 σ H fun x H2 => ∃ a C dx fs, x = .ref a ∧ H2 a = some (.ins C dx fs) ∧ Cls K C ∧ NoAttr K C f ∧ fs.length < 1000 ∧ D.nx σ (upd H2 a (.ins C dx (putF f y fs))) :=
  ⟨_, h0, p, C, dx, fs, rfl, hp, c, n, few, k _ (fun b o e ne => by rw [upd_ne ne]; exact e) upd_same⟩
theorem pairsX {H G : Hp} {p C dx : Addr} {fs : List (Str × V)} (up : ∀ b o, H b = some o → b ≠ p → G b = some o) (hp : H p = some (.ins C dx fs)) {vs : List V} {xs : List (Str × Str)} (h : Paired (rT2 rStr rStr H) vs xs) : Paired (rT2 rStr rStr G) vs xs :=
  Paired.mapP h fun v x q => by
    obtain ⟨a, u, w, h1, h2, h3, h4⟩ := q
    exact ⟨a, u, w, h1, up _ _ h2 (ne_of h2 hp (by intro z; cases z)), h3, h4⟩
theorem evsX {H G : Hp} {p C dx : Addr} {fs : List (Str × V)} (up : ∀ b o, H b = some o → b ≠ p → G b = some o) (hp : H p = some (.ins C dx fs)) {vs : List V} {xs : List Ev} (h : Paired (rEv H) vs xs) : Paired (rEv G) vs xs :=
  Paired.mapP h fun v x q => by
    cases x with
    | ans j i g => obtain ⟨a, h1, h2⟩ := q; exact ⟨a, h1, up _ _ h2 (ne_of h2 hp (by intro z; cases z))⟩
    | rst j => obtain ⟨a, h1, h2⟩ := q; exact ⟨a, h1, up _ _ h2 (ne_of h2 hp (by intro z; cases z))⟩
/-- the lists of the log at p are new -/
def NewPts (H H' : Hp) (p : Addr) : Prop := ∃ C dx pi g pj pe, H' p = some (.ins C dx (lflds pi g pj pe)) ∧ H pi = none ∧ H pj = none ∧ H pe = none
theorem freeX {p : Addr} {H H' : Hp} (e : SameX p H H') {b : Addr} (ne : b ≠ p) (h : H' b = none) : H b = none := by
  cases z : H b with
  | none => rfl
  | some o => rw [e b o z ne] at h; cases h
section
variable {P : Program} {w : World} {K : Frg} {mg : Str → Option Value} {base : Heap}
def spLogInit (K : Frg) : Sp := fun vs H Q _ => ∃ (p pi pj pe dx : Addr) (L : LogD), vs = [.ref p, .ref pi, .int L.grades, .ref pj, .ref pe] ∧ H p = some (.ins (fA K "Log") dx []) ∧ LogParts H pi pj pe L ∧ LogOk L ∧
  ∀ H', SameX p H H' → LogAt K H' p L → NewPts H H' p → Q .non H'
theorem ok_Log_init (T : TX K mg) : OkF P w K mg base 3 (mA K "Log" "__init__") ["self", "items", "grades", "judges", "events"] (spLogInit K) := by
  refine okD T.M.d_Log_init sc_Log_init (fun vs H Q E h => ?_) (fun _ _ _ _ _ _ us hl => match us, hl with | [_, _, _, _, _], _ => rfl) (fun cdv A outer s H vs Q E hr h => ?_)
  · obtain ⟨p, pi, pj, pe, dx, L, rfl, _⟩ := h
    rfl
  · obtain ⟨p, pi, pj, pe, dx, L, rfl, hp, hL, ok, q⟩ := h
    have GD := (ok_is_drift (P := P) (w := w) (base := base) T).mono (k := 2) (by decide)
    have GN := ok_are_names (P := P) (w := w) (base := base) T
    have GE := (ok_is_event (P := P) (w := w) (base := base) T).mono (k := 2) (by decide)
    obtain ⟨t1, g1⟩ := T.C.c_MOST_ITEMS
    obtain ⟨t2, g2⟩ := T.C.c_MOST_JUDGES
    obtain ⟨t3, g3⟩ := T.C.c_MOST_GRADE
    obtain ⟨t4, g4⟩ := T.C.c_MOST_EVENTS
    obtain ⟨vj, hj, pj2⟩ := hL.j
    obtain ⟨ve, he, pe2⟩ := hL.e
    refine ⟨_, pss_cons (ps_if (pt_not (pt_val (pe_callB (allK K) rfl T.B.b_all boot_all (pa_cons
        (pe_lc (own := [("judge", 5)]) (g := gName 5) (tt := tYes) rfl sc_Log_init.nd (piL K (pv 3)) (blkOk_by (N := N_Log_init) (sc := defScope s_Log_init) (by decide +kernel))
          (fun _ _ _ _ _ => pg_name (i := 5) sc_Log_init.nd rfl (Or.inl rfl)) (fun _ _ _ _ _ => pts_nil)
          (fun _ _ _ _ _ => pe_and (pe_cmpR op_eq (pe_callB (lenK K) rfl T.B.b_len boot_len (pa_cons (pv 5) pa_nil)) pe_int (nomark _)) (pe_one (pcall GD hr rfl T.G.g_is_drift (pa_cons (pe_ix (ixT K) (pv 5) pe_int (fun _ _ => rfl)) pa_nil))))) pa_nil)))) pss_never pss_nil)
      (pss_cons (ps_set (i := 6) sc_Log_init.nd rfl (Or.inr rfl) (pe_lc (own := [("judge", 5)]) (g := gName 5) (tt := tYes) rfl sc_Log_init.nd (piL K (pv 3)) (blkOk_by (N := N_Log_init) (sc := defScope s_Log_init) (by decide +kernel))
          (fun _ _ _ _ _ => pg_name (i := 5) sc_Log_init.nd rfl (Or.inl rfl)) (fun _ _ _ _ _ => pts_nil) (fun _ _ _ _ _ => pe_ix (ixT K) (pv 5) pe_int (fun _ _ => rfl))))
      (pss_cons (ps_if (PW.pt (pw_or (pt_not (pt_val (pcall GN hr rfl T.G.g_are_names (pa_cons (pv 1) (pa_cons (pe_glob (v := .int 20) rfl g1 ⟨_, rfl⟩) pa_nil)))))
          (pw_or (pt_not (pt_val (pcall GN hr rfl T.G.g_are_names (pa_cons (pv 6) (pa_cons (pe_glob (v := .int 8) rfl g2 ⟨_, rfl⟩) pa_nil)))))
          (pw_or1 (pt_not (pt_chain op_le op_le pe_int (pv 2) (pe_glob (v := .int 9) rfl g3 ⟨_, rfl⟩))))))) pss_never pss_nil)
      (pss_cons (ps_if (PW.pt (pw_or (pt_cmpR op_gt (pe_callB (lenK K) rfl T.B.b_len boot_len (pa_cons (pv 4) pa_nil)) (pe_glob (v := .int 120) rfl g4 ⟨_, rfl⟩) (nomark _))
          (pw_or1 (pt_not (pt_val (pe_callB (allK K) rfl T.B.b_all boot_all (pa_cons
            (pe_lc (own := [("event", 7)]) (g := gName 7) (tt := tYes) rfl sc_Log_init.nd (piL K (pv 4)) (blkOk_by (N := N_Log_init) (sc := defScope s_Log_init) (by decide +kernel))
              (fun _ _ _ _ _ => pg_name (i := 7) sc_Log_init.nd rfl (Or.inl rfl)) (fun _ _ _ _ _ => pts_nil)
              (fun _ _ _ _ _ => pcall GE hr rfl T.G.g_is_event (pa_cons (pv 7) (pa_cons (pv 1) (pa_cons (pv 2) (pa_cons (pv 6) pa_nil)))))) pa_nil))))))) pss_never pss_nil)
      (pss_cons (ps_fld (pv 0) (pe_callTy (listK K) rfl T.B.b_list PyProof.Rows.boot_list (pa_cons (pv 1) pa_nil)) rfl)
      (pss_cons (ps_fld (pv 0) (pv 2) rfl)
      (pss_cons (ps_fld (pv 0) (pe_callTy (listK K) rfl T.B.b_list PyProof.Rows.boot_list (pa_cons (pv 3) pa_nil)) rfl)
      (pss_one (ps_fld (pv 0) (pe_callTy (listK K) rfl T.B.b_list PyProof.Rows.boot_list (pa_cons (pv 4) pa_nil)) rfl)))))))), ?_⟩
    have lj := pLen pj2
    have le := pLen pe2
    have fewJ : vj.length < sizeLine := by rw [lj]; have := ok.judges.le; rw [List.length_map] at this; exact Nat.lt_of_le_of_lt this (by decide)
    have fewE : ve.length < sizeLine := by rw [le]; exact Nat.lt_of_le_of_lt ok.few (by decide)
    -- if not all([..])
    refine ⟨_, rfl, pj, rfl, ⟨_, SqL.of hj⟩, fun D hD => lcP walk_list rBl hD fewJ (fun _ => some true) (fun _ e => SqL.of (e _ _ hj)) ?_ ?_⟩
    · rintro i x H1 H2 KT KF hi e _ ⟨rfl, hx⟩ kt _
      obtain ⟨jd, hjd, a, u, v, rfl, ha, rfl, rfl⟩ := pGet pj2 hx
      have ha1 := e _ _ ha
      refine ⟨rfl, yes_it ⟨_, rfl, a, _, rfl, .inr (SqT.of ha1), rfl, true, congrArg V.bl (decide_eq_true rfl), iteT ?_⟩⟩
      exact ⟨_, rfl, a, _, _, _, rfl, rfl, SqT.of ha1, rfl, jd.2, rfl, ok.drifts jd (List.mem_of_getElem? hjd), fun H3 e3 => kt _ _ true rfl e3 rfl⟩
    intro H1 m1
    refine ⟨D, _, rfl, SqL.of m1.bls, true, ?_, iteF ?_⟩
    · rw [all_true (α := Nat) fun _ _ => rfl]
    -- names = [..]
    have s1 := m1.same
    refine ⟨_, rfl, pj, rfl, ⟨_, SqL.of (s1 _ _ hj)⟩, fun D2 hD2 => lcP walk_list rStr hD2 fewJ (fun i => (L.judges[i]?).map (·.1)) (fun _ e => SqL.of (e _ _ (s1 _ _ hj))) ?_ ?_⟩
    · rintro i x H2 H3 KT KF hi e _ ⟨rfl, hx⟩ kt _
      obtain ⟨jd, hjd, a, u, v, rfl, ha, rfl, rfl⟩ := pGet pj2 hx
      exact ⟨rfl, yes_it ⟨_, rfl, a, _, _, _, rfl, rfl, SqT.of (e _ _ (s1 _ _ ha)), rfl, kt _ _ jd.1 (by rw [hjd]; rfl) (Same.refl _) rfl⟩⟩
    intro H2 m2
    rw [lj, outs_map] at m2
    have s2 := s1.trans m2.same
    have hn := m2.strs
    -- if not are_names(..) or ..
    refine ⟨_, rfl, pi, L.items, 20, rfl, by decide, s2 _ _ hL.i, ok.items, fun H3 e3 => ⟨true, rfl, iteF ?_⟩⟩
    refine ⟨_, rfl, D2, _, 8, rfl, by decide, e3 _ _ hn, ok.judges, fun H4 e4 => ⟨true, rfl, iteF ?_⟩⟩
    have o1 := ok.g1
    have o9 := ok.g9
    refine ⟨_, rfl, _, _, rfl, rfl, true, congrArg V.bl (decide_eq_true (by omega)), iteT ⟨_, _, rfl, rfl, true, congrArg V.bl (decide_eq_true (by omega)), iteF ?_⟩⟩
    -- if len(events) > .. or ..
    have s4 := (s2.trans e3).trans e4
    have hn4 := e4 _ _ (e3 _ _ hn)
    have hL4 := hL.mono s4
    have few := ok.few
    refine ⟨_, rfl, pe, _, rfl, .inl (SqL.of (s4 _ _ he)), _, _, rfl, rfl, false, congrArg V.bl (decide_eq_false (by omega)), iteF ?_⟩
    refine ⟨_, rfl, pe, rfl, ⟨_, SqL.of (s4 _ _ he)⟩, fun D5 hD5 => lcP walk_list rBl hD5 fewE (fun _ => some true) (fun _ e => SqL.of (e _ _ (s4 _ _ he))) ?_ ?_⟩
    · rintro i x H5 H6 KT KF hi e _ ⟨rfl, hx⟩ kt _
      obtain ⟨ev, hev, rev⟩ := pGet pe2 hx
      have s5 := s4.trans e
      exact ⟨rfl, yes_it ⟨_, rfl, _, rfl, _, rfl, _, rfl, x, pi, D2, L.grades, L.items, _, ev, rfl, Mono.mono s5 rev, s5 _ _ hL.i, e _ _ hn4, ok.evs ev (List.mem_of_getElem? hev), fun H7 e7 => kt _ _ true rfl e7 rfl⟩⟩
    intro H5 m5
    refine ⟨D5, _, rfl, SqL.of m5.bls, true, ?_, iteF ?_⟩
    · rw [all_true (α := Nat) fun _ _ => rfl]
    -- the fields
    have s5 := s4.trans m5.same
    have hp5 := s5 _ _ hp
    have hL5 := hL.mono s5
    obtain ⟨vj5, hj5, pj5⟩ := hL5.j
    obtain ⟨ve5, he5, pe5⟩ := hL5.e
    have nj : pj ≠ p := ne_of hj5 hp5 (by intro z; cases z)
    have ne' : pe ≠ p := ne_of he5 hp5 (by intro z; cases z)
    refine ⟨_, rfl, pi, _, rfl, .inl (SqL.of hL5.i), fun l1 hl1 => ?_⟩
    have np1 : l1 ≠ p := (ne_of_none hp5 hl1).symm
    refine sfld_it (fs := []) rfl T.T.cl_Log T.T.n_Log_items (by decide) (by rw [upd_ne np1.symm]; exact hp5) fun G1 x1 q1 => ?_
    have hi1 : G1 l1 = some (.lst (L.items.map V.str)) := x1 _ _ upd_same np1
    have y1 : SameX p H5 G1 := fun b o e n => x1 _ _ (sNew hl1 _ _ e) n
    refine ⟨_, rfl, sfld_it rfl T.T.cl_Log T.T.n_Log_grades (small_putF (n := 0) (Nat.le_refl _) (by decide)) q1 fun G2 x2 q2 => ?_⟩
    have y2 : SameX p H5 G2 := fun b o e n => x2 _ _ (y1 _ _ e n) n
    refine ⟨_, rfl, pj, _, rfl, .inl (SqL.of (y2 _ _ hj5 nj)), fun l2 hl2 => ?_⟩
    have np2 : l2 ≠ p := (ne_of_none q2 hl2).symm
    refine sfld_it rfl T.T.cl_Log T.T.n_Log_judges (small_putF (n := 1) (length_putF _ _ _) (by decide)) (by rw [upd_ne np2.symm]; exact q2) fun G3 x3 q3 => ?_
    have hj3 : G3 l2 = some (.lst vj5) := x3 _ _ upd_same np2
    have hi3 : G3 l1 = some (.lst (L.items.map V.str)) := x3 _ _ (sNew hl2 _ _ (x2 _ _ hi1 np1)) np1
    have y3 : SameX p H5 G3 := fun b o e n => x3 _ _ (sNew hl2 _ _ (y2 _ _ e n)) n
    refine ⟨_, rfl, pe, _, rfl, .inl (SqL.of (y3 _ _ he5 ne')), fun l3 hl3 => ?_⟩
    have np3 : l3 ≠ p := (ne_of_none q3 hl3).symm
    have few2 : (putF ("_judges" : Str) (V.ref l2) (putF ("_grades" : Str) (V.int L.grades) (putF ("_items" : Str) (V.ref l1) []))).length < 1000 :=
      small_putF (n := 2) (Nat.le_trans (length_putF _ _ _) (Nat.succ_le_succ (length_putF _ _ _))) (by decide)
    refine sfld_it rfl T.T.cl_Log T.T.n_Log_events few2 (by rw [upd_ne np3.symm]; exact q3) fun G4 x4 q4 => ?_
    have up : ∀ b o, H5 b = some o → b ≠ p → G4 b = some o := fun b o e n => x4 _ _ (sNew hl3 _ _ (y3 _ _ e n)) n
    have w3 : ∀ b o, G3 b = some o → b ≠ p → G4 b = some o := fun b o e n => x4 _ _ (sNew hl3 _ _ e) n
    refine q G4 (fun b o e n => up _ _ (s5 _ _ e) n) ⟨dx, l1, l2, l3, vj5, ve5, ?_, w3 _ _ hi3 np1, w3 _ _ hj3 np2, pairsX up hp5 pj5, x4 _ _ upd_same np3, evsX up hp5 pe5⟩ ⟨fA K "Log", dx, l1, L.grades, l2, l3, ?_, s5.free hl1, s5.free (freeX y2 np2 hl2), s5.free (freeX y3 np3 hl3)⟩
    · rw [q4, lf_made]
    · rw [q4, lf_made]
end
end Rb
namespace Rb
open PySem PySem.Spec PyProof.Rows L2
theorem fst_uniq {α : Type} {l : List (Str × α)} (nd : (l.map (·.1)).Nodup) {a b : Str × α} (ha : a ∈ l) (hb : b ∈ l) (e : a.1 = b.1) : a = b := by
  obtain ⟨i, hi⟩ := List.mem_iff_getElem?.mp ha
  obtain ⟨k, hk⟩ := List.mem_iff_getElem?.mp hb
  have h1 : (l.map (·.1))[i]? = some a.1 := by rw [List.getElem?_map, hi]; rfl
  have h2 : (l.map (·.1))[k]? = some a.1 := by rw [List.getElem?_map, hk, e]; rfl
  have := nd_ix nd h1 h2
  subst this
  rw [hi] at hk
  exact Option.some.inj hk
/-- whether an answer stands there -/
def ansAt (es : List Ev) (n : Nat) : Bool := match es[n]? with
  | some e => isAns e
  | none => false
theorem ansAt_iff {es : List Ev} {n : Nat} : ansAt es n = true ↔ ∃ j x g, es[n]? = some (.ans j x g) := by
  unfold ansAt
  cases e : es[n]? with
  | none => simp
  | some v => cases v <;> simp [isAns]
/-- range(n), from 0 -/
theorem walk_nat {n : Nat} : Walk (Itr 0 n) n (fun _ => True) (fun i H x H' => H' = H ∧ x = .int (i : Int)) :=
  ⟨fun _ _ hi _ => hi, fun _ _ => Nat.le_refl _, fun _ _ _ _ _ _ y => ⟨y.1, by rw [y.2, Int.zero_add]⟩⟩
section
variable {P : Program} {w : World} {K : Frg} {mg : Str → Option Value} {base : Heap}
abbrev CL (K : Frg) : Addr := fA K "Log"
/-! ### the properties -/
def spItems (K : Frg) : Sp := fun vs H Q _ => ∃ (p : Addr) (L : LogD), vs = [.ref p] ∧ LogAt K H p L ∧ ∀ l H', Same H H' → H' l = some (.lst (L.items.map V.str)) → Q (.ref l) H'
theorem ok_items (T : TX K mg) : OkP P w K mg base 1 (CL K) "item_names" (spItems K) := by
  obtain ⟨p, g, hp, hd⟩ := T.M.d_Log_item_names
  refine ⟨p, g, hp, okD hd sc_Log_item_names (fun vs H Q E h => ?_) (fun _ _ _ _ _ _ us hl => match us, hl with | [_], _ => rfl) (fun cdv A outer s H vs Q E hr h => ?_)⟩
  · obtain ⟨p, L, rfl, _⟩ := h
    rfl
  · obtain ⟨p, L, rfl, h, q⟩ := h
    obtain ⟨dx, pi, pj, pe, vj, ve, hp, hi, hj, rj, he, re⟩ := h.ex
    refine ⟨_, pss_one (ps_ret (pe_callTy (listK K) rfl T.B.b_list PyProof.Rows.boot_list (pa_cons (peF K (pv 0)) pa_nil))), ?_⟩
    exact fld_it rfl hp T.T.cl_Log T.T.n_Log_items lf_items ⟨pi, _, rfl, .inl (SqL.of hi), fun l hl => q l _ (sNew hl) upd_same⟩
def spGrades (K : Frg) : Sp := fun vs H Q _ => ∃ (p : Addr) (L : LogD), vs = [.ref p] ∧ LogAt K H p L ∧ Q (.int L.grades) H
theorem ok_grades (T : TX K mg) : OkP P w K mg base 1 (CL K) "grades" (spGrades K) := by
  obtain ⟨p, g, hp, hd⟩ := T.M.d_Log_grades
  refine ⟨p, g, hp, okD hd sc_Log_grades (fun vs H Q E h => ?_) (fun _ _ _ _ _ _ us hl => match us, hl with | [_], _ => rfl) (fun cdv A outer s H vs Q E hr h => ?_)⟩
  · obtain ⟨p, L, rfl, _⟩ := h
    rfl
  · obtain ⟨p, L, rfl, h, q⟩ := h
    obtain ⟨dx, pi, pj, pe, vj, ve, hp, hi, hj, rj, he, re⟩ := h.ex
    refine ⟨_, pss_one (ps_ret (peF K (pv 0))), ?_⟩
    exact fld_it rfl hp T.T.cl_Log T.T.n_Log_grades lf_grades q
def spJudges (K : Frg) : Sp := fun vs H Q _ => ∃ (p : Addr) (L : LogD), vs = [.ref p] ∧ LogAt K H p L ∧ ∀ v H', Same H H' → rLst (rT2 rStr rStr) H' v L.judges → Q v H'
theorem ok_judges (T : TX K mg) : OkP P w K mg base 1 (CL K) "judges" (spJudges K) := by
  obtain ⟨p, g, hp, hd⟩ := T.M.d_Log_judges
  refine ⟨p, g, hp, okD hd sc_Log_judges (fun vs H Q E h => ?_) (fun _ _ _ _ _ _ us hl => match us, hl with | [_], _ => rfl) (fun cdv A outer s H vs Q E hr h => ?_)⟩
  · obtain ⟨p, L, rfl, _⟩ := h
    rfl
  · obtain ⟨p, L, rfl, h, q⟩ := h
    obtain ⟨dx, pi, pj, pe, vj, ve, hp, hi, hj, rj, he, re⟩ := h.ex
    refine ⟨_, pss_one (ps_ret (pe_callTy (listK K) rfl T.B.b_list PyProof.Rows.boot_list (pa_cons (peF K (pv 0)) pa_nil))), ?_⟩
    exact fld_it rfl hp T.T.cl_Log T.T.n_Log_judges lf_judges ⟨pj, _, rfl, .inl (SqL.of hj), fun l hl => q _ _ (sNew hl) ⟨l, vj, rfl, upd_same, pMono (sNew hl) rj⟩⟩
def spEvents (K : Frg) : Sp := fun vs H Q _ => ∃ (p : Addr) (L : LogD), vs = [.ref p] ∧ LogAt K H p L ∧ ∀ v H', Same H H' → rLst rEv H' v L.events → Q v H'
theorem ok_events (T : TX K mg) : OkP P w K mg base 1 (CL K) "events" (spEvents K) := by
  obtain ⟨p, g, hp, hd⟩ := T.M.d_Log_events
  refine ⟨p, g, hp, okD hd sc_Log_events (fun vs H Q E h => ?_) (fun _ _ _ _ _ _ us hl => match us, hl with | [_], _ => rfl) (fun cdv A outer s H vs Q E hr h => ?_)⟩
  · obtain ⟨p, L, rfl, _⟩ := h
    rfl
  · obtain ⟨p, L, rfl, h, q⟩ := h
    obtain ⟨dx, pi, pj, pe, vj, ve, hp, hi, hj, rj, he, re⟩ := h.ex
    refine ⟨_, pss_one (ps_ret (pe_callTy (listK K) rfl T.B.b_list PyProof.Rows.boot_list (pa_cons (peF K (pv 0)) pa_nil))), ?_⟩
    exact fld_it rfl hp T.T.cl_Log T.T.n_Log_events lf_events ⟨pe, _, rfl, .inl (SqL.of he), fun l hl => q _ _ (sNew hl) ⟨l, ve, rfl, upd_same, pMono (sNew hl) re⟩⟩
/-! ### drift_of -/
def spDriftOf (K : Frg) : Sp := fun vs H Q _ => ∃ (p : Addr) (L : LogD) (j d : Str), vs = [.ref p, .str j] ∧ LogAt K H p L ∧ LogOk L ∧ (j, d) ∈ L.judges ∧ Q (.str d) H
theorem ok_drift_of (T : TX K mg) : OkF P w K mg base 1 (mA K "Log" "drift_of") ["self", "judge"] (spDriftOf K) := by
  refine okD T.M.d_Log_drift_of sc_Log_drift_of (fun vs H Q E h => ?_) (fun _ _ _ _ _ _ us hl => match us, hl with | [_, _], _ => rfl) (fun cdv A outer s H vs Q E hr h => ?_)
  · obtain ⟨p, L, j, d, rfl, _⟩ := h
    rfl
  · obtain ⟨p, L, j, d, rfl, h, ok, hjd, q⟩ := h
    obtain ⟨dx, pi, pj, pe, vj, ve, hp, hi, hj, rj, he, re⟩ := h.ex
    have nd := sc_Log_drift_of.nd
    refine ⟨_, pss_cons (ps_for PassesOwn.never rfl (piL K (peF K (pv 0))) (pgT K (pgs_cons (pg_name (i := 2) nd rfl (Or.inl rfl)) (pgs_cons (pg_name (i := 3) nd rfl (Or.inl rfl)) pgs_nil)))
      (pss_one (ps_if (pt_cmpR op_eq (pv 2) (pv 1) (nomark _)) (pss_one (ps_ret (pv 3))) pss_nil))) pss_never, ?_⟩
    refine ⟨_, rfl, p, _, dx, _, _, rfl, hp, T.T.cl_Log, T.T.n_Log_judges, lf_judges, pj, rfl, ⟨_, SqL.of hj⟩, ?_⟩
    refine for_it (walk_list (K := K) (a := pj) (xs := vj)) (fun i σ H' => H' = H ∧ (∃ u v, σ = [some (.ref p), some (.str j), u, v]) ∧ ∀ k, k < i → ∀ jd, L.judges[k]? = some jd → jd.1 ≠ j) ⟨rfl, ⟨_, _, rfl⟩, fun k hk => absurd hk (Nat.not_lt_zero _)⟩ (fun i σ H' _ z => by rw [z.1]; exact SqL.of hj) ?_ ?_
    · rintro i x σ H1 H2 hi ⟨rfl, ⟨u, v, rfl⟩, no⟩ ⟨rfl, hx⟩
      obtain ⟨jd, hjd2, a, u2, v2, rfl, ha, rfl, rfl⟩ := pGet rj hx
      refine ⟨a, _, rfl, SqT.of ha, rfl, _, _, rfl, _, _, rfl, rfl, ?_⟩
      refine ⟨_, rfl, _, rfl, rfl, _, rfl, ite2 (fun hc => ?_) (fun hc => ?_)⟩
      · have e : jd.1 = j := V.str.inj (of_decide_eq_true hc)
        have e2 := fst_uniq ok.judges.nd (List.mem_of_getElem? hjd2) hjd e
        refine ⟨_, rfl, ?_⟩
        rw [e2]
        exact q
      · refine ⟨rfl, ⟨_, _, rfl⟩, fun k hk jd' h' => ?_⟩
        rcases Nat.lt_succ_iff_lt_or_eq.mp hk with hk | hk
        · exact no k hk jd' h'
        · subst hk
          rw [hjd2] at h'
          intro e
          exact hc (decide_eq_true (congrArg V.str (Option.some.inj h' ▸ e)))
    · rintro σ H1 ⟨rfl, _, no⟩
      obtain ⟨k, hk⟩ := List.mem_iff_getElem?.mp hjd
      have hl := (List.getElem?_eq_some_iff.mp hk).1
      exact (no k (by rw [pLen rj]; exact hl) _ hk rfl).elim
/-! ### is_answer, answers -/
def spIsAnswer (K : Frg) : Sp := fun vs H Q _ => ∃ (p : Addr) (L : LogD) (n : Nat), vs = [.ref p, .int n] ∧ LogAt K H p L ∧ Q (.bl (ansAt L.events n)) H
theorem ok_is_answer (T : TX K mg) : OkF P w K mg base 1 (mA K "Log" "is_answer") ["self", "place"] (spIsAnswer K) := by
  refine okD T.M.d_Log_is_answer sc_Log_is_answer (fun vs H Q E h => ?_) (fun _ _ _ _ _ _ us hl => match us, hl with | [_, _], _ => rfl) (fun cdv A outer s H vs Q E hr h => ?_)
  · obtain ⟨p, L, n, rfl, _⟩ := h
    rfl
  · obtain ⟨p, L, n, rfl, h, q⟩ := h
    obtain ⟨dx, pi, pj, pe, vj, ve, hp, hi, hj, rj, he, re⟩ := h.ex
    obtain ⟨t1, g1⟩ := T.C.c_ANSWER
    refine ⟨_, pss_one (ps_ret (pe_and (pe_chain op_le op_lt pe_int (pv 1) (pe_callB (lenK K) rfl T.B.b_len boot_len (pa_cons (peF K (pv 0)) pa_nil)))
      (pe_one (pe_cmpR op_eq (pe_ix (ixT K) (pe_ix (ixL K) (peF K (pv 0)) (pv 1) (fun _ _ => rfl)) pe_int (fun _ _ => rfl)) (pe_glob (v := .str "answer") rfl g1 ⟨_, rfl⟩) (nomark _))))), ?_⟩
    refine ⟨_, rfl, _, _, rfl, rfl, true, congrArg V.bl (decide_eq_true (by omega)), iteT ?_⟩
    refine fld_it rfl hp T.T.cl_Log T.T.n_Log_events lf_events ⟨pe, _, rfl, .inl (SqL.of he), _, _, rfl, rfl, _, rfl, ite2 (fun hc => ?_) (fun hc => ?_)⟩
    · have hlt : n < ve.length := by have := of_decide_eq_true hc; omega
      obtain ⟨ev, hev, rev⟩ := pGet re (List.getElem?_eq_getElem hlt)
      refine ⟨_, rfl, p, _, dx, _, _, rfl, hp, T.T.cl_Log, T.T.n_Log_events, lf_events, _, rfl, pe, _, _, _, rfl, rfl, SqL.of he, atI_nat (List.getElem?_eq_getElem hlt), ?_⟩
      have ea : ansAt L.events n = isAns ev := by unfold ansAt; rw [hev]
      rw [ea] at q
      cases ev with
      | ans j x g =>
        obtain ⟨a, e1, ha⟩ := rev
        rw [e1]
        refine ⟨a, _, _, _, rfl, rfl, SqT.of ha, rfl, rfl, ?_⟩
        show Q (.bl (decide (V.str "answer" = V.str "answer"))) H
        rw [decide_eq_true rfl]
        exact q
      | rst j =>
        obtain ⟨a, e1, ha⟩ := rev
        rw [e1]
        refine ⟨a, _, _, _, rfl, rfl, SqT.of ha, rfl, rfl, ?_⟩
        show Q (.bl (decide (V.str "reset" = V.str "answer"))) H
        rw [show decide (V.str "reset" = V.str "answer") = false from by decide +kernel]
        exact q
    · have hge : ve.length ≤ n := by
        have : ¬ ((n : Int) < (ve.length : Int)) := fun z => hc (decide_eq_true z)
        omega
      have ea : ansAt L.events n = false := by
        unfold ansAt
        rw [List.getElem?_eq_none (by rw [← pLen re]; exact hge)]
      rw [ea] at q
      exact q
def spAnswers (K : Frg) : Sp := fun vs H Q _ => ∃ (p : Addr) (L : LogD), vs = [.ref p] ∧ LogAt K H p L ∧ LogOk L ∧ ∀ v H', Same H H' → rLst rNat H' v (ansP L.events) → Q v H'
theorem ok_answers (T : TX K mg) : OkF P w K mg base 2 (mA K "Log" "answers") ["self"] (spAnswers K) := by
  refine okD T.M.d_Log_answers sc_Log_answers (fun vs H Q E h => ?_) (fun _ _ _ _ _ _ us hl => match us, hl with | [_], _ => rfl) (fun cdv A outer s H vs Q E hr h => ?_)
  · obtain ⟨p, L, rfl, _⟩ := h
    rfl
  · obtain ⟨p, L, rfl, h, ok, q⟩ := h
    obtain ⟨dx, pi, pj, pe, vj, ve, hp, hi, hj, rj, he, re⟩ := h.ex
    have G := ok_is_answer (P := P) (w := w) (base := base) T
    have nd := sc_Log_answers.nd
    refine ⟨_, pss_one (ps_ret (pe_lc (own := [("place", 1)]) (g := gName 1) rfl nd (pi_range1 rfl T.B.b_range (pa_cons (pe_callB (lenK K) rfl T.B.b_len boot_len (pa_cons (peF K (pv 0)) pa_nil)) pa_nil))
      (blkOk_by (N := N_Log_answers) (sc := defScope s_Log_answers) (by decide +kernel)) (fun _ _ _ _ _ => pg_name (i := 1) nd rfl (Or.inl rfl))
      (fun _ _ _ _ _ => pts_one (pt_val (pmeth G T.T.cl_Log T.M.m_Log_is_answer hr (pv 0) (pa_cons (pv 1) pa_nil)))) (fun _ _ _ _ _ => pv 1))), ?_⟩
    have few := ok.few
    have le := pLen re
    refine fld_it rfl hp T.T.cl_Log T.T.n_Log_events lf_events ⟨pe, _, rfl, .inl (SqL.of he), _, rfl, by omega, by omega, fun D hD => ?_⟩
    have e0 : ((ve.length : Int)).toNat = L.events.length := by rw [le]; omega
    rw [e0]
    refine lcP walk_nat rNat hD (Nat.lt_of_le_of_lt few (by decide)) (fun i => (L.events[i]?).bind fun e => if isAns e then some i else none) (fun _ _ => trivial) ?_ ?_
    · rintro i x H1 H2 KT KF hi e _ ⟨rfl, rfl⟩ kt kf
      refine ⟨rfl, ?_⟩
      refine ⟨_, rfl, p, dx, _, rfl, e _ _ hp, lf_no (by decide +kernel), _, rfl, p, L, i, rfl, h.mono e, _, rfl, ite2 (fun hc => ?_) (fun hc => ?_)⟩
      · obtain ⟨j, x, g, ee⟩ := ansAt_iff.mp hc
        exact ⟨_, rfl, kt _ _ i (by rw [ee]; rfl) (Same.refl _) rfl⟩
      · refine kf _ ?_ (Same.refl _)
        cases ee : L.events[i]? with
        | none => rfl
        | some ev =>
          cases ev with
          | ans j x g => exact absurd (ansAt_iff.mpr ⟨j, x, g, ee⟩) hc
          | rst j => rfl
    · exact fun H1 m => q _ _ m.same m.rep
end
end Rb
namespace Rb
open PySem PySem.Spec PyProof.Rows L2
theorem nats_ints (xs : List Nat) : (xs.map fun n : Nat => V.int (n : Int)) = (xs.map fun n : Nat => (n : Int)).map V.int := by rw [List.map_map]; rfl
theorem outs_filter (xs : List Nat) (f : Nat → Bool) : outs (fun i : Nat => (xs[i]?).bind fun n => if f n then some n else none) xs.length = xs.filter f := by
  rw [outs_list]
  induction xs with
  | nil => rfl
  | cons x xs ih =>
    rw [List.filterMap_cons, List.filter_cons]
    cases f x <;> simp [ih]
theorem flat_ints (xs : List Nat) : (xs.map fun n : Nat => V.int (n : Int)).all flatV = true := by
  rw [List.all_eq_true]
  intro v hv
  obtain ⟨n, _, rfl⟩ := List.mem_map.mp hv
  rfl
theorem inV_nat {z : Nat} {xs : List Nat} : inV (.int (z : Int)) (xs.map fun n : Nat => V.int (n : Int)) = decide (z ∈ xs) := by
  unfold inV
  rw [List.any_map]
  induction xs with
  | nil => rfl
  | cons x xs ih =>
    rw [List.any_cons, ih]
    show (((x : Int) == (z : Int)) || decide (z ∈ xs)) = decide (z ∈ x :: xs)
    by_cases h : z = x
    · subst h; simp
    · have e : ((x : Int) == (z : Int)) = false := beq_eq_false_iff_ne.mpr (by omega)
      rw [e]
      simp [h]
/-- an event as data -/
def evD : Ev → PyData
  | .ans j i g => .tuple [.str "answer", .str j, .str i, .int g]
  | .rst j => .tuple [.str "reset", .str j]
theorem letters_small : ∀ c ∈ letters.cps.toList, c < 0x110000 := by decide +kernel
theorem NameOk.str {z : Str} (h : NameOk z) : PyData.strOk z = true := by
  unfold PyData.strOk
  rw [← Array.all_toList, List.all_eq_true]
  exact fun c hc => decide_eq_true (letters_small c (h.sig c hc))
/-- its names are names -/
def EvNames : Ev → Prop
  | .ans j i _ => NameOk j ∧ NameOk i
  | .rst j => NameOk j
theorem LogOk.evNames {L : LogD} (h : LogOk L) {e : Ev} (he : e ∈ L.events) : EvNames e := by
  have := h.evs e he
  cases e with
  | ans j i g => exact ⟨h.judges.ok _ this.1, h.items.ok _ this.2.1⟩
  | rst j => exact h.judges.ok _ this
theorem evD_shaped {e : Ev} (h : EvNames e) : SeqAt.shaped (evD e) = true := by
  have w1 : PyData.strOk "answer" = true := by decide +kernel
  have w2 : PyData.strOk "reset" = true := by decide +kernel
  cases e with
  | ans j i g => simp [evD, SeqAt.shaped, PyData.canLay0, PyData.canLayAll0, PyData.depth, PyData.depthAll, w1, h.1.str, h.2.str]
  | rst j => simp [evD, SeqAt.shaped, PyData.canLay0, PyData.canLayAll0, PyData.depth, PyData.depthAll, w2, NameOk.str h]
theorem evD_dp {K : Frg} {H : Hp} {v : V} {e : Ev} (h : rEv H v e) : Dp K H v (evD e) := by
  cases e with
  | ans j i g =>
    obtain ⟨a, rfl, ha⟩ := h
    exact .tup (SqT.of ha) (.cons (.str _) (.cons (.str _) (.cons (.str _) (.cons (.int _) .nil))))
  | rst j =>
    obtain ⟨a, rfl, ha⟩ := h
    exact .tup (SqT.of ha) (.cons (.str _) (.cons (.str _) .nil))
theorem str_ar : (("answer" : Str) == "reset") = false := by decide +kernel
theorem evD_eqv (e f : Ev) : PyData.eqv (evD e) (evD f) = decide (e = f) := by
  cases e with
  | ans j i g =>
    cases f with
    | ans j' i' g' =>
      have e1 : PyData.eqv (evD (.ans j i g)) (evD (.ans j' i' g')) = ((("answer" : Str) == "answer") && ((j == j') && ((i == i') && (((g : Int) == (g' : Int)) && true)))) := by simp only [evD, PyData.eqv, PyData.eqvAll]
      rw [e1, beq_self_eq_true]
      by_cases h1 : j = j' <;> by_cases h2 : i = i' <;> by_cases h3 : g = g' <;> simp [h1, h2, h3]
      all_goals exact fun z => absurd (Int.ofNat.inj z) h3
    | rst j' => simp [evD, PyData.eqv, PyData.eqvAll, str_ar]
  | rst j =>
    cases f with
    | ans j' i' g' => simp [evD, PyData.eqv, PyData.eqvAll]
    | rst j' =>
      have e1 : PyData.eqv (evD (.rst j)) (evD (.rst j')) = ((("reset" : Str) == "reset") && ((j == j') && true)) := by simp only [evD, PyData.eqv, PyData.eqvAll]
      rw [e1, beq_self_eq_true]
      by_cases h1 : j = j' <;> simp [h1]
/-! ### stretches -/
/-- the places of the resets of a judge -/
def rstP (es : List Ev) (j : Str) : List Nat := outs (fun i : Nat => (es[i]?).bind fun e => if e = .rst j then some i else none) es.length
theorem mem_rstP {es : List Ev} {i : Nat} {j : Str} : i ∈ rstP es j ↔ es[i]? = some (.rst j) := by
  unfold rstP outs
  rw [List.mem_filterMap]
  constructor
  · rintro ⟨k, _, h⟩
    cases e : es[k]? with
    | none => rw [e] at h; cases h
    | some v =>
      rw [e] at h
      by_cases hv : v = .rst j
      · have hk : k = i := by simpa [hv] using h
        rw [← hk, e, hv]
      · simp [hv] at h
  · intro e
    exact ⟨i, List.mem_range.mpr (List.getElem?_eq_some_iff.mp e).1, by rw [e]; simp⟩
/-- two places between which no reset of the judge stands -/
def SameStr (es : List Ev) (j : Str) (p q : Nat) : Prop := ∀ r, es[r]? = some (.rst j) → (r < p ↔ r < q)
theorem SameStr.refl {es : List Ev} {j : Str} {p : Nat} : SameStr es j p p := fun _ _ => Iff.rfl
theorem SameStr.symm {es : List Ev} {j : Str} {p q : Nat} (h : SameStr es j p q) : SameStr es j q p := fun r e => (h r e).symm
theorem SameStr.trans {es : List Ev} {j : Str} {p q s : Nat} (h : SameStr es j p q) (h' : SameStr es j q s) : SameStr es j p s := fun r e => (h r e).trans (h' r e)
/-- the ends of a stretch around p -/
structure SpanOk (es : List Ev) (j : Str) (p lo hi : Nat) : Prop where
  l1 : ∀ r, es[r]? = some (.rst j) → r < p → r + 1 ≤ lo
  l2 : lo = 0 ∨ ∃ r, es[r]? = some (.rst j) ∧ r < p ∧ lo = r + 1
  h1 : ∀ r, es[r]? = some (.rst j) → p ≤ r → hi ≤ r
  h2 : hi = es.length ∨ ∃ r, es[r]? = some (.rst j) ∧ p ≤ r ∧ hi = r
theorem SpanOk.iff {es : List Ev} {j : Str} {p lo hi at_ : Nat} (h : SpanOk es j p lo hi) (lt : at_ < es.length) (no : es[at_]? ≠ some (.rst j)) : (lo ≤ at_ ∧ at_ < hi) ↔ SameStr es j p at_ := by
  constructor
  · rintro ⟨a, b⟩ r e
    constructor
    · intro c
      have := h.l1 r e c
      omega
    · intro c
      by_cases d : r < p
      · exact d
      · have := h.h1 r e (by omega)
        omega
  · intro s
    constructor
    · rcases h.l2 with z | ⟨r, e, c, z⟩
      · omega
      · have := (s r e).mp c
        omega
    · rcases h.h2 with z | ⟨r, e, c, z⟩
      · omega
      · have h1 : ¬ r < at_ := fun q => by have := (s r e).mpr q; omega
        have h2 : r ≠ at_ := fun q => no (q ▸ e)
        omega
/-- a list that H did not know -/
def newL {α : Type} (r : Rp α) (H H' : Hp) (v : V) (xs : List α) : Prop := ∃ a vs, v = .ref a ∧ H a = none ∧ H' a = some (.lst vs) ∧ Paired (r H') vs xs
theorem newL.rep {α : Type} {r : Rp α} {H H' : Hp} {v : V} {xs : List α} (h : newL r H H' v xs) : rLst r H' v xs := by
  obtain ⟨a, vs, h1, _, h2, h3⟩ := h
  exact ⟨a, vs, h1, h2, h3⟩
theorem MadeL.new {α : Type} {r : Rp α} [Mono r] {H H0 H' : Hp} {D : Addr} {xs : List α} (m : MadeL r H0 D xs H') (e : Same H H0) (hD : H0 D = none) : newL r H H' (.ref D) xs := by
  obtain ⟨_, vs, h1, h2⟩ := m
  exact ⟨D, vs, rfl, e.free hD, h1, pMono del_le h2⟩
section
variable {P : Program} {w : World} {K : Frg} {mg : Str → Option Value} {base : Heap}
def spAnswersOf (K : Frg) : Sp := fun vs H Q _ => ∃ (p : Addr) (L : LogD) (j d : Str), vs = [.ref p, .str j] ∧ LogAt K H p L ∧ LogOk L ∧ (j, d) ∈ L.judges ∧ ∀ v H', Same H H' → newL rNat H H' v (ansJ L.events j) → Q v H'
theorem ok_answers_of (T : TX K mg) : OkF P w K mg base 3 (mA K "Log" "answers_of") ["self", "judge"] (spAnswersOf K) := by
  refine okD T.M.d_Log_answers_of sc_Log_answers_of (fun vs H Q E h => ?_) (fun _ _ _ _ _ _ us hl => match us, hl with | [_, _], _ => rfl) (fun cdv A outer s H vs Q E hr h => ?_)
  · obtain ⟨p, L, j, d, rfl, _⟩ := h
    rfl
  · obtain ⟨p, L, j, d, rfl, h, ok, hjd, q⟩ := h
    have hL := h
    obtain ⟨dx, pi, pj, pe, vj, ve, hp, hi, hj, rj, he, re⟩ := h.ex
    have GD := (ok_drift_of (P := P) (w := w) (base := base) T).mono (k := 2) (by decide)
    have GA := ok_answers (P := P) (w := w) (base := base) T
    have nd := sc_Log_answers_of.nd
    refine ⟨_, pss_cons (ps_expr (pmeth GD T.T.cl_Log T.M.m_Log_drift_of hr (pv 0) (pa_cons (pv 1) pa_nil)))
      (pss_one (ps_ret (pe_lc (own := [("place", 2)]) (g := gName 2) rfl nd (piL K (pmeth0 GA T.T.cl_Log T.M.m_Log_answers hr (pv 0)))
        (blkOk_by (N := N_Log_answers_of) (sc := defScope s_Log_answers_of) (by decide +kernel)) (fun _ _ _ _ _ => pg_name (i := 2) nd rfl (Or.inl rfl))
        (fun _ _ _ _ _ => pts_one (pt_cmpR op_eq (pe_ix (ixT K) (pe_ix (ixL K) (peF K (pv 0)) (pv 2) (fun _ _ => rfl)) pe_int (fun _ _ => rfl)) (pv 1) (nomark _))) (fun _ _ _ _ _ => pv 2)))), ?_⟩
    refine ⟨_, rfl, p, dx, _, rfl, hp, lf_no (by decide +kernel), _, rfl, p, L, j, d, rfl, hL, ok, hjd, ?_⟩
    refine ⟨_, rfl, p, dx, _, rfl, hp, lf_no (by decide +kernel), p, L, rfl, hL, ok, fun v H1 e1 hv => ?_⟩
    obtain ⟨a, vs, rfl, ha, pa⟩ := hv
    have ea := pNat.mp pa
    have hlen : vs.length = (ansP L.events).length := pLen pa
    refine ⟨a, rfl, ⟨_, SqL.of ha⟩, fun D hD => lcP walk_list rNat hD (by rw [hlen]; exact Nat.lt_of_le_of_lt (Nat.le_trans (outs_len _ _) ok.few) (by decide)) (fun i : Nat => ((ansP L.events)[i]?).bind fun n => if decide ((L.events[n]?).map evJ = some j) then some n else none)
      (fun _ e => SqL.of (e _ _ ha)) ?_ ?_⟩
    · rintro i x H2 H3 KT KF hi e _ ⟨rfl, hx⟩ kt kf
      obtain ⟨n, hn, rfl⟩ := pGet pa hx
      obtain ⟨j', x, g, ee⟩ := mem_ansP.mp (List.mem_of_getElem? hn)
      obtain ⟨v, hv, b, rfl, hb⟩ := pGet' re ee
      have s1 := e1.trans e
      refine ⟨rfl, _, rfl, p, _, dx, _, _, rfl, s1 _ _ hp, T.T.cl_Log, T.T.n_Log_events, lf_events, _, rfl, pe, _, _, _, rfl, rfl, SqL.of (s1 _ _ he), atI_nat hv, b, _, _, _, rfl, rfl, SqT.of (s1 _ _ hb), rfl, _, rfl, rfl, _, rfl, ite2 (fun hc => ?_) (fun hc => ?_)⟩
      · have e2 : j' = j := V.str.inj (of_decide_eq_true hc)
        exact ⟨_, rfl, kt _ _ n (by rw [hn, Option.bind_some, ee]; exact if_pos (decide_eq_true (congrArg some e2))) (Same.refl _) rfl⟩
      · refine kf _ ?_ (Same.refl _)
        rw [hn, Option.bind_some, ee]
        refine if_neg fun z => ?_
        exact hc (decide_eq_true (congrArg V.str (Option.some.inj (of_decide_eq_true z))))
    · intro H2 m
      rw [hlen, outs_filter] at m
      exact q _ _ (e1.trans m.same) (m.new e1 hD)
def spAnswerAt (K : Frg) : Sp := fun vs H Q _ => ∃ (p : Addr) (L : LogD) (n : Nat) (j i : Str) (g : Nat), vs = [.ref p, .int n] ∧ LogAt K H p L ∧ L.events[n]? = some (.ans j i g) ∧ ∀ a, H a = some (.tup [.str "answer", .str j, .str i, .int g]) → Q (.ref a) H
theorem ok_answer_at (T : TX K mg) : OkF P w K mg base 2 (mA K "Log" "answer_at") ["self", "place"] (spAnswerAt K) := by
  refine okD T.M.d_Log_answer_at sc_Log_answer_at (fun vs H Q E h => ?_) (fun _ _ _ _ _ _ us hl => match us, hl with | [_, _], _ => rfl) (fun cdv A outer s H vs Q E hr h => ?_)
  · obtain ⟨p, L, n, j, i, g, rfl, _⟩ := h
    rfl
  · obtain ⟨p, L, n, j, i, g, rfl, h, hn, q⟩ := h
    have hL := h
    obtain ⟨dx, pi, pj, pe, vj, ve, hp, hi, hj, rj, he, re⟩ := h.ex
    have G := ok_is_answer (P := P) (w := w) (base := base) T
    refine ⟨_, pss_cons (ps_if (pt_not (pt_val (pmeth G T.T.cl_Log T.M.m_Log_is_answer hr (pv 0) (pa_cons (pv 1) pa_nil)))) pss_never pss_nil)
      (pss_one (ps_ret (pe_ix (ixL K) (peF K (pv 0)) (pv 1) (fun _ _ => rfl)))), ?_⟩
    obtain ⟨v, hv, b, rfl, hb⟩ := pGet' re hn
    refine ⟨_, rfl, p, dx, _, rfl, hp, lf_no (by decide +kernel), _, rfl, p, L, n, rfl, hL, true, congrArg V.bl (ansAt_iff.mpr ⟨j, i, g, hn⟩), iteF ?_⟩
    exact ⟨_, rfl, p, _, dx, _, _, rfl, hp, T.T.cl_Log, T.T.n_Log_events, lf_events, _, rfl, pe, _, _, _, rfl, rfl, SqL.of he, atI_nat hv, q b hb⟩
/-- a part of an answer -/
def spPart (K : Frg) (f : Str → Str → Nat → V) : Sp := fun vs H Q _ => ∃ (p : Addr) (L : LogD) (n : Nat) (j i : Str) (g : Nat), vs = [.ref p, .int n] ∧ LogAt K H p L ∧ L.events[n]? = some (.ans j i g) ∧ Q (f j i g) H
theorem ok_judge_at (T : TX K mg) : OkF P w K mg base 3 (mA K "Log" "judge_at") ["self", "place"] (spPart K fun j _ _ => .str j) := by
  refine okD T.M.d_Log_judge_at sc_Log_judge_at (fun vs H Q E h => ?_) (fun _ _ _ _ _ _ us hl => match us, hl with | [_, _], _ => rfl) (fun cdv A outer s H vs Q E hr h => ?_)
  · obtain ⟨p, L, n, j, i, g, rfl, _⟩ := h
    rfl
  · obtain ⟨p, L, n, j, i, g, rfl, h, hn, q⟩ := h
    obtain ⟨dx, pi, pj, pe, vj, ve, hp, _⟩ := h.ex
    have G := ok_answer_at (P := P) (w := w) (base := base) T
    refine ⟨_, pss_one (ps_ret (pe_ix (ixT K) (pmeth G T.T.cl_Log T.M.m_Log_answer_at hr (pv 0) (pa_cons (pv 1) pa_nil)) pe_int (fun _ _ => rfl))), ?_⟩
    exact ⟨_, rfl, p, dx, _, rfl, hp, lf_no (by decide +kernel), _, rfl, p, L, n, j, i, g, rfl, h, hn, fun a ha => ⟨a, _, _, _, rfl, rfl, SqT.of ha, rfl, q⟩⟩
theorem ok_item_at (T : TX K mg) : OkF P w K mg base 3 (mA K "Log" "item_at") ["self", "place"] (spPart K fun _ i _ => .str i) := by
  refine okD T.M.d_Log_item_at sc_Log_item_at (fun vs H Q E h => ?_) (fun _ _ _ _ _ _ us hl => match us, hl with | [_, _], _ => rfl) (fun cdv A outer s H vs Q E hr h => ?_)
  · obtain ⟨p, L, n, j, i, g, rfl, _⟩ := h
    rfl
  · obtain ⟨p, L, n, j, i, g, rfl, h, hn, q⟩ := h
    obtain ⟨dx, pi, pj, pe, vj, ve, hp, _⟩ := h.ex
    have G := ok_answer_at (P := P) (w := w) (base := base) T
    refine ⟨_, pss_one (ps_ret (pe_ix (ixT K) (pmeth G T.T.cl_Log T.M.m_Log_answer_at hr (pv 0) (pa_cons (pv 1) pa_nil)) pe_int (fun _ _ => rfl))), ?_⟩
    exact ⟨_, rfl, p, dx, _, rfl, hp, lf_no (by decide +kernel), _, rfl, p, L, n, j, i, g, rfl, h, hn, fun a ha => ⟨a, _, _, _, rfl, rfl, SqT.of ha, rfl, q⟩⟩
theorem ok_grade_at (T : TX K mg) : OkF P w K mg base 3 (mA K "Log" "grade_at") ["self", "place"] (spPart K fun _ _ g => .int g) := by
  refine okD T.M.d_Log_grade_at sc_Log_grade_at (fun vs H Q E h => ?_) (fun _ _ _ _ _ _ us hl => match us, hl with | [_, _], _ => rfl) (fun cdv A outer s H vs Q E hr h => ?_)
  · obtain ⟨p, L, n, j, i, g, rfl, _⟩ := h
    rfl
  · obtain ⟨p, L, n, j, i, g, rfl, h, hn, q⟩ := h
    obtain ⟨dx, pi, pj, pe, vj, ve, hp, _⟩ := h.ex
    have G := ok_answer_at (P := P) (w := w) (base := base) T
    refine ⟨_, pss_one (ps_ret (pe_ix (ixT K) (pmeth G T.T.cl_Log T.M.m_Log_answer_at hr (pv 0) (pa_cons (pv 1) pa_nil)) pe_int (fun _ _ => rfl))), ?_⟩
    exact ⟨_, rfl, p, dx, _, rfl, hp, lf_no (by decide +kernel), _, rfl, p, L, n, j, i, g, rfl, h, hn, fun a ha => ⟨a, _, _, _, rfl, rfl, SqT.of ha, rfl, q⟩⟩
end
end Rb
namespace Rb
open PySem PySem.Spec PyProof.Rows L2
/-- max, min of natural numbers, a default beside -/
def rMaxN (K : Frg) : List V → List V → Hp → VK → Prop := fun vs zs H Q => ∃ (a : Addr) (ns : List Nat) (d : Nat), vs = [.ref a] ∧ zs = [.int (d : Int)] ∧ SqL K H a (ns.map fun n : Nat => V.int (n : Int)) ∧
  ∀ m : Nat, (ns = [] ∧ m = d) ∨ (m ∈ ns ∧ ∀ y ∈ ns, y ≤ m) → Q (.int (m : Int)) H
def rMinN (K : Frg) : List V → List V → Hp → VK → Prop := fun vs zs H Q => ∃ (a : Addr) (ns : List Nat) (d : Nat), vs = [.ref a] ∧ zs = [.int (d : Int)] ∧ SqL K H a (ns.map fun n : Nat => V.int (n : Int)) ∧
  ∀ m : Nat, (ns = [] ∧ m = d) ∨ (m ∈ ns ∧ ∀ y ∈ ns, m ≤ y) → Q (.int (m : Int)) H
section
variable {X : Cx} (K : Frg)
theorem maxN (hu : X.A.units + 64 < cLine) (hc : X.calm = true := by rfl) (h : X.K = K := by rfl) : CallRK X (.builtin "max") [Str.ofString "default"] (rMaxN K) := by
  intro pins s σ H vs zs us ws Q I rv rz z
  obtain ⟨a, ns, d, e1, e2, hs, q⟩ := z
  refine maxD K hu hc h pins s σ H vs zs us ws Q I rv rz ⟨a, ns.map fun n : Nat => (n : Int), _, e1, e2, by rw [← nats_ints]; exact hs, fun e => ?_, fun m hm hy => ?_⟩
  · exact q d (.inl ⟨List.map_eq_nil_iff.mp e, rfl⟩)
  · obtain ⟨k, hk, rfl⟩ := List.mem_map.mp hm
    exact q k (.inr ⟨hk, fun y h => by have := hy _ (List.mem_map_of_mem h); omega⟩)
theorem minN (hu : X.A.units + 64 < cLine) (hc : X.calm = true := by rfl) (h : X.K = K := by rfl) : CallRK X (.builtin "min") [Str.ofString "default"] (rMinN K) := by
  intro pins s σ H vs zs us ws Q I rv rz z
  obtain ⟨a, ns, d, e1, e2, hs, q⟩ := z
  refine minD K hu hc h pins s σ H vs zs us ws Q I rv rz ⟨a, ns.map fun n : Nat => (n : Int), _, e1, e2, by rw [← nats_ints]; exact hs, fun e => ?_, fun m hm hy => ?_⟩
  · exact q d (.inl ⟨List.map_eq_nil_iff.mp e, rfl⟩)
  · obtain ⟨k, hk, rfl⟩ := List.mem_map.mp hm
    exact q k (.inr ⟨hk, fun y h => by have := hy _ (List.mem_map_of_mem h); omega⟩)
end
section
variable {P : Program} {w : World} {K : Frg} {mg : Str → Option Value} {base : Heap}
def spSpanAt (K : Frg) : Sp := fun vs H Q _ => ∃ (p : Addr) (L : LogD) (j d : Str) (n : Nat), vs = [.ref p, .str j, .int n] ∧ LogAt K H p L ∧ LogOk L ∧ (j, d) ∈ L.judges ∧
  ∀ a lo hi H', Same H H' → SpanOk L.events j n lo hi → H' a = some (.tup [.int ((lo : Nat) : Int), .int ((hi : Nat) : Int)]) → Q (.ref a) H'
theorem ok_span_at (T : TX K mg) : OkF P w K mg base 1 (mA K "Log" "span_at") ["self", "judge", "place"] (spSpanAt K) := by
  refine okD T.M.d_Log_span_at sc_Log_span_at (fun vs H Q E h => ?_) (fun _ _ _ _ _ _ us hl => match us, hl with | [_, _, _], _ => rfl) (fun cdv A outer s H vs Q E hr h => ?_)
  · obtain ⟨p, L, j, d, n, rfl, _⟩ := h
    rfl
  · obtain ⟨p, L, j, d, n, rfl, h, ok, hjd, q⟩ := h
    have hL := h
    obtain ⟨dx, pi, pj, pe, vj, ve, hp, hi, hj, rj, he, re⟩ := h.ex
    obtain ⟨t1, g1⟩ := T.C.c_RESET
    have nd := sc_Log_span_at.nd
    have hu := hr.units
    refine ⟨_, pss_cons (ps_setLc (i := 3) (own := [("at", 4), ("event", 5)]) rfl nd rfl rfl (sw_true rfl rfl rfl (by decide +kernel)) (enumK K rfl T.B.b_enumerate (pa_cons (peF K (pv 0)) pa_nil))
        (blkOk_by (N := N_Log_span_at) (sc := defScope s_Log_span_at) (by decide +kernel)) (fun _ _ _ _ _ => pgT K (n := 2) (pgs_cons (pg_name (i := 4) nd rfl (Or.inl rfl)) (pgs_cons (pg_name (i := 5) nd rfl (Or.inl rfl)) pgs_nil)))
        (fun _ _ _ _ _ => pts_one (pt_cmpR (eqK K hu) (pv 5) (pe_tup (pa_cons (pe_glob (v := .str "reset") rfl g1 ⟨_, rfl⟩) (pa_cons (pv 1) pa_nil))) (nomark _))) (fun _ _ _ _ _ => pv 4))
      (pss_cons (ps_set (i := 6) nd rfl (Or.inl rfl) (pe_callBK (maxN K hu) rfl T.B.b_max boot_max (pa_cons
          (pe_lc (own := [("at", 4)]) (g := gName 4) rfl nd (piL K (pv 3)) (blkOk_by (N := N_Log_span_at) (sc := defScope s_Log_span_at) (by decide +kernel)) (fun _ _ _ _ _ => pg_name (i := 4) nd rfl (Or.inl rfl))
            (fun _ _ _ _ _ => pts_one (pt_cmpR op_lt (pv 4) (pv 2) (nomark _))) (fun _ _ _ _ _ => pe_op op_add (pv 4) pe_int)) pa_nil) (pk_cons pe_int pk_nil)))
      (pss_one (ps_ret (pe_tup (pa_cons (pv 6) (pa_cons (pe_callBK (minN K hu) rfl T.B.b_min boot_min (pa_cons
          (pe_lc (own := [("at", 4)]) (g := gName 4) rfl nd (piL K (pv 3)) (blkOk_by (N := N_Log_span_at) (sc := defScope s_Log_span_at) (by decide +kernel)) (fun _ _ _ _ _ => pg_name (i := 4) nd rfl (Or.inl rfl))
            (fun _ _ _ _ _ => pts_one (pt_cmpR op_ge (pv 4) (pv 2) (nomark _))) (fun _ _ _ _ _ => pv 4)) pa_nil) (pk_cons (pe_callB (lenK K) rfl T.B.b_len boot_len (pa_cons (peF K (pv 0)) pa_nil)) pk_nil)) pa_nil)))))), ?_⟩
    have le := pLen re
    have few := ok.few
    -- resets
    refine ⟨_, rfl, p, _, dx, _, _, rfl, hp, T.T.cl_Log, T.T.n_Log_events, lf_events, pe, ve, rfl, SqL.of he, fun D hD => lcP (walk_enum (K := K) (xs := ve)) rNat hD (by rw [le]; exact Nat.lt_of_le_of_lt few (by decide))
      (fun i : Nat => (L.events[i]?).bind fun e => if e = .rst j then some i else none) (fun _ e => SqL.of (e _ _ he)) ?_ ?_⟩
    · rintro i x H1 H2 KT KF hi2 e _ ⟨t, a, b, rfl, ht, rfl, ha, hb⟩ kt kf
      have ea : a = .int (i : Int) := (Option.some.inj ha).symm
      subst ea
      obtain ⟨ev, hev, rev⟩ := pGet re hb
      have e2 : Same H1 (upd H1 t (.tup [.int (i : Int), b])) := sNew ht
      refine ⟨t, _, rfl, SqT.of upd_same, rfl, _, _, rfl, _, _, rfl, rfl, rfl, ?_⟩
      refine ⟨_, rfl, _, rfl, (by show 2 ≤ sizeLine; decide), fun t2 ht2 => ?_⟩
      have e3 := sNew (o := .tup [.str "reset", .str j]) ht2
      refine ⟨evD ev, evD (.rst j), evD_dp (Mono.mono ((e.trans e2).trans e3) rev), evD_dp (e := .rst j) ⟨t2, rfl, upd_same⟩, evD_shaped (ok.evNames (List.mem_of_getElem? hev)), evD_shaped (e := .rst j) (ok.judges.ok _ (List.mem_map_of_mem hjd)), ?_⟩
      rw [evD_eqv]
      refine ⟨_, rfl, ite2 (fun hc => ?_) (fun hc => ?_)⟩
      · exact ⟨_, rfl, kt _ _ i (by rw [hev]; exact if_pos (of_decide_eq_true hc)) (e2.trans e3) rfl⟩
      · exact kf _ (by rw [hev]; exact if_neg fun z => hc (decide_eq_true z)) (e2.trans e3)
    intro H1 m1
    replace m1 : MadeL rNat H D (rstP L.events j) H1 := by rw [le] at m1; exact m1
    have hR := m1.nats
    have s1 := m1.same
    have lR : (rstP L.events j).length < sizeLine := Nat.lt_of_le_of_lt (Nat.le_trans (outs_len _ _) few) (by decide)
    -- first
    refine ⟨_, rfl, D, rfl, ⟨_, SqL.of hR⟩, fun D2 hD2 => lcP walk_list rNat hD2 (by rw [List.length_map]; exact lR) (fun i : Nat => ((rstP L.events j)[i]?).bind fun r => if r < n then some (r + 1) else none) (fun _ e => SqL.of (e _ _ hR)) ?_ ?_⟩
    · rintro i x H2 H3 KT KF hi2 e _ ⟨rfl, hx⟩ kt kf
      rw [List.getElem?_map] at hx
      obtain ⟨r, hr', rfl⟩ := Option.map_eq_some_iff.mp hx
      refine ⟨rfl, _, rfl, _, rfl, _, _, rfl, rfl, _, rfl, ite2 (fun hc => ?_) (fun hc => ?_)⟩
      · have lt : r < n := by have := of_decide_eq_true hc; omega
        exact ⟨_, rfl, _, _, rfl, rfl, kt _ _ (r + 1) (by rw [hr']; exact if_pos lt) (Same.refl _) rfl⟩
      · exact kf _ (by rw [hr']; exact if_neg fun z => hc (decide_eq_true (by omega))) (Same.refl _)
    intro H2 m2
    rw [List.length_map, outs_list] at m2
    have s2 := s1.trans m2.same
    have hR2 := m2.same _ _ hR
    refine ⟨D2, _, 0, rfl, rfl, SqL.of m2.nats, fun lo hlo => ?_⟩
    refine ⟨_, rfl, _, rfl, D, rfl, ⟨_, SqL.of hR2⟩, fun D3 hD3 => lcP walk_list rNat hD3 (by rw [List.length_map]; exact lR) (fun i : Nat => ((rstP L.events j)[i]?).bind fun r => if n ≤ r then some r else none) (fun _ e => SqL.of (e _ _ hR2)) ?_ ?_⟩
    · rintro i x H3 H4 KT KF hi2 e _ ⟨rfl, hx⟩ kt kf
      rw [List.getElem?_map] at hx
      obtain ⟨r, hr', rfl⟩ := Option.map_eq_some_iff.mp hx
      refine ⟨rfl, _, rfl, _, rfl, _, _, rfl, rfl, _, rfl, ite2 (fun hc => ?_) (fun hc => ?_)⟩
      · have lt : n ≤ r := by have := of_decide_eq_true hc; omega
        exact ⟨_, rfl, kt _ _ r (by rw [hr']; exact if_pos lt) (Same.refl _) rfl⟩
      · exact kf _ (by rw [hr']; exact if_neg fun z => hc (decide_eq_true (by omega))) (Same.refl _)
    intro H3 m3
    rw [List.length_map, outs_list] at m3
    have s3 := s2.trans m3.same
    refine ⟨_, rfl, p, _, dx, _, _, rfl, s3 _ _ hp, T.T.cl_Log, T.T.n_Log_events, lf_events, pe, ve, rfl, .inl (SqL.of (s3 _ _ he)), D3, _, ve.length, rfl, rfl, SqL.of m3.nats, fun hi hhi => ?_⟩
    refine ⟨by show 2 ≤ sizeLine; decide, fun t ht => q t lo hi _ (s3.trans (sNew ht)) ?_ upd_same⟩
    refine ⟨fun r e c => ?_, ?_, fun r e c => ?_, ?_⟩
    · have hm : r + 1 ∈ (rstP L.events j).filterMap fun r => if r < n then some (r + 1) else none := List.mem_filterMap.mpr ⟨r, mem_rstP.mpr e, if_pos c⟩
      rcases hlo with ⟨z, _⟩ | ⟨_, z⟩
      · rw [z] at hm; cases hm
      · exact z _ hm
    · rcases hlo with ⟨_, z⟩ | ⟨z, _⟩
      · exact .inl z
      · obtain ⟨r, h1, h2⟩ := List.mem_filterMap.mp z
        by_cases c : r < n
        · rw [if_pos c] at h2
          exact .inr ⟨r, mem_rstP.mp h1, c, (Option.some.inj h2).symm⟩
        · rw [if_neg c] at h2; cases h2
    · have hm : r ∈ (rstP L.events j).filterMap fun r => if n ≤ r then some r else none := List.mem_filterMap.mpr ⟨r, mem_rstP.mpr e, if_pos c⟩
      rcases hhi with ⟨z, _⟩ | ⟨_, z⟩
      · rw [z] at hm; cases hm
      · exact z _ hm
    · rcases hhi with ⟨_, z⟩ | ⟨z, _⟩
      · exact .inl (z.trans le)
      · obtain ⟨r, h1, h2⟩ := List.mem_filterMap.mp z
        by_cases c : n ≤ r
        · rw [if_pos c] at h2
          exact .inr ⟨r, mem_rstP.mp h1, c, (Option.some.inj h2).symm⟩
        · rw [if_neg c] at h2; cases h2
end
end Rb
namespace Rb
open PySem PySem.Spec PyProof.Rows L2
/-- the answers of a judge in the stretch around p -/
def IsStr (es : List Ev) (j : Str) (p : Nat) (S : List Nat) : Prop := S.length ≤ 120 ∧ ∀ q, q ∈ S ↔ (q ∈ ansJ es j ∧ SameStr es j p q)
theorem ansJ_len {es : List Ev} {j : Str} : (ansJ es j).length ≤ es.length := Nat.le_trans (List.length_filter_le _ _) (outs_len _ _)
/-- two lists are read: the last item -/
theorem last_at {α : Type} {xs : List α} (h : xs ≠ []) : ∃ v, atI xs (-1) = some v ∧ v ∈ xs := by
  refine ⟨xs.getLast h, ?_, List.getLast_mem h⟩
  have := atI_last xs.dropLast (xs.getLast h)
  rwa [List.dropLast_concat_getLast h] at this
section
variable {P : Program} {w : World} {K : Frg} {mg : Str → Option Value} {base : Heap}
def spStretchAt (K : Frg) : Sp := fun vs H Q _ => ∃ (p : Addr) (L : LogD) (j d : Str) (n : Nat), vs = [.ref p, .str j, .int n] ∧ LogAt K H p L ∧ LogOk L ∧ (j, d) ∈ L.judges ∧ n ≤ L.events.length ∧
  ∀ v S H', Same H H' → IsStr L.events j n S → newL rNat H H' v S → Q v H'
theorem ok_stretch_at (T : TX K mg) : OkF P w K mg base 4 (mA K "Log" "stretch_at") ["self", "judge", "place"] (spStretchAt K) := by
  refine okD T.M.d_Log_stretch_at sc_Log_stretch_at (fun vs H Q E h => ?_) (fun _ _ _ _ _ _ us hl => match us, hl with | [_, _, _], _ => rfl) (fun cdv A outer s H vs Q E hr h => ?_)
  · obtain ⟨p, L, j, d, n, rfl, _⟩ := h
    rfl
  · obtain ⟨p, L, j, d, n, rfl, h, ok, hjd, hn, q⟩ := h
    have hL := h
    obtain ⟨dx, pi, pj, pe, vj, ve, hp, hi, hj, rj, he, re⟩ := h.ex
    have nd := sc_Log_stretch_at.nd
    have GA := ok_answers_of (P := P) (w := w) (base := base) T
    have GS := (ok_span_at (P := P) (w := w) (base := base) T).mono (k := 3) (by decide)
    refine ⟨_, pss_cons (ps_set (i := 3) nd rfl (Or.inl rfl) (pmeth GA T.T.cl_Log T.M.m_Log_answers_of hr (pv 0) (pa_cons (pv 1) pa_nil)))
      (pss_cons (ps_if (pt_not (pt_chain op_le op_le pe_int (pv 2) (pe_callB (lenK K) rfl T.B.b_len boot_len (pa_cons (peF K (pv 0)) pa_nil)))) pss_never pss_nil)
      (pss_cons (ps_asg (pmeth GS T.T.cl_Log T.M.m_Log_span_at hr (pv 0) (pa_cons (pv 1) (pa_cons (pv 2) pa_nil))) (pgT K (n := 2) (pgs_cons (pg_name (i := 4) nd rfl (Or.inr rfl)) (pgs_cons (pg_name (i := 5) nd rfl (Or.inr rfl)) pgs_nil))))
      (pss_one (ps_ret (pe_lc (own := [("at", 6)]) (g := gName 6) rfl nd (piL K (pv 3)) (blkOk_by (N := N_Log_stretch_at) (sc := defScope s_Log_stretch_at) (by decide +kernel)) (fun _ _ _ _ _ => pg_name (i := 6) nd rfl (Or.inl rfl))
          (fun _ _ _ _ _ => pts_one (pt_chain op_le op_lt (pv 4) (pv 6) (pv 5))) (fun _ _ _ _ _ => pv 6)))))), ?_⟩
    refine ⟨_, rfl, p, dx, _, rfl, hp, lf_no (by decide +kernel), _, rfl, p, L, j, d, rfl, hL, ok, hjd, fun v H1 s1 hv => ?_⟩
    have le := pLen re
    refine ⟨_, rfl, _, _, rfl, rfl, true, congrArg V.bl (decide_eq_true (by omega)), iteT ?_⟩
    refine ⟨_, rfl, p, _, dx, _, _, rfl, s1 _ _ hp, T.T.cl_Log, T.T.n_Log_events, lf_events, pe, _, rfl, .inl (SqL.of (s1 _ _ he)), _, _, rfl, rfl, true, congrArg V.bl (decide_eq_true (by omega)), iteF ?_⟩
    refine ⟨_, rfl, p, dx, _, rfl, s1 _ _ hp, lf_no (by decide +kernel), _, rfl, _, rfl, p, L, j, d, n, rfl, hL.mono s1, ok, hjd, fun t lo hi H2 s2 sp ht => ?_⟩
    refine ⟨t, _, rfl, SqT.of ht, rfl, _, _, rfl, _, _, rfl, rfl, ?_⟩
    obtain ⟨a, vs, rfl, ha, pa⟩ := (Mono.mono s2 hv.rep : rLst rNat H2 v _)
    have hlen : vs.length = (ansJ L.events j).length := pLen pa
    refine ⟨_, rfl, a, rfl, ⟨_, SqL.of ha⟩, fun D hD => lcP walk_list rNat hD (by rw [hlen]; exact Nat.lt_of_le_of_lt (Nat.le_trans ansJ_len ok.few) (by decide))
      (fun i : Nat => ((ansJ L.events j)[i]?).bind fun k => if decide (lo ≤ k ∧ k < hi) then some k else none) (fun _ e => SqL.of (e _ _ ha)) ?_ ?_⟩
    · rintro i x H3 H4 KT KF hi2 e _ ⟨rfl, hx⟩ kt kf
      obtain ⟨k, hk, rfl⟩ := pGet pa hx
      refine ⟨rfl, _, rfl, _, rfl, _, _, rfl, rfl, _, rfl, ite2 (fun hc => ?_) (fun hc => ?_)⟩
      · have c1 : lo ≤ k := by have := of_decide_eq_true hc; omega
        refine ⟨_, rfl, _, _, rfl, rfl, _, rfl, ite2 (fun hc2 => ?_) (fun hc2 => ?_)⟩
        · have c2 : k < hi := by have := of_decide_eq_true hc2; omega
          exact ⟨_, rfl, kt _ _ k (by rw [hk]; exact if_pos (decide_eq_true ⟨c1, c2⟩)) (Same.refl _) rfl⟩
        · exact kf _ (by rw [hk]; exact if_neg fun z => hc2 (decide_eq_true (by have := (of_decide_eq_true z).2; omega))) (Same.refl _)
      · exact ⟨_, rfl, iteF (kf _ (by rw [hk]; exact if_neg fun z => hc (decide_eq_true (by have := (of_decide_eq_true z).1; omega))) (Same.refl _))⟩
    · intro H3 m
      rw [hlen, outs_filter] at m
      refine q _ _ _ ((s1.trans s2).trans m.same) ⟨Nat.le_trans (List.length_filter_le _ _) (Nat.le_trans ansJ_len ok.few), fun k => ?_⟩ (m.new (s1.trans s2) hD)
      rw [List.mem_filter]
      constructor
      · rintro ⟨h1, h2⟩
        obtain ⟨x, g, e⟩ := mem_ansJ.mp h1
        exact ⟨h1, (sp.iff (List.getElem?_eq_some_iff.mp e).1 (by rw [e]; exact fun z => nomatch z)).mp (of_decide_eq_true h2)⟩
      · rintro ⟨h1, h2⟩
        obtain ⟨x, g, e⟩ := mem_ansJ.mp h1
        exact ⟨h1, decide_eq_true ((sp.iff (List.getElem?_eq_some_iff.mp e).1 (by rw [e]; exact fun z => nomatch z)).mpr h2)⟩
def spStretchOf (K : Frg) : Sp := fun vs H Q _ => ∃ (p : Addr) (L : LogD) (j d i : Str) (g n : Nat), vs = [.ref p, .int n] ∧ LogAt K H p L ∧ LogOk L ∧ (j, d) ∈ L.judges ∧ L.events[n]? = some (.ans j i g) ∧
  ∀ v S H', Same H H' → IsStr L.events j n S → newL rNat H H' v S → Q v H'
theorem ok_stretch_of (T : TX K mg) : OkF P w K mg base 5 (mA K "Log" "stretch_of") ["self", "place"] (spStretchOf K) := by
  refine okD T.M.d_Log_stretch_of sc_Log_stretch_of (fun vs H Q E h => ?_) (fun _ _ _ _ _ _ us hl => match us, hl with | [_, _], _ => rfl) (fun cdv A outer s H vs Q E hr h => ?_)
  · obtain ⟨p, L, j, d, i, g, n, rfl, _⟩ := h
    rfl
  · obtain ⟨p, L, j, d, i, g, n, rfl, h, ok, hjd, hn, q⟩ := h
    have hL := h
    obtain ⟨dx, pi, pj, pe, vj, ve, hp, _⟩ := h.ex
    have G1 := ok_stretch_at (P := P) (w := w) (base := base) T
    have G2 := (ok_judge_at (P := P) (w := w) (base := base) T).mono (k := 4) (by decide)
    refine ⟨_, pss_one (ps_ret (pmeth G1 T.T.cl_Log T.M.m_Log_stretch_at hr (pv 0) (pa_cons (pmeth G2 T.T.cl_Log T.M.m_Log_judge_at hr (pv 0) (pa_cons (pv 1) pa_nil)) (pa_cons (pv 1) pa_nil)))), ?_⟩
    refine ⟨_, rfl, p, dx, _, rfl, hp, lf_no (by decide +kernel), _, rfl, p, dx, _, rfl, hp, lf_no (by decide +kernel), _, rfl, p, L, n, j, i, g, rfl, hL, hn, _, rfl, p, L, j, d, n, rfl, hL, ok, hjd, Nat.le_of_lt (List.getElem?_eq_some_iff.mp hn).1, q⟩
/-- the stretches of a judge: each is one, and each answer stands in one -/
structure IsStrs (es : List Ev) (j : Str) (Ss : List (List Nat)) : Prop where
  len : Ss.length ≤ 120
  each : ∀ S ∈ Ss, ∃ p ∈ ansJ es j, IsStr es j p S
  all : ∀ p ∈ ansJ es j, ∃ S ∈ Ss, p ∈ S
def StrsInv (p D : Addr) (j : Str) (es : List Ev) (HB : Hp) (i : Nat) (σ : L2.St) (H' : Hp) : Prop :=
  (∃ u, σ = [some (V.ref p), some (V.str j), some (V.ref D), u]) ∧ ∃ Ss, MadeL (rLst rNat) HB D Ss H' ∧ Ss.length ≤ i ∧ (∀ S ∈ Ss, ∃ p ∈ ansJ es j, IsStr es j p S) ∧ ∀ k n, k < i → (ansJ es j)[k]? = some n → ∃ S ∈ Ss, n ∈ S
def spStretches (K : Frg) : Sp := fun vs H Q _ => ∃ (p : Addr) (L : LogD) (j d : Str), vs = [.ref p, .str j] ∧ LogAt K H p L ∧ LogOk L ∧ (j, d) ∈ L.judges ∧
  ∀ v Ss H', Same H H' → IsStrs L.events j Ss → newL (rLst rNat) H H' v Ss → Q v H'
theorem ok_stretches (T : TX K mg) : OkF P w K mg base 6 (mA K "Log" "stretches") ["self", "judge"] (spStretches K) := by
  refine okD T.M.d_Log_stretches sc_Log_stretches (fun vs H Q E h => ?_) (fun _ _ _ _ _ _ us hl => match us, hl with | [_, _], _ => rfl) (fun cdv A outer s H vs Q E hr h => ?_)
  · obtain ⟨p, L, j, d, rfl, _⟩ := h
    rfl
  · obtain ⟨p, L, j, d, rfl, h, ok, hjd, q⟩ := h
    have hL := h
    have nd := sc_Log_stretches.nd
    have G1 := (ok_answers_of (P := P) (w := w) (base := base) T).mono (k := 5) (by decide)
    have G2 := ok_stretch_of (P := P) (w := w) (base := base) T
    refine ⟨_, pss_cons (ps_set (i := 2) nd rfl (Or.inl rfl) (pe_lst pa_nil))
      (pss_cons (ps_for PassesOwn.never rfl (piL K (pmeth G1 T.T.cl_Log T.M.m_Log_answers_of hr (pv 0) (pa_cons (pv 1) pa_nil))) (pg_name (i := 3) nd rfl (Or.inl rfl))
        (pss_one (ps_if (PW.pt (pw_or (pt_cmpR op_eq (pe_callB (lenK K) rfl T.B.b_len boot_len (pa_cons (pv 2) pa_nil)) pe_int (nomark _)) (pw_or1 (pt_cmpR (notInK K) (pv 3) (pe_ix (ixL K) (pv 2) (pe_un un_neg pe_int) (fun _ _ => rfl)) (by with_unfolding_all rfl)))))
          (pss_one (ps_expr (pe_bm PySem.F.plainAttrs_list PySem.F.slot_list_append PySem.F.type_list_append mt_append (pv 2) (pa_cons (pmeth G2 T.T.cl_Log T.M.m_Log_stretch_of hr (pv 0) (pa_cons (pv 3) pa_nil)) pa_nil)))) pss_nil)))
      (pss_one (ps_ret (pv 2)))), ?_⟩
    refine ⟨by show 0 ≤ sizeLine; decide, fun D hD => ?_⟩
    have s0 : Same H (upd H D (.lst [])) := sNew hD
    have hL0 := hL.mono s0
    obtain ⟨dx0, pi0, pj0, pe0, vj0, ve0, hp0, _⟩ := hL0.ex
    refine ⟨_, rfl, p, dx0, _, rfl, hp0, lf_no (by decide +kernel), _, rfl, p, L, j, d, rfl, hL0, ok, hjd, fun v H2 s2 hv => ?_⟩
    obtain ⟨a, vs, rfl, na, ha, pa⟩ := hv
    have hD2 : H2 D = some (.lst []) := s2 _ _ upd_same
    have naD : a ≠ D := (ne_of_none upd_same na).symm
    have sB : Same H (del H2 D) := sDelR (s0.trans s2) hD
    have hlen : vs.length = (ansJ L.events j).length := pLen pa
    have few : (ansJ L.events j).length ≤ 120 := Nat.le_trans ansJ_len ok.few
    have haB : del H2 D a = some (.lst vs) := by rw [del_ne naD]; exact ha
    have hlB : LogAt K (del H2 D) p L := hL.mono sB
    refine ⟨a, rfl, ⟨_, SqL.of ha⟩, ?_⟩
    refine for_it (walk_list (K := K) (a := a) (xs := vs)) (StrsInv p D j L.events (del H2 D))
      ⟨⟨_, rfl⟩, [], ⟨Same.refl _, [], hD2, .nil⟩, Nat.le_refl _, (fun _ m => nomatch m), fun k n hk => absurd hk (Nat.not_lt_zero _)⟩ (fun i σ H' _ z => by obtain ⟨_, Ss, m, _⟩ := z; exact SqL.of (m.same _ _ haB)) ?_ ?_
    · rintro i x σ H3 H4 hi ⟨⟨u, rfl⟩, Ss, m, hls, each, all⟩ ⟨rfl, hx⟩
      obtain ⟨n, hn, rfl⟩ := pGet pa hx
      have hmem := List.mem_of_getElem? hn
      obtain ⟨it, g, ev⟩ := mem_ansJ.mp hmem
      have hL3 := hlB.mono m.same
      obtain ⟨dx3, pi3, pj3, pe3, vj3, ve3, hp3, _⟩ := hL3.ex
      obtain ⟨m1, ws, hD3, rs⟩ := id m
      have lws : ws.length = Ss.length := pLen rs
      -- found.append(self.stretch_of(place))
      have put : ∀ Nx : L2.St → Hp → Prop, (∀ H5 S, MadeL (rLst rNat) (del H2 D) D (Ss ++ [S]) H5 → IsStr L.events j n S → Nx [some (.ref p), some (.str j), some (.ref D), some (.int (n : Int))] H5) →
          tMeth (fA K "Log") "stretch_of" (spStretchOf K) [] E0 (tVar 0) (tCons (tVar 3) tNil) [some (.ref p), some (.str j), some (.ref D), some (.int (n : Int))] H4
            (fun y H5 => rAppend (.ref D) [y] H5 fun _ H6 => Nx [some (.ref p), some (.str j), some (.ref D), some (.int (n : Int))] H6) := by
        intro Nx k
        refine ⟨_, rfl, p, dx3, _, rfl, hp3, lf_no (by decide +kernel), _, rfl, p, L, j, d, it, g, n, rfl, hL3, ok, hjd, ev, fun y S H5 s5 iS ry => ?_⟩
        obtain ⟨b, bs, rfl, nb, hb, pb⟩ := ry
        have nbD : b ≠ D := (ne_of_none hD3 nb).symm
        refine ⟨D, ws, _, rfl, rfl, s5 _ _ hD3, by rw [lws]; exact Nat.lt_of_le_of_lt (Nat.le_trans hls (Nat.le_of_lt hi)) (by rw [hlen]; exact Nat.lt_of_le_of_lt few (by decide)), k _ S ⟨?_, _, upd_same, ?_⟩ iS⟩
        · rw [del_upd]
          exact m1.trans (sDel s5)
        · rw [del_upd]
          exact pSnoc (pMono (sDel s5) rs) ⟨b, bs, rfl, by rw [del_ne nbD]; exact hb, pNat.mpr (pNat.mp pb)⟩
      have next : ∀ H5 S, MadeL (rLst rNat) (del H2 D) D (Ss ++ [S]) H5 → IsStr L.events j n S → StrsInv p D j L.events (del H2 D) (i + 1) [some (.ref p), some (.str j), some (.ref D), some (.int (n : Int))] H5 := by
        intro H5 S m5 iS
        refine ⟨⟨_, rfl⟩, Ss ++ [S], m5, by rw [List.length_append]; exact Nat.succ_le_succ hls, fun S' hS' => ?_, fun k n' hk hn' => ?_⟩
        · rcases List.mem_append.mp hS' with z | z
          · exact each S' z
          · rw [List.mem_singleton.mp z]
            exact ⟨n, hmem, iS⟩
        · rcases Nat.lt_succ_iff_lt_or_eq.mp hk with hk | hk
          · obtain ⟨S', z1, z2⟩ := all k n' hk hn'
            exact ⟨S', List.mem_append.mpr (.inl z1), z2⟩
          · subst hk
            rw [hn] at hn'
            cases hn'
            exact ⟨S, List.mem_append.mpr (.inr (.head _)), (iS.2 n).mpr ⟨hmem, .refl⟩⟩
      refine ⟨_, rfl, D, ws, rfl, .inl (SqL.of hD3), rfl, _, rfl, ite2 (fun hc => iteT ?_) (fun hc => ?_)⟩
      · exact ⟨_, rfl, .inl ⟨rfl, _, SqL.of hD3⟩, put _ next⟩
      · have ne : ws ≠ [] := fun z => hc (decide_eq_true (by rw [z]; rfl))
        obtain ⟨y, hy, my⟩ := last_at ne
        obtain ⟨ky, hky⟩ := List.mem_iff_getElem?.mp my
        obtain ⟨S, hS, b, bs, rfl, hb, pb⟩ := pGet rs hky
        have eb := pNat.mp pb
        refine ⟨_, rfl, _, rfl, _, rfl, D, ws, _, _, rfl, rfl, SqL.of hD3, hy, b, bs, rfl, .inl (SqL.of (del_le _ _ hb)), rfl, by rw [eb]; exact flat_ints S, ?_⟩
        rw [eb, inV_nat]
        refine ⟨_, rfl, ite2 (fun hc2 => ?_) (fun hc2 => ?_)⟩
        · exact ⟨_, rfl, .inl ⟨rfl, _, SqL.of hD3⟩, put _ next⟩
        · have hin : n ∈ S := by
            by_cases z : n ∈ S
            · exact z
            · refine absurd ?_ hc2
              show (!decide (n ∈ S)) = true
              rw [decide_eq_false z]
              rfl
          refine ⟨⟨_, rfl⟩, Ss, m, Nat.le_succ_of_le hls, each, fun k n' hk hn' => ?_⟩
          rcases Nat.lt_succ_iff_lt_or_eq.mp hk with hk | hk
          · exact all k n' hk hn'
          · subst hk
            rw [hn] at hn'
            cases hn'
            exact ⟨S, List.mem_of_getElem? hS, hin⟩
    · rintro σ H3 ⟨⟨u, rfl⟩, Ss, m, hls, each, all⟩
      refine ⟨_, rfl, q _ Ss _ (sB.trans m.same) ⟨by omega, each, fun n hn => ?_⟩ (m.new sB del_same)⟩
      obtain ⟨k, hk⟩ := List.mem_iff_getElem?.mp hn
      exact all k n (by rw [hlen]; exact (List.getElem?_eq_some_iff.mp hk).1) hk
end
end Rb
namespace Rb
open PySem PySem.Spec PyProof.Rows L2
/-- a log with one more event -/
def addEv (L : LogD) (e : Ev) : LogD := { L with events := L.events ++ [e] }
def withEvs (L : LogD) (es : List Ev) : LogD := { L with events := es }
theorem LogOk.add {L : LogD} (h : LogOk L) {e : Ev} (he : EvOk L.items L.grades (L.judges.map (·.1)) e) (lt : L.events.length < 120) : LogOk (addEv L e) :=
  ⟨h.items, h.judges, h.drifts, h.g1, h.g9, by show (L.events ++ [e]).length ≤ 120; rw [List.length_append]; exact lt, fun f hf => by
    rcases List.mem_append.mp hf with z | z
    · exact h.evs f z
    · rw [List.mem_singleton.mp z]; exact he⟩
theorem cut_all {xs : List V} {n : Nat} (h : n = xs.length) : cutV xs none (some (n : Int)) = xs := by
  subst h
  unfold cutV
  rw [HT.sIx_none, HT.sIx_nat, Nat.min_self, List.drop_zero, Nat.sub_zero, List.take_length]
theorem cut_none {xs : List V} {n : Nat} (h : n = xs.length) : cutV xs (some (n : Int)) none = [] := by
  subst h
  unfold cutV
  rw [HT.sIx_none, HT.sIx_nat, Nat.min_self, List.drop_length, List.take_nil]
theorem NewPts.back {H0 H H' : Hp} {p : Addr} (n : NewPts H H' p) (e : Same H0 H) : NewPts H0 H' p := by
  obtain ⟨C, dx, pi, g, pj, pe, h1, h2, h3, h4⟩ := n
  exact ⟨C, dx, pi, g, pj, pe, h1, e.free h2, e.free h3, e.free h4⟩
section
variable {P : Program} {w : World} {K : Frg} {mg : Str → Option Value} {base : Heap}
def spWithEvents (K : Frg) : Sp := fun vs H Q _ => ∃ (p pe : Addr) (ve : List V) (L : LogD) (es : List Ev), vs = [.ref p, .ref pe] ∧ LogAt K H p L ∧ H pe = some (.lst ve) ∧ Paired (rEv H) ve es ∧ LogOk (withEvs L es) ∧
  ∀ a H', Same H H' → H a = none → LogAt K H' a (withEvs L es) → NewPts H H' a → Q (.ref a) H'
theorem ok_with_events (T : TX K mg) : OkF P w K mg base 5 (mA K "Log" "with_events") ["self", "events"] (spWithEvents K) := by
  refine okD T.M.d_Log_with_events sc_Log_with_events (fun vs H Q E h => ?_) (fun _ _ _ _ _ _ us hl => match us, hl with | [_, _], _ => rfl) (fun cdv A outer s H vs Q E hr h => ?_)
  · obtain ⟨p, pe, ve, L, es, rfl, _⟩ := h
    rfl
  · obtain ⟨p, pe, ve, L, es, rfl, h, he, re, ok, q⟩ := h
    obtain ⟨dx, pi, pj, pe0, vj, ve0, hp, hi, hj, rj, _⟩ := h.ex
    have G := ok_Log_init (P := P) (w := w) (base := base) T
    refine ⟨_, pss_one (ps_ret (pmake G T.T.mk_Log hr rfl T.G.g_Log (pa_cons (peF K (pv 0)) (pa_cons (peF K (pv 0)) (pa_cons (peF K (pv 0)) (pa_cons (pv 1) pa_nil)))))), ?_⟩
    refine ⟨_, rfl, p, _, dx, _, _, rfl, hp, T.T.cl_Log, T.T.n_Log_items, lf_items, _, rfl, p, _, dx, _, _, rfl, hp, T.T.cl_Log, T.T.n_Log_grades, lf_grades, _, rfl, p, _, dx, _, _, rfl, hp, T.T.cl_Log, T.T.n_Log_judges, lf_judges, _, rfl, fun x dx2 nx nd2 ne => ?_⟩
    have s0 : Same H (upd (upd H dx2 (.own x)) x (.ins (fA K "Log") dx2 [])) := fun b o e => by
      rw [upd_ne (ne_of_none e nx), upd_ne (ne_of_none e nd2)]
      exact e
    refine ⟨x, pi, pj, pe, dx2, withEvs L es, rfl, upd_same, ⟨s0 _ _ hi, ⟨vj, s0 _ _ hj, pMono s0 rj⟩, ⟨ve, s0 _ _ he, pMono s0 re⟩⟩, ok, fun H' sx hL np => ⟨rfl, q x H' (fun b o e => sx _ _ (s0 _ _ e) (ne_of_none e nx)) nx hL (np.back s0)⟩⟩
def spCheckEvent (K : Frg) : Sp := fun vs H Q _ => ∃ (p : Addr) (v : V) (L : LogD) (e : Ev), vs = [.ref p, v] ∧ LogAt K H p L ∧ LogOk L ∧ rEv H v e ∧ EvOk L.items L.grades (L.judges.map (·.1)) e ∧ L.events.length < 120 ∧ Q .non H
theorem ok_check_event (T : TX K mg) : OkF P w K mg base 2 (mA K "Log" "check_event") ["self", "event"] (spCheckEvent K) := by
  refine okD T.M.d_Log_check_event sc_Log_check_event (fun vs H Q E h => ?_) (fun _ _ _ _ _ _ us hl => match us, hl with | [_, _], _ => rfl) (fun cdv A outer s H vs Q E hr h => ?_)
  · obtain ⟨p, v, L, e, rfl, _⟩ := h
    rfl
  · obtain ⟨p, v, L, e, rfl, h, ok, rv, eo, lt, q⟩ := h
    have hL := h
    obtain ⟨dx, pi, pj, pe, vj, ve, hp, hi, hj, rj, he, re⟩ := h.ex
    have le := pLen re
    have G := ok_drift_of (P := P) (w := w) (base := base) T
    obtain ⟨t1, g1⟩ := T.C.c_ANSWER
    obtain ⟨t2, g2⟩ := T.C.c_MOST_EVENTS
    refine ⟨_, pss_cons (ps_expr (pmeth G T.T.cl_Log T.M.m_Log_drift_of hr (pv 0) (pa_cons (pe_ix (ixT K) (pv 1) pe_int (fun _ _ => rfl)) pa_nil)))
      (pss_cons (ps_if (PW.pt (pw_and (pt_cmpR op_eq (pe_ix (ixT K) (pv 1) pe_int (fun _ _ => rfl)) (pe_glob (v := .str "answer") rfl g1 ⟨_, rfl⟩) (nomark _)) (pw_and1 (pt_cmpR (notInK K) (pe_ix (ixT K) (pv 1) pe_int (fun _ _ => rfl)) (peF K (pv 0)) (by with_unfolding_all rfl))))) pss_never pss_nil)
      (pss_cons (ps_if (PW.pt (pw_and (pt_cmpR op_eq (pe_ix (ixT K) (pv 1) pe_int (fun _ _ => rfl)) (pe_glob (v := .str "answer") rfl g1 ⟨_, rfl⟩) (nomark _)) (pw_and1 (pt_not (pt_chain op_le op_le pe_int (pe_ix (ixT K) (pv 1) pe_int (fun _ _ => rfl)) (peF K (pv 0))))))) pss_never pss_nil)
      (pss_one (ps_if (pt_cmpR op_eq (pe_callB (lenK K) rfl T.B.b_len boot_len (pa_cons (peF K (pv 0)) pa_nil)) (pe_glob (v := .int 120) rfl g2 ⟨_, rfl⟩) (nomark _)) pss_never pss_nil)))), ?_⟩
    have sn : decide (V.str "reset" = V.str "answer") = false := by decide +kernel
    cases e with
    | ans j i g =>
      obtain ⟨a, rfl, ha⟩ := rv
      obtain ⟨o1, o2, o3⟩ := eo
      obtain ⟨jd, hjd, rfl⟩ := List.mem_map.mp o1
      refine ⟨_, rfl, p, dx, _, rfl, hp, lf_no (by decide +kernel), _, rfl, a, _, _, _, rfl, rfl, SqT.of ha, rfl, p, L, jd.1, jd.2, rfl, hL, ok, hjd, ?_⟩
      refine ⟨_, rfl, a, _, _, _, rfl, rfl, SqT.of ha, rfl, rfl, true, congrArg V.bl (decide_eq_true rfl), iteT ?_⟩
      refine ⟨_, rfl, a, _, _, _, rfl, rfl, SqT.of ha, rfl, _, rfl, p, _, dx, _, _, rfl, hp, T.T.cl_Log, T.T.n_Log_items, lf_items, pi, _, rfl, .inl (SqL.of hi), rfl, flat_strs L.items, false, congrArg (fun b => V.bl (!b)) (in_str o2), iteF ?_⟩
      refine ⟨_, rfl, a, _, _, _, rfl, rfl, SqT.of ha, rfl, rfl, true, congrArg V.bl (decide_eq_true rfl), iteT ?_⟩
      refine ⟨_, rfl, a, _, _, _, rfl, rfl, SqT.of ha, rfl, _, _, rfl, rfl, true, congrArg V.bl (decide_eq_true (by omega)), iteT ?_⟩
      refine ⟨_, rfl, p, _, dx, _, _, rfl, hp, T.T.cl_Log, T.T.n_Log_grades, lf_grades, _, _, rfl, rfl, true, congrArg V.bl (decide_eq_true (by omega)), iteF ?_⟩
      exact ⟨_, rfl, p, _, dx, _, _, rfl, hp, T.T.cl_Log, T.T.n_Log_events, lf_events, pe, _, rfl, .inl (SqL.of he), rfl, false, congrArg V.bl (decide_eq_false (fun z => by have := V.int.inj z; omega)), iteF q⟩
    | rst j =>
      obtain ⟨a, rfl, ha⟩ := rv
      obtain ⟨jd, hjd, rfl⟩ := List.mem_map.mp (show j ∈ L.judges.map (·.1) from eo)
      refine ⟨_, rfl, p, dx, _, rfl, hp, lf_no (by decide +kernel), _, rfl, a, _, _, _, rfl, rfl, SqT.of ha, rfl, p, L, jd.1, jd.2, rfl, hL, ok, hjd, ?_⟩
      refine ⟨_, rfl, a, _, _, _, rfl, rfl, SqT.of ha, rfl, rfl, false, congrArg V.bl sn, iteF (iteF ?_)⟩
      refine ⟨_, rfl, a, _, _, _, rfl, rfl, SqT.of ha, rfl, rfl, false, congrArg V.bl sn, iteF (iteF ?_)⟩
      exact ⟨_, rfl, p, _, dx, _, _, rfl, hp, T.T.cl_Log, T.T.n_Log_events, lf_events, pe, _, rfl, .inl (SqL.of he), rfl, false, congrArg V.bl (decide_eq_false (fun z => by have := V.int.inj z; omega)), iteF q⟩
def spWithEventAt (K : Frg) : Sp := fun vs H Q _ => ∃ (p : Addr) (v : V) (L : LogD) (e : Ev), vs = [.ref p, .int ((L.events.length : Nat) : Int), v] ∧ LogAt K H p L ∧ LogOk L ∧ rEv H v e ∧ EvOk L.items L.grades (L.judges.map (·.1)) e ∧ L.events.length < 120 ∧
  ∀ a H', Same H H' → H a = none → LogAt K H' a (addEv L e) → NewPts H H' a → Q (.ref a) H'
theorem ok_with_event_at (T : TX K mg) : OkF P w K mg base 6 (mA K "Log" "with_event_at") ["self", "place", "event"] (spWithEventAt K) := by
  refine okD T.M.d_Log_with_event_at sc_Log_with_event_at (fun vs H Q E h => ?_) (fun _ _ _ _ _ _ us hl => match us, hl with | [_, _, _], _ => rfl) (fun cdv A outer s H vs Q E hr h => ?_)
  · obtain ⟨p, v, L, e, rfl, _⟩ := h
    rfl
  · obtain ⟨p, v, L, e, rfl, h, ok, rv, eo, lt, q⟩ := h
    have hL := h
    obtain ⟨dx, pi, pj, pe, vj, ve, hp, hi, hj, rj, he, re⟩ := h.ex
    have le := pLen re
    have G1 := (ok_check_event (P := P) (w := w) (base := base) T).mono (k := 5) (by decide)
    have G2 := ok_with_events (P := P) (w := w) (base := base) T
    refine ⟨_, pss_cons (ps_if (pt_not (pt_chain op_le op_le pe_int (pv 1) (pe_callB (lenK K) rfl T.B.b_len boot_len (pa_cons (peF K (pv 0)) pa_nil)))) pss_never pss_nil)
      (pss_cons (ps_expr (pmeth G1 T.T.cl_Log T.M.m_Log_check_event hr (pv 0) (pa_cons (pv 2) pa_nil)))
      (pss_one (ps_ret (pmeth G2 T.T.cl_Log T.M.m_Log_with_events hr (pv 0) (pa_cons (pe_op op_cat (pe_op op_cat (pe_slice (slL K) (peF K (pv 0)) po_none (po_some (pv 1))) (pe_lst (pa_cons (pv 2) pa_nil))) (pe_slice (slL K) (peF K (pv 0)) (po_some (pv 1)) po_none)) pa_nil))))), ?_⟩
    refine ⟨_, rfl, _, _, rfl, rfl, true, congrArg V.bl (decide_eq_true (by omega)), iteT ?_⟩
    refine ⟨_, rfl, p, _, dx, _, _, rfl, hp, T.T.cl_Log, T.T.n_Log_events, lf_events, pe, _, rfl, .inl (SqL.of he), _, _, rfl, rfl, true, congrArg V.bl (decide_eq_true (by omega)), iteF ?_⟩
    refine ⟨_, rfl, p, dx, _, rfl, hp, lf_no (by decide +kernel), _, rfl, p, v, L, e, rfl, hL, ok, rv, eo, lt, ?_⟩
    refine ⟨_, rfl, p, dx, _, rfl, hp, lf_no (by decide +kernel), _, rfl, p, _, dx, _, _, rfl, hp, T.T.cl_Log, T.T.n_Log_events, lf_events, _, rfl, _, rfl, pe, ve, rfl, SqL.of he, fun l1 n1 => ?_⟩
    rw [cut_all le.symm]
    refine ⟨_, rfl, (by show 1 ≤ sizeLine; decide), fun l2 n2 => ?_⟩
    have s1 := sNew (o := .lst ve) n1
    have s2 := sNew (o := .lst [v]) n2
    refine ⟨l1, l2, ve, [v], rfl, rfl, s2 _ _ upd_same, upd_same, by rw [le]; exact Nat.le_trans (show L.events.length + 1 ≤ 200 by omega) (by decide), fun l3 n3 => ?_⟩
    have s3 := sNew (o := .lst (ve ++ [v])) n3
    have s13 := (s1.trans s2).trans s3
    refine ⟨_, rfl, p, _, dx, _, _, rfl, s13 _ _ hp, T.T.cl_Log, T.T.n_Log_events, lf_events, _, rfl, _, rfl, pe, ve, rfl, SqL.of (s13 _ _ he), fun l4 n4 => ?_⟩
    rw [cut_none le.symm]
    have s4 := sNew (o := .lst []) n4
    refine ⟨l3, l4, ve ++ [v], [], rfl, rfl, s4 _ _ upd_same, upd_same, ?_, fun l5 n5 => ?_⟩
    · rw [List.length_append, le]
      exact Nat.le_trans (show L.events.length + 1 + 0 ≤ 200 by omega) (by decide)
    rw [List.append_nil]
    have s5 := sNew (o := .lst (ve ++ [v])) n5
    have s15 := (s13.trans s4).trans s5
    exact ⟨p, l5, ve ++ [v], L, L.events ++ [e], rfl, hL.mono s15, upd_same, pSnoc (pMono s15 re) (Mono.mono s15 rv), ok.add eo lt, fun a H' sx na hL' np => q a H' (s15.trans sx) (s15.free na) hL' (np.back s15)⟩
def spWithEvent (K : Frg) : Sp := fun vs H Q _ => ∃ (p : Addr) (v : V) (L : LogD) (e : Ev), vs = [.ref p, v] ∧ LogAt K H p L ∧ LogOk L ∧ rEv H v e ∧ EvOk L.items L.grades (L.judges.map (·.1)) e ∧ L.events.length < 120 ∧
  ∀ a H', Same H H' → H a = none → LogAt K H' a (addEv L e) → NewPts H H' a → Q (.ref a) H'
theorem ok_with_event (T : TX K mg) : OkF P w K mg base 7 (mA K "Log" "with_event") ["self", "event"] (spWithEvent K) := by
  refine okD T.M.d_Log_with_event sc_Log_with_event (fun vs H Q E h => ?_) (fun _ _ _ _ _ _ us hl => match us, hl with | [_, _], _ => rfl) (fun cdv A outer s H vs Q E hr h => ?_)
  · obtain ⟨p, v, L, e, rfl, _⟩ := h
    rfl
  · obtain ⟨p, v, L, e, rfl, h, ok, rv, eo, lt, q⟩ := h
    have hL := h
    obtain ⟨dx, pi, pj, pe, vj, ve, hp, hi, hj, rj, he, re⟩ := h.ex
    have le := pLen re
    have G := ok_with_event_at (P := P) (w := w) (base := base) T
    refine ⟨_, pss_one (ps_ret (pmeth G T.T.cl_Log T.M.m_Log_with_event_at hr (pv 0) (pa_cons (pe_callB (lenK K) rfl T.B.b_len boot_len (pa_cons (peF K (pv 0)) pa_nil)) (pa_cons (pv 1) pa_nil)))), ?_⟩
    exact ⟨_, rfl, p, dx, _, rfl, hp, lf_no (by decide +kernel), _, rfl, p, _, dx, _, _, rfl, hp, T.T.cl_Log, T.T.n_Log_events, lf_events, pe, _, rfl, .inl (SqL.of he), _, rfl, p, v, L, e, by rw [le]; rfl, hL, ok, rv, eo, lt, q⟩
end
end Rb
/-! dict comprehensions that change nothing that stands -/
namespace Rb
open PySem PySem.Spec PyProof.Rows L2
section
variable {J : It} {n : Nat} {G : Hp → Prop} {Y : Nat → Hp → V → Hp → Prop}
/-- a dict comprehension over a walk: Pv by the turn and the heap -/
theorem dcIt (w : Walk J n G Y) {g : L2.TG} {tt : TT} {tk tv : TE} {vs : List Nat} {σ : L2.St} {H1 : Hp} {D : Addr} {Qd : Hp → Prop} (Pv : Nat → Hp → Prop) (h0 : Pv 0 (upd H1 D (.dK []))) (hG : ∀ i H, i ≤ n → Pv i H → G H)
    (hs : ∀ i x H H', i < n → Pv i H → Y i H x H' → g x (wipe σ vs) H' fun σ2 H2 => wipe σ2 vs = wipe σ vs ∧ tt σ2 H2 fun b H3 =>
      if b = true then tk σ2 H3 fun y H4 => tv σ2 H4 fun z H5 => ∃ kvs k, y = kV k ∧ H5 D = some (.dK kvs) ∧ kvs.length < sizeLine ∧ Pv (i + 1) (upd H5 D (.dK (putK kvs k z))) else Pv (i + 1) H3) (hd : ∀ H, Pv n H → Qd H) :
    ∃ W : Nat → Nat → Hp → Prop, (∃ m, W 0 m (upd H1 D (.dK []))) ∧ ∀ i m H, W i m H →
      (J.stop i H ∧ Qd H) ∨ (J.go i H ∧ ∃ Nx : Hp → Prop, (∀ H', Nx H' → ∃ m', m' < m ∧ W (i + 1) m' H') ∧ ∀ x H', J.yld i H x H' → g x (wipe σ vs) H' fun σ2 H2 => wipe σ2 vs = wipe σ vs ∧ tt σ2 H2 fun b H3 =>
        if b = true then tk σ2 H3 fun y H4 => tv σ2 H4 fun z H5 => ∃ kvs k, y = kV k ∧ H5 D = some (.dK kvs) ∧ kvs.length < sizeLine ∧ Nx (upd H5 D (.dK (putK kvs k z))) else Nx H3) :=
  ⟨fun i m H => m = n - i ∧ i ≤ n ∧ Pv i H, ⟨n, rfl, Nat.zero_le _, h0⟩, fun i m H z => by
    obtain ⟨e, le, p⟩ := z
    rcases Nat.lt_or_ge i n with lt | ge
    · exact Or.inr ⟨w.goes i H lt (hG i H le p), Pv (i + 1), fun H' p' => ⟨n - (i + 1), by omega, rfl, lt, p'⟩, fun x H' y => hs i x H H' lt p (w.yields i H x H' lt (hG i H le p) y)⟩
    · have e2 : i = n := Nat.le_antisymm le ge
      subst e2
      exact Or.inl ⟨w.stops H (hG i H le p), hd H p⟩⟩
/-- the new dict at D: what I says of its pairs -/
def MadeD (I : Nat → List (Key × V) → Hp → Prop) (n : Nat) (H0 : Hp) (D : Addr) (H : Hp) : Prop := Same H0 (del H D) ∧ ∃ kvs, H D = some (.dK kvs) ∧ kvs.length ≤ n ∧ I n kvs (del H D)
theorem MadeD.same {I : Nat → List (Key × V) → Hp → Prop} {m : Nat} {H0 H : Hp} {D : Addr} (x : MadeD I m H0 D H) : Same H0 H := x.1.trans del_le
theorem dcP (w : Walk J n G Y) (I : Nat → List (Key × V) → Hp → Prop) {g : L2.TG} {tt : TT} {tk tv : TE} {vs : List Nat} {σ : L2.St} {H0 : Hp} {D : Addr} {Qd : Hp → Prop} (hD : H0 D = none) (hn : n < sizeLine) (hG : ∀ H, Same H0 H → G H) (i0 : I 0 [] H0)
    (turn : ∀ i x H H' (KT : V → V → Hp → Prop) (KF : Hp → Prop), i < n → Same H0 H → (∃ kvs, H D = some (.dK kvs)) → Y i H x H' →
      (∀ k z H5, Same H H5 → (∀ kvs, I i kvs (del H D) → I (i + 1) (putK kvs k z) (del H5 D)) → KT (kV k) z H5) → (∀ H3, Same H H3 → (∀ kvs, I i kvs (del H D) → I (i + 1) kvs (del H3 D)) → KF H3) →
      g x (wipe σ vs) H' fun σ2 H2 => wipe σ2 vs = wipe σ vs ∧ tt σ2 H2 fun b H3 => if b = true then tk σ2 H3 fun y H4 => tv σ2 H4 fun z H5 => KT y z H5 else KF H3)
    (hd : ∀ H, MadeD I n H0 D H → Qd H) :
    ∃ W : Nat → Nat → Hp → Prop, (∃ m, W 0 m (upd H0 D (.dK []))) ∧ ∀ i m H, W i m H →
      (J.stop i H ∧ Qd H) ∨ (J.go i H ∧ ∃ Nx : Hp → Prop, (∀ H', Nx H' → ∃ m', m' < m ∧ W (i + 1) m' H') ∧ ∀ x H', J.yld i H x H' → g x (wipe σ vs) H' fun σ2 H2 => wipe σ2 vs = wipe σ vs ∧ tt σ2 H2 fun b H3 =>
        if b = true then tk σ2 H3 fun y H4 => tv σ2 H4 fun z H5 => ∃ kvs k, y = kV k ∧ H5 D = some (.dK kvs) ∧ kvs.length < sizeLine ∧ Nx (upd H5 D (.dK (putK kvs k z))) else Nx H3) := by
  have e0 : del H0 D = H0 := by
    funext b
    unfold del
    split
    · rename_i h; rw [h, hD]
    · rfl
  refine dcIt w (fun i H => MadeD I i H0 D H) ⟨?_, [], upd_same, Nat.le_refl _, ?_⟩ (fun i H _ p => hG H p.same) (fun i x H H' hi p y => ?_) hd
  · rw [del_upd]
    exact sDelR (Same.refl H0) hD
  · rw [del_upd, e0]
    exact i0
  · obtain ⟨p1, kvs, p2, p3, p4⟩ := p
    refine turn i x H H' _ _ hi (p1.trans del_le) ⟨kvs, p2⟩ y (fun k z H5 e st => ⟨kvs, k, rfl, e _ _ p2, by omega, ?_⟩) (fun H3 e st => ⟨p1.trans (sDel e), kvs, e _ _ p2, by omega, st kvs p4⟩)
    refine ⟨?_, _, upd_same, ?_, ?_⟩
    · rw [del_upd]
      exact p1.trans (sDel e)
    · have := length_putK kvs k z
      omega
    · rw [del_upd]
      exact st kvs p4
theorem yesD {tk tv : TE} {KT : V → V → Hp → Prop} {KF : Hp → Prop} {σ : L2.St} {H : Hp} (h : tk σ H fun y H4 => tv σ H4 fun z H5 => KT y z H5) :
    tYes σ H fun b H3 => if b = true then tk σ H3 fun y H4 => tv σ H4 fun z H5 => KT y z H5 else KF H3 := iteT (B := KF H) h
end
end Rb
/-! a local name that takes a new dict of a comprehension on its line -/
namespace Rb
open PySem PySem.Spec PyProof.Rows L2
section
variable {X : Cx}
theorem dc_swaps {kx vx : Expr} {gs : List Comprehension} {scope : Scope} {pos py : Pos} {y : Str} {l : Nat} {env : Env} (fn : env.scope.kind = .function) (loc : env.scope.names.lookup y = some .local) (ln : (py.line == pos.line) = true)
    (free : (scope.names.any fun (n, k) => n == y && (k == .local || k == .cell)) = false) : swapsWith (.DictComp kx vx gs scope pos) (some (.Name y py)) l env = pure true := by
  have e1 : env.kindOf y = some .local := loc
  have e2 : env.blockKind = .function := by
    unfold Env.blockKind
    rw [fn]
    rfl
  unfold swapsWith
  simp only [e1, e2, free, Expr.pos, ln]
  rfl
theorem ps_setDc {i : Nat} {y : Str} {py : Pos} {kx vx tg iter : Expr} {ifs : List Expr} {scope : Scope} {own : List (Str × Nat)} {pos spos : Pos} {wi : TI} {g : L2.TG} {tt : TT} {tk tv : TE} (nd : X.N.Nodup) (at_ : X.N[i]? = some y) (loc : X.env.scope.names.lookup y = some .local)
    (sw : swapsWith (.DictComp kx vx [⟨tg, iter, ifs, 0⟩] scope pos) (some (.Name y py)) spos.line X.env = pure true) (pi : PI X tg iter wi) (ok : BlkOk X.N X.env.scope scope own)
    (pg : ∀ (s : Shared) (H : Hp) (C : Addr) (cl : List (Str × Addr)) (fp : List Addr), PG (X.blk s H scope (compEnvC scope cl C X.env) fp) tg g) (pt : ∀ (s : Shared) (H : Hp) (C : Addr) (cl : List (Str × Addr)) (fp : List Addr), PTs (X.blk s H scope (compEnvC scope cl C X.env) fp) ifs tt)
    (pk : ∀ (s : Shared) (H : Hp) (C : Addr) (cl : List (Str × Addr)) (fp : List Addr), PE (X.blk s H scope (compEnvC scope cl C X.env) fp) kx tk) (pv : ∀ (s : Shared) (H : Hp) (C : Addr) (cl : List (Str × Addr)) (fp : List Addr), PE (X.blk s H scope (compEnvC scope cl C X.env) fp) vx tv)
    (calm : X.calm = true := by rfl) (fs : ∀ x, foldedSetIterable iter X.env x = pure x := by intro _; rfl) :
    PS X (.Assign [.Name y py] (.DictComp kx vx [⟨tg, iter, ifs, 0⟩] scope pos) spos) (tAsg (tDc wi g tt tk tv (own.map (·.2))) (gName i)) := ⟨fun pins s σ H D I h => by
  rw [exec_Assign_Name_used _ _ _ _ sw]
  refine wpAny_bind (wpAny_standAt (wpAny_bind ?_))
  have h' : tDc wi g tt tk tv (own.map (·.2)) σ H fun x H1 => gName i x σ H1 D.nx := h
  have main := dc_core (Qf := fun _ s' => SP X pins D .next s') (use := some (assign (.Name y py) X.env)) (pos := pos) (pos' := firstIterPos [⟨tg, iter, ifs, 0⟩] pos) calm nd I pi ok pg pt pk pv fs h' fun L C s' m H' J q hn f => by
    obtain ⟨a0, a1, a2, a3, a4, a5⟩ := f
    show wpAny _ _ (assign (.Name y py) X.env (.ref L)) _ _ _
    refine wpAny_assign_Name (store_ok2 (v := V.ref L) J nd at_ (.inl loc) rfl (fun s2 J2 w => ?_) (.inr loc))
    obtain ⟨c, sb, hc⟩ := w
    have ne : C ≠ c := hc.elim (fun z => z ▸ a1) fun z e => a4 y c z e.symm
    exact ⟨m, hn.sameBut sb ne, fun h3 sb3 => ⟨_, H', J2.turned (t' := s2.toks) (fun b o hb e => (sb3.2 b hb).trans e) a0 a1 a3 a4 a5, q⟩⟩
  exact wpAny_bind (thn main fun _ s' hq => wpAny_pure (wpAny_pure hq))⟩
end
end Rb
namespace Rb
open PySem PySem.Spec PyProof.Rows L2
/-! ### links -/
def gAt (es : List Ev) (i : Nat) : Nat := match es[i]? with
  | some (.ans _ _ g) => g
  | _ => 0
def iAt (es : List Ev) (i : Nat) : Str := match es[i]? with
  | some (.ans _ x _) => x
  | _ => ""
def jAt (es : List Ev) (i : Nat) : Str := match es[i]? with
  | some (.ans j _ _) => j
  | _ => ""
theorem gAt_eq {es : List Ev} {i : Nat} {j x : Str} {g : Nat} (h : es[i]? = some (.ans j x g)) : gAt es i = g := by unfold gAt; rw [h]
theorem iAt_eq {es : List Ev} {i : Nat} {j x : Str} {g : Nat} (h : es[i]? = some (.ans j x g)) : iAt es i = x := by unfold iAt; rw [h]
theorem jAt_eq {es : List Ev} {i : Nat} {j x : Str} {g : Nat} (h : es[i]? = some (.ans j x g)) : jAt es i = j := by unfold jAt; rw [h]
/-- two places in order -/
def ordB (d : Str) (a b : Nat) : Bool := decide (d = "stays") || (decide (a < b) == decide (d = "rises"))
def lkB (es : List Ev) (d : Str) (a b : Nat) : Bool := decide (gAt es a < gAt es b) && ordB d a b
def linkRow (es : List Ev) (d : Str) (a : Nat) (S : List Nat) : List (Nat × Nat) := (S.filter fun b => lkB es d a b).map fun b => (a, b)
def linksIn (es : List Ev) (d : Str) (R S : List Nat) : List (Nat × Nat) := R.flatMap fun a => linkRow es d a S
theorem linkRow_snoc {es : List Ev} {d : Str} {a b : Nat} {S : List Nat} : linkRow es d a (S ++ [b]) = if lkB es d a b = true then linkRow es d a S ++ [(a, b)] else linkRow es d a S := by
  unfold linkRow
  rw [List.filter_append, List.map_append]
  cases h : lkB es d a b <;> simp [h]
theorem linksIn_snoc {es : List Ev} {d : Str} {a : Nat} {R S : List Nat} : linksIn es d (R ++ [a]) S = linksIn es d R S ++ linkRow es d a S := by
  unfold linksIn
  rw [List.flatMap_append]
  simp
theorem linkRow_len {es : List Ev} {d : Str} {a : Nat} {S : List Nat} : (linkRow es d a S).length ≤ S.length := by
  unfold linkRow
  rw [List.length_map]
  exact List.length_filter_le _ _
theorem linksIn_len {es : List Ev} {d : Str} {R S : List Nat} : (linksIn es d R S).length ≤ R.length * S.length := by
  induction R with
  | nil => simp [linksIn]
  | cons a R ih =>
    have e : linksIn es d (a :: R) S = linkRow es d a S ++ linksIn es d R S := by simp [linksIn]
    rw [e, List.length_append, List.length_cons, Nat.add_mul]
    have := linkRow_len (es := es) (d := d) (a := a) (S := S)
    omega
theorem take_succ_get {α : Type} {xs : List α} {i : Nat} {x : α} (h : xs[i]? = some x) : xs.take (i + 1) = xs.take i ++ [x] := by
  rw [List.take_add_one, h]
  rfl
theorem get_int {S : List Nat} {i : Nat} {x : V} (h : (S.map fun n : Nat => V.int (n : Int))[i]? = some x) : ∃ n, S[i]? = some n ∧ x = .int (n : Int) := by
  rw [List.getElem?_map] at h
  cases e : S[i]? with
  | none => rw [e] at h; cases h
  | some n => rw [e] at h; exact ⟨n, rfl, (Option.some.inj h).symm⟩
theorem inl_ne {a b : Nat} (h : a ≠ b) : ¬ (Sum.inl (a : Int) : Key) = .inl (b : Int) := fun z => h (Int.ofNat.inj (Sum.inl.inj z))
theorem dgetK {H : Hp} {a : Addr} {kvs : List (Key × V)} {k : Key} {o : Option V} (h : H a = some (.dK kvs)) (e : valV kvs k = o) : DGet H a (kV k) o := e ▸ DGet.k h
section
variable {P : Program} {w : World} {K : Frg} {mg : Str → Option Value} {base : Heap}
def spLinksIn (K : Frg) : Sp := fun vs H Q _ => ∃ (p sa : Addr) (L : LogD) (d : Str) (S : List Nat), vs = [.ref p, .str d, .ref sa] ∧ LogAt K H p L ∧ H sa = some (.lst (S.map fun n : Nat => V.int (n : Int))) ∧ S.length ≤ 120 ∧
  (∀ n ∈ S, ∃ j x g, L.events[n]? = some (.ans j x g)) ∧ ∀ v H', Same H H' → newL (rT2 rNat rNat) H H' v (linksIn L.events d S S) → Q v H'
/-- the grades of the first places -/
def GrD (es : List Ev) (S : List Nat) (i : Nat) (kvs : List (Key × V)) (_ : Hp) : Prop := ∀ k n, k < i → S[k]? = some n → valV kvs (.inl (n : Int)) = some (.int ((gAt es n : Nat) : Int))
def LiIn (p sa D1 D : Addr) (d : Str) (HB : Hp) (a : Nat) (X : List (Nat × Nat)) (σ : L2.St) (H' : Hp) : Prop := (∃ u7, σ = [some (V.ref p), some (V.str d), some (V.ref sa), some (V.ref D1), none, some (V.ref D), some (V.int (a : Int)), u7]) ∧ MadeL (rT2 rNat rNat) HB D X H'
theorem ok_links_in (T : TX K mg) : OkF P w K mg base 4 (fA K "links_in") ["log", "drift", "stretch"] (spLinksIn K) := by
  refine okD T.D.d_links_in sc_links_in (fun vs H Q E h => ?_) (fun _ _ _ _ _ _ us hl => match us, hl with | [_, _, _], _ => rfl) (fun cdv A outer s H vs Q E hr h => ?_)
  · obtain ⟨p, sa, L, d, S, rfl, _⟩ := h
    rfl
  · obtain ⟨p, sa, L, d, S, rfl, hL, hS, few, ans, q⟩ := h
    have nd := sc_links_in.nd
    have G := ok_grade_at (P := P) (w := w) (base := base) T
    refine ⟨_, pss_cons (ps_setDc (i := 3) (own := [("place", 4)]) (g := gName 4) (tt := tYes) nd rfl rfl (dc_swaps rfl rfl rfl (by decide +kernel)) (piL K (pv 2)) (blkOk_by (N := N_links_in) (sc := defScope s_links_in) (by decide +kernel))
        (fun _ _ _ _ _ => pg_name (i := 4) nd rfl (Or.inl rfl)) (fun _ _ _ _ _ => pts_nil) (fun _ _ _ _ _ => pv 4) (fun _ _ _ _ _ => pmeth G T.T.cl_Log T.M.m_Log_grade_at hr (pv 0) (pa_cons (pv 4) pa_nil)))
      (pss_cons (ps_set (i := 5) nd rfl (Or.inl rfl) (pe_lst pa_nil))
      (pss_cons (ps_for PassesOwn.never rfl (piL K (pv 2)) (pg_name (i := 6) nd rfl (Or.inl rfl))
        (pss_one (ps_for PassesOwn.never rfl (piL K (pv 2)) (pg_name (i := 7) nd rfl (Or.inl rfl))
          (pss_one (ps_if (PW.pt (pw_and (pt_cmpR op_lt (pe_dget (hu_of hr) (pv 3) (pv 6) (fun _ _ => rfl)) (pe_dget (hu_of hr) (pv 3) (pv 7) (fun _ _ => rfl)) (nomark _))
              (pw_and1 (PW.pt (pw_or (pt_cmpR op_eq (pv 1) pe_str (nomark _)) (pw_or1 (pt_cmpR op_eq (pe_cmpR op_lt (pv 6) (pv 7) (nomark _)) (pe_cmpR op_eq (pv 1) pe_str (nomark _)) (nomark _))))))))
            (pss_one (ps_expr (pe_bm PySem.F.plainAttrs_list PySem.F.slot_list_append PySem.F.type_list_append mt_append (pv 5) (pa_cons (pe_tup (pa_cons (pv 6) (pa_cons (pv 7) pa_nil))) pa_nil)))) pss_nil)))))
      (pss_one (ps_ret (pv 5))))), ?_⟩
    refine ⟨_, rfl, sa, rfl, ⟨_, SqL.of hS⟩, fun D1 hD1 => dcP walk_list (GrD L.events S) hD1 (by rw [List.length_map]; exact Nat.lt_of_le_of_lt few (by decide)) (fun _ e => SqL.of (e _ _ hS)) (fun k n hk => absurd hk (Nat.not_lt_zero _)) ?_ ?_⟩
    · rintro i x H2 H3 KT KF hi e _ ⟨rfl, hx⟩ kt kf
      obtain ⟨n, hn, rfl⟩ := get_int hx
      obtain ⟨j, it, g, ev⟩ := ans n (List.mem_of_getElem? hn)
      have hL2 := hL.mono e
      obtain ⟨dx, pi, pj, pe, vj, ve, hp, _⟩ := hL2.ex
      refine ⟨rfl, yesD ⟨_, rfl, _, rfl, p, dx, _, rfl, hp, lf_no (by decide +kernel), _, rfl, p, L, n, j, it, g, rfl, hL2, ev, kt (.inl (n : Int)) _ _ (Same.refl _) fun kvs hk k m hkm hm => ?_⟩⟩
      rw [valV_put]
      by_cases hmn : m = n
      · subst hmn
        rw [if_pos rfl, gAt_eq ev]
      · rw [if_neg (inl_ne hmn)]
        refine hk k m ?_ hm
        rcases Nat.lt_succ_iff_lt_or_eq.mp hkm with z | z
        · exact z
        · subst z
          rw [hn] at hm
          exact absurd (Option.some.inj hm).symm hmn
    · intro H1 m1
      rw [List.length_map] at m1
      have s1 := m1.same
      obtain ⟨_, kvs, hk1, _, hgr⟩ := m1
      have hgr : ∀ n ∈ S, valV kvs (.inl (n : Int)) = some (.int ((gAt L.events n : Nat) : Int)) := fun n hn => by
        obtain ⟨k, hk, e⟩ := List.mem_iff_getElem.mp hn
        exact hgr k n hk (by rw [← e]; exact List.getElem?_eq_getElem hk)
      refine ⟨by show 0 ≤ sizeLine; decide, fun D hD => ?_⟩
      have s2 : Same H1 (upd H1 D (.lst [])) := sNew hD
      have hS2 := s2 _ _ (s1 _ _ hS)
      refine ⟨_, rfl, sa, rfl, ⟨_, SqL.of hS2⟩, ?_⟩
      refine for_it (walk_list (K := K) (a := sa) (xs := S.map fun n : Nat => V.int (n : Int))) (fun i σ H' => (∃ u6 u7, σ = [some (.ref p), some (.str d), some (.ref sa), some (.ref D1), none, some (.ref D), u6, u7]) ∧ MadeL (rT2 rNat rNat) H1 D (linksIn L.events d (S.take i) S) H')
        ⟨⟨_, _, rfl⟩, ?_, [], upd_same, .nil⟩ (fun i σ H' _ z => SqL.of (z.2.same _ _ (s1 _ _ hS))) ?_ ?_
      · rw [del_upd]
        exact sDelR (Same.refl _) hD
      · rintro i x σ H3 H4 hi ⟨⟨u6, u7, rfl⟩, m⟩ ⟨rfl, hx⟩
        obtain ⟨a, ha, rfl⟩ := get_int hx
        refine ⟨_, rfl, sa, rfl, ⟨_, SqL.of (m.same _ _ (s1 _ _ hS))⟩, ?_⟩
        refine for_it (walk_list (K := K) (a := sa) (xs := S.map fun n : Nat => V.int (n : Int))) (fun k σ H' => LiIn p sa D1 D d H1 a (linksIn L.events d (S.take i) S ++ linkRow L.events d a (S.take k)) σ H')
          ⟨⟨_, rfl⟩, ?_⟩ (fun i σ H' _ z => SqL.of (z.2.same _ _ (s1 _ _ hS))) ?_ ?_
        · rw [List.take_zero, show linkRow L.events d a [] = [] from rfl, List.append_nil]
          exact m
        · rintro k x σ H3 H5 hk ⟨⟨u7, rfl⟩, m⟩ ⟨rfl, hx⟩
          obtain ⟨b, hb, rfl⟩ := get_int hx
          have hk3 := m.same _ _ hk1
          have ga := hgr a (List.mem_of_getElem? ha)
          have gb := hgr b (List.mem_of_getElem? hb)
          have next : ∀ H6, MadeL (rT2 rNat rNat) H1 D (linksIn L.events d (S.take i) S ++ linkRow L.events d a (S.take (k + 1))) H6 →
              LiIn p sa D1 D d H1 a (linksIn L.events d (S.take i) S ++ linkRow L.events d a (S.take (k + 1)))
              [some (V.ref p), some (V.str d), some (V.ref sa), some (V.ref D1), none, some (V.ref D), some (V.int (a : Int)), some (V.int (b : Int))] H6 := fun H6 m6 => ⟨⟨_, rfl⟩, m6⟩
          have no : lkB L.events d a b = false → MadeL (rT2 rNat rNat) H1 D (linksIn L.events d (S.take i) S ++ if lkB L.events d a b = true then linkRow L.events d a (S.take k) ++ [(a, b)] else linkRow L.events d a (S.take k)) H5 := fun z => by
            rw [z, if_neg Bool.false_ne_true]
            exact m
          have yes : lkB L.events d a b = true → ∀ t H6, Same H5 H6 → H5 t = none → H6 t = some (.tup [.int (a : Int), .int (b : Int)]) → ∀ ws, H5 D = some (.lst ws) → ws.length < sizeLine ∧ MadeL (rT2 rNat rNat) H1 D (linksIn L.events d (S.take i) S ++ if lkB L.events d a b = true then linkRow L.events d a (S.take k) ++ [(a, b)] else linkRow L.events d a (S.take k)) (upd H6 D (.lst (ws ++ [.ref t]))) := fun z t H6 s6 nt ht ws hw => by
            obtain ⟨m1, ws', hD3, rs⟩ := m
            rw [hw] at hD3
            obtain rfl := HO.lst.inj (Option.some.inj hD3)
            have lw := pLen rs
            rw [z, if_pos rfl, ← List.append_assoc]
            have ntD : t ≠ D := (ne_of_none hw nt).symm
            refine ⟨?_, ?_, _, upd_same, ?_⟩
            · rw [lw, List.length_append]
              have l1 := linksIn_len (es := L.events) (d := d) (R := S.take i) (S := S)
              have l2 := linkRow_len (es := L.events) (d := d) (a := a) (S := S.take k)
              have l3 : (S.take i).length ≤ 120 := Nat.le_trans (List.length_take_le' _ _) few
              have l4 : (S.take k).length ≤ 120 := Nat.le_trans (List.length_take_le' _ _) few
              have l5 := Nat.mul_le_mul l3 few
              exact Nat.lt_of_le_of_lt (show _ ≤ 120 * 120 + 120 by omega) (by decide)
            · rw [del_upd]
              exact m1.trans (sDel s6)
            · rw [del_upd]
              exact pSnoc (pMono (sDel s6) rs) ⟨t, _, _, rfl, by rw [del_ne ntD]; exact ht, rfl, rfl⟩
          obtain ⟨_, ws, hD3, _⟩ := id m
          have app : lkB L.events d a b = true → ∀ t, H5 t = none → rAppend (.ref D) [.ref t] (upd H5 t (.tup [.int (a : Int), .int (b : Int)])) fun _ H6 => LiIn p sa D1 D d H1 a (linksIn L.events d (S.take i) S ++ linkRow L.events d a (S.take (k + 1)))
              [some (V.ref p), some (V.str d), some (V.ref sa), some (V.ref D1), none, some (V.ref D), some (V.int (a : Int)), some (V.int (b : Int))] H6 := fun z t nt => by
            obtain ⟨z1, z2⟩ := yes z t _ (sNew nt) nt upd_same ws hD3
            refine ⟨D, ws, _, rfl, rfl, sNew nt _ _ hD3, z1, next _ ?_⟩
            rw [take_succ_get hb, linkRow_snoc]
            exact z2
          have fF : ¬ decide (((gAt L.events a : Nat) : Int) < ((gAt L.events b : Nat) : Int)) = true → lkB L.events d a b = false := fun c => by
            unfold lkB
            rw [decide_eq_false (fun z => c (decide_eq_true (Int.ofNat_lt.mpr z)))]
            rfl
          have c1' : decide (((gAt L.events a : Nat) : Int) < ((gAt L.events b : Nat) : Int)) = true → decide (gAt L.events a < gAt L.events b) = true := fun c => decide_eq_true (Int.ofNat_lt.mp (of_decide_eq_true c))
          have ds : ∀ z : Str, decide (V.str d = V.str z) = decide (d = z) := fun z => by by_cases e : d = z <;> simp [e]
          have di : decide ((a : Int) < (b : Int)) = decide (a < b) := by by_cases e : a < b <;> simp [e]
          have fS : decide (((gAt L.events a : Nat) : Int) < ((gAt L.events b : Nat) : Int)) = true → decide (V.str d = V.str "stays") = true → lkB L.events d a b = true := fun c e => by
            unfold lkB ordB
            rw [c1' c, ← ds, e]
            rfl
          have fG : ¬ decide (V.str d = V.str "stays") = true → decide (d = "stays") = false := fun z => by
            rw [← ds]
            exact Bool.eq_false_iff.mpr z
          have fR : decide (((gAt L.events a : Nat) : Int) < ((gAt L.events b : Nat) : Int)) = true → ¬ decide (V.str d = V.str "stays") = true → decide (V.bl (decide ((a : Int) < (b : Int))) = V.bl (decide (V.str d = V.str "rises"))) = true → lkB L.events d a b = true := fun c e f => by
            unfold lkB ordB
            have f2 := V.bl.inj (of_decide_eq_true f)
            rw [ds, di] at f2
            rw [c1' c, fG e, f2, beq_self_eq_true]
            rfl
          have fO : decide (((gAt L.events a : Nat) : Int) < ((gAt L.events b : Nat) : Int)) = true → ¬ decide (V.str d = V.str "stays") = true → ¬ decide (V.bl (decide ((a : Int) < (b : Int))) = V.bl (decide (V.str d = V.str "rises"))) = true → lkB L.events d a b = false := fun c e f => by
            unfold lkB ordB
            rw [c1' c, fG e, Bool.true_and, Bool.false_or]
            refine beq_eq_false_iff_ne.mpr fun z => f (decide_eq_true ?_)
            rw [ds, di, z]
          refine ⟨_, rfl, _, rfl, D1, _, rfl, dgetK (k := .inl (a : Int)) hk3 ga, _, rfl, _, rfl, D1, _, rfl, dgetK (k := .inl (b : Int)) hk3 gb, _, _, rfl, rfl, _, rfl, ite2 (fun c1 => ?_) (fun c1 => iteF (next _ (by rw [take_succ_get hb, linkRow_snoc]; exact no (fF c1))))⟩
          · refine ⟨_, rfl, rfl, _, rfl, ite2 (fun c2 => iteT ⟨_, rfl, .inl ⟨rfl, _, SqL.of hD3⟩, _, rfl, _, rfl, (by show 2 ≤ sizeLine; decide), fun t nt => app ?_ t nt⟩) (fun c2 => ?_)⟩
            · exact fS c1 c2
            · refine ⟨_, rfl, _, rfl, _, _, rfl, rfl, _, rfl, rfl, rfl, _, rfl, ite2 (fun c3 => ⟨_, rfl, .inl ⟨rfl, _, SqL.of hD3⟩, _, rfl, _, rfl, (by show 2 ≤ sizeLine; decide), fun t nt => app ?_ t nt⟩) (fun c3 => next _ (by rw [take_succ_get hb, linkRow_snoc]; exact no (fO c1 c2 c3)))⟩
              exact fR c1 c2 c3
        · rintro σ H3 ⟨⟨u7, rfl⟩, m⟩
          refine ⟨⟨_, _, rfl⟩, ?_⟩
          rw [take_succ_get ha, linksIn_snoc]
          rw [List.length_map, List.take_length] at m
          exact m
      · rintro σ H3 ⟨⟨u6, u7, rfl⟩, m⟩
        rw [List.length_map, List.take_length] at m
        exact ⟨_, rfl, q _ _ (s1.trans m.same) (m.new s1 hD)⟩
end
end Rb
namespace Rb
open PySem PySem.Spec PyProof.Rows L2
theorem mem_linksIn {es : List Ev} {d : Str} {R S : List Nat} {a b : Nat} : (a, b) ∈ linksIn es d R S ↔ a ∈ R ∧ b ∈ S ∧ lkB es d a b = true := by
  unfold linksIn linkRow
  simp only [List.mem_flatMap, List.mem_map, List.mem_filter, Prod.mk.injEq]
  constructor
  · rintro ⟨x, hx, y, ⟨hy, hl⟩, rfl, rfl⟩
    exact ⟨hx, hy, hl⟩
  · rintro ⟨ha, hb, hl⟩
    exact ⟨a, ha, b, ⟨hb, hl⟩, rfl, rfl⟩
/-- a link of a judge with a drift -/
def LkJ (es : List Ev) (j d : Str) (a b : Nat) : Prop := a ∈ ansJ es j ∧ b ∈ ansJ es j ∧ SameStr es j a b ∧ lkB es d a b = true
def Lk (L : LogD) (a b : Nat) : Prop := ∃ j d, (j, d) ∈ L.judges ∧ LkJ L.events j d a b
theorem LkJ.of {es : List Ev} {j d : Str} {S : List Nat} {p a b : Nat} (h : IsStr es j p S) (z : (a, b) ∈ linksIn es d S S) : LkJ es j d a b := by
  obtain ⟨ha, hb, hl⟩ := mem_linksIn.mp z
  obtain ⟨a1, a2⟩ := (h.2 a).mp ha
  obtain ⟨b1, b2⟩ := (h.2 b).mp hb
  exact ⟨a1, b1, a2.symm.trans b2, hl⟩
theorem LkJ.mem {es : List Ev} {j d : Str} {S : List Nat} {p a b : Nat} (h : IsStr es j p S) (z : LkJ es j d a b) (ha : a ∈ S) : (a, b) ∈ linksIn es d S S := by
  obtain ⟨z1, z2, z3, z4⟩ := z
  exact mem_linksIn.mpr ⟨ha, (h.2 b).mpr ⟨z2, ((h.2 a).mp ha).2.trans z3⟩, z4⟩
/-- the order of a list may change -/
theorem pPerm {α : Type} {F : V → α → Prop} {vs ws : List V} (h : vs.Perm ws) : ∀ {xs : List α}, Paired F ws xs → ∃ ys : List α, ys.Perm xs ∧ Paired F vs ys := by
  induction h with
  | nil => intro xs p; exact ⟨xs, .refl _, p⟩
  | cons v _ ih =>
    intro xs p
    cases p with
    | cons q t =>
      obtain ⟨ys, h1, h2⟩ := ih t
      exact ⟨_ :: ys, h1.cons _, .cons q h2⟩
  | swap v w l =>
    intro xs p
    cases p with
    | cons q t =>
      cases t with
      | cons q2 t => exact ⟨_ :: _ :: _, List.Perm.swap _ _ _, .cons q2 (.cons q t)⟩
  | trans _ _ ih1 ih2 =>
    intro xs p
    obtain ⟨ys, h1, h2⟩ := ih2 p
    obtain ⟨zs, h3, h4⟩ := ih1 h2
    exact ⟨zs, h3.trans h1, h4⟩
/-- tuples do not stand where a list stands -/
theorem tup_del {H : Hp} {D : Addr} {ws : List V} {v : V} {x : Nat × Nat} (hD : H D = some (.lst ws)) (h : rT2 rNat rNat H v x) : rT2 rNat rNat (del H D) v x := by
  obtain ⟨a, y, z, rfl, ha, h1, h2⟩ := h
  refine ⟨a, y, z, rfl, ?_, h1, h2⟩
  rw [del_ne fun e => ?_]
  · exact ha
  · subst e; rw [hD] at ha; cases ha
/-- what is found after some judges, and some stretches of one more -/
structure Found (L : LogD) (k : Nat) (Ss : List (List Nat)) (i : Nat) (ps : List (Nat × Nat)) : Prop where
  sound : ∀ a b, (a, b) ∈ ps → Lk L a b
  whole : ∀ n j d, n < k → L.judges[n]? = some (j, d) → ∀ a b, LkJ L.events j d a b → (a, b) ∈ ps
  part : ∀ j d, L.judges[k]? = some (j, d) → ∀ n S, n < i → Ss[n]? = some S → ∀ a b, LkJ L.events j d a b → a ∈ S → (a, b) ∈ ps
  len : ps.length ≤ k * (120 * 14400) + i * 14400
/-- all links -/
structure LinksOk (L : LogD) (ps : List (Nat × Nat)) : Prop where
  iff : ∀ a b, (a, b) ∈ ps ↔ Lk L a b
  len : ps.length ≤ 13824000
section
variable {L : LogD} {k i : Nat} {Ss : List (List Nat)} {ps : List (Nat × Nat)} {j d : Str}
theorem Found.step {S : List Nat} {p : Nat} (F : Found L k Ss i ps) (hS : Ss[i]? = some S) (hj : L.judges[k]? = some (j, d)) (iS : IsStr L.events j p S) : Found L k Ss (i + 1) (ps ++ linksIn L.events d S S) := by
  refine ⟨fun a b h => ?_, fun n j' d' hn hj' a b h => List.mem_append.mpr (.inl (F.whole n j' d' hn hj' a b h)), fun j' d' hj' n S' hn hS' a b h ha => ?_, ?_⟩
  · rcases List.mem_append.mp h with h | h
    · exact F.sound a b h
    · exact ⟨j, d, List.mem_of_getElem? hj, .of iS h⟩
  · rcases Nat.lt_succ_iff_lt_or_eq.mp hn with hn | rfl
    · exact List.mem_append.mpr (.inl (F.part j' d' hj' n S' hn hS' a b h ha))
    · rw [hj] at hj'
      obtain ⟨rfl, rfl⟩ := Prod.mk.inj (Option.some.inj hj')
      rw [hS] at hS'
      obtain rfl := Option.some.inj hS'
      exact List.mem_append.mpr (.inr (LkJ.mem iS h ha))
  · rw [List.length_append]
    have l1 := linksIn_len (es := L.events) (d := d) (R := S) (S := S)
    have l2 := Nat.mul_le_mul iS.1 iS.1
    have l3 := F.len
    omega
theorem Found.turn (F : Found L k Ss Ss.length ps) (hj : L.judges[k]? = some (j, d)) (iS : IsStrs L.events j Ss) : Found L (k + 1) [] 0 ps := by
  refine ⟨F.sound, fun n j' d' hn hj' a b h => ?_, fun _ _ _ n S hn => absurd hn (Nat.not_lt_zero _), ?_⟩
  · rcases Nat.lt_succ_iff_lt_or_eq.mp hn with hn | rfl
    · exact F.whole n j' d' hn hj' a b h
    · rw [hj] at hj'
      obtain ⟨rfl, rfl⟩ := Prod.mk.inj (Option.some.inj hj')
      obtain ⟨S, hS, ha⟩ := iS.all a h.1
      obtain ⟨n, hn⟩ := List.mem_iff_getElem?.mp hS
      exact F.part j d hj n S (List.getElem?_eq_some_iff.mp hn).1 hn a b h ha
  · have l1 := F.len
    have l2 := Nat.mul_le_mul_right 14400 iS.len
    rw [Nat.add_mul, Nat.one_mul, Nat.zero_mul, Nat.add_zero]
    exact Nat.le_trans l1 (Nat.add_le_add_left l2 _)
theorem Found.open_ (F : Found L k [] 0 ps) : Found L k Ss 0 ps := ⟨F.sound, F.whole, fun _ _ _ n S hn => absurd hn (Nat.not_lt_zero _), F.len⟩
theorem Found.start : Found L 0 [] 0 [] := ⟨(fun _ _ h => nomatch h), fun _ _ _ hn => absurd hn (Nat.not_lt_zero _), fun _ _ _ n S hn => absurd hn (Nat.not_lt_zero _), Nat.zero_le _⟩
theorem Found.done {qs : List (Nat × Nat)} (F : Found L L.judges.length [] 0 ps) (ok : LogOk L) (pm : qs.Perm ps) : LinksOk L qs := by
  refine ⟨fun a b => ⟨fun h => F.sound a b (pm.mem_iff.mp h), fun h => pm.mem_iff.mpr ?_⟩, ?_⟩
  · obtain ⟨j, d, hj, h⟩ := h
    obtain ⟨n, hn⟩ := List.mem_iff_getElem?.mp hj
    exact F.whole n j d (List.getElem?_eq_some_iff.mp hn).1 hn a b h
  · rw [pm.length_eq]
    have l1 := F.len
    have l2 := ok.judges.le
    rw [List.length_map] at l2
    omega
end
theorem lst_apart {H H1 H2 : Hp} {D b : Addr} {ws vs : List V} {ps : List (Nat × Nat)} {S : List Nat} (hD : H D = some (.lst ws)) (pw : Paired (rT2 rNat rNat H1) ws ps) (hb : H b = some (.lst vs)) (pv : Paired (rNat H2) vs S) (ne : S ≠ []) : b ≠ D := by
  rintro rfl
  rw [hD] at hb
  obtain rfl := HO.lst.inj (Option.some.inj hb)
  cases pv with
  | nil => exact ne rfl
  | cons q _ =>
    cases pw with
    | cons q2 _ =>
      obtain ⟨a, _, _, e, _⟩ := q2
      have q : _ = _ := q
      rw [e] at q
      cases q
section
variable {P : Program} {w : World} {K : Frg} {mg : Str → Option Value} {base : Heap}
def spLinksOf (K : Frg) : Sp := fun vs H Q _ => ∃ (p : Addr) (L : LogD), vs = [.ref p] ∧ LogAt K H p L ∧ LogOk L ∧ ∀ v ps H', Same H H' → LinksOk L ps → rLst (rT2 rNat rNat) H' v ps → Q v H'
def LoJ (p D : Addr) (L : LogD) (HB : Hp) (k : Nat) (σ : L2.St) (H' : Hp) : Prop := (∃ u2 u3 u4, σ = [some (V.ref p), some (V.ref D), u2, u3, u4]) ∧ ∃ ps, MadeL (rT2 rNat rNat) HB D ps H' ∧ Found L k [] 0 ps
def LoS (p D : Addr) (L : LogD) (HB : Hp) (k : Nat) (Ss : List (List Nat)) (j d : Str) (i : Nat) (σ : L2.St) (H' : Hp) : Prop := (∃ u4, σ = [some (V.ref p), some (V.ref D), some (V.str j), some (V.str d), u4]) ∧ ∃ ps, MadeL (rT2 rNat rNat) HB D ps H' ∧ Found L k Ss i ps
theorem ok_links_of (T : TX K mg) : OkF P w K mg base 7 (fA K "links_of") ["log"] (spLinksOf K) := by
  refine okD T.D.d_links_of sc_links_of (fun vs H Q E h => ?_) (fun _ _ _ _ _ _ us hl => match us, hl with | [_], _ => rfl) (fun cdv A outer s H vs Q E hr h => ?_)
  · obtain ⟨p, L, rfl, _⟩ := h
    rfl
  · obtain ⟨p, L, rfl, hL, ok, q⟩ := h
    have nd := sc_links_of.nd
    have G1 := ok_stretches (P := P) (w := w) (base := base) T
    have G2 := (ok_links_in (P := P) (w := w) (base := base) T).mono (k := 6) (by decide)
    have GJ := (ok_judges (P := P) (w := w) (base := base) T)
    refine ⟨_, pss_cons (ps_set (i := 1) nd rfl (Or.inl rfl) (pe_lst pa_nil))
      (pss_cons (ps_for PassesOwn.never rfl (piL K (pprop GJ T.T.cl_Log (hr.mono (by decide)) (pv 0))) (pgT K (n := 2) (pgs_cons (pg_name (i := 2) nd rfl (Or.inl rfl)) (pgs_cons (pg_name (i := 3) nd rfl (Or.inl rfl)) pgs_nil)))
        (pss_one (ps_for PassesOwn.never rfl (piL K (pmeth G1 T.T.cl_Log T.M.m_Log_stretches hr (pv 0) (pa_cons (pv 2) pa_nil))) (pg_name (i := 4) nd rfl (Or.inl rfl))
          (pss_one (ps_aug (i := 1) nd rfl (Or.inl rfl) (pcall G2 hr rfl T.G.g_links_in (pa_cons (pv 0) (pa_cons (pv 3) (pa_cons (pv 4) pa_nil)))) iop_ext)))))
      (pss_one (ps_ret (pe_callB (sortPK K) rfl T.B.b_sorted boot_sorted (pa_cons (pv 1) pa_nil))))), ?_⟩
    refine ⟨by show 0 ≤ sizeLine; decide, fun D hD => ?_⟩
    have s1 : Same H (upd H D (.lst [])) := sNew hD
    obtain ⟨dx, pi, pj, pe, vj, ve, hp, _⟩ := (hL.mono s1).ex
    refine ⟨_, rfl, p, dx, _, rfl, hp, p, L, rfl, hL.mono s1, fun v H2 s2 hv => ?_⟩
    obtain ⟨ja, jvs, rfl, hja, pjs⟩ := hv
    have hlen := pLen pjs
    have hD2 := s2 _ _ upd_same
    have sB : Same H (del H2 D) := sDelR (s1.trans s2) hD
    have naD : ja ≠ D := by
      rintro rfl
      rw [hD2] at hja
      obtain rfl := HO.lst.inj (Option.some.inj hja)
      have := ok.judges.pos
      rw [List.length_map, ← hlen] at this
      exact absurd this (by decide)
    have hjB : del H2 D ja = some (.lst jvs) := by rw [del_ne naD]; exact hja
    have hLB := hL.mono sB
    refine ⟨ja, rfl, ⟨_, SqL.of hja⟩, ?_⟩
    refine for_it (walk_list (K := K) (a := ja) (xs := jvs)) (LoJ p D L (del H2 D)) ⟨⟨_, _, _, rfl⟩, [], ⟨Same.refl _, [], hD2, .nil⟩, .start⟩ (fun i σ H' _ z => by obtain ⟨_, ps, m, _⟩ := z; exact SqL.of (m.same _ _ hjB)) ?_ ?_
    · rintro k x σ H3 H4 hk ⟨⟨u2, u3, u4, rfl⟩, ps, m, F⟩ ⟨rfl, hx⟩
      obtain ⟨⟨j, d⟩, hj, t, y1, y2, rfl, ht, rfl, rfl⟩ := pGet pjs hx
      have ht4 : H4 t = some (.tup [.str j, .str d]) := by
        refine m.same _ _ ?_
        rw [del_ne fun e => ?_]
        · exact ht
        · subst e; rw [hD2] at ht; cases ht
      have hL4 := hLB.mono m.same
      obtain ⟨dx, pi, pj, pe, vj, ve, hp, _⟩ := hL4.ex
      have hjd := List.mem_of_getElem? hj
      refine ⟨t, _, rfl, SqT.of ht4, rfl, _, _, rfl, _, _, rfl, rfl, ?_⟩
      refine ⟨_, rfl, p, dx, _, rfl, hp, lf_no (by decide +kernel), _, rfl, p, L, j, d, rfl, hL4, ok, hjd, fun v Ss H5 s5 iS hv => ?_⟩
      obtain ⟨sa, svs, rfl, nsa, hsa, psv⟩ := hv
      have lS := pLen psv
      obtain ⟨m1, ws, hDm, rs⟩ := id m
      have hD5 := s5 _ _ hDm
      have nsD : sa ≠ D := (ne_of_none hDm nsa).symm
      have hsB : del H5 D sa = some (.lst svs) := by rw [del_ne nsD]; exact hsa
      have s4B : Same (del H2 D) (del H5 D) := m1.trans (sDel s5)
      have hL5B := hLB.mono s4B
      refine ⟨sa, rfl, ⟨_, SqL.of hsa⟩, ?_⟩
      refine for_it (walk_list (K := K) (a := sa) (xs := svs)) (LoS p D L (del H5 D) k Ss j d) ⟨⟨_, rfl⟩, ps, ⟨Same.refl _, ws, hD5, pMono (sDel s5) rs⟩, F.open_⟩ (fun i σ H' _ z => by obtain ⟨_, ps, m, _⟩ := z; exact SqL.of (m.same _ _ hsB)) ?_ ?_
      · rintro i x σ H6 H7 hi ⟨⟨u4, rfl⟩, ps2, n, F2⟩ ⟨rfl, hx⟩
        obtain ⟨S, hS, b, bs, rfl, hb, pb⟩ := pGet psv hx
        obtain ⟨q0, hq0, iSt⟩ := iS.each S (List.mem_of_getElem? hS)
        have neS : S ≠ [] := fun e => by
          have := (iSt.2 q0).mpr ⟨hq0, .refl⟩
          rw [e] at this
          cases this
        have hbD : b ≠ D := lst_apart hD5 rs hb pb neS
        have hb7 : H7 b = some (.lst bs) := n.same _ _ (by rw [del_ne hbD]; exact hb)
        have hL7 := hL5B.mono n.same
        obtain ⟨n1, ws2, hD7, rs2⟩ := id n
        refine ⟨_, rfl, _, rfl, _, rfl, _, rfl, p, b, L, d, S, rfl, hL7, by rw [hb7, pNat.mp pb], iSt.1, fun n' hn' => ?_, fun v H8 s8 hv => ?_⟩
        · obtain ⟨x, g, e⟩ := mem_ansJ.mp ((iSt.2 n').mp hn').1
          exact ⟨_, _, _, e⟩
        · obtain ⟨c, cs, rfl, nc, hc, pc⟩ := hv
          have hD8 := s8 _ _ hD7
          have F3 := F2.step hS hj iSt
          refine ⟨D, c, ws2, cs, rfl, rfl, hD8, hc, ?_, ⟨_, rfl⟩, ps2 ++ linksIn L.events d S S, ⟨?_, _, upd_same, ?_⟩, F3⟩
          · have l1 := F3.len
            rw [List.length_append, ← pLen rs2, ← pLen pc] at l1
            have l2 := ok.judges.le
            rw [List.length_map] at l2
            have l3 := iS.len
            have l4 : k ≤ 7 := by omega
            have l5 : i + 1 ≤ 120 := by omega
            exact Nat.le_trans (show _ ≤ 13824000 by omega) (by decide)
          · rw [del_upd]
            exact n1.trans (sDel s8)
          · rw [del_upd]
            exact pApp (pMono (sDel s8) rs2) (Paired.mapP pc fun _ _ z => tup_del hD8 z)
      · rintro σ H6 ⟨⟨u4, rfl⟩, ps2, n, F2⟩
        rw [lS] at F2
        exact ⟨⟨_, _, _, rfl⟩, ps2, ⟨s4B.trans n.1, n.2⟩, F2.turn hj iS⟩
    · rintro σ H3 ⟨⟨u2, u3, u4, rfl⟩, ps, m, F⟩
      obtain ⟨m1, ws, hDm, rs⟩ := id m
      refine ⟨_, rfl, D, ws, rfl, SqL.of hDm, fun x hx => ?_, fun ys b pm nb => ?_⟩
      · obtain ⟨n, hn⟩ := List.mem_iff_getElem?.mp hx
        obtain ⟨_, _, a, y, z, rfl, ha, rfl, rfl⟩ := pGet rs hn
        exact ⟨a, _, _, rfl, del_le _ _ ha⟩
      · obtain ⟨qs, pq, rq⟩ := pPerm pm rs
        rw [hlen] at F
        have s4 := sNew (o := .lst ys) nb
        exact q _ qs _ ((sB.trans m.same).trans s4) (F.done ok pq) ⟨b, ys, rfl, upd_same, pMono (del_le.trans s4) rq⟩
end
end Rb
namespace Rb
open PySem PySem.Spec PyProof.Rows L2
abbrev En := (Nat × Nat) × Str × Str
abbrev rEnd : Rp En := rT3 (rT2 rNat rNat) rStr rStr
def endOf (es : List Ev) (p : Nat × Nat) : En := ((p.1, p.2), iAt es p.1, iAt es p.2)
/-- all links with their items -/
structure EndsOk (L : LogD) (E : List En) : Prop where
  iff : ∀ l x y, (l, x, y) ∈ E ↔ Lk L l.1 l.2 ∧ x = iAt L.events l.1 ∧ y = iAt L.events l.2
  len : E.length ≤ 13824000
theorem EndsOk.of {L : LogD} {ps : List (Nat × Nat)} (h : LinksOk L ps) : EndsOk L (ps.map (endOf L.events)) := by
  refine ⟨fun l x y => ?_, by rw [List.length_map]; exact h.len⟩
  rw [List.mem_map]
  constructor
  · rintro ⟨⟨a, b⟩, hp, e⟩
    cases e
    exact ⟨(h.iff _ _).mp hp, rfl, rfl⟩
  · rintro ⟨hl, rfl, rfl⟩
    exact ⟨l, (h.iff _ _).mpr hl, rfl⟩
theorem Lk.ans {L : LogD} {a b : Nat} (h : Lk L a b) : a ∈ ansP L.events ∧ b ∈ ansP L.events := by
  obtain ⟨j, d, _, ha, hb, _⟩ := h
  exact ⟨(List.mem_filter.mp ha).1, (List.mem_filter.mp hb).1⟩
/-- the items of the first places -/
def ItD (es : List Ev) (S : List Nat) (i : Nat) (kvs : List (Key × V)) (_ : Hp) : Prop := ∀ k n, k < i → S[k]? = some n → valV kvs (.inl (n : Int)) = some (.str (iAt es n))
section
variable {P : Program} {w : World} {K : Frg} {mg : Str → Option Value} {base : Heap}
def spEndsOf (K : Frg) : Sp := fun vs H Q _ => ∃ (p : Addr) (L : LogD), vs = [.ref p] ∧ LogAt K H p L ∧ LogOk L ∧ ∀ v E H', Same H H' → EndsOk L E → rLst rEnd H' v E → Q v H'
theorem ok_ends_of (T : TX K mg) : OkF P w K mg base 8 (fA K "ends_of") ["log"] (spEndsOf K) := by
  refine okD T.D.d_ends_of sc_ends_of (fun vs H Q E h => ?_) (fun _ _ _ _ _ _ us hl => match us, hl with | [_], _ => rfl) (fun cdv A outer s H vs Q E hr h => ?_)
  · obtain ⟨p, L, rfl, _⟩ := h
    rfl
  · obtain ⟨p, L, rfl, hL, ok, q⟩ := h
    have nd := sc_ends_of.nd
    have GA := (ok_answers (P := P) (w := w) (base := base) T).mono (k := 7) (by decide)
    have GI := (ok_item_at (P := P) (w := w) (base := base) T).mono (k := 7) (by decide)
    have GL := ok_links_of (P := P) (w := w) (base := base) T
    refine ⟨_, pss_cons (ps_set (i := 1) nd rfl (Or.inr rfl) (pe_dc (own := [("place", 2)]) (g := gName 2) (tt := tYes) rfl nd (piL K (pmeth0 GA T.T.cl_Log T.M.m_Log_answers hr (pv 0))) (blkOk_by (N := N_ends_of) (sc := defScope s_ends_of) (by decide +kernel))
        (fun _ _ _ _ _ => pg_name (i := 2) nd rfl (Or.inl rfl)) (fun _ _ _ _ _ => pts_nil) (fun _ _ _ _ _ => pv 2) (fun _ _ _ _ _ => pmeth GI T.T.cl_Log T.M.m_Log_item_at hr (pv 0) (pa_cons (pv 2) pa_nil))))
      (pss_one (ps_ret (pe_lc (own := [("first", 3), ("second", 4)]) (tt := tYes) rfl nd (piL K (pcall GL hr rfl T.G.g_links_of (pa_cons (pv 0) pa_nil))) (blkOk_by (N := N_ends_of) (sc := defScope s_ends_of) (by decide +kernel))
        (fun _ _ _ _ _ => pgT K (n := 2) (pgs_cons (pg_name (i := 3) nd rfl (Or.inl rfl)) (pgs_cons (pg_name (i := 4) nd rfl (Or.inl rfl)) pgs_nil))) (fun _ _ _ _ _ => pts_nil)
        (fun _ _ _ _ _ => pe_tup (pa_cons (pe_tup (pa_cons (pv 3) (pa_cons (pv 4) pa_nil))) (pa_cons (pe_dget (hu_of hr) (pv 1) (pv 3) (fun _ _ => rfl)) (pa_cons (pe_dget (hu_of hr) (pv 1) (pv 4) (fun _ _ => rfl)) pa_nil))))))), ?_⟩
    obtain ⟨dx, pi, pj, pe, vj, ve, hp, _⟩ := hL.ex
    refine ⟨_, rfl, p, dx, _, rfl, hp, lf_no (by decide +kernel), p, L, rfl, hL, ok, fun v H1 s1 hv => ?_⟩
    obtain ⟨a, vs, rfl, ha, pa⟩ := hv
    have hlen := pLen pa
    have hL1 := hL.mono s1
    refine ⟨a, rfl, ⟨_, SqL.of ha⟩, fun D1 hD1 => dcP walk_list (ItD L.events (ansP L.events)) hD1 (by rw [hlen]; exact Nat.lt_of_le_of_lt (Nat.le_trans (outs_len _ _) ok.few) (by decide)) (fun _ e => SqL.of (e _ _ ha)) (fun k n hk => absurd hk (Nat.not_lt_zero _)) ?_ ?_⟩
    · rintro i x H2 H3 KT KF hi e _ ⟨rfl, hx⟩ kt kf
      obtain ⟨n, hn, rfl⟩ := pGet pa hx
      obtain ⟨j, it, g, ev⟩ := mem_ansP.mp (List.mem_of_getElem? hn)
      have hL2 := hL1.mono e
      obtain ⟨dx, pi, pj, pe, vj, ve, hp, _⟩ := hL2.ex
      refine ⟨rfl, yesD ⟨_, rfl, _, rfl, p, dx, _, rfl, hp, lf_no (by decide +kernel), _, rfl, p, L, n, j, it, g, rfl, hL2, ev, kt (.inl (n : Int)) _ _ (Same.refl _) fun kvs hk k m hkm hm => ?_⟩⟩
      rw [valV_put]
      by_cases hmn : m = n
      · subst hmn
        rw [if_pos rfl, iAt_eq ev]
      · rw [if_neg (inl_ne hmn)]
        refine hk k m ?_ hm
        rcases Nat.lt_succ_iff_lt_or_eq.mp hkm with z | z
        · exact z
        · subst z
          rw [hn] at hm
          exact absurd (Option.some.inj hm).symm hmn
    · intro H2 m1
      rw [hlen] at m1
      have s2 := m1.same
      obtain ⟨_, kvs, hk1, _, hgr⟩ := m1
      have hgr : ∀ n ∈ ansP L.events, valV kvs (.inl (n : Int)) = some (.str (iAt L.events n)) := fun n hn => by
        obtain ⟨k, hk, e⟩ := List.mem_iff_getElem.mp hn
        exact hgr k n hk (by rw [← e]; exact List.getElem?_eq_getElem hk)
      have hL2 := hL1.mono s2
      refine ⟨_, rfl, p, L, rfl, hL2, ok, fun v ps H3 s3 lok hv => ?_⟩
      obtain ⟨b, bs, rfl, hb, pb⟩ := hv
      have hlb := pLen pb
      have hk3 := s3 _ _ hk1
      refine ⟨b, rfl, ⟨_, SqL.of hb⟩, fun D hD => lcP walk_list rEnd hD (by rw [hlb]; exact Nat.lt_of_le_of_lt lok.len (by decide)) (fun i : Nat => (ps[i]?).map (endOf L.events)) (fun _ e => SqL.of (e _ _ hb)) ?_ ?_⟩
      · rintro i x H4 H5 KT KF hi e ⟨acc, hacc⟩ ⟨rfl, hx⟩ kt kf
        obtain ⟨⟨n1, n2⟩, hn, t, y1, y2, rfl, ht, rfl, rfl⟩ := pGet pb hx
        obtain ⟨a1, a2⟩ := Lk.ans ((lok.iff _ _).mp (List.mem_of_getElem? hn))
        have hk5 := e _ _ hk3
        refine ⟨t, _, rfl, SqT.of (e _ _ ht), rfl, _, _, rfl, _, _, rfl, rfl, rfl, yes_it ?_⟩
        refine ⟨_, rfl, _, rfl, (by show 2 ≤ sizeLine; decide), fun t2 nt2 => ?_⟩
        have s6 := sNew (o := .tup [.int (n1 : Int), .int (n2 : Int)]) nt2
        refine ⟨_, rfl, _, rfl, D1, _, rfl, dgetK (k := .inl (n1 : Int)) (s6 _ _ hk5) (hgr n1 a1), _, rfl, _, rfl, D1, _, rfl, dgetK (k := .inl (n2 : Int)) (s6 _ _ hk5) (hgr n2 a2), (by show 3 ≤ sizeLine; decide), fun t3 nt3 => ?_⟩
        have s7 := sNew (o := .tup [.ref t2, .str (iAt L.events n1), .str (iAt L.events n2)]) nt3
        have d2 : t2 ≠ D := (ne_of_none hacc nt2).symm
        have d3 : t3 ≠ D := (ne_of_none (s6 _ _ hacc) nt3).symm
        exact kt _ _ (endOf L.events (n1, n2)) (by rw [hn]; rfl) (s6.trans s7) ⟨t3, _, _, _, rfl, by rw [del_ne d3]; exact upd_same, ⟨t2, _, _, rfl, by rw [del_ne d2]; exact s7 _ _ upd_same, rfl, rfl⟩, rfl, rfl⟩
      · intro H4 m
        rw [hlb, outs_map] at m
        exact q _ _ _ (((s1.trans s2).trans s3).trans m.same) (.of lok) m.rep
end
end Rb
namespace Rb
open PySem PySem.Spec PyProof.Rows L2
/-- lengths of ways to an item -/
structure LenOk (E : List En) (better : Str) (kvs : List (Key × V)) : Prop where
  nat : ∀ x v, valV kvs (.inr x) = some v → ∃ n : Nat, v = .int (n : Int)
  back : ∀ x (n : Nat), valV kvs (.inr x) = some (.int ((n + 1 : Nat) : Int)) → ∃ l y, (l, x, y) ∈ E ∧ valV kvs (.inr y) = some (.int (n : Int))
  big : ∀ x (n : Nat), valV kvs (.inr x) = some (.int (n : Int)) → n < kvs.length
  least : ∀ Pr : Str → Prop, Pr better → (∀ l x y, (l, x, y) ∈ E → Pr y → Pr x) → ∀ x v, valV kvs (.inr x) = some v → Pr x
theorem inr_ne {a b : Str} (h : a ≠ b) : ¬ (Sum.inr a : Key) = .inr b := fun z => h (Sum.inr.inj z)
theorem LenOk.start {E : List En} {better : Str} : LenOk E better [(.inr better, .int ((0 : Nat) : Int))] := by
  have one : ∀ x v, valV [((.inr better : Key), V.int ((0 : Nat) : Int))] (.inr x) = some v → x = better ∧ v = .int ((0 : Nat) : Int) := fun x v h => by
    by_cases e : better = x
    · subst e
      rw [valV_pos rfl] at h
      exact ⟨rfl, (Option.some.inj h).symm⟩
    · rw [valV_neg (inr_ne e), valV_nil] at h
      cases h
  refine ⟨fun x v h => ⟨0, (one x v h).2⟩, fun x n h => ?_, fun x n h => ?_, fun Pr h0 _ x v h => (one x v h).1 ▸ h0⟩
  · have := V.int.inj (one _ _ h).2
    omega
  · have := V.int.inj (one _ _ h).2
    show n < 1
    omega
theorem LenOk.put {E : List En} {better x y : Str} {kvs : List (Key × V)} {n : Nat} {l : Nat × Nat} (h : LenOk E better kvs) (hx : valV kvs (.inr x) = none) (hy : valV kvs (.inr y) = some (.int (n : Int))) (he : (l, x, y) ∈ E) :
    LenOk E better (putK kvs (.inr x) (.int ((n + 1 : Nat) : Int))) := by
  have old : ∀ z v, valV kvs (.inr z) = some v → valV (putK kvs (.inr x) (.int ((n + 1 : Nat) : Int))) (.inr z) = some v := fun z v hz => by
    rw [valV_put]
    by_cases e : z = x
    · subst e; rw [hx] at hz; cases hz
    · rw [if_neg (inr_ne e)]; exact hz
  have ln : (putK kvs (.inr x) (.int ((n + 1 : Nat) : Int))).length = kvs.length + 1 := by rw [putK_new _ hx, List.length_append]; rfl
  refine ⟨fun z v hz => ?_, fun z k hz => ?_, fun z k hz => ?_, fun Pr h0 hs z v hz => ?_⟩
  · rw [valV_put] at hz
    by_cases e : z = x
    · subst e
      rw [if_pos rfl] at hz
      exact ⟨n + 1, (Option.some.inj hz).symm⟩
    · rw [if_neg (inr_ne e)] at hz
      exact h.nat z v hz
  · rw [valV_put] at hz
    by_cases e : z = x
    · subst e
      rw [if_pos rfl] at hz
      have h1 := V.int.inj (Option.some.inj hz)
      have h2 : k = n := by omega
      subst h2
      exact ⟨l, y, he, old _ _ hy⟩
    · rw [if_neg (inr_ne e)] at hz
      obtain ⟨l', y', h1, h2⟩ := h.back z k hz
      exact ⟨l', y', h1, old _ _ h2⟩
  · rw [ln]
    rw [valV_put] at hz
    by_cases e : z = x
    · subst e
      rw [if_pos rfl] at hz
      have h1 := V.int.inj (Option.some.inj hz)
      have h2 := h.big y n hy
      omega
    · rw [if_neg (inr_ne e)] at hz
      have h2 := h.big z k hz
      omega
  · rw [valV_put] at hz
    by_cases e : z = x
    · subst e
      exact hs l z y he (h.least Pr h0 hs y _ hy)
    · rw [if_neg (inr_ne e)] at hz
      exact h.least Pr h0 hs z v hz
/-- ends whose begin has no length yet -/
def unseen (E : List En) (kvs : List (Key × V)) : Nat := (E.filter fun e => (valV kvs (.inr e.2.1)).isNone).length
theorem filter_less {α : Type} {p q : α → Bool} (h : ∀ a, q a = true → p a = true) : ∀ {l : List α} {a : α}, a ∈ l → p a = true → q a = false → (l.filter q).length + 1 ≤ (l.filter p).length := by
  have le : ∀ l : List α, (l.filter q).length ≤ (l.filter p).length := fun l => by
    induction l with
    | nil => exact Nat.le_refl _
    | cons b l ih =>
      rw [List.filter_cons, List.filter_cons]
      by_cases hq : q b = true
      · rw [if_pos hq, if_pos (h b hq)]; exact Nat.succ_le_succ ih
      · rw [if_neg hq]
        split
        · exact Nat.le_succ_of_le ih
        · exact ih
  intro l
  induction l with
  | nil => intro a m; cases m
  | cons b l ih =>
    intro a m hp hq
    rw [List.filter_cons, List.filter_cons]
    rcases List.mem_cons.mp m with rfl | m
    · rw [if_neg (by rw [hq]; exact Bool.false_ne_true), if_pos hp]
      exact Nat.succ_le_succ (le l)
    · have := ih m hp hq
      by_cases hb : q b = true
      · rw [if_pos hb, if_pos (h b hb)]; exact Nat.succ_le_succ this
      · rw [if_neg hb]
        split
        · exact Nat.le_succ_of_le this
        · exact this
theorem unseen_put {E : List En} {x y : Str} {kvs : List (Key × V)} {v : V} {l : Nat × Nat} (hx : valV kvs (.inr x) = none) (he : (l, x, y) ∈ E) : unseen E (putK kvs (.inr x) v) + 1 ≤ unseen E kvs := by
  unfold unseen
  refine filter_less (fun a ha => ?_) he ?_ ?_
  · rw [valV_put] at ha
    by_cases e : a.2.1 = x
    · rw [e, if_pos rfl] at ha; cases ha
    · rw [if_neg (inr_ne e)] at ha; exact ha
  · show (valV kvs (.inr x)).isNone = true
    rw [hx]; rfl
  · show (valV (putK kvs (.inr x) v) (.inr x)).isNone = false
    rw [valV_put, if_pos rfl]; rfl
theorem unseen_le {E : List En} {kvs : List (Key × V)} : unseen E kvs ≤ E.length := List.length_filter_le _ _
section
variable {P : Program} {w : World} {K : Frg} {mg : Str → Option Value} {base : Heap}
/-- the loop's state: lengths at D, the queue at B -/
structure LenSt (E : List En) (better : Str) (H0 : Hp) (D B : Addr) (kvs : List (Key × V)) (xs : List Str) (H : Hp) : Prop where
  same : Same H0 H
  d : H D = some (.dK kvs)
  b : H B = some (.lst (xs.map V.str))
  ok : LenOk E better kvs
  keys : ∀ z ∈ xs, ∃ n : Nat, valV kvs (.inr z) = some (.int (n : Int))
  l1 : kvs.length + unseen E kvs ≤ E.length + 1
  l2 : xs.length + unseen E kvs ≤ E.length + 1
def spLengthsTo : Sp := fun vs H Q _ => ∃ (ea : Addr) (evs : List V) (E : List En) (better : Str), vs = [.ref ea, .str better] ∧ H ea = some (.lst evs) ∧ Paired (rEnd H) evs E ∧ E.length ≤ 13824000 ∧
  ∀ a kvs H', Same H H' → H a = none → H' a = some (.dK kvs) → LenOk E better kvs → kvs.length ≤ E.length + 1 → Q (.ref a) H'
theorem ok_lengths_to (T : TX K mg) : OkF P w K mg base 1 (fA K "lengths_to") ["ends", "better"] spLengthsTo := by
  refine okD T.D.d_lengths_to sc_lengths_to (fun vs H Q E h => ?_) (fun _ _ _ _ _ _ us hl => match us, hl with | [_, _], _ => rfl) (fun cdv A outer s H vs Q X hr h => ?_)
  · obtain ⟨ea, evs, E, better, rfl, _⟩ := h
    rfl
  · obtain ⟨ea, evs, E, better, rfl, hE, pE, few, q⟩ := h
    have nd := sc_lengths_to.nd
    refine ⟨_, pss_cons (ps_set (i := 2) nd rfl (Or.inl rfl) (pe_disp (pps_cons (pv 1) pe_int pps_nil) (by rfl) (by rfl) (fun z => by cases z) (by decide)))
      (pss_cons (ps_set (i := 3) nd rfl (Or.inl rfl) (pe_lst (pa_cons (pv 1) pa_nil)))
      (pss_cons (ps_while PassesOwn.never (pt_truth (pv 3) (by intro _; rfl))
        (pss_cons (ps_set (i := 4) nd rfl (Or.inl rfl) (pe_bm PySem.F.plainAttrs_list PySem.F.slot_list_pop PySem.F.type_list_pop mt_popAt (pv 3) (pa_cons pe_int pa_nil)))
        (pss_one (ps_for PassesOwn.never rfl (piL K (pv 0)) (pgT K (n := 3) (pgs_cons (pg_name (i := 5) nd rfl (Or.inl rfl)) (pgs_cons (pg_name (i := 6) nd rfl (Or.inl rfl)) (pgs_cons (pg_name (i := 7) nd rfl (Or.inl rfl)) pgs_nil))))
          (pss_one (ps_if (PW.pt (pw_and (pt_cmpR op_eq (pv 7) (pv 4) (nomark _)) (pw_and1 (pt_cmp (pc_dnotin (hu_of hr) (pv 6) (pv 2)) (by with_unfolding_all rfl)))))
            (pss_cons (ps_dput (hu_of hr) (pv 2) (pv 6) (pe_op op_add (pe_dget (hu_of hr) (pv 2) (pv 4) (fun _ _ => rfl)) pe_int) rfl)
            (pss_one (ps_expr (pe_bm PySem.F.plainAttrs_list PySem.F.slot_list_append PySem.F.type_list_append mt_append (pv 3) (pa_cons (pv 6) pa_nil))))) pss_nil))))))
      (pss_one (ps_ret (pv 2))))), ?_⟩
    refine fun D hD => ⟨_, rfl, upd_same, [(.inr better, .int ((0 : Nat) : Int))], rfl, (by show 1 ≤ 15; decide), _, rfl, (by show 1 ≤ sizeLine; decide), fun B hB => ?_⟩
    have hBD : B ≠ D := (ne_of_none upd_same hB).symm
    have hB0 : H B = none := by
      rw [upd_ne hBD, upd_ne hBD] at hB
      exact hB
    refine ⟨fun m σ H' => (∃ u4 u5 u6 u7, σ = [some (V.ref ea), some (V.str better), some (V.ref D), some (V.ref B), u4, u5, u6, u7]) ∧ ∃ kvs xs, LenSt E better H D B kvs xs H' ∧ m = unseen E kvs + xs.length, ⟨_, ⟨_, _, _, _, rfl⟩, [(.inr better, .int ((0 : Nat) : Int))], [better], ?_, rfl⟩, ?_⟩
    · refine ⟨sMut (sMut (sNew hD) hD) hB0, ?_, upd_same, .start, fun z hz => ?_, ?_, ?_⟩
      · rw [upd_ne hBD.symm]
        exact upd_same
      · rw [List.mem_singleton.mp hz]
        exact ⟨0, valV_pos rfl⟩
      · have := unseen_le (E := E) (kvs := [(.inr better, .int ((0 : Nat) : Int))])
        show 1 + _ ≤ _
        omega
      · have := unseen_le (E := E) (kvs := [(.inr better, .int ((0 : Nat) : Int))])
        show 1 + _ ≤ _
        omega
    · rintro m σ H1 ⟨⟨u4, u5, u6, u7, rfl⟩, kvs, xs, st, rfl⟩
      cases xs with
      | nil => exact ⟨_, rfl, false, .inl ⟨_, SqL.of st.b, rfl⟩, iteF ⟨_, rfl, q D kvs H1 st.same hD st.d st.ok (by have := st.l1; omega)⟩⟩
      | cons z r =>
        refine ⟨_, rfl, true, .inl ⟨_, SqL.of st.b, rfl⟩, iteT ⟨fun σ' H' => ∃ m', m' < unseen E kvs + (z :: r).length ∧ ((∃ u4 u5 u6 u7, σ' = [some (V.ref ea), some (V.str better), some (V.ref D), some (V.ref B), u4, u5, u6, u7]) ∧ ∃ kvs xs, LenSt E better H D B kvs xs H' ∧ m' = unseen E kvs + xs.length), fun _ _ h => h, ?_⟩⟩
        refine ⟨_, rfl, .inl ⟨rfl, _, SqL.of st.b⟩, B, _, 0, 0, .str z, rfl, rfl, st.b, by decide, by decide, ?_, rfl, ?_⟩
        · simp [seqIndex?]
        · have hD1 : upd H1 B (.lst (r.map V.str)) D = some (.dK kvs) := by rw [upd_ne hBD.symm]; exact st.d
          have sB1 : Same H (upd H1 B (.lst (r.map V.str))) := sMut st.same hB0
          have l1 := st.l1
          have l2 := st.l2
          rw [List.length_cons] at l2
          refine ⟨_, rfl, ea, rfl, ⟨_, SqL.of (sB1 _ _ hE)⟩, ?_⟩
          refine for_it (walk_list (K := K) (a := ea) (xs := evs)) (fun i σ H' => (∃ u5 u6 u7, σ = [some (V.ref ea), some (V.str better), some (V.ref D), some (V.ref B), some (V.str z), u5, u6, u7]) ∧ ∃ kvs' xs', LenSt E better H D B kvs' xs' H' ∧ (∃ n : Nat, valV kvs' (.inr z) = some (.int (n : Int))) ∧ unseen E kvs' + xs'.length < unseen E kvs + (z :: r).length)
            ⟨⟨_, _, _, rfl⟩, kvs, r, ⟨sB1, hD1, upd_same, st.ok, fun y hy => st.keys y (List.mem_cons_of_mem _ hy), l1, by omega⟩, st.keys z (.head _), Nat.lt_succ_self _⟩ (fun i σ H' _ w => by obtain ⟨_, _, _, st, _⟩ := w; exact SqL.of (st.same _ _ hE)) ?_ ?_
          · rintro i x σ H2 H3 hi ⟨⟨u5, u6, u7, rfl⟩, kv, ys, su, ⟨n, hn⟩, lt⟩ ⟨rfl, hx⟩
            obtain ⟨⟨l, x, y⟩, hE1, t, v1, v2, v3, rfl, ht, _, rfl, rfl⟩ := pGet pE hx
            have hmem := List.mem_of_getElem? hE1
            have next : ∀ (kv : List (Key × V)) (ys : List Str) (H6 : Hp), LenSt E better H D B kv ys H6 → (∃ n : Nat, valV kv (.inr z) = some (.int (n : Int))) → unseen E kv + ys.length < unseen E kvs + (z :: r).length →
              (∃ u5 u6 u7, [some (V.ref ea), some (V.str better), some (V.ref D), some (V.ref B), some (V.str z), some v1, some (V.str x), some (V.str y)] = [some (V.ref ea), some (V.str better), some (V.ref D), some (V.ref B), some (V.str z), u5, u6, u7]) ∧ ∃ kvs' xs', LenSt E better H D B kvs' xs' H6 ∧ (∃ n : Nat, valV kvs' (.inr z) = some (.int (n : Int))) ∧ unseen E kvs' + xs'.length < unseen E kvs + (z :: r).length := fun kv ys H6 a b c => ⟨⟨_, _, _, rfl⟩, kv, ys, a, b, c⟩
            refine ⟨t, _, rfl, SqT.of (su.same _ _ ht), rfl, _, _, rfl, _, _, rfl, _, _, rfl, rfl, ?_⟩
            refine ⟨_, rfl, _, rfl, rfl, _, rfl, ite2 (fun c1 => ?_) (fun c1 => iteF (next kv ys H3 su ⟨n, hn⟩ lt))⟩
            have ey : y = z := V.str.inj (of_decide_eq_true c1)
            subst ey
            refine ⟨_, rfl, _, rfl, D, _, rfl, DGet.k (k := .inr x) su.d, _, rfl, ite2 (fun c2 => ?_) (fun c2 => next kv ys H3 su ⟨n, hn⟩ lt)⟩
            have hnx : valV kv (.inr x) = none := by
              cases e : valV kv (.inr x) with
              | none => rfl
              | some v => rw [e] at c2; cases c2
            have un := unseen_put (v := .int ((n + 1 : Nat) : Int)) hnx hmem
            have k1 := su.l1
            have k2 := su.l2
            have lp := length_putK kv (.inr x) (.int ((n + 1 : Nat) : Int))
            have hB3 : upd H3 D (.dK (putK kv (.inr x) (.int ((n + 1 : Nat) : Int)))) B = some (.lst (ys.map V.str)) := by rw [upd_ne hBD]; exact su.b
            refine ⟨_, rfl, _, rfl, D, _, rfl, dgetK (k := .inr y) su.d hn, _, _, rfl, rfl, _, rfl, _, rfl, D, _, rfl, DPut.k (k := .inr x) su.d (Nat.lt_of_le_of_lt (show _ ≤ 13824001 by omega) (by decide)), ?_⟩
            refine ⟨_, rfl, .inl ⟨rfl, _, SqL.of hB3⟩, _, rfl, B, _, _, rfl, rfl, hB3, ?_, ?_⟩
            · rw [List.length_map]
              exact Nat.lt_of_le_of_lt (show _ ≤ 13824001 by omega) (by decide)
            · refine next (putK kv (.inr x) (.int ((n + 1 : Nat) : Int))) (ys ++ [x]) _ ⟨sMut (sMut su.same hD) hB0, ?_, ?_, su.ok.put hnx hn hmem, fun w hw => ?_, by omega, ?_⟩ ⟨n, ?_⟩ ?_
              · rw [upd_ne hBD.symm]
                exact upd_same
              · rw [List.map_append]
                exact upd_same
              · rcases List.mem_append.mp hw with hw | hw
                · obtain ⟨k, hk⟩ := su.keys w hw
                  refine ⟨k, ?_⟩
                  rw [valV_put, if_neg (inr_ne fun e => ?_)]
                  · exact hk
                  · rw [e, hnx] at hk; cases hk
                · rw [List.mem_singleton.mp hw]
                  exact ⟨n + 1, by rw [valV_put, if_pos rfl]⟩
              · rw [List.length_append]
                show ys.length + 1 + _ ≤ _
                omega
              · rw [valV_put, if_neg (inr_ne fun e => ?_)]
                · exact hn
                · rw [e, hnx] at hn; cases hn
              · rw [List.length_append]
                show _ + (ys.length + 1) < _
                omega
          · rintro σ H3 ⟨⟨u5, u6, u7, rfl⟩, kv, ys, st, _, lt⟩
            exact ⟨_, lt, ⟨_, _, _, _, rfl⟩, kv, ys, st, rfl⟩
end
end Rb
namespace Rb
open PySem PySem.Spec PyProof.Rows L2
/-- a way leads from an item to one that reaches another -/
def Ring (E : List En) (worse better : Str) : Prop := ∃ l y, (l, worse, y) ∈ E ∧ ∀ Pr : Str → Prop, Pr better → (∀ l x y, (l, x, y) ∈ E → Pr y → Pr x) → Pr y
def lenV (kvs : List (Key × V)) (y : Str) : Int := match valV kvs (.inr y) with
  | some (.int n) => n
  | _ => 0
theorem lenV_eq {kvs : List (Key × V)} {y : Str} {n : Int} (h : valV kvs (.inr y) = some (.int n)) : lenV kvs y = n := by unfold lenV; rw [h]
theorem len_scal {E : List En} {better : Str} {kvs : List (Key × V)} (lok : LenOk E better kvs) (y : Str) (k : Int) : scal ((valV kvs (.inr y)).getD .non) (.int k) = true := by
  cases e : valV kvs (.inr y) with
  | none => rfl
  | some v =>
    obtain ⟨n, rfl⟩ := lok.nat y v e
    rfl
theorem len_is {kvs : List (Key × V)} {y : Str} {k : Int} : (valV kvs (.inr y)).getD .non = .int k ↔ valV kvs (.inr y) = some (.int k) := by
  cases e : valV kvs (.inr y) with
  | none => simp
  | some v => simp
section
variable {P : Program} {w : World} {K : Frg} {mg : Str → Option Value} {base : Heap}
def FirstWay (E : List En) (worse better : Str) (H : Hp) (v : V) (H' : Hp) : Prop := v = .non ∨ (Ring E worse better ∧ ∃ way, way.length ≤ 13824001 ∧ newL (rT2 rNat rNat) H H' v way)
def spFirstWay : Sp := fun vs H Q _ => ∃ (ea : Addr) (evs : List V) (E : List En) (worse better : Str), vs = [.ref ea, .str worse, .str better] ∧ H ea = some (.lst evs) ∧ Paired (rEnd H) evs E ∧ E.length ≤ 13824000 ∧
  ∀ v H', Same H H' → FirstWay E worse better H v H' → Q v H'
theorem ok_first_way (T : TX K mg) : OkF P w K mg base 2 (fA K "first_way") ["ends", "worse", "better"] spFirstWay := by
  refine okD T.D.d_first_way sc_first_way (fun vs H Q E h => ?_) (fun _ _ _ _ _ _ us hl => match us, hl with | [_, _, _], _ => rfl) (fun cdv A outer s H vs Q X hr h => ?_)
  · obtain ⟨ea, evs, E, worse, better, rfl, _⟩ := h
    rfl
  · obtain ⟨ea, evs, E, worse, better, rfl, hE, pE, few, q⟩ := h
    have nd := sc_first_way.nd
    have hu := hr.units
    have G := ok_lengths_to (P := P) (w := w) (base := base) T
    refine ⟨_, pss_cons (ps_set (i := 3) nd rfl (Or.inr rfl) (pcall G hr rfl T.G.g_lengths_to (pa_cons (pv 0) (pa_cons (pv 2) pa_nil))))
      (pss_cons (ps_set (i := 4) nd rfl (Or.inr rfl) (pe_callBK (minD K hu) rfl T.B.b_min boot_min (pa_cons
          (pe_lc (own := [("_", 5), ("begin", 6), ("end", 7)]) rfl nd (piL K (pv 0)) (blkOk_by (N := N_first_way) (sc := defScope s_first_way) (by decide +kernel))
            (fun _ _ _ _ _ => pgT K (n := 3) (pgs_cons (pg_name (i := 5) nd rfl (Or.inl rfl)) (pgs_cons (pg_name (i := 6) nd rfl (Or.inl rfl)) (pgs_cons (pg_name (i := 7) nd rfl (Or.inl rfl)) pgs_nil))))
            (fun _ _ _ _ _ => pts_one (PW.pt (pw_and (pt_cmpR op_eq (pv 6) (pv 1) (nomark _)) (pw_and1 (pt_cmp (pc_din (hu_of hr) (pv 7) (pv 3)) (by with_unfolding_all rfl))))))
            (fun _ _ _ _ _ => pe_dget (hu_of hr) (pv 3) (pv 7) (fun _ _ => rfl))) pa_nil) (pk_cons pe_non pk_nil)))
      (pss_cons (ps_if (pt_cmpR op_isN (pv 4) pe_non (nomark _)) (pss_one (ps_ret pe_non)) pss_nil)
      (pss_cons (ps_set (i := 8) nd rfl (Or.inl rfl) (pe_lst pa_nil))
      (pss_cons (ps_set (i := 9) nd rfl (Or.inr rfl) (pv 1))
      (pss_cons (ps_while PassesOwn.never (pt_cmpR op_ge (pv 4) pe_int (nomark _))
        (pss_cons (ps_asg (pe_ix (ixL K) (pe_lc (own := [("link", 10), ("begin", 6), ("end", 7)]) rfl nd (piL K (pv 0)) (blkOk_by (N := N_first_way) (sc := defScope s_first_way) (by decide +kernel))
            (fun _ _ _ _ _ => pgT K (n := 3) (pgs_cons (pg_name (i := 10) nd rfl (Or.inl rfl)) (pgs_cons (pg_name (i := 6) nd rfl (Or.inl rfl)) (pgs_cons (pg_name (i := 7) nd rfl (Or.inl rfl)) pgs_nil))))
            (fun _ _ _ _ _ => pts_one (PW.pt (pw_and (pt_cmpR op_eq (pv 6) (pv 9) (nomark _)) (pw_and1 (pt_cmpR op_eq (pe_dget1 (hu_of hr) (pv 3) (pv 7) ⟨rfl, rfl, rfl, rfl⟩) (pv 4) (nomark _))))))
            (fun _ _ _ _ _ => pe_tup (pa_cons (pv 10) (pa_cons (pv 7) pa_nil)))) pe_int (fun _ _ => rfl)) (pgT K (n := 2) (pgs_cons (pg_name (i := 10) nd rfl (Or.inl rfl)) (pgs_cons (pg_name (i := 9) nd rfl (Or.inr rfl)) pgs_nil))))
        (pss_cons (ps_expr (pe_bm PySem.F.plainAttrs_list PySem.F.slot_list_append PySem.F.type_list_append mt_append (pv 8) (pa_cons (pv 10) pa_nil)))
        (pss_one (ps_aug (i := 4) nd rfl (Or.inr rfl) pe_int ip_sub)))))
      (pss_one (ps_ret (pv 8)))))))), ?_⟩
    refine ⟨_, rfl, _, rfl, ea, evs, E, better, rfl, hE, pE, few, fun D kvs H1 s1 nD hD lok lk => ?_⟩
    have hlen := pLen pE
    have hn : evs.length < sizeLine := by rw [hlen]; exact Nat.lt_of_le_of_lt few (by decide)
    have hE1 := s1 _ _ hE
    refine ⟨_, rfl, ea, rfl, ⟨_, SqL.of hE1⟩, fun C hC => lcP walk_list rInt hC hn (fun i : Nat => (E[i]?).bind fun e => if (decide (e.2.1 = worse) && (valV kvs (.inr e.2.2)).isSome) = true then some (lenV kvs e.2.2) else none) (fun _ e => SqL.of (e _ _ hE1)) ?_ ?_⟩
    · rintro i x H2 H3 KT KF hi e _ ⟨rfl, hx⟩ kt kf
      obtain ⟨⟨l, x, y⟩, hEi, t, v1, v2, v3, rfl, ht, _, rfl, rfl⟩ := pGet pE hx
      refine ⟨t, _, rfl, SqT.of ((s1.trans e) _ _ ht), rfl, _, _, rfl, _, _, rfl, _, _, rfl, rfl, rfl, _, rfl, _, rfl, rfl, _, rfl, ite2 (fun c1 => ?_) (fun c1 => iteF (kf _ ?_ (Same.refl _)))⟩
      · have c1 := V.str.inj (of_decide_eq_true c1)
        refine ⟨_, rfl, _, rfl, D, _, rfl, DGet.k (k := .inr y) (e _ _ hD), _, rfl, ite2 (fun c2 => ?_) (fun c2 => kf _ ?_ (Same.refl _))⟩
        · obtain ⟨v, hv⟩ := Option.isSome_iff_exists.mp c2
          obtain ⟨n, rfl⟩ := lok.nat y v hv
          refine ⟨_, rfl, _, rfl, D, _, rfl, dgetK (k := .inr y) (e _ _ hD) hv, kt _ _ (n : Int) ?_ (Same.refl _) rfl⟩
          rw [hEi]
          show (if (decide (x = worse) && (valV kvs (.inr y)).isSome) = true then some (lenV kvs y) else none) = _
          rw [c2, decide_eq_true c1, lenV_eq hv]
          rfl
        · rw [hEi]
          show (if (decide (x = worse) && (valV kvs (.inr y)).isSome) = true then some (lenV kvs y) else none) = _
          rw [Bool.eq_false_iff.mpr c2, Bool.and_false]
          rfl
      · rw [hEi]
        show (if (decide (x = worse) && (valV kvs (.inr y)).isSome) = true then some (lenV kvs y) else none) = _
        rw [decide_eq_false fun z => c1 (decide_eq_true (congrArg V.str z))]
        rfl
    · intro H2 m
      rw [hlen, outs_list] at m
      have s2 := s1.trans m.same
      have hE2 := s2 _ _ hE
      have hD2 := m.same _ _ hD
      refine ⟨C, _, .non, rfl, rfl, SqL.of m.ints, fun e => ?_, fun lf hm _ => ?_⟩
      · exact ⟨_, rfl, rfl, true, congrArg V.bl (decide_eq_true rfl), iteT (q .non _ s2 (.inl rfl))⟩
      · obtain ⟨⟨l0, x0, y0⟩, hmem, hf⟩ := List.mem_filterMap.mp hm
        have hg : (if (decide (x0 = worse) && (valV kvs (.inr y0)).isSome) = true then some (lenV kvs y0) else none) = some lf := hf
        clear hf
        by_cases hc : (decide (x0 = worse) && (valV kvs (.inr y0)).isSome) = true
        · rw [if_pos hc] at hg
          obtain ⟨hc1, hc2⟩ := (Bool.and_eq_true _ _).mp hc
          obtain rfl := of_decide_eq_true hc1
          obtain ⟨v, hv⟩ := Option.isSome_iff_exists.mp hc2
          obtain ⟨n, rfl⟩ := lok.nat y0 v hv
          rw [lenV_eq hv] at hg
          obtain rfl := Option.some.inj hg
          have ring : Ring E x0 better := ⟨l0, y0, hmem, fun Pr h0 hs => lok.least Pr h0 hs y0 _ hv⟩
          have hbig := lok.big y0 n hv
          refine ⟨_, rfl, rfl, false, congrArg V.bl (decide_eq_false fun z => nomatch z), iteF ?_⟩
          refine ⟨by show 0 ≤ sizeLine; decide, fun B hB => ⟨_, rfl, ?_⟩⟩
          have s3 : Same H2 (upd H2 B (.lst [])) := sNew hB
          refine ⟨fun m σ H' => ∃ (here : Str) (u : Option V) (i : Int), i = (m : Int) - 1 ∧ σ = [some (V.ref ea), some (V.str x0), some (V.str better), some (V.ref D), some (V.int i), none, none, none, some (V.ref B), some (V.str here), u] ∧
            (∀ k, m = k + 1 → ∃ l y, (l, here, y) ∈ E ∧ valV kvs (.inr y) = some (.int ((k : Nat) : Int))) ∧ ∃ way, MadeL (rT2 rNat rNat) H2 B way H' ∧ way.length + m ≤ 13824001, ⟨n + 1, x0, _, n, by omega, rfl, fun k hk => ?_, [], ⟨?_, [], upd_same, .nil⟩, by show 0 + (n + 1) ≤ _; omega⟩, ?_⟩
          · obtain rfl : k = n := by omega
            exact ⟨l0, y0, hmem, hv⟩
          · rw [del_upd]
            exact sDelR (Same.refl _) hB
          · rintro mm σ H5 ⟨here, u, i, hi, rfl, step, way, mw, lw⟩
            have sw := s2.trans mw.same
            cases mm with
            | zero => exact ⟨_, rfl, _, _, rfl, rfl, false, congrArg V.bl (decide_eq_false (by omega)), iteF ⟨_, rfl, q _ _ sw (.inr ⟨ring, way, lw, mw.new s2 hB⟩)⟩⟩
            | succ k =>
              obtain rfl : i = (k : Int) := by omega
              refine ⟨_, rfl, _, _, rfl, rfl, true, congrArg V.bl (decide_eq_true (by omega)), iteT ⟨fun σ' H' => ∃ m', m' < k + 1 ∧ ∃ (here : Str) (u : Option V) (i : Int), i = (m' : Int) - 1 ∧ σ' = [some (V.ref ea), some (V.str x0), some (V.str better), some (V.ref D), some (V.int i), none, none, none, some (V.ref B), some (V.str here), u] ∧
                (∀ k, m' = k + 1 → ∃ l y, (l, here, y) ∈ E ∧ valV kvs (.inr y) = some (.int ((k : Nat) : Int))) ∧ ∃ way, MadeL (rT2 rNat rNat) H2 B way H' ∧ way.length + m' ≤ 13824001, fun _ _ h => h, ?_⟩⟩
              have hE5 := sw _ _ hE
              have hD5 := mw.same _ _ hD2
              obtain ⟨mw1, wv, hB5, rw5⟩ := id mw
              refine ⟨_, rfl, ea, rfl, ⟨_, SqL.of hE5⟩, fun C2 hC2 => lcP walk_list (rT2 (rT2 rNat rNat) rStr) hC2 hn (fun i : Nat => (E[i]?).bind fun e => if (decide (e.2.1 = here) && decide (valV kvs (.inr e.2.2) = some (.int (k : Int)))) = true then some (e.1, e.2.2) else none) (fun _ e => SqL.of (e _ _ hE5)) ?_ ?_⟩
              · rintro i x H6 H7 KT KF hi e ⟨acc, hacc⟩ ⟨rfl, hx⟩ kt kf
                obtain ⟨⟨l, x, y⟩, hEi, t, v1, v2, v3, rfl, ht, hl, rfl, rfl⟩ := pGet pE hx
                have se := sw.trans e
                have hD7 := e _ _ hD5
                refine ⟨t, _, rfl, SqT.of (se _ _ ht), rfl, _, _, rfl, _, _, rfl, _, _, rfl, rfl, rfl, _, rfl, _, rfl, rfl, _, rfl, ite2 (fun c1 => ?_) (fun c1 => iteF (kf _ ?_ (Same.refl _)))⟩
                · have c1 := V.str.inj (of_decide_eq_true c1)
                  refine ⟨_, rfl, D, rfl, .inl ⟨_, .inl hD7⟩, _, rfl, _, DGet.k (k := .inr y) hD7, _, rfl, len_scal lok y k, _, rfl, ite2 (fun c2 => ?_) (fun c2 => kf _ ?_ (Same.refl _))⟩
                  · have c2 := len_is.mp (of_decide_eq_true c2)
                    refine ⟨_, rfl, _, rfl, (by show 2 ≤ sizeLine; decide), fun t2 nt2 => kt _ _ (l, y) ?_ (sNew nt2) ?_⟩
                    · rw [hEi]
                      show (if (decide (x = here) && decide (valV kvs (.inr y) = some (.int (k : Int)))) = true then some (l, y) else none) = _
                      rw [decide_eq_true c1, decide_eq_true c2]
                      rfl
                    · have d2 : t2 ≠ C2 := (ne_of_none hacc nt2).symm
                      refine ⟨t2, _, _, rfl, by rw [del_ne d2]; exact upd_same, ?_, rfl⟩
                      refine tup_del (sNew nt2 _ _ hacc) ?_
                      exact Mono.mono (se.trans (sNew nt2)) hl
                  · rw [hEi]
                    show (if (decide (x = here) && decide (valV kvs (.inr y) = some (.int (k : Int)))) = true then some (l, y) else none) = _
                    rw [decide_eq_false fun z => c2 (decide_eq_true (len_is.mpr z)), Bool.and_false]
                    rfl
                · rw [hEi]
                  show (if (decide (x = here) && decide (valV kvs (.inr y) = some (.int (k : Int)))) = true then some (l, y) else none) = _
                  rw [decide_eq_false fun z => c1 (decide_eq_true (congrArg V.str z))]
                  rfl
              · intro H6 m2
                rw [hlen, outs_list] at m2
                have s6 := m2.same
                obtain ⟨m21, cv, hC6, rc⟩ := m2
                obtain ⟨l1, y1, hm1, hv1⟩ := step k rfl
                have inn : (l1, y1) ∈ E.filterMap fun e => if (decide (e.2.1 = here) && decide (valV kvs (.inr e.2.2) = some (.int (k : Int)))) = true then some (e.1, e.2.2) else none := by
                  refine List.mem_filterMap.mpr ⟨_, hm1, ?_⟩
                  show (if (decide (here = here) && decide (valV kvs (.inr y1) = some (.int (k : Int)))) = true then some (l1, y1) else none) = _
                  rw [decide_eq_true rfl, decide_eq_true hv1]
                  rfl
                obtain ⟨⟨l2, y2⟩, h2⟩ : ∃ z, (E.filterMap fun e => if (decide (e.2.1 = here) && decide (valV kvs (.inr e.2.2) = some (.int (k : Int)))) = true then some (e.1, e.2.2) else none)[0]? = some z := by
                  cases hh : E.filterMap fun e => if (decide (e.2.1 = here) && decide (valV kvs (.inr e.2.2) = some (.int (k : Int)))) = true then some (e.1, e.2.2) else none with
                  | nil => rw [hh] at inn; cases inn
                  | cons a r => exact ⟨a, rfl⟩
                obtain ⟨⟨l3, x3, y3⟩, hm3, hf3⟩ := List.mem_filterMap.mp (List.mem_of_getElem? h2)
                have hf3 : (if (decide (x3 = here) && decide (valV kvs (.inr y3) = some (.int (k : Int)))) = true then some (l3, y3) else none) = some (l2, y2) := hf3
                have hc3 : (decide (x3 = here) && decide (valV kvs (.inr y3) = some (.int (k : Int)))) = true := by
                  by_cases z : (decide (x3 = here) && decide (valV kvs (.inr y3) = some (.int (k : Int)))) = true
                  · exact z
                  · rw [if_neg z] at hf3; cases hf3
                rw [if_pos hc3] at hf3
                cases hf3
                have hv3 := of_decide_eq_true ((Bool.and_eq_true _ _).mp hc3).2
                obtain ⟨cx, hcx, t2, vl, vy, rfl, ht2, hvl, rfl⟩ := pGet' rc h2
                have hB6 := s6 _ _ hB5
                refine ⟨C2, cv, 0, _, rfl, rfl, SqL.of hC6, atI_nat (j := 0) hcx, t2, _, rfl, SqT.of (del_le _ _ ht2), rfl, _, _, rfl, _, _, rfl, rfl, ?_⟩
                refine ⟨_, rfl, .inl ⟨rfl, _, SqL.of hB6⟩, _, rfl, B, wv, _, rfl, rfl, hB6, ?_, _, rfl, _, _, rfl, rfl, ?_⟩
                · rw [pLen rw5]
                  exact Nat.lt_of_le_of_lt (show _ ≤ 13824001 by omega) (by decide)
                · refine ⟨k, Nat.lt_succ_self _, y2, _, (k : Int) - 1, rfl, rfl, fun k' hk' => ?_, way ++ [l2], ⟨?_, _, upd_same, ?_⟩, ?_⟩
                  · subst hk'
                    exact lok.back y2 k' hv3
                  · rw [del_upd]
                    exact mw1.trans (sDel s6)
                  · rw [del_upd]
                    exact pSnoc (pMono (sDel s6) rw5) (tup_del hB6 (Mono.mono del_le hvl))
                  · rw [List.length_append]
                    show way.length + 1 + k ≤ _
                    omega
        · rw [if_neg hc] at hg
          cases hg
end
end Rb
namespace Rb
open PySem PySem.Spec PyProof.Rows L2
/-! ### relations of items -/
abbrev Rl := Str → Str → Bool
def stepR (m x : Str) (R : Rl) : Rl := fun a b => if a = x ∧ R x m = true then R x b || R m b else R a b
def turnR (xs : List Str) (m : Str) (R : Rl) : Rl := xs.foldl (fun R x => stepR m x R) R
def wars (ms xs : List Str) (R : Rl) : Rl := ms.foldl (fun R m => turnR xs m R) R
theorem turnR_snoc {xs : List Str} {m x : Str} {R : Rl} : turnR (xs ++ [x]) m R = stepR m x (turnR xs m R) := by
  unfold turnR
  rw [List.foldl_append]
  rfl
theorem wars_snoc {ms xs : List Str} {m : Str} {R : Rl} : wars (ms ++ [m]) xs R = turnR xs m (wars ms xs R) := by
  unfold wars
  rw [List.foldl_append]
  rfl
theorem stepR_no {m x : Str} {R : Rl} (h : ¬ R x m = true) : stepR m x R = R := by
  funext a b
  unfold stepR
  rw [if_neg fun z => h z.2]
/-! ### dicts keyed by the items -/
theorem valV_no {kvs : List (Key × V)} {k : Key} (h : k ∉ kvs.map (·.1)) : valV kvs k = none := by
  induction kvs with
  | nil => rfl
  | cons p r ih =>
    rw [valV_neg fun e => h (List.mem_map.mpr ⟨p, List.mem_cons_self .., e⟩)]
    exact ih fun m => h (List.mem_cons_of_mem _ m)
theorem valV_yes {kvs : List (Key × V)} {k : Key} (h : k ∈ kvs.map (·.1)) : ∃ v, valV kvs k = some v := by
  induction kvs with
  | nil => cases h
  | cons p r ih =>
    by_cases e : p.1 = k
    · exact ⟨_, valV_pos e⟩
    · rw [valV_neg e]
      rcases List.mem_cons.mp h with z | z
      · exact absurd z.symm e
      · exact ih z
theorem putK_keys {kvs : List (Key × V)} {k : Key} {v : V} (h : k ∈ kvs.map (·.1)) : (putK kvs k v).map (·.1) = kvs.map (·.1) := by
  have a : (kvs.any fun kv => decide (kv.1 = k)) = true := by
    obtain ⟨p, hp, e⟩ := List.mem_map.mp h
    exact List.any_eq_true.mpr ⟨p, hp, decide_eq_true e⟩
  unfold putK
  rw [if_pos a, List.map_map]
  refine List.map_congr_left fun p _ => ?_
  show (if p.1 = k then (p.1, v) else p).1 = p.1
  split <;> rfl
theorem putK_keys_new {kvs : List (Key × V)} {k : Key} {v : V} (h : k ∉ kvs.map (·.1)) : (putK kvs k v).map (·.1) = kvs.map (·.1) ++ [k] := by
  rw [putK_new _ (valV_no h), List.map_append]
  rfl
abbrev keysOf (items : List Str) : List Key := items.map Sum.inr
theorem key_in {items : List Str} {x : Str} : (Sum.inr x : Key) ∈ keysOf items ↔ x ∈ items := by
  constructor
  · intro h
    obtain ⟨y, hy, e⟩ := List.mem_map.mp h
    exact Sum.inr.inj e ▸ hy
  · exact fun h => List.mem_map_of_mem h
/-- a dict of rows -/
structure RowsOk (H : Hp) (items : List Str) (R : Rl) (kvs : List (Key × V)) : Prop where
  keys : kvs.map (·.1) = keysOf items
  rows : ∀ x ∈ items, ∃ b, valV kvs (.inr x) = some (.ref b) ∧ H b = some (.lst ((items.filter (R x)).map V.str))
theorem RowsOk.mono {H H' : Hp} {items : List Str} {R : Rl} {kvs : List (Key × V)} (e : Same H H') (h : RowsOk H items R kvs) : RowsOk H' items R kvs :=
  ⟨h.keys, fun x hx => by obtain ⟨b, h1, h2⟩ := h.rows x hx; exact ⟨b, h1, e _ _ h2⟩⟩
def RelD (H : Hp) (a : Addr) (items : List Str) (R : Rl) : Prop := ∃ kvs, H a = some (.dK kvs) ∧ RowsOk H items R kvs
theorem RelD.mono {H H' : Hp} {a : Addr} {items : List Str} {R : Rl} (e : Same H H') (h : RelD H a items R) : RelD H' a items R := by
  obtain ⟨kvs, h1, h2⟩ := h
  exact ⟨kvs, e _ _ h1, h2.mono e⟩
/-- one under construction at D -/
def MadeR (H0 : Hp) (D : Addr) (items : List Str) (R : Rl) (H : Hp) : Prop := Same H0 (del H D) ∧ ∃ kvs, H D = some (.dK kvs) ∧ RowsOk (del H D) items R kvs
theorem MadeR.same {H0 H : Hp} {D : Addr} {items : List Str} {R : Rl} (m : MadeR H0 D items R H) : Same H0 H := m.1.trans del_le
theorem MadeR.rel {H0 H : Hp} {D : Addr} {items : List Str} {R : Rl} (m : MadeR H0 D items R H) : RelD H D items R := by
  obtain ⟨_, kvs, h1, h2⟩ := m
  exact ⟨kvs, h1, h2.mono del_le⟩
/-- the first rows -/
def RowD (items : List Str) (R : Rl) (i : Nat) (kvs : List (Key × V)) (H : Hp) : Prop := kvs.map (·.1) = keysOf (items.take i) ∧ ∀ x ∈ items.take i, ∃ b, valV kvs (.inr x) = some (.ref b) ∧ H b = some (.lst ((items.filter (R x)).map V.str))
theorem RowD.put {items : List Str} {R : Rl} {i : Nat} {kvs : List (Key × V)} {H H' : Hp} {x : Str} {b : Addr} (nd : items.Nodup) (h : RowD items R i kvs H) (hx : items[i]? = some x) (e : Same H H') (hb : H' b = some (.lst ((items.filter (R x)).map V.str))) :
    RowD items R (i + 1) (putK kvs (.inr x) (.ref b)) H' := by
  have no : x ∉ items.take i := fun z => by
    obtain ⟨k, hk⟩ := List.mem_iff_getElem?.mp z
    have lt : k < i := by
      have := (List.getElem?_eq_some_iff.mp hk).1
      rw [List.length_take] at this
      omega
    rw [List.getElem?_take_of_lt lt] at hk
    have l1 := (List.getElem?_eq_some_iff.mp hk).1
    have e := (List.getElem?_inj l1 nd).mp (hk.trans hx.symm)
    omega
  refine ⟨?_, fun y hy => ?_⟩
  · rw [putK_keys_new (by rw [h.1]; exact fun z => no (key_in.mp z)), h.1, take_succ_get hx]
    show _ = List.map Sum.inr (items.take i ++ [x])
    rw [List.map_append]
    rfl
  · rw [valV_put]
    by_cases z : y = x
    · subst z
      exact ⟨b, if_pos rfl, hb⟩
    · rw [take_succ_get hx] at hy
      rcases List.mem_append.mp hy with hy | hy
      · obtain ⟨b', h1, h2⟩ := h.2 y hy
        exact ⟨b', by rw [if_neg (inr_ne z)]; exact h1, e _ _ h2⟩
      · exact absurd (List.mem_singleton.mp hy) z
theorem RowD.done {items : List Str} {R : Rl} {kvs : List (Key × V)} {H : Hp} (h : RowD items R items.length kvs H) : RowsOk H items R kvs := by
  unfold RowD at h
  rw [List.take_length] at h
  exact ⟨h.1, h.2⟩
theorem outs_filt {α : Type} (xs : List α) (f : α → Bool) : outs (fun i : Nat => (xs[i]?).bind fun n => if f n = true then some n else none) xs.length = xs.filter f := by
  rw [outs_list]
  induction xs with
  | nil => rfl
  | cons x xs ih =>
    rw [List.filterMap_cons, List.filter_cons]
    cases f x <;> simp [ih]
theorem get_str {zs : List Str} {i : Nat} {x : V} (h : (zs.map V.str)[i]? = some x) : ∃ z, zs[i]? = some z ∧ x = .str z := by
  rw [List.getElem?_map] at h
  cases e : zs[i]? with
  | none => rw [e] at h; cases h
  | some n => rw [e] at h; exact ⟨n, rfl, (Option.some.inj h).symm⟩
theorem in_row {items : List Str} {f : Str → Bool} {z : Str} (hz : z ∈ items) : inV (.str z) ((items.filter f).map V.str) = f z := by
  rw [inV_str]
  cases e : f z with
  | true => exact decide_eq_true (List.mem_filter.mpr ⟨hz, e⟩)
  | false => exact decide_eq_false fun m => by rw [(List.mem_filter.mp m).2] at e; cases e
theorem in_row2 {items : List Str} {f : Str → Bool} {z : Str} (hz : z ∈ items) : (if false = true then !inV (.str z) ((items.filter f).map V.str) else inV (.str z) ((items.filter f).map V.str)) = f z := by
  rw [if_neg Bool.false_ne_true]
  exact in_row hz
section
variable {P : Program} {w : World} {K : Frg} {mg : Str → Option Value} {base : Heap}
def relT (kd : List (List Key × V)) : Rl := fun x y => (valV kd [.inr x, .inr y]).isSome
def spReached : Sp := fun vs H Q _ => ∃ (ia da : Addr) (items : List Str) (kd : List (List Key × V)), vs = [.ref ia, .ref da] ∧ H ia = some (.lst (items.map V.str)) ∧ items.Nodup ∧ items.length ≤ 20 ∧ H da = some (.dT kd) ∧
  ∀ a H', Same H H' → H a = none → RelD H' a items (wars items items (relT kd)) → Q (.ref a) H'
theorem ok_reached (T : TX K mg) : OkF P w K mg base 1 (fA K "reached") ["items", "ends"] spReached := by
  refine okD T.D.d_reached sc_reached (fun vs H Q E h => ?_) (fun _ _ _ _ _ _ us hl => match us, hl with | [_, _], _ => rfl) (fun cdv A outer s H vs Q X hr h => ?_)
  · obtain ⟨ia, da, items, kd, rfl, _⟩ := h
    rfl
  · obtain ⟨ia, da, items, kd, rfl, hI, nI, few, hd, q⟩ := h
    have nd := sc_reached.nd
    have hu := hr.units
    refine ⟨_, pss_cons (ps_set (i := 2) nd rfl (Or.inr rfl) (pe_dc (own := [("item", 4)]) (g := gName 4) (tt := tYes) rfl nd (piL K (pv 0)) (blkOk_by (N := N_reached) (sc := defScope s_reached) (by decide +kernel)) (fun _ _ _ _ _ => pg_name (i := 4) nd rfl (Or.inr rfl)) (fun _ _ _ _ _ => pts_nil) (fun _ _ _ _ _ => pv 4)
        (fun _ _ _ _ _ => pe_lc (own := [("end", 3)]) rfl nd (piL K (pv 0)) (blkOk_by (N := N_reached) (by rfl)) (fun _ _ _ _ _ => pg_name (i := 3) nd rfl (Or.inl rfl))
          (fun _ _ _ _ _ => pts_one (pt_cmp (pc_din (hu_of hr) (pe_tup (pa_cons (pv 4) (pa_cons (pv 3) pa_nil))) (pv 1)) (by with_unfolding_all rfl))) (fun _ _ _ _ _ => pv 3))))
      (pss_cons (ps_for PassesOwn.never rfl (piL K (pv 0)) (pg_name (i := 5) nd rfl (Or.inr rfl))
        (pss_one (ps_for PassesOwn.never rfl (piL K (pv 0)) (pg_name (i := 4) nd rfl (Or.inr rfl))
          (pss_one (ps_if (pt_cmpR (inK K) (pv 5) (pe_dget (hu_of hr) (pv 2) (pv 4) (fun _ _ => rfl)) (by with_unfolding_all rfl))
            (pss_one (ps_dput (hu_of hr) (pv 2) (pv 4) (pe_lc (own := [("end", 3)]) rfl nd (piL K (pv 0)) (blkOk_by (N := N_reached) (sc := defScope s_reached) (by decide +kernel)) (fun _ _ _ _ _ => pg_name (i := 3) nd rfl (Or.inl rfl))
              (fun _ _ _ _ _ => pts_one (PW.pt (pw_or (pt_cmpR (inK K) (pv 3) (pe_dget (hu_of hr) (pv 2) (pv 4) (fun _ _ => rfl)) (by with_unfolding_all rfl)) (pw_or1 (pt_cmpR (inK K) (pv 3) (pe_dget (hu_of hr) (pv 2) (pv 5) (fun _ _ => rfl)) (by with_unfolding_all rfl)))))) (fun _ _ _ _ _ => pv 3)) rfl)) pss_nil)))))
      (pss_one (ps_ret (pv 2)))), ?_⟩
    have ll : (items.map V.str).length = items.length := List.length_map _
    have hn : (items.map V.str).length < sizeLine := by rw [ll]; exact Nat.lt_of_le_of_lt few (by decide)
    refine ⟨_, rfl, ia, rfl, ⟨_, SqL.of hI⟩, fun D hD => dcP walk_list (RowD items (relT kd)) hD hn (fun _ e => SqL.of (e _ _ hI)) ⟨rfl, fun _ m => nomatch m⟩ ?_ ?_⟩
    · rintro i x H2 H3 KT KF hi e ⟨kv0, hD2⟩ ⟨rfl, hx⟩ kt kf
      obtain ⟨x, hxi, rfl⟩ := get_str hx
      have hI3 := e _ _ hI
      refine ⟨rfl, yesD ⟨_, rfl, _, rfl, ia, rfl, ⟨_, SqL.of hI3⟩, fun C hC => lcP walk_list rStr hC hn (fun i : Nat => (items[i]?).bind fun y => if relT kd x y = true then some y else none) (fun _ e => SqL.of (e _ _ hI3)) ?_ ?_⟩⟩
      · rintro k y H4 H5 KT KF hk e2 _ ⟨rfl, hy⟩ kt kf
        obtain ⟨y, hyi, rfl⟩ := get_str hy
        refine ⟨rfl, _, rfl, _, rfl, (by show 2 ≤ sizeLine; decide), fun t nt => ?_⟩
        have st := sNew (o := .tup [.str x, .str y]) nt
        refine ⟨_, rfl, da, _, rfl, DGet.t (k := [.inr x, .inr y]) (st _ _ (e2 _ _ (e _ _ hd))) upd_same, _, rfl, ite2 (fun c => ?_) (fun c => kf _ ?_ st)⟩
        · exact ⟨_, rfl, kt _ _ y (by rw [hyi]; exact if_pos c) st rfl⟩
        · rw [hyi]
          exact if_neg c
      · intro H5 m
        rw [ll, outs_filt] at m
        refine kt (.inr x) _ _ m.same fun kvs h => h.put nI hxi (sDel m.same) ?_
        rw [del_ne (ne_of_none hD2 hC).symm]
        exact m.strs
    · intro H1 m
      rw [ll] at m
      obtain ⟨m1, kvs, m2, _, m3⟩ := m
      have mr : MadeR H D items (relT kd) H1 := ⟨m1, kvs, m2, m3.done⟩
      clear m1 m2 m3
      refine ⟨_, rfl, ia, rfl, ⟨_, SqL.of (mr.same _ _ hI)⟩, ?_⟩
      refine for_it (walk_list (K := K) (a := ia) (xs := items.map V.str)) (fun i σ H' => (∃ u4 u5, σ = [some (V.ref ia), some (V.ref da), some (V.ref D), none, u4, u5]) ∧ MadeR H D items (wars (items.take i) items (relT kd)) H')
        ⟨⟨_, _, rfl⟩, mr⟩ (fun i σ H' _ z => SqL.of (z.2.same _ _ hI)) ?_ ?_
      · rintro i x σ H2 H3 hi ⟨⟨u4, u5, rfl⟩, mr⟩ ⟨rfl, hx⟩
        obtain ⟨mid, hmi, rfl⟩ := get_str hx
        have hmid := List.mem_of_getElem? hmi
        refine ⟨_, rfl, ia, rfl, ⟨_, SqL.of (mr.same _ _ hI)⟩, ?_⟩
        refine for_it (walk_list (K := K) (a := ia) (xs := items.map V.str)) (fun k σ H' => (∃ u4, σ = [some (V.ref ia), some (V.ref da), some (V.ref D), none, u4, some (V.str mid)]) ∧ MadeR H D items (turnR (items.take k) mid (wars (items.take i) items (relT kd))) H')
          ⟨⟨_, rfl⟩, mr⟩ (fun i σ H' _ z => SqL.of (z.2.same _ _ hI)) ?_ ?_
        · rintro k x σ H3 H4 hk ⟨⟨u4, rfl⟩, mr⟩ ⟨rfl, hx⟩
          obtain ⟨x, hxi, rfl⟩ := get_str hx
          have hxm := List.mem_of_getElem? hxi
          have eR : turnR (items.take (k + 1)) mid (wars (items.take i) items (relT kd)) = stepR mid x (turnR (items.take k) mid (wars (items.take i) items (relT kd))) := by rw [take_succ_get hxi, turnR_snoc]
          generalize turnR (items.take (k + 1)) mid (wars (items.take i) items (relT kd)) = R' at eR ⊢
          generalize turnR (items.take k) mid (wars (items.take i) items (relT kd)) = R at mr eR
          subst eR
          have hI4 := mr.same _ _ hI
          obtain ⟨mr1, kvs, hD4, mr2⟩ := id mr
          obtain ⟨bx, bx1, bx2⟩ := mr2.rows x hxm
          obtain ⟨bm, bm1, bm2⟩ := mr2.rows mid hmid
          have bx3 := del_le _ _ bx2
          have bm3 := del_le _ _ bm2
          refine ⟨_, rfl, _, rfl, _, rfl, D, _, rfl, dgetK (k := .inr x) hD4 bx1, bx, _, rfl, .inl (SqL.of bx3), rfl, flat_strs _, ?_⟩
          rw [in_row2 hmid]
          refine ⟨_, rfl, ite2 (fun c => ?_) (fun c => ⟨⟨_, rfl⟩, by rw [stepR_no c]; exact mr⟩)⟩
          refine ⟨_, rfl, ia, rfl, ⟨_, SqL.of hI4⟩, fun C hC => lcP walk_list rStr hC hn (fun i : Nat => (items[i]?).bind fun y => if (R x y || R mid y) = true then some y else none) (fun _ e => SqL.of (e _ _ hI4)) ?_ ?_⟩
          · rintro n y H5 H6 KT KF hn5 e2 _ ⟨rfl, hy⟩ kt kf
            obtain ⟨y, hyi, rfl⟩ := get_str hy
            have hym := List.mem_of_getElem? hyi
            refine ⟨rfl, _, rfl, _, rfl, _, rfl, D, _, rfl, dgetK (k := .inr x) (e2 _ _ hD4) bx1, bx, _, rfl, .inl (SqL.of (e2 _ _ bx3)), rfl, flat_strs _, ?_⟩
            rw [in_row2 hym]
            refine ⟨_, rfl, ite2 (fun c1 => iteT ⟨_, rfl, kt _ _ y (by rw [hyi]; exact if_pos (by rw [c1]; rfl)) (Same.refl _) rfl⟩) (fun c1 => ?_)⟩
            refine ⟨_, rfl, _, rfl, _, rfl, D, _, rfl, dgetK (k := .inr mid) (e2 _ _ hD4) bm1, bm, _, rfl, .inl (SqL.of (e2 _ _ bm3)), rfl, flat_strs _, ?_⟩
            rw [in_row2 hym]
            refine ⟨_, rfl, ite2 (fun c2 => ⟨_, rfl, kt _ _ y (by rw [hyi]; exact if_pos (by rw [c2, Bool.or_true])) (Same.refl _) rfl⟩) (fun c2 => kf _ (by rw [hyi]; exact if_neg (by rw [Bool.eq_false_iff.mpr c1, Bool.eq_false_iff.mpr c2]; exact Bool.false_ne_true)) (Same.refl _))⟩
          · intro H5 m5
            rw [ll, outs_filt] at m5
            have s5 := m5.same
            have hD5 := s5 _ _ hD4
            have hCD : C ≠ D := (ne_of_none hD4 hC).symm
            have lk : kvs.length ≤ 20 := by
              have := congrArg List.length mr2.keys
              rw [List.length_map, List.length_map] at this
              omega
            refine ⟨_, rfl, _, rfl, D, _, rfl, DPut.k (k := .inr x) hD5 (Nat.lt_of_le_of_lt lk (by decide)), ⟨_, rfl⟩, ?_, _, upd_same, ?_, fun y hy => ?_⟩
            · rw [del_upd]
              exact mr1.trans (sDel s5)
            · rw [putK_keys (by rw [mr2.keys]; exact key_in.mpr hxm)]
              exact mr2.keys
            · rw [del_upd, valV_put]
              by_cases z : y = x
              · subst z
                refine ⟨C, if_pos rfl, ?_⟩
                rw [del_ne hCD, m5.strs]
                refine congrArg (fun l => some (HO.lst (List.map V.str l))) (List.filter_congr fun b _ => ?_)
                unfold stepR
                rw [if_pos ⟨rfl, c⟩]
              · obtain ⟨b, h1, h2⟩ := mr2.rows y hy
                refine ⟨b, by rw [if_neg (inr_ne z)]; exact h1, ?_⟩
                rw [sDel s5 _ _ h2]
                refine congrArg (fun l => some (HO.lst (List.map V.str l))) (List.filter_congr fun b _ => ?_)
                unfold stepR
                rw [if_neg fun q => z q.1]
        · rintro σ H3 ⟨⟨u4, rfl⟩, mr⟩
          rw [ll, List.take_length] at mr
          refine ⟨⟨_, _, rfl⟩, ?_⟩
          rw [take_succ_get hmi, wars_snoc]
          exact mr
      · rintro σ H3 ⟨⟨u4, u5, rfl⟩, mr⟩
        rw [ll, List.take_length] at mr
        exact ⟨_, rfl, q D _ mr.same hD mr.rel⟩
end
end Rb
namespace Rb
open PySem PySem.Spec PyProof.Rows L2
/-- items with a link between them -/
def LRp (L : LogD) (x y : Str) : Prop := ∃ a b, Lk L a b ∧ x = iAt L.events a ∧ y = iAt L.events b
open Classical in
noncomputable def LR (L : LogD) : Rl := fun x y => decide (LRp L x y)
open Classical in
theorem LR_iff {L : LogD} {x y : Str} : LR L x y = true ↔ LRp L x y := by
  unfold LR
  exact decide_eq_true_iff
theorem EndsOk.rel {L : LogD} {E : List En} (h : EndsOk L E) {x y : Str} : (∃ l, (l, x, y) ∈ E) ↔ LRp L x y := by
  constructor
  · rintro ⟨l, hl⟩
    obtain ⟨h1, h2, h3⟩ := (h.iff l x y).mp hl
    exact ⟨_, _, h1, h2, h3⟩
  · rintro ⟨a, b, h1, h2, h3⟩
    exact ⟨(a, b), (h.iff (a, b) x y).mpr ⟨h1, h2, h3⟩⟩
noncomputable def WR (L : LogD) : Rl := wars L.items L.items (LR L)
/-- the first places are kept -/
def KpD (S : List Nat) (i : Nat) (kvs : List (Key × V)) (_ : Hp) : Prop := ∀ k n, k < i → S[k]? = some n → (valV kvs (.inl (n : Int))).isSome = true
theorem relT_put {kd : List (List Key × V)} {x y a b : Str} {v : V} : relT (putK kd [.inr x, .inr y] v) a b = true ↔ (a = x ∧ b = y) ∨ relT kd a b = true := by
  unfold relT
  rw [valV_put]
  by_cases e : ([.inr a, .inr b] : List Key) = [.inr x, .inr y]
  · rw [if_pos e]
    have e1 := Sum.inr.inj (List.cons.inj e).1
    have e2 := Sum.inr.inj (List.cons.inj (List.cons.inj e).2).1
    exact ⟨fun _ => .inl ⟨e1, e2⟩, fun _ => rfl⟩
  · rw [if_neg e]
    constructor
    · exact fun h => .inr h
    · rintro (⟨rfl, rfl⟩ | h)
      · exact absurd rfl e
      · exact h
section
variable {P : Program} {w : World} {K : Frg} {mg : Str → Option Value} {base : Heap}
def spBetterBy (K : Frg) : Sp := fun vs H Q _ => ∃ (p pa : Addr) (L : LogD), vs = [.ref p, .ref pa] ∧ LogAt K H p L ∧ LogOk L ∧ H pa = some (.lst ((ansP L.events).map fun n : Nat => V.int (n : Int))) ∧ ∀ a H', Same H H' → H a = none → RelD H' a L.items (WR L) → Q (.ref a) H'
theorem ok_better_by (T : TX K mg) : OkF P w K mg base 9 (fA K "better_by") ["log", "places"] (spBetterBy K) := by
  refine okD T.D.d_better_by sc_better_by (fun vs H Q E h => ?_) (fun _ _ _ _ _ _ us hl => match us, hl with | [_, _], _ => rfl) (fun cdv A outer s H vs Q X hr h => ?_)
  · obtain ⟨p, pa, L, rfl, _⟩ := h
    rfl
  · obtain ⟨p, pa, L, rfl, hL, ok, hpa, q⟩ := h
    have nd := sc_better_by.nd
    have GE := ok_ends_of (P := P) (w := w) (base := base) T
    have GR := (ok_reached (P := P) (w := w) (base := base) T).mono (k := 8) (by decide)
    have GI := (ok_items (P := P) (w := w) (base := base) T)
    refine ⟨_, pss_cons (ps_setDc (i := 2) (own := [("place", 3)]) (g := gName 3) (tt := tYes) nd rfl rfl (dc_swaps rfl rfl rfl (by decide +kernel)) (piL K (pv 1)) (blkOk_by (N := N_better_by) (sc := defScope s_better_by) (by decide +kernel))
        (fun _ _ _ _ _ => pg_name (i := 3) nd rfl (Or.inl rfl)) (fun _ _ _ _ _ => pts_nil) (fun _ _ _ _ _ => pv 3) (fun _ _ _ _ _ => pe_bl))
      (pss_cons (ps_set (i := 4) nd rfl (Or.inl rfl) pe_dnewT)
      (pss_cons (ps_for PassesOwn.never rfl (piL K (pcall GE hr rfl T.G.g_ends_of (pa_cons (pv 0) pa_nil))) (pgT K (n := 3) (pgs_cons (pgT K (n := 2) (pgs_cons (pg_name (i := 5) nd rfl (Or.inl rfl)) (pgs_cons (pg_name (i := 6) nd rfl (Or.inl rfl)) pgs_nil))) (pgs_cons (pg_name (i := 7) nd rfl (Or.inl rfl)) (pgs_cons (pg_name (i := 8) nd rfl (Or.inl rfl)) pgs_nil))))
        (pss_one (ps_if (PW.pt (pw_and (pt_cmp (pc_din (hu_of hr) (pv 5) (pv 2)) (by with_unfolding_all rfl)) (pw_and1 (pt_cmp (pc_din (hu_of hr) (pv 6) (pv 2)) (by with_unfolding_all rfl)))))
          (pss_one (ps_dput (hu_of hr) (pv 4) (pe_tup (pa_cons (pv 7) (pa_cons (pv 8) pa_nil))) pe_bl rfl)) pss_nil)))
      (pss_one (ps_ret (pcall GR hr rfl T.G.g_reached (pa_cons (pprop GI T.T.cl_Log (hr.mono (by decide)) (pv 0)) (pa_cons (pv 4) pa_nil))))))), ?_⟩
    have ll : ((ansP L.events).map fun n : Nat => V.int (n : Int)).length = (ansP L.events).length := List.length_map _
    refine ⟨_, rfl, pa, rfl, ⟨_, SqL.of hpa⟩, fun D1 hD1 => dcP walk_list (KpD (ansP L.events)) hD1 (by rw [ll]; exact Nat.lt_of_le_of_lt (Nat.le_trans (outs_len _ _) ok.few) (by decide)) (fun _ e => SqL.of (e _ _ hpa)) (fun k n hk => absurd hk (Nat.not_lt_zero _)) ?_ ?_⟩
    · rintro i x H2 H3 KT KF hi e _ ⟨rfl, hx⟩ kt kf
      obtain ⟨n, hn, rfl⟩ := get_int hx
      refine ⟨rfl, yesD ⟨_, rfl, kt (.inl (n : Int)) _ _ (Same.refl _) fun kvs hk k m hkm hm => ?_⟩⟩
      rw [valV_put]
      by_cases hmn : m = n
      · subst hmn
        rw [if_pos rfl]
        rfl
      · rw [if_neg (inl_ne hmn)]
        refine hk k m ?_ hm
        rcases Nat.lt_succ_iff_lt_or_eq.mp hkm with z | z
        · exact z
        · subst z
          rw [hn] at hm
          exact absurd (Option.some.inj hm).symm hmn
    · intro H1 m1
      rw [ll] at m1
      have s1 := m1.same
      obtain ⟨_, kvs, hD, _, hk⟩ := m1
      have hk : ∀ n ∈ ansP L.events, (valV kvs (.inl (n : Int))).isSome = true := fun n hn => by
        obtain ⟨k, hk1, e⟩ := List.mem_iff_getElem.mp hn
        exact hk k n hk1 (by rw [← e]; exact List.getElem?_eq_getElem hk1)
      refine fun D2 hD2 => ?_
      have s2 := sNew (o := .dT []) hD2
      have hL2 := (hL.mono s1).mono s2
      refine ⟨_, rfl, p, L, rfl, hL2, ok, fun v E H3 s3 eok hv => ?_⟩
      obtain ⟨ea, evs, rfl, hE, pE⟩ := hv
      have hlen := pLen pE
      have hD23 := s3 _ _ upd_same
      refine ⟨ea, rfl, ⟨_, SqL.of hE⟩, ?_⟩
      have s13 : Same H1 H3 := s2.trans s3
      -- H3 without D2
      have sB : Same H1 (del H3 D2) := sDelR s13 hD2
      have hEn : ea ≠ D2 := by rintro rfl; rw [hD23] at hE; cases hE
      have hEB : del H3 D2 ea = some (.lst evs) := by rw [del_ne hEn]; exact hE
      have tB : ∀ t xs, H3 t = some (.tup xs) → del H3 D2 t = some (.tup xs) := fun t xs ht => by
        rw [del_ne fun e => ?_]
        · exact ht
        · subst e; rw [hD23] at ht; cases ht
      refine for_it (walk_list (K := K) (a := ea) (xs := evs)) (fun i σ H' => (∃ u5 u6 u7 u8, σ = [some (V.ref p), some (V.ref pa), some (V.ref D1), none, some (V.ref D2), u5, u6, u7, u8]) ∧ Same (del H3 D2) H' ∧ ∃ kd, H' D2 = some (.dT kd) ∧ kd.length ≤ i ∧ ∀ x y, relT kd x y = true ↔ ∃ n l, n < i ∧ E[n]? = some (l, x, y))
        ⟨⟨_, _, _, _, rfl⟩, del_le, [], hD23, Nat.le_refl _, fun x y => ⟨fun h => (nomatch h), fun ⟨n, _, h, _⟩ => absurd h (Nat.not_lt_zero _)⟩⟩ (fun i σ H' _ z => SqL.of (z.2.1 _ _ hEB)) ?_ ?_
      · rintro i x σ H4 H5 hi ⟨⟨u5, u6, u7, u8, rfl⟩, s5, kd, hD5, lk, rel⟩ ⟨rfl, hx⟩
        obtain ⟨⟨⟨n1, n2⟩, x, y⟩, hEi, t, v1, v2, v3, rfl, ht, ⟨t2, w1, w2, rfl, ht2, rfl, rfl⟩, rfl, rfl⟩ := pGet pE hx
        obtain ⟨lk1, e1, e2⟩ := (eok.iff _ x y).mp (List.mem_of_getElem? hEi)
        obtain ⟨a1, a2⟩ := lk1.ans
        have hk5 := s5 _ _ (sB _ _ hD)
        refine ⟨t, _, rfl, SqT.of (s5 _ _ (tB _ _ ht)), rfl, _, _, rfl, ⟨t2, _, rfl, SqT.of (s5 _ _ (tB _ _ ht2)), rfl, _, _, rfl, _, _, rfl, rfl, ?_⟩⟩
        refine ⟨_, _, rfl, _, _, rfl, rfl, ?_⟩
        refine ⟨_, rfl, _, rfl, D1, _, rfl, DGet.k (k := .inl (n1 : Int)) hk5, true, congrArg V.bl (hk n1 a1), iteT ?_⟩
        refine ⟨_, rfl, _, rfl, D1, _, rfl, DGet.k (k := .inl (n2 : Int)) hk5, true, congrArg V.bl (hk n2 a2), iteT ?_⟩
        refine ⟨_, rfl, _, rfl, _, rfl, (by show 2 ≤ sizeLine; decide), fun t3 nt3 => ?_⟩
        have s6 := sNew (o := .tup [.str x, .str y]) nt3
        have t3D : t3 ≠ D2 := (ne_of_none hD5 nt3).symm
        refine ⟨D2, _, rfl, DPut.t (k := [.inr x, .inr y]) (s6 _ _ hD5) upd_same (Nat.lt_of_le_of_lt lk (by rw [hlen] at hi; exact Nat.lt_trans (Nat.lt_of_lt_of_le hi eok.len) (by decide))), ⟨_, _, _, _, rfl⟩, ?_, _, upd_same, ?_, fun a b => ?_⟩
        · exact sMut (s5.trans s6) del_same
        · have := length_putK kd [.inr x, .inr y] (.bl true)
          omega
        · rw [relT_put]
          constructor
          · rintro (⟨rfl, rfl⟩ | h)
            · exact ⟨i, _, Nat.lt_succ_self _, hEi⟩
            · obtain ⟨n, l, h1, h2⟩ := (rel a b).mp h
              exact ⟨n, l, Nat.lt_succ_of_lt h1, h2⟩
          · rintro ⟨n, l, h1, h2⟩
            rcases Nat.lt_succ_iff_lt_or_eq.mp h1 with h1 | rfl
            · exact .inr ((rel a b).mpr ⟨n, l, h1, h2⟩)
            · rw [hEi] at h2
              cases h2
              exact .inl ⟨rfl, rfl⟩
      · rintro σ H4 ⟨⟨u5, u6, u7, u8, rfl⟩, s4, kd, hD4, lk, rel⟩
        have eR : relT kd = LR L := by
          funext x y
          rw [Bool.eq_iff_iff, rel, LR_iff, ← eok.rel, hlen]
          constructor
          · rintro ⟨n, l, _, h⟩
            exact ⟨l, List.mem_of_getElem? h⟩
          · rintro ⟨l, h⟩
            obtain ⟨n, hn⟩ := List.mem_iff_getElem?.mp h
            exact ⟨n, l, (List.getElem?_eq_some_iff.mp hn).1, hn⟩
        have s14 := sB.trans s4
        have s04 := s1.trans s14
        have hL4 := hL.mono s04
        obtain ⟨dx, pi, pj, pe, vj, ve, hp, _⟩ := hL4.ex
        refine ⟨_, rfl, p, dx, _, rfl, hp, p, L, rfl, hL4, fun l H5 s5 hl => ⟨_, rfl, l, D2, L.items, kd, rfl, hl, ok.items.nd, ok.items.le, s5 _ _ hD4, fun a H6 s6 na hr6 => q a H6 ((s04.trans s5).trans s6) ((s04.trans s5).free na) ?_⟩⟩
        rw [eR] at hr6
        exact hr6
def spWorseThan (K : Frg) : Sp := fun vs H Q _ => ∃ (p : Addr) (L : LogD), vs = [.ref p] ∧ LogAt K H p L ∧ LogOk L ∧ ∀ a H', Same H H' → H a = none → RelD H' a L.items (fun x y => WR L y x) → Q (.ref a) H'
theorem ok_worse_than (T : TX K mg) : OkF P w K mg base 10 (fA K "worse_than") ["log"] (spWorseThan K) := by
  refine okD T.D.d_worse_than sc_worse_than (fun vs H Q E h => ?_) (fun _ _ _ _ _ _ us hl => match us, hl with | [_], _ => rfl) (fun cdv A outer s H vs Q X hr h => ?_)
  · obtain ⟨p, L, rfl, _⟩ := h
    rfl
  · obtain ⟨p, L, rfl, hL, ok, q⟩ := h
    have nd := sc_worse_than.nd
    have GB := ok_better_by (P := P) (w := w) (base := base) T
    have GA := (ok_answers (P := P) (w := w) (base := base) T).mono (k := 9) (by decide)
    have GI := (ok_items (P := P) (w := w) (base := base) T)
    refine ⟨_, pss_cons (ps_set (i := 1) nd rfl (Or.inr rfl) (pcall GB hr rfl T.G.g_better_by (pa_cons (pv 0) (pa_cons (pmeth0 GA T.T.cl_Log T.M.m_Log_answers hr (pv 0)) pa_nil))))
      (pss_one (ps_ret (pe_dc (own := [("item", 3)]) (g := gName 3) (tt := tYes) rfl nd (piL K (pprop GI T.T.cl_Log (hr.mono (by decide)) (pv 0))) (blkOk_by (N := N_worse_than) (sc := defScope s_worse_than) (by decide +kernel)) (fun _ _ _ _ _ => pg_name (i := 3) nd rfl (Or.inr rfl)) (fun _ _ _ _ _ => pts_nil) (fun _ _ _ _ _ => pv 3)
        (fun _ _ _ _ _ => pe_lc (own := [("worse", 2)]) rfl nd (piL K (pprop GI T.T.cl_Log (hr.mono (by decide)) (pv 0))) (blkOk_by (N := N_worse_than) (by rfl)) (fun _ _ _ _ _ => pg_name (i := 2) nd rfl (Or.inl rfl))
          (fun _ _ _ _ _ => pts_one (pt_cmpR (inK K) (pv 3) (pe_dget (hu_of hr) (pv 1) (pv 2) (fun _ _ => rfl)) (by with_unfolding_all rfl))) (fun _ _ _ _ _ => pv 2))))), ?_⟩
    obtain ⟨dx, pi, pj, pe, vj, ve, hp, _⟩ := hL.ex
    refine ⟨_, rfl, _, rfl, p, dx, _, rfl, hp, lf_no (by decide +kernel), p, L, rfl, hL, ok, fun v H1 s1 hv => ?_⟩
    obtain ⟨pa, vs, rfl, ha, pp⟩ := hv
    rw [pNat.mp pp] at ha
    refine ⟨p, pa, L, rfl, hL.mono s1, ok, ha, fun B H2 s2 nB hB => ?_⟩
    have s02 := s1.trans s2
    have hL2 := hL.mono s02
    obtain ⟨kvB, hBd, rB⟩ := hB
    obtain ⟨dx, pi, pj, pe, vj, ve, hp, _⟩ := hL2.ex
    refine ⟨_, rfl, p, dx, _, rfl, hp, p, L, rfl, hL2, fun l H3 s3 hl => ?_⟩
    have ll : (L.items.map V.str).length = L.items.length := List.length_map _
    have few := ok.items.le
    have hn : (L.items.map V.str).length < sizeLine := by rw [ll]; exact Nat.lt_of_le_of_lt few (by decide)
    refine ⟨l, rfl, ⟨_, SqL.of hl⟩, fun D hD => dcP walk_list (RowD L.items fun x y => WR L y x) hD hn (fun _ e => SqL.of (e _ _ hl)) ⟨rfl, fun _ m => nomatch m⟩ ?_ ?_⟩
    · rintro i x H4 H5 KT KF hi e ⟨kv0, hD2⟩ ⟨rfl, hx⟩ kt kf
      obtain ⟨x, hxi, rfl⟩ := get_str hx
      have hxm := List.mem_of_getElem? hxi
      have s5 := s3.trans e
      have hL5 := hL2.mono s5
      obtain ⟨dx, pi, pj, pe, vj, ve, hp, _⟩ := hL5.ex
      refine ⟨rfl, yesD ⟨_, rfl, _, rfl, p, dx, _, rfl, hp, p, L, rfl, hL5, fun l2 H6 s6 hl2 => ⟨l2, rfl, ⟨_, SqL.of hl2⟩, fun C hC => lcP walk_list rStr hC hn (fun i : Nat => (L.items[i]?).bind fun y => if WR L y x = true then some y else none) (fun _ e => SqL.of (e _ _ hl2)) ?_ ?_⟩⟩⟩
      · rintro k y H7 H8 KT KF hk e2 _ ⟨rfl, hy⟩ kt kf
        obtain ⟨y, hyi, rfl⟩ := get_str hy
        have hym := List.mem_of_getElem? hyi
        obtain ⟨b, b1, b2⟩ := rB.rows y hym
        have s8 := (s5.trans s6).trans e2
        refine ⟨rfl, _, rfl, _, rfl, _, rfl, B, _, rfl, dgetK (k := .inr y) (s8 _ _ hBd) b1, b, _, rfl, .inl (SqL.of (s8 _ _ b2)), rfl, flat_strs _, ?_⟩
        rw [in_row2 hxm]
        refine ⟨_, rfl, ite2 (fun c => ⟨_, rfl, kt _ _ y (by rw [hyi]; exact if_pos c) (Same.refl _) rfl⟩) (fun c => kf _ (by rw [hyi]; exact if_neg c) (Same.refl _))⟩
      · intro H7 m
        rw [ll, outs_filt] at m
        have s67 := s6.trans m.same
        refine kt (.inr x) _ _ s67 fun kvs h => h.put ok.items.nd hxi (sDel s67) ?_
        rw [del_ne (ne_of_none hD2 (s6.free hC)).symm]
        exact m.strs
    · intro H4 m
      rw [ll] at m
      obtain ⟨m1, kvs, m2, _, m3⟩ := m
      exact q D H4 ((s02.trans s3).trans (m1.trans del_le)) ((s02.trans s3).free hD) ⟨kvs, m2, m3.done.mono del_le⟩
end
end Rb
namespace Rb
open PySem PySem.Spec PyProof.Rows L2 PySem.W
/-- qualities that explain a log -/
def ExplBy (L : LogD) (q : Str → Int) : Prop := ∀ a b, Lk L a b → q (iAt L.events a) < q (iAt L.events b)
theorem Ring.no {L : LogD} {E : List En} {q : Str → Int} {z : Str} (ok : EndsOk L E) (h : ExplBy L q) : ¬ Ring E z z := by
  rintro ⟨l, y, hl, all⟩
  obtain ⟨h1, h2, h3⟩ := (ok.iff _ _ _).mp hl
  have lt := h _ _ h1
  rw [← h2, ← h3] at lt
  have le := all (fun x => q x ≤ q z) (Int.le_refl _) fun l x y hl hy => by
    obtain ⟨h1, h2, h3⟩ := (ok.iff _ _ _).mp hl
    have lt := h _ _ h1
    rw [← h2, ← h3] at lt
    exact Int.le_trans (Int.le_of_lt lt) hy
  exact absurd le (Int.not_le.mpr lt)
/-- first ways from items to themselves -/
def rFst (E : List En) : Rp Str := fun H v x => v = .non ∨ (Ring E x x ∧ ∃ way, rLst (rT2 rNat rNat) H v way)
instance {E : List En} : Mono (rFst E) := ⟨fun e h => by
  rcases h with h | ⟨h1, way, h2⟩
  · exact .inl h
  · exact .inr ⟨h1, way, Mono.mono e h2⟩⟩
/-- a ring with its length -/
def rRing (E : List En) : Rp V := fun H v x => ∃ t way, v = .ref t ∧ H t = some (.tup [.int ((way.length : Nat) : Int), x]) ∧ rLst (rT2 rNat rNat) H x way ∧ ∃ z, Ring E z z
instance {E : List En} : Mono (rRing E) := ⟨fun e h => by
  obtain ⟨t, way, h1, h2, h3, h4⟩ := h
  exact ⟨t, way, h1, e _ _ h2, Mono.mono e h3, h4⟩⟩
def wayD (way : List (Nat × Nat)) : PyData := .list (way.map fun p => .tuple [.int (p.1 : Int), .int (p.2 : Int)])
def ringD (way : List (Nat × Nat)) : PyData := .tuple [.int ((way.length : Nat) : Int), wayD way]
theorem way_dp {K : Frg} {H : Hp} : ∀ {vs : List V} {way : List (Nat × Nat)}, Paired (rT2 rNat rNat H) vs way → DpAll K H vs (way.map fun p => .tuple [.int (p.1 : Int), .int (p.2 : Int)])
  | _, _, .nil => .nil
  | _, _, .cons h t => by
    obtain ⟨a, x, y, rfl, ha, rfl, rfl⟩ := h
    exact .cons (.tup (SqT.of ha) (.cons (.int _) (.cons (.int _) .nil))) (way_dp t)
theorem ring_dp {K : Frg} {E : List En} {H : Hp} : ∀ {vs : List V} {xs : List V}, Paired (rRing E H) vs xs → ∃ ways : List (List (Nat × Nat)), DpAll K H vs (ways.map ringD)
  | _, _, .nil => ⟨[], .nil⟩
  | _, _, .cons h t => by
    obtain ⟨a, way, rfl, ha, ⟨b, vs, rfl, hb, pb⟩, _⟩ := h
    obtain ⟨ways, hw⟩ := ring_dp t
    exact ⟨way :: ways, .cons (.tup (SqT.of ha) (.cons (.int _) (.cons (.lst (SqL.of hb) (way_dp pb)) .nil))) hw⟩
theorem way_alike : ∀ xs ys : List (Nat × Nat), alikeAll (xs.map fun p => PyData.tuple [.int (p.1 : Int), .int (p.2 : Int)]) (ys.map fun p => PyData.tuple [.int (p.1 : Int), .int (p.2 : Int)]) = true
  | [], _ => rfl
  | _ :: _, [] => rfl
  | x :: xs, y :: ys => by
    show (alike (PyData.tuple [.int (x.1 : Int), .int (x.2 : Int)]) (PyData.tuple [.int (y.1 : Int), .int (y.2 : Int)]) && alikeAll _ _) = true
    rw [way_alike xs ys]
    rfl
theorem ring_alike (x y : List (Nat × Nat)) : alike (ringD x) (ringD y) = true := by
  show (true && (alikeAll _ _ && true)) = true
  rw [way_alike]
  rfl
theorem way_depth : ∀ xs : List (Nat × Nat), PyData.depthAll (xs.map fun p => PyData.tuple [.int (p.1 : Int), .int (p.2 : Int)]) ≤ 1
  | [] => Nat.zero_le _
  | x :: xs => by
    show max 1 (PyData.depthAll _) ≤ 1
    exact Nat.max_le.mpr ⟨Nat.le_refl _, way_depth xs⟩
theorem ring_depth (x : List (Nat × Nat)) : (ringD x).depth ≤ 50 := by
  show max 0 (max (PyData.depthAll _ + 1) 0) + 1 ≤ 50
  have := way_depth x
  omega
section
variable {P : Program} {w : World} {K : Frg} {mg : Str → Option Value} {base : Heap}
def spRingOf (K : Frg) : Sp := fun vs H Q _ => ∃ (p : Addr) (L : LogD), vs = [.ref p] ∧ LogAt K H p L ∧ LogOk L ∧ ∀ v H', Same H H' → (∀ q, ExplBy L q → v = .non) → Q v H'
theorem ok_ring_of (T : TX K mg) : OkF P w K mg base 9 (fA K "ring_of") ["log"] (spRingOf K) := by
  refine okD T.D.d_ring_of sc_ring_of (fun vs H Q E h => ?_) (fun _ _ _ _ _ _ us hl => match us, hl with | [_], _ => rfl) (fun cdv A outer s H vs Q X hr h => ?_)
  · obtain ⟨p, L, rfl, _⟩ := h
    rfl
  · obtain ⟨p, L, rfl, hL, ok, q⟩ := h
    have nd := sc_ring_of.nd
    have hu := hr.units
    have GE := ok_ends_of (P := P) (w := w) (base := base) T
    have GF := (ok_first_way (P := P) (w := w) (base := base) T).mono (k := 8) (by decide)
    have GI := (ok_items (P := P) (w := w) (base := base) T)
    refine ⟨_, pss_cons (ps_set (i := 1) nd rfl (Or.inr rfl) (pcall GE hr rfl T.G.g_ends_of (pa_cons (pv 0) pa_nil)))
      (pss_cons (ps_setLc (i := 2) (own := [("item", 3)]) (g := gName 3) (tt := tYes) rfl nd rfl rfl (sw_true rfl rfl rfl (by decide +kernel)) (piL K (pprop GI T.T.cl_Log (hr.mono (by decide)) (pv 0))) (blkOk_by (N := N_ring_of) (sc := defScope s_ring_of) (by decide +kernel))
        (fun _ _ _ _ _ => pg_name (i := 3) nd rfl (Or.inl rfl)) (fun _ _ _ _ _ => pts_nil) (fun _ _ _ _ _ => pcall GF hr rfl T.G.g_first_way (pa_cons (pv 1) (pa_cons (pv 3) (pa_cons (pv 3) pa_nil)))))
      (pss_cons (ps_set (i := 4) nd rfl (Or.inl rfl) (pe_callB (sortD K hu) rfl T.B.b_sorted boot_sorted (pa_cons (pe_lc (own := [("ring", 5)]) (g := gName 5) rfl nd (piL K (pv 2)) (blkOk_by (N := N_ring_of) (sc := defScope s_ring_of) (by decide +kernel)) (fun _ _ _ _ _ => pg_name (i := 5) nd rfl (Or.inl rfl))
          (fun _ _ _ _ _ => pts_one (pt_cmpR op_notN (pv 5) pe_non (nomark _))) (fun _ _ _ _ _ => pe_tup (pa_cons (pe_callB (lenK K) rfl T.B.b_len boot_len (pa_cons (pv 5) pa_nil)) (pa_cons (pv 5) pa_nil)))) pa_nil)))
      (pss_one (ps_ret (pe_ifExp (pt_truth (pv 4) (by intro _; rfl)) (pe_ix (ixT K) (pe_ix (ixL K) (pv 4) pe_int (fun _ _ => rfl)) pe_int (fun _ _ => rfl)) pe_non))))), ?_⟩
    refine ⟨_, rfl, p, L, rfl, hL, ok, fun v E H1 s1 eok hv => ?_⟩
    obtain ⟨ea, evs, rfl, hE, pE⟩ := hv
    have hL1 := hL.mono s1
    obtain ⟨dx, pi, pj, pe, vj, ve, hp, _⟩ := hL1.ex
    have ll : (L.items.map V.str).length = L.items.length := List.length_map _
    have few := ok.items.le
    have hn : (L.items.map V.str).length < sizeLine := by rw [ll]; exact Nat.lt_of_le_of_lt few (by decide)
    refine ⟨_, rfl, p, dx, _, rfl, hp, p, L, rfl, hL1, fun l H2 s2 hl => ⟨l, rfl, ⟨_, SqL.of hl⟩, fun D hD => lcP walk_list (rFst E) hD hn (fun i : Nat => (L.items[i]?).bind fun x => some x) (fun _ e => SqL.of (e _ _ hl)) ?_ ?_⟩⟩
    · rintro i x H3 H4 KT KF hi e ⟨acc, hacc⟩ ⟨rfl, hx⟩ kt kf
      obtain ⟨x, hxi, rfl⟩ := get_str hx
      have s24 := s2.trans e
      refine ⟨rfl, yes_it ⟨_, rfl, _, rfl, _, rfl, ea, evs, E, x, x, rfl, s24 _ _ hE, pMono s24 pE, eok.len, fun v H5 s5 fw => kt v H5 x (by rw [hxi]; rfl) s5 ?_⟩⟩
      rcases fw with fw | ⟨h1, way, h2, ⟨a, ws, rfl, na, ha, pa⟩⟩
      · exact .inl fw
      · have hD5 := s5 _ _ hacc
        have aD : a ≠ D := (ne_of_none hacc na).symm
        exact .inr ⟨h1, way, a, ws, rfl, by rw [del_ne aD]; exact ha, Paired.mapP pa fun _ _ z => tup_del hD5 z⟩
    · intro H3 m
      rw [ll, outs_list] at m
      have s03 := (s1.trans s2).trans m.same
      obtain ⟨m1, rv, hD3, pr⟩ := m
      have pr := pMono (del_le (H := H3) (D := D)) pr
      have hrl : rv.length < sizeLine := by
        rw [pLen pr]
        exact Nat.lt_of_le_of_lt (Nat.le_trans (List.length_filterMap_le _ _) few) (by decide)
      have mem : ∀ v ∈ rv, v = .non ∨ ((∃ z, Ring E z z) ∧ ∃ way, rLst (rT2 rNat rNat) H3 v way) := fun v hv => by
        obtain ⟨i, hi⟩ := List.mem_iff_getElem?.mp hv
        obtain ⟨x, _, h⟩ := pGet pr hi
        rcases h with h | ⟨h1, h2⟩
        · exact .inl h
        · exact .inr ⟨⟨x, h1⟩, h2⟩
      refine ⟨_, rfl, D, rfl, ⟨_, SqL.of hD3⟩, fun C hC => lcP walk_list (rRing E) hC hrl (fun i : Nat => (rv[i]?).bind fun v => if v = .non then none else some v) (fun _ e => SqL.of (e _ _ hD3)) ?_ ?_⟩
      · rintro i x H4 H5 KT KF hi e ⟨acc, hacc⟩ ⟨rfl, hx⟩ kt kf
        rcases mem x (List.mem_of_getElem? hx) with rfl | ⟨h1, way, ⟨a, ws, rfl, ha, pa⟩⟩
        · exact ⟨rfl, _, rfl, rfl, false, rfl, iteF (kf _ (by rw [hx]; rfl) (Same.refl _))⟩
        · have ha5 := e _ _ ha
          refine ⟨rfl, _, rfl, rfl, true, congrArg (fun b => V.bl (!b)) (decide_eq_false fun z => nomatch z), iteT ?_⟩
          refine ⟨_, rfl, a, ws, rfl, .inl (SqL.of ha5), _, rfl, (by show 2 ≤ sizeLine; decide), fun t nt => ?_⟩
          have st := sNew (o := .tup [.int ((ws.length : Nat) : Int), .ref a]) nt
          have tC : t ≠ C := (ne_of_none hacc nt).symm
          have aC : a ≠ C := ne_of_none ha hC
          refine kt _ _ (.ref a) (by rw [hx]; rfl) st ⟨t, way, rfl, ?_, ⟨a, ws, rfl, ?_, ?_⟩, h1⟩
          · rw [del_ne tC, ← pLen pa]
            exact upd_same
          · rw [del_ne aC]
            exact st _ _ ha5
          · exact Paired.mapP pa fun _ _ z => tup_del (st _ _ hacc) (Mono.mono (e.trans st) z)
      · intro H4 m4
        rw [outs_list] at m4
        obtain ⟨m41, cv, hC4, pc⟩ := id m4
        have s04 := s03.trans m4.same
        have pc4 := pMono (del_le (H := H4) (D := C)) pc
        obtain ⟨ways, hw⟩ := ring_dp (K := K) pc4
        refine ⟨C, cv, ways.map ringD, rfl, SqL.of hC4, hw, .of ring_alike, .tuples fun b => ⟨_, _, rfl⟩, fun d hd => ?_, fun ys b pm nb => ?_⟩
        · obtain ⟨w, _, rfl⟩ := List.mem_map.mp hd
          exact ring_depth w
        · have s5 := sNew (o := .lst ys) nb
          have s05 := s04.trans s5
          obtain ⟨zs, pz, rz⟩ := pPerm pm pc4
          cases ys with
          | nil => exact ⟨_, rfl, false, .inl ⟨_, SqL.of upd_same, rfl⟩, iteF (q _ _ s05 fun _ _ => rfl)⟩
          | cons y r =>
            cases rz with
            | cons h _ =>
              obtain ⟨t, way, rfl, ht, hway, hring⟩ := h
              refine ⟨_, rfl, true, .inl ⟨_, SqL.of upd_same, rfl⟩, iteT ?_⟩
              refine ⟨_, rfl, b, _, 0, _, rfl, rfl, SqL.of upd_same, atI_nat (j := 0) rfl, t, _, 1, _, rfl, rfl, SqT.of (s5 _ _ ht), atI_nat (j := 1) rfl, q _ _ s05 fun q hq => ?_⟩
              obtain ⟨z, hz⟩ := hring
              exact absurd hz (Ring.no eok hq)
def spExplains (K : Frg) : Sp := fun vs H Q _ => ∃ (p qa : Addr) (L : LogD) (kq : List (Key × V)) (f : Str → Int), vs = [.ref p, .ref qa] ∧ LogAt K H p L ∧ LogOk L ∧ H qa = some (.dK kq) ∧ (∀ x ∈ L.items, valV kq (.inr x) = some (.int (f x))) ∧ ExplBy L f ∧
  ∀ H', Same H H' → Q (.bl true) H'
theorem lk_items {L : LogD} (ok : LogOk L) {a b : Nat} (h : Lk L a b) : iAt L.events a ∈ L.items ∧ iAt L.events b ∈ L.items := by
  obtain ⟨j, d, _, ha, hb, _⟩ := h
  obtain ⟨x, g, ea⟩ := mem_ansJ.mp ha
  obtain ⟨y, g', eb⟩ := mem_ansJ.mp hb
  rw [iAt_eq ea, iAt_eq eb]
  exact ⟨(ok.evs _ (List.mem_of_getElem? ea)).2.1, (ok.evs _ (List.mem_of_getElem? eb)).2.1⟩
theorem ok_explains (T : TX K mg) : OkF P w K mg base 9 (fA K "explains") ["log", "qualities"] (spExplains K) := by
  refine okD T.D.d_explains sc_explains (fun vs H Q E h => ?_) (fun _ _ _ _ _ _ us hl => match us, hl with | [_, _], _ => rfl) (fun cdv A outer s H vs Q X hr h => ?_)
  · obtain ⟨p, qa, L, kq, f, rfl, _⟩ := h
    rfl
  · obtain ⟨p, qa, L, kq, f, rfl, hL, ok, hq, vals, ex, q⟩ := h
    have nd := sc_explains.nd
    have GE := ok_ends_of (P := P) (w := w) (base := base) T
    refine ⟨_, pss_one (ps_ret (pe_callB (allK K) rfl T.B.b_all boot_all (pa_cons (pe_lc (own := [("_", 2), ("begin", 3), ("end", 4)]) (tt := tYes) rfl nd (piL K (pcall GE hr rfl T.G.g_ends_of (pa_cons (pv 0) pa_nil))) (blkOk_by (N := N_explains) (sc := defScope s_explains) (by decide +kernel))
      (fun _ _ _ _ _ => pgT K (n := 3) (pgs_cons (pg_name (i := 2) nd rfl (Or.inl rfl)) (pgs_cons (pg_name (i := 3) nd rfl (Or.inl rfl)) (pgs_cons (pg_name (i := 4) nd rfl (Or.inl rfl)) pgs_nil)))) (fun _ _ _ _ _ => pts_nil)
      (fun _ _ _ _ _ => pe_cmpR op_lt (pe_dget (hu_of hr) (pv 1) (pv 3) (fun _ _ => rfl)) (pe_dget (hu_of hr) (pv 1) (pv 4) (fun _ _ => rfl)) (nomark _))) pa_nil))), ?_⟩
    refine ⟨_, rfl, p, L, rfl, hL, ok, fun v E H1 s1 eok hv => ?_⟩
    obtain ⟨ea, evs, rfl, hE, pE⟩ := hv
    have hlen := pLen pE
    refine ⟨ea, rfl, ⟨_, SqL.of hE⟩, fun D hD => lcP walk_list rBl hD (by rw [hlen]; exact Nat.lt_of_le_of_lt eok.len (by decide)) (fun i : Nat => (E[i]?).map fun _ => true) (fun _ e => SqL.of (e _ _ hE)) ?_ ?_⟩
    · rintro i x H2 H3 KT KF hi e _ ⟨rfl, hx⟩ kt kf
      obtain ⟨⟨l, x, y⟩, hEi, t, v1, v2, v3, rfl, ht, _, rfl, rfl⟩ := pGet pE hx
      obtain ⟨lk, e1, e2⟩ := (eok.iff _ _ _).mp (List.mem_of_getElem? hEi)
      obtain ⟨m1, m2⟩ := lk_items ok lk
      have lt := ex _ _ lk
      rw [← e1] at m1
      rw [← e2] at m2
      rw [← e1, ← e2] at lt
      have hq3 := (s1.trans e) _ _ hq
      refine ⟨t, _, rfl, SqT.of (e _ _ ht), rfl, _, _, rfl, _, _, rfl, _, _, rfl, rfl, rfl, yes_it ?_⟩
      exact ⟨_, rfl, _, rfl, qa, _, rfl, dgetK (k := .inr x) hq3 (vals x m1), _, rfl, _, rfl, qa, _, rfl, dgetK (k := .inr y) hq3 (vals y m2), _, _, rfl, rfl, kt _ _ true (by rw [hEi]; rfl) (Same.refl _) (congrArg V.bl (decide_eq_true lt))⟩
    · intro H2 m
      rw [hlen] at m
      refine ⟨D, _, rfl, SqL.of m.bls, ?_⟩
      rw [all_true (α := Nat) fun i hi => by rw [List.getElem?_eq_getElem hi]; rfl]
      exact q _ (s1.trans m.same)
end
end Rb
namespace Rb
open PySem PySem.Spec PyProof.Rows L2
/-! ### what the relations say -/
theorem stepR_sub {Pr : Str → Str → Prop} (tr : ∀ a b c, Pr a b → Pr b c → Pr a c) {m x : Str} {R : Rl} (h : ∀ a b, R a b = true → Pr a b) : ∀ a b, stepR m x R a b = true → Pr a b := by
  intro a b z
  unfold stepR at z
  by_cases c : a = x ∧ R x m = true
  · rw [if_pos c] at z
    obtain ⟨rfl, c⟩ := c
    rcases (Bool.or_eq_true _ _).mp z with z | z
    · exact h _ _ z
    · exact tr _ _ _ (h _ _ c) (h _ _ z)
  · rw [if_neg c] at z
    exact h _ _ z
theorem turnR_sub {Pr : Str → Str → Prop} (tr : ∀ a b c, Pr a b → Pr b c → Pr a c) {m : Str} : ∀ (xs : List Str) {R : Rl}, (∀ a b, R a b = true → Pr a b) → ∀ a b, turnR xs m R a b = true → Pr a b
  | [], _, h => h
  | x :: xs, R, h => turnR_sub tr xs (R := stepR m x R) (stepR_sub tr h)
theorem wars_sub {Pr : Str → Str → Prop} (tr : ∀ a b c, Pr a b → Pr b c → Pr a c) {xs : List Str} : ∀ (ms : List Str) {R : Rl}, (∀ a b, R a b = true → Pr a b) → ∀ a b, wars ms xs R a b = true → Pr a b
  | [], _, h => h
  | m :: ms, R, h => wars_sub tr ms (R := turnR xs m R) (turnR_sub tr xs h)
def leR (R R' : Rl) : Prop := ∀ a b, R a b = true → R' a b = true
theorem stepR_mono {m x : Str} {R R' : Rl} (h : leR R R') : leR (stepR m x R) (stepR m x R') := by
  intro a b z
  unfold stepR at z ⊢
  by_cases c : a = x ∧ R x m = true
  · rw [if_pos c] at z
    rw [if_pos ⟨c.1, h _ _ c.2⟩]
    rcases (Bool.or_eq_true _ _).mp z with z | z
    · rw [h _ _ z]; rfl
    · rw [h _ _ z, Bool.or_true]
  · rw [if_neg c] at z
    split
    · rename_i c2
      rw [c2.1] at z
      rw [h _ _ z]
      rfl
    · exact h _ _ z
theorem turnR_mono {m : Str} : ∀ (xs : List Str) {R R' : Rl}, leR R R' → leR (turnR xs m R) (turnR xs m R')
  | [], _, _, h => h
  | x :: xs, R, R', h => turnR_mono xs (R := stepR m x R) (R' := stepR m x R') (stepR_mono h)
theorem wars_mono {xs : List Str} : ∀ (ms : List Str) {R R' : Rl}, leR R R' → leR (wars ms xs R) (wars ms xs R')
  | [], _, _, h => h
  | m :: ms, R, R', h => wars_mono ms (R := turnR xs m R) (R' := turnR xs m R') (turnR_mono xs h)
theorem WR_less {L : LogD} {q : Str → Int} (h : ExplBy L q) {x y : Str} (z : WR L x y = true) : q x < q y := by
  refine wars_sub (Pr := fun x y => q x < q y) (fun a b c h1 h2 => Int.lt_trans h1 h2) L.items (fun a b z => ?_) x y z
  obtain ⟨n, m, lk, rfl, rfl⟩ := LR_iff.mp z
  exact h n m lk
/-- all pairs of a relation -/
def prs (items : List Str) (W : Rl) : List (Str × Str) := items.flatMap fun x => (items.filter fun y => W x y).map fun y => (x, y)
def prRow (items : List Str) (W : Rl) (x : Str) (S : List Str) : List (Str × Str) := (S.filter fun y => W x y).map fun y => (x, y)
theorem mem_prs {items : List Str} {W : Rl} {x y : Str} : (x, y) ∈ prs items W ↔ x ∈ items ∧ y ∈ items ∧ W x y = true := by
  unfold prs
  simp only [List.mem_flatMap, List.mem_map, List.mem_filter, Prod.mk.injEq]
  constructor
  · rintro ⟨a, ha, b, ⟨hb, hw⟩, rfl, rfl⟩
    exact ⟨ha, hb, hw⟩
  · rintro ⟨ha, hb, hw⟩
    exact ⟨x, ha, y, ⟨hb, hw⟩, rfl, rfl⟩
theorem prRow_snoc {items : List Str} {W : Rl} {x y : Str} {S : List Str} : prRow items W x (S ++ [y]) = if W x y = true then prRow items W x S ++ [(x, y)] else prRow items W x S := by
  unfold prRow
  rw [List.filter_append, List.map_append]
  cases h : W x y <;> simp [h]
theorem prs_snoc {items xs : List Str} {W : Rl} {x : Str} : (xs ++ [x]).flatMap (fun x => prRow items W x items) = xs.flatMap (fun x => prRow items W x items) ++ prRow items W x items := by
  rw [List.flatMap_append]
  simp
theorem prRow_len {items : List Str} {W : Rl} {x : Str} {S : List Str} : (prRow items W x S).length ≤ S.length := by
  unfold prRow
  rw [List.length_map]
  exact List.length_filter_le _ _
theorem prs_len {items xs : List Str} {W : Rl} : (xs.flatMap fun x => prRow items W x items).length ≤ xs.length * items.length := by
  induction xs with
  | nil => simp
  | cons x xs ih =>
    rw [List.flatMap_cons, List.length_append, List.length_cons, Nat.add_mul]
    have := prRow_len (items := items) (W := W) (x := x) (S := items)
    omega
theorem yesT {A B : Hp → Prop} {σ : L2.St} {H : Hp} (h : A H) : tYes σ H fun b H3 => if b = true then A H3 else B H3 := iteT (B := B H) h
/-- a walk within a comprehension of two -/
theorem walk_by {J : It} {n : Nat} {G : Hp → Prop} {Y : Nat → Hp → V → Hp → Prop} (w : Walk J n G Y) {B : V → Hp → (Hp → Prop) → Prop} {Done : Hp → Prop} {H1 : Hp} (Pv : Nat → Hp → Prop) (h0 : Pv 0 H1) (hG : ∀ i H, i ≤ n → Pv i H → G H)
    (hs : ∀ i x H H', i < n → Pv i H → Y i H x H' → B x H' (Pv (i + 1))) (hd : ∀ H, Pv n H → Done H) :
    ∃ W : Nat → Nat → Hp → Prop, (∃ m, W 0 m H1) ∧ ∀ i m H, W i m H → (J.stop i H ∧ Done H) ∨ (J.go i H ∧ ∃ Nx : Hp → Prop, (∀ H', Nx H' → ∃ m', m' < m ∧ W (i + 1) m' H') ∧ ∀ x H', J.yld i H x H' → B x H' Nx) :=
  ⟨fun i m H => m = n - i ∧ i ≤ n ∧ Pv i H, ⟨n, rfl, Nat.zero_le _, h0⟩, fun i m H z => by
    obtain ⟨e, le, p⟩ := z
    rcases Nat.lt_or_ge i n with lt | ge
    · exact Or.inr ⟨w.goes i H lt (hG i H le p), Pv (i + 1), fun H' p' => ⟨n - (i + 1), by omega, rfl, lt, p'⟩, fun x H' y => hs i x H H' lt p (w.yields i H x H' lt (hG i H le p) y)⟩
    · obtain rfl : i = n := Nat.le_antisymm le ge
      exact Or.inl ⟨w.stops H (hG i H le p), hd H p⟩⟩
section
variable {P : Program} {w : World} {K : Frg} {mg : Str → Option Value} {base : Heap}
def spCheckExplained (K : Frg) : Sp := fun vs H Q _ => ∃ (p : Addr) (L : LogD) (q : Str → Int), vs = [.ref p] ∧ LogAt K H p L ∧ LogOk L ∧ ExplBy L q ∧ ∀ H', Same H H' → Q .non H'
theorem ok_check_explained (T : TX K mg) : OkF P w K mg base 10 (fA K "check_explained") ["log"] (spCheckExplained K) := by
  refine okD T.D.d_check_explained sc_check_explained (fun vs H Q E h => ?_) (fun _ _ _ _ _ _ us hl => match us, hl with | [_], _ => rfl) (fun cdv A outer s H vs Q X hr h => ?_)
  · obtain ⟨p, L, q, rfl, _⟩ := h
    rfl
  · obtain ⟨p, L, f, rfl, hL, ok, ex, q⟩ := h
    have G := ok_ring_of (P := P) (w := w) (base := base) T
    refine ⟨_, pss_one (ps_if (pt_cmpR op_notN (pcall G hr rfl T.G.g_ring_of (pa_cons (pv 0) pa_nil)) pe_non (nomark _)) pss_never pss_nil), ?_⟩
    refine ⟨_, rfl, p, L, rfl, hL, ok, fun v H1 s1 hv => ?_⟩
    obtain rfl := hv f ex
    exact ⟨rfl, false, rfl, iteF (q H1 s1)⟩
def spCheckItem (K : Frg) : Sp := fun vs H Q _ => ∃ (p : Addr) (L : LogD) (x : Str), vs = [.ref p, .str x] ∧ LogAt K H p L ∧ x ∈ L.items ∧ ∀ H', Same H H' → Q .non H'
theorem ok_check_item (T : TX K mg) : OkF P w K mg base 3 (fA K "check_item") ["log", "item"] (spCheckItem K) := by
  refine okD T.D.d_check_item sc_check_item (fun vs H Q E h => ?_) (fun _ _ _ _ _ _ us hl => match us, hl with | [_, _], _ => rfl) (fun cdv A outer s H vs Q X hr h => ?_)
  · obtain ⟨p, L, q, rfl, _⟩ := h
    rfl
  · obtain ⟨p, L, x, rfl, hL, hx, q⟩ := h
    have GI := ok_items (P := P) (w := w) (base := base) T
    obtain ⟨dx, pi, pj, pe, vj, ve, hp, _⟩ := hL.ex
    refine ⟨_, pss_one (ps_if (pt_cmpR (notInK K) (pv 1) (pprop GI T.T.cl_Log hr (pv 0)) (by with_unfolding_all rfl)) pss_never pss_nil), ?_⟩
    refine ⟨_, rfl, _, rfl, p, dx, _, rfl, hp, p, L, rfl, hL, fun l H1 s1 hl => ?_⟩
    exact ⟨l, _, rfl, .inl (SqL.of hl), rfl, flat_strs L.items, false, congrArg (fun b => V.bl (!b)) (in_str hx), iteF (q H1 s1)⟩
def spCheckAsk (K : Frg) : Sp := fun vs H Q _ => ∃ (p : Addr) (L : LogD) (j d x : Str), vs = [.ref p, .str j, .str x] ∧ LogAt K H p L ∧ LogOk L ∧ (j, d) ∈ L.judges ∧ x ∈ L.items ∧ ∀ H', Same H H' → Q .non H'
theorem ok_check_ask (T : TX K mg) : OkF P w K mg base 4 (fA K "check_ask") ["log", "judge", "item"] (spCheckAsk K) := by
  refine okD T.D.d_check_ask sc_check_ask (fun vs H Q E h => ?_) (fun _ _ _ _ _ _ us hl => match us, hl with | [_, _, _], _ => rfl) (fun cdv A outer s H vs Q X hr h => ?_)
  · obtain ⟨p, L, j, d, x, rfl, _⟩ := h
    rfl
  · obtain ⟨p, L, j, d, x, rfl, hL, ok, hj, hx, q⟩ := h
    have GD := (ok_drift_of (P := P) (w := w) (base := base) T).mono (k := 3) (by decide)
    have GC := ok_check_item (P := P) (w := w) (base := base) T
    obtain ⟨dx, pi, pj, pe, vj, ve, hp, _⟩ := hL.ex
    refine ⟨_, pss_cons (ps_expr (pmeth GD T.T.cl_Log T.M.m_Log_drift_of hr (pv 0) (pa_cons (pv 1) pa_nil)))
      (pss_one (ps_expr (pcall GC hr rfl T.G.g_check_item (pa_cons (pv 0) (pa_cons (pv 2) pa_nil))))), ?_⟩
    exact ⟨_, rfl, p, dx, _, rfl, hp, lf_no (by decide +kernel), _, rfl, p, L, j, d, rfl, hL, ok, hj, _, rfl, _, rfl, p, L, x, rfl, hL, hx, q⟩
def spCheckRoom (K : Frg) : Sp := fun vs H Q _ => ∃ (p : Addr) (L : LogD) (n : Nat), vs = [.ref p, .int (n : Int)] ∧ LogAt K H p L ∧ L.events.length + n ≤ 120 ∧ ∀ H', Same H H' → Q .non H'
theorem ok_check_room (T : TX K mg) : OkF P w K mg base 3 (fA K "check_room") ["log", "many"] (spCheckRoom K) := by
  refine okD T.D.d_check_room sc_check_room (fun vs H Q E h => ?_) (fun _ _ _ _ _ _ us hl => match us, hl with | [_, _], _ => rfl) (fun cdv A outer s H vs Q X hr h => ?_)
  · obtain ⟨p, L, n, rfl, _⟩ := h
    rfl
  · obtain ⟨p, L, n, rfl, hL, le, q⟩ := h
    have GE := ok_events (P := P) (w := w) (base := base) T
    obtain ⟨dx, pi, pj, pe, vj, ve, hp, _⟩ := hL.ex
    obtain ⟨t2, g2⟩ := T.C.c_MOST_EVENTS
    refine ⟨_, pss_one (ps_if (pt_cmpR op_gt (pe_op op_add (pe_callB (lenK K) rfl T.B.b_len boot_len (pa_cons (pprop GE T.T.cl_Log hr (pv 0)) pa_nil)) (pv 1)) (pe_glob (v := .int 120) rfl g2 ⟨_, rfl⟩) (nomark _)) pss_never pss_nil), ?_⟩
    refine ⟨_, rfl, p, dx, _, rfl, hp, p, L, rfl, hL, fun v H1 s1 hv => ?_⟩
    obtain ⟨ea, evs, rfl, hE, pE⟩ := hv
    have hlen := pLen pE
    refine ⟨ea, evs, rfl, .inl (SqL.of hE), _, rfl, _, _, rfl, rfl, _, _, rfl, rfl, false, congrArg V.bl (decide_eq_false ?_), iteF (q H1 s1)⟩
    rw [hlen]
    omega
def tPrs (K : Frg) : TE := tLc2 (iList K (tProp (CL K) (spItems K) [] E0 (tVar 0))) (gName 2) tYes (iList K (tProp (CL K) (spItems K) [] E0 (tVar 0))) (gName 3)
  (tTest (tOp (rIn K false) (tVar 2) (tDGet (tVar 1) (tVar 3)))) (tTup (tCons (tVar 2) (tCons (tVar 3) tNil))) ([("one", 2), ("other", 3)].map (·.2) : List Nat) [3]
theorem prs_read {H : Hp} {p B : Addr} {L : LogD} {W : Rl} {Q : VK} (hL : LogAt K H p L) (ok : LogOk L) (hB : RelD H B L.items fun x y => W y x) (q : ∀ v H', Same H H' → newL (rT2 rStr rStr) H H' v (prs L.items W) → Q v H') :
    tPrs K [some (.ref p), some (.ref B), none, none] H Q := by
  obtain ⟨dx, pi, pj, pe, vj, ve, hp, _⟩ := hL.ex
  have ll : (L.items.map V.str).length = L.items.length := List.length_map _
  have few := ok.items.le
  obtain ⟨kvs, hBd, rB⟩ := hB
  refine ⟨_, rfl, p, dx, _, rfl, hp, p, L, rfl, hL, fun l H1 s1 hl => ⟨l, rfl, ⟨_, SqL.of hl⟩, fun D hD => ?_⟩⟩
  refine walk_by (walk_list (K := K) (a := l) (xs := L.items.map V.str)) (fun i H' => MadeL (rT2 rStr rStr) H1 D ((L.items.take i).flatMap fun x => prRow L.items W x L.items) H') ⟨?_, [], upd_same, .nil⟩ (fun i H' _ z => SqL.of (z.same _ _ hl)) ?_ ?_
  · rw [del_upd]
    exact sDelR (Same.refl _) hD
  · rintro i x H2 H3 hi m ⟨rfl, hx⟩
    obtain ⟨x, hxi, rfl⟩ := get_str hx
    have hxm := List.mem_of_getElem? hxi
    have s3 := s1.trans m.same
    have hL3 := hL.mono s3
    obtain ⟨dx, pi, pj, pe, vj, ve, hp, _⟩ := hL3.ex
    refine ⟨rfl, yesT ?_⟩
    refine ⟨_, rfl, p, dx, _, rfl, hp, p, L, rfl, hL3, fun l2 H4 s4 hl2 => ⟨l2, rfl, ⟨_, SqL.of hl2⟩, ?_⟩⟩
    obtain ⟨m1, ws0, hD3, rs0⟩ := id m
    have hD4 := s4 _ _ hD3
    have ne : l2 ≠ D := by
      rintro rfl
      rw [hD4] at hl2
      obtain rfl := HO.lst.inj (Option.some.inj hl2)
      cases hi2 : L.items with
      | nil => rw [hi2] at hxm; cases hxm
      | cons a r =>
        rw [hi2] at rs0
        cases hz : (L.items.take i).flatMap fun x => prRow L.items W x L.items with
        | nil => rw [← hi2, hz] at rs0; have := pLen rs0; rw [hi2] at this; cases this
        | cons b r2 =>
          rw [← hi2, hz, hi2] at rs0
          cases rs0 with
          | cons z _ => obtain ⟨_, _, _, z, _⟩ := z; cases z
    have hlB : del H4 D l2 = some (.lst (L.items.map V.str)) := by rw [del_ne ne]; exact hl2
    refine walk_by (walk_list (K := K) (a := l2) (xs := L.items.map V.str)) (fun k H' => Same (del H4 D) (del H' D) ∧ MadeL (rT2 rStr rStr) H1 D (((L.items.take i).flatMap fun x => prRow L.items W x L.items) ++ prRow L.items W x (L.items.take k)) H') ⟨Same.refl _, ⟨m1.trans (sDel s4), ws0, hD4, by rw [List.take_zero, show prRow L.items W x [] = [] from rfl, List.append_nil]; exact pMono (sDel s4) rs0⟩⟩ (fun i H' _ z => SqL.of (del_le _ _ (z.1 _ _ hlB))) ?_ ?_
    · rintro k y H5 H6 hk ⟨sB, m5⟩ ⟨rfl, hy⟩
      obtain ⟨y, hyi, rfl⟩ := get_str hy
      have hym := List.mem_of_getElem? hyi
      obtain ⟨b, b1, b2⟩ := rB.rows y hym
      have s16 := s1.trans m5.same
      obtain ⟨m51, ws, hD6, rs⟩ := id m5
      refine ⟨rfl, _, rfl, _, rfl, _, rfl, B, _, rfl, dgetK (k := .inr y) (s16 _ _ hBd) b1, b, _, rfl, .inl (SqL.of (s16 _ _ b2)), rfl, flat_strs _, ?_⟩
      rw [in_row2 (f := fun z => W z y) hxm, take_succ_get hyi, prRow_snoc]
      refine ⟨_, rfl, ite2 (fun c => ?_) (fun c => ⟨sB, by rw [if_neg c]; exact m5⟩)⟩
      rw [if_pos c]
      refine ⟨_, rfl, _, rfl, (by show 2 ≤ sizeLine; decide), fun t nt => ?_⟩
      have st := sNew (o := .tup [.str x, .str y]) nt
      have tD : t ≠ D := (ne_of_none hD6 nt).symm
      refine ⟨ws, st _ _ hD6, ?_, ?_, ?_, _, upd_same, ?_⟩
      · rw [pLen rs, List.length_append]
        have l1 := prs_len (items := L.items) (xs := L.items.take i) (W := W)
        have l2 := prRow_len (items := L.items) (W := W) (x := x) (S := L.items.take k)
        have l3 : (L.items.take i).length ≤ 20 := Nat.le_trans (List.length_take_le' _ _) few
        have l4 : (L.items.take k).length ≤ 20 := Nat.le_trans (List.length_take_le' _ _) few
        have l5 := Nat.mul_le_mul l3 few
        exact Nat.lt_of_le_of_lt (show _ ≤ 420 by omega) (by decide)
      · rw [del_upd]
        exact sB.trans (sDel st)
      · rw [del_upd]
        exact m51.trans (sDel st)
      · rw [del_upd, ← List.append_assoc]
        exact pSnoc (pMono (sDel st) rs) ⟨t, _, _, rfl, by rw [del_ne tD]; exact upd_same, rfl, rfl⟩
    · rintro H5 ⟨sB, m5⟩
      rw [ll, List.take_length] at m5
      rw [take_succ_get hxi, prs_snoc]
      exact m5
  · rintro H2 m
    rw [ll, List.take_length] at m
    exact q _ _ (s1.trans m.same) (m.new s1 hD)
def spPairsOf (K : Frg) : Sp := fun vs H Q _ => ∃ (p : Addr) (L : LogD), vs = [.ref p] ∧ LogAt K H p L ∧ LogOk L ∧ ∀ v H', Same H H' → newL (rT2 rStr rStr) H H' v (prs L.items (WR L)) → Q v H'
theorem ok_pairs_of (T : TX K mg) : OkF P w K mg base 11 (fA K "pairs_of") ["log"] (spPairsOf K) := by
  refine okD T.D.d_pairs_of sc_pairs_of (fun vs H Q E h => ?_) (fun _ _ _ _ _ _ us hl => match us, hl with | [_], _ => rfl) (fun cdv A outer s H vs Q X hr h => ?_)
  · obtain ⟨p, L, rfl, _⟩ := h
    rfl
  · obtain ⟨p, L, rfl, hL, ok, q⟩ := h
    have nd := sc_pairs_of.nd
    have GW := ok_worse_than (P := P) (w := w) (base := base) T
    have GI := ok_items (P := P) (w := w) (base := base) T
    refine ⟨_, pss_cons (ps_set (i := 1) nd rfl (Or.inr rfl) (pcall GW hr rfl T.G.g_worse_than (pa_cons (pv 0) pa_nil)))
      (pss_one (ps_ret (pe_lc2 (own := [("one", 2), ("other", 3)]) (g := gName 2) (tt := tYes) (vs1 := [3]) rfl nd (piL K (pprop GI T.T.cl_Log (hr.mono (by decide)) (pv 0))) (blkOk_by (N := N_pairs_of) (sc := defScope s_pairs_of) (by decide +kernel)) (by decide)
        (fun _ _ _ _ _ => pg_name (i := 2) nd rfl (Or.inl rfl)) (fun _ _ _ _ _ => pts_nil) (fun _ _ _ _ _ => piL K (pprop GI T.T.cl_Log (hr.mono (by decide)) (pv 0))) (fun _ _ _ _ _ => pg_name (i := 3) nd rfl (Or.inl rfl))
        (fun _ _ _ _ _ => pts_one (pt_cmpR (inK K) (pv 2) (pe_dget (hu_of hr) (pv 1) (pv 3) (fun _ _ => rfl)) (by with_unfolding_all rfl))) (fun _ _ _ _ _ => pe_tup (pa_cons (pv 2) (pa_cons (pv 3) pa_nil)))))), ?_⟩
    exact ⟨_, rfl, p, L, rfl, hL, ok, fun B H1 s1 nB hB => prs_read (hL.mono s1) ok hB fun v H2 s2 hv => q v H2 (s1.trans s2) (by
      obtain ⟨a, vs, rfl, na, ha, pa⟩ := hv
      exact ⟨a, vs, rfl, s1.free na, ha, pa⟩)⟩
end
end Rb
namespace Rb
open PySem PySem.Spec PyProof.Rows L2
/-! ### data of lists -/
theorem canLay_all {ds : List PyData} (h : ∀ d ∈ ds, d.canLay0 = true) : PyData.canLayAll0 ds = true := by
  induction ds with
  | nil => simp only [PyData.canLayAll0]
  | cons d r ih =>
    simp only [PyData.canLayAll0]
    rw [h d (.head _), ih fun e he => h e (.tail _ he)]
    rfl
theorem depth_all {ds : List PyData} {n : Nat} (h : ∀ d ∈ ds, d.depth ≤ n) : PyData.depthAll ds ≤ n := by
  induction ds with
  | nil => simp only [PyData.depthAll]; exact Nat.zero_le _
  | cons d r ih =>
    simp only [PyData.depthAll]
    exact Nat.max_le.mpr ⟨h d (.head _), ih fun e he => h e (.tail _ he)⟩
theorem shaped_list {ds : List PyData} (h : ∀ d ∈ ds, d.canLay0 = true ∧ d.depth ≤ 10) : SeqAt.shaped (.list ds) = true := by
  have h1 := canLay_all fun d hd => (h d hd).1
  have h2 := depth_all fun d hd => (h d hd).2
  have h3 : (PyData.list ds).canLay0 = true := by simp only [PyData.canLay0]; exact h1
  have h4 : (PyData.list ds).depth ≤ 64 := by simp only [PyData.depth]; omega
  unfold SeqAt.shaped
  rw [h3, decide_eq_true h4]
  rfl
theorem dp_list {α : Type} {r : Rp α} {f : α → PyData} {K : Frg} {H : Hp} (h : ∀ v x, r H v x → Dp K H v (f x)) : ∀ {vs : List V} {xs : List α}, Paired (r H) vs xs → DpAll K H vs (xs.map f)
  | _, _, .nil => .nil
  | _, _, .cons q t => .cons (h _ _ q) (dp_list h t)
/-- a pair of items as data -/
def prD (p : Str × Str) : PyData := .tuple [.str p.1, .str p.2]
theorem prD_dp {K : Frg} {H : Hp} (v : V) (p : Str × Str) (h : rT2 rStr rStr H v p) : Dp K H v (prD p) := by
  obtain ⟨a, x, y, rfl, ha, rfl, rfl⟩ := h
  exact .tup (SqT.of ha) (.cons (.str _) (.cons (.str _) .nil))
theorem prD_ok {p : Str × Str} (h : NameOk p.1 ∧ NameOk p.2) : (prD p).canLay0 = true ∧ (prD p).depth ≤ 10 := by
  simp [prD, PyData.canLay0, PyData.canLayAll0, PyData.depth, PyData.depthAll, h.1.str, h.2.str]
theorem prD_shaped {p : Str × Str} (h : NameOk p.1 ∧ NameOk p.2) : SeqAt.shaped (prD p) = true := by
  have := prD_ok h
  unfold SeqAt.shaped
  rw [this.1, decide_eq_true (show (prD p).depth ≤ 64 by omega)]
  rfl
theorem prD_eqv (p q : Str × Str) : PyData.eqv (prD p) (prD q) = decide (p = q) := by
  obtain ⟨a, b⟩ := p
  obtain ⟨c, d⟩ := q
  have e1 : PyData.eqv (prD (a, b)) (prD (c, d)) = ((a == c) && ((b == d) && true)) := by simp only [prD, PyData.eqv, PyData.eqvAll]
  rw [e1]
  by_cases h1 : a = c <;> by_cases h2 : b = d <;> simp [h1, h2]
theorem any_eqv {α : Type} [DecidableEq α] {f : α → PyData} (h : ∀ x y, PyData.eqv (f x) (f y) = decide (x = y)) (xs : List α) (y : α) : ((xs.map f).any fun z => PyData.eqv z (f y)) = decide (y ∈ xs) := by
  rw [List.any_map]
  induction xs with
  | nil => rfl
  | cons x xs ih =>
    rw [List.any_cons, ih]
    show (PyData.eqv (f x) (f y) || decide (y ∈ xs)) = decide (y ∈ x :: xs)
    rw [h]
    by_cases e : y = x
    · subst e; simp
    · have e' : ¬ x = y := fun z => e z.symm
      simp [e, e']
theorem LogOk.prNames {L : LogD} (ok : LogOk L) {W : Rl} {p : Str × Str} (h : p ∈ prs L.items W) : NameOk p.1 ∧ NameOk p.2 := by
  obtain ⟨x, y⟩ := p
  obtain ⟨h1, h2, _⟩ := mem_prs.mp h
  exact ⟨ok.items.ok _ h1, ok.items.ok _ h2⟩
theorem prs_shaped {L : LogD} (ok : LogOk L) {W : Rl} : SeqAt.shaped (.list ((prs L.items W).map prD)) = true := shaped_list fun d hd => by
  obtain ⟨p, hp, rfl⟩ := List.mem_map.mp hd
  exact prD_ok (ok.prNames hp)
theorem any_false {n : Nat} {f : Nat → Option Bool} (h : ∀ i, i < n → f i = some false) : (outs f n).any id = false := by
  rw [List.any_eq_false]
  intro b hb
  unfold outs at hb
  obtain ⟨i, hi, e⟩ := List.mem_filterMap.mp hb
  rw [h i (List.mem_range.mp hi)] at e
  cases e
  exact Bool.false_ne_true
/-- behind a lock -/
theorem lock_same {H H' : Hp} {d : Addr} {od : Obj} {u : HO} (h : H d = some u) (e : Same (upd H d (.frz od u)) H') : Same H (upd H' d u) := fun b o hb => by
  by_cases z : b = d
  · subst z
    rw [upd_same]
    rw [h] at hb
    exact hb
  · rw [upd_ne z]
    refine e _ _ ?_
    rw [upd_ne z]
    exact hb
section
variable {P : Program} {w : World} {K : Frg} {mg : Str → Option Value} {base : Heap}
def spWorseIn (K : Frg) : Sp := fun vs H Q _ => ∃ (p : Addr) (L : LogD) (f : Str → Int), vs = [.ref p] ∧ LogAt K H p L ∧ LogOk L ∧ ExplBy L f ∧ ∀ a H', Same H H' → H a = none → RelD H' a L.items (fun x y => WR L y x) → Q (.ref a) H'
theorem ok_worse_in (T : TX K mg) : OkF P w K mg base 11 (fA K "worse_in") ["log"] (spWorseIn K) := by
  refine okD T.D.d_worse_in sc_worse_in (fun vs H Q E h => ?_) (fun _ _ _ _ _ _ us hl => match us, hl with | [_], _ => rfl) (fun cdv A outer s H vs Q X hr h => ?_)
  · obtain ⟨p, L, f, rfl, _⟩ := h
    rfl
  · obtain ⟨p, L, f, rfl, hL, ok, ex, q⟩ := h
    have nd := sc_worse_in.nd
    have GW := ok_worse_than (P := P) (w := w) (base := base) T
    refine ⟨_, pss_cons (ps_set (i := 1) nd rfl (Or.inr rfl) (pcall GW hr rfl T.G.g_worse_than (pa_cons (pv 0) pa_nil)))
      (pss_cons (ps_if (pt_val (pe_callB (anyK K) rfl T.B.b_any boot_any (pa_cons (pe_lock (pe_lc (own := [("item", 2)]) (g := gName 2) (tt := tYes) rfl nd (pi_keys (pv 1)) (blkOk_by (N := N_worse_in) (sc := defScope s_worse_in) (by decide +kernel))
        (fun _ _ _ _ _ => pg_name (i := 2) nd rfl (Or.inl rfl)) (fun _ _ _ _ _ => pts_nil) (fun _ _ _ _ _ => pe_cmpR (inK K) (pv 2) (pe_dget (hu_of hr) (pv 1) (pv 2) (fun _ _ => rfl)) (by with_unfolding_all rfl)))) pa_nil))) pss_never pss_nil)
      (pss_one (ps_ret (pv 1)))), ?_⟩
    refine ⟨_, rfl, p, L, rfl, hL, ok, fun B H1 s1 nB hB => ?_⟩
    obtain ⟨kvs, hBd, rB⟩ := id hB
    have lk : kvs.length = L.items.length := by
      have := congrArg List.length rB.keys
      rwa [List.length_map, List.length_map] at this
    refine ⟨B, .dK kvs, hBd, trivial, fun od => ⟨_, rfl, B, od, rfl, .inl ⟨kvs, upd_same, fun D hD => ?_⟩⟩⟩
    refine lcP walk_keys rBl hD (by rw [lk]; exact Nat.lt_of_le_of_lt ok.items.le (by decide)) (fun _ => some false) (fun _ e => e _ _ upd_same) ?_ ?_
    · rintro i x H2 H3 KT KF hi e _ ⟨rfl, k, v, hk, rfl⟩ kt kf
      have hk2 : k ∈ keysOf L.items := by
        rw [← rB.keys]
        exact List.mem_map_of_mem (f := (·.1)) (List.mem_of_getElem? hk)
      obtain ⟨z, hz, rfl⟩ := List.mem_map.mp hk2
      obtain ⟨b, b1, b2⟩ := rB.rows z hz
      have bB : b ≠ B := by rintro rfl; rw [hBd] at b2; cases b2
      have b3 := e _ _ ((upd_ne bB).trans b2)
      have no : WR L z z = false := by
        cases c : WR L z z with
        | false => rfl
        | true => exact absurd (WR_less ex c) (Int.lt_irrefl _)
      refine ⟨rfl, yes_it ⟨_, rfl, _, rfl, _, rfl, B, _, rfl, .inl ⟨kvs, .inr z, .inr ⟨od, e _ _ upd_same⟩, rfl, b1.symm⟩, b, _, rfl, .inl (SqL.of b3), rfl, flat_strs _, ?_⟩⟩
      change KT (V.bl (if false = true then !inV (V.str z) _ else inV (V.str z) _)) _
      rw [in_row2 (f := fun y => WR L y z) hz, no]
      exact kt _ _ false rfl (Same.refl _) rfl
    · intro H2 m
      have s2 := m.same
      have hB2 := s2 _ _ upd_same
      have DB : D ≠ B := (ne_of_none upd_same hD).symm
      have s3 := lock_same hBd s2
      refine ⟨hB2, D, _, rfl, SqL.of ((upd_ne DB).trans m.bls), ?_⟩
      rw [any_false fun _ _ => rfl]
      exact ⟨false, rfl, iteF ⟨_, rfl, q B _ (s1.trans s3) nB (hB.mono s3)⟩⟩
def spSurePairs (K : Frg) : Sp := fun vs H Q _ => ∃ (p : Addr) (L : LogD) (f : Str → Int), vs = [.ref p] ∧ LogAt K H p L ∧ LogOk L ∧ ExplBy L f ∧ ∀ v H', Same H H' → newL (rT2 rStr rStr) H H' v (prs L.items (WR L)) → Q v H'
theorem ok_sure_pairs (T : TX K mg) : OkF P w K mg base 12 (fA K "sure_pairs") ["log"] (spSurePairs K) := by
  refine okD T.D.d_sure_pairs sc_sure_pairs (fun vs H Q E h => ?_) (fun _ _ _ _ _ _ us hl => match us, hl with | [_], _ => rfl) (fun cdv A outer s H vs Q X hr h => ?_)
  · obtain ⟨p, L, f, rfl, _⟩ := h
    rfl
  · obtain ⟨p, L, f, rfl, hL, ok, ex, q⟩ := h
    have nd := sc_sure_pairs.nd
    have GW := ok_worse_in (P := P) (w := w) (base := base) T
    have GI := ok_items (P := P) (w := w) (base := base) T
    refine ⟨_, pss_cons (ps_set (i := 1) nd rfl (Or.inr rfl) (pcall GW hr rfl T.G.g_worse_in (pa_cons (pv 0) pa_nil)))
      (pss_one (ps_ret (pe_lc2 (own := [("one", 2), ("other", 3)]) (g := gName 2) (tt := tYes) (vs1 := [3]) rfl nd (piL K (pprop GI T.T.cl_Log (hr.mono (by decide)) (pv 0))) (blkOk_by (N := N_sure_pairs) (sc := defScope s_sure_pairs) (by decide +kernel)) (by decide)
        (fun _ _ _ _ _ => pg_name (i := 2) nd rfl (Or.inl rfl)) (fun _ _ _ _ _ => pts_nil) (fun _ _ _ _ _ => piL K (pprop GI T.T.cl_Log (hr.mono (by decide)) (pv 0))) (fun _ _ _ _ _ => pg_name (i := 3) nd rfl (Or.inl rfl))
        (fun _ _ _ _ _ => pts_one (pt_cmpR (inK K) (pv 2) (pe_dget (hu_of hr) (pv 1) (pv 3) (fun _ _ => rfl)) (by with_unfolding_all rfl))) (fun _ _ _ _ _ => pe_tup (pa_cons (pv 2) (pa_cons (pv 3) pa_nil)))))), ?_⟩
    exact ⟨_, rfl, p, L, f, rfl, hL, ok, ex, fun B H1 s1 nB hB => prs_read (hL.mono s1) ok hB fun v H2 s2 hv => q v H2 (s1.trans s2) (by
      obtain ⟨a, vs, rfl, na, ha, pa⟩ := hv
      exact ⟨a, vs, rfl, s1.free na, ha, pa⟩)⟩
end
end Rb
namespace Rb
open PySem PySem.Spec PyProof.Rows L2
/-- an outcome with a grade -/
def rOut : Rp Nat := fun H v g => ∃ a y, v = .ref a ∧ H a = some (.tup [.int (g : Int), y])
instance : Mono rOut := ⟨fun e h => by
  obtain ⟨a, y, h1, h2⟩ := h
  exact ⟨a, y, h1, e _ _ h2⟩⟩
theorem hu65 {A : Around} {k : Nat} (r : Room k A) : A.units + 65 < cLine := by
  have := r.un
  omega
theorem addEv_ok {L : LogD} (ok : LogOk L) {j d x : Str} {g : Nat} (hj : (j, d) ∈ L.judges) (hx : x ∈ L.items) (hg : g ≤ L.grades) (few : L.events.length < 120) : EvOk L.items L.grades (L.judges.map (·.1)) (.ans j x g) ∧ LogOk (addEv L (.ans j x g)) := by
  have h : EvOk L.items L.grades (L.judges.map (·.1)) (.ans j x g) := ⟨List.mem_map_of_mem (f := (·.1)) hj, hx, hg⟩
  exact ⟨h, ok.add h few⟩
section
variable {P : Program} {w : World} {K : Frg} {mg : Str → Option Value} {base : Heap}
def spMadeSure (K : Frg) : Sp := fun vs H Q _ => ∃ (p : Addr) (L : LogD) (j d x : Str), vs = [.ref p, .str j, .str x] ∧ LogAt K H p L ∧ LogOk L ∧ (j, d) ∈ L.judges ∧ x ∈ L.items ∧ L.events.length < 120 ∧
  ∀ v gs H', Same H H' → (∀ g, g ≤ L.grades → (∃ f, ExplBy (addEv L (.ans j x g)) f) → g ∈ gs) → gs.length ≤ 10 → rLst rOut H' v gs → Q v H'
theorem ok_made_sure (T : TX K mg) : OkF P w K mg base 12 (fA K "made_sure") ["log", "judge", "item"] (spMadeSure K) := by
  refine okD T.D.d_made_sure sc_made_sure (fun vs H Q E h => ?_) (fun _ _ _ _ _ _ us hl => match us, hl with | [_, _, _], _ => rfl) (fun cdv A outer s H vs Q X hr h => ?_)
  · obtain ⟨p, L, j, d, x, rfl, _⟩ := h
    rfl
  · obtain ⟨p, L, j, d, x, rfl, hL, ok, hj, hx, few, q⟩ := h
    have nd := sc_made_sure.nd
    have hu := hr.units
    have GP := ok_pairs_of (P := P) (w := w) (base := base) T
    have GR := (ok_ring_of (P := P) (w := w) (base := base) T).mono (k := 11) (by decide)
    have GW := (ok_with_event (P := P) (w := w) (base := base) T).mono (k := 11) (by decide)
    have GG := ok_grades (P := P) (w := w) (base := base) T
    obtain ⟨t1, g1⟩ := T.C.c_ANSWER
    refine ⟨_, pss_cons (ps_set (i := 3) nd rfl (Or.inr rfl) (pcall GP hr rfl T.G.g_pairs_of (pa_cons (pv 0) pa_nil)))
      (pss_cons (ps_set (i := 4) nd rfl (Or.inl rfl) (pe_lst pa_nil))
      (pss_cons (ps_for PassesOwn.never rfl (pi_range1 rfl T.B.b_range (pa_cons (pe_op op_add (pprop GG T.T.cl_Log (hr.mono (by decide)) (pv 0)) pe_int) pa_nil)) (pg_name (i := 5) nd rfl (Or.inl rfl))
        (pss_cons (ps_set (i := 6) nd rfl (Or.inl rfl) (pmeth GW T.T.cl_Log T.M.m_Log_with_event hr (pv 0) (pa_cons (pe_tup (pa_cons (pe_glob (v := .str "answer") rfl g1 ⟨_, rfl⟩) (pa_cons (pv 1) (pa_cons (pv 2) (pa_cons (pv 5) pa_nil))))) pa_nil)))
        (pss_one (ps_if (pt_cmpR op_isN (pcall GR hr rfl T.G.g_ring_of (pa_cons (pv 6) pa_nil)) pe_non (nomark _))
          (pss_one (ps_expr (pe_bm PySem.F.plainAttrs_list PySem.F.slot_list_append PySem.F.type_list_append mt_append (pv 4) (pa_cons (pe_tup (pa_cons (pv 5) (pa_cons
            (pe_lc (own := [("pair", 7)]) (g := gName 7) rfl nd (piL K (pcall GP hr rfl T.G.g_pairs_of (pa_cons (pv 6) pa_nil))) (blkOk_by (N := N_made_sure) (sc := defScope s_made_sure) (by decide +kernel)) (fun _ _ _ _ _ => pg_name (i := 7) nd rfl (Or.inl rfl))
              (fun _ _ _ _ _ => pts_one (pt_cmpR (notInDK K (hu65 hr)) (pv 7) (pv 3) (by with_unfolding_all rfl))) (fun _ _ _ _ _ => pv 7)) pa_nil))) pa_nil)))) pss_nil))))
      (pss_one (ps_ret (pv 4))))), ?_⟩
    refine ⟨_, rfl, p, L, rfl, hL, ok, fun v H1 s1 hv => ?_⟩
    obtain ⟨bl, bvs, rfl, nbl, hbl, pbl⟩ := hv
    refine ⟨by show 0 ≤ sizeLine; decide, fun D hD => ?_⟩
    have s2 : Same H1 (upd H1 D (.lst [])) := sNew hD
    have hL2 := (hL.mono s1).mono s2
    obtain ⟨dx, pi, pj, pe, vj, ve, hp, _⟩ := hL2.ex
    have g9 := ok.g9
    refine ⟨_, rfl, p, dx, _, rfl, hp, p, L, rfl, hL2, _, _, rfl, rfl, _, rfl, by omega, by omega, ?_⟩
    have e0 : ((L.grades : Int) + 1).toNat = L.grades + 1 := by omega
    rw [e0]
    refine for_it (walk_nat (n := L.grades + 1)) (fun i σ H' => (∃ u5 u6, σ = [some (V.ref p), some (V.str j), some (V.str x), some (V.ref bl), some (V.ref D), u5, u6, none]) ∧ ∃ gs, MadeL rOut H1 D gs H' ∧ gs.length ≤ i ∧ ∀ g, g < i → (∃ f, ExplBy (addEv L (.ans j x g)) f) → g ∈ gs)
      ⟨⟨_, _, rfl⟩, [], ⟨?_, [], upd_same, .nil⟩, Nat.le_refl _, fun g hg => absurd hg (Nat.not_lt_zero _)⟩ (fun _ _ _ _ _ => trivial) ?_ ?_
    · rw [del_upd]
      exact sDelR (Same.refl _) hD
    · rintro i y σ H3 H4 hi ⟨⟨u5, u6, rfl⟩, gs, m, lg, all⟩ ⟨rfl, rfl⟩
      obtain ⟨eo, ok2⟩ := addEv_ok ok hj hx (Nat.lt_succ_iff.mp hi) few
      have s14 := s1.trans m.same
      obtain ⟨m1, ws, hD4, rs⟩ := id m
      -- (ANSWER, judge, item, grade)
      refine ⟨_, rfl, p, _, _, rfl, s14 _ _ (hL.ex.choose_spec.choose_spec.choose_spec.choose_spec.choose_spec.choose_spec.1), lf_no (by decide +kernel), _, rfl, _, rfl, _, rfl, (by show 4 ≤ sizeLine; decide), fun t nt => ?_⟩
      have st := sNew (o := .tup [.str "answer", .str j, .str x, .int (i : Int)]) nt
      refine ⟨p, _, L, .ans j x i, rfl, (hL.mono s14).mono st, ok, ⟨t, rfl, upd_same⟩, eo, few, fun a H5 s5 na hL5 _ => ?_⟩
      have s45 := st.trans s5
      refine ⟨_, rfl, a, _, rfl, hL5, ok2, fun v H6 s6 hv => ⟨rfl, _, rfl, ite2 (fun c => ?_) (fun c => ?_)⟩⟩
      · have s46 := s45.trans s6
        have hD6 := s46 _ _ hD4
        refine ⟨_, rfl, .inl ⟨rfl, _, SqL.of hD6⟩, _, rfl, _, rfl, a, _, rfl, hL5.mono s6, ok2, fun v2 H7 s7 hv2 => ?_⟩
        obtain ⟨lp, lvs, rfl, nlp, hlp, plp⟩ := hv2
        have hlen := pLen plp
        have s17 := (m.same.trans s46).trans s7
        have hbl7 := s17 _ _ hbl
        have pbl7 := pMono s17 pbl
        have few2 := ok2.items.le
        have l2 : lvs.length ≤ 400 := by
          rw [hlen]
          have l1 := prs_len (items := (addEv L (.ans j x i)).items) (xs := (addEv L (.ans j x i)).items) (W := WR (addEv L (.ans j x i)))
          exact Nat.le_trans l1 (Nat.mul_le_mul few2 few2)
        refine ⟨lp, rfl, ⟨_, SqL.of hlp⟩, fun C hC => lcP walk_list (rT2 rStr rStr) hC (Nat.lt_of_le_of_lt l2 (by decide)) (fun i' : Nat => ((prs (addEv L (.ans j x i)).items (WR (addEv L (.ans j x i))))[i']?).bind fun pr => if (!decide (pr ∈ prs L.items (WR L))) = true then some pr else none) (fun _ e => SqL.of (e _ _ hlp)) ?_ ?_⟩
        · rintro k y H8 H9 KT KF hk e ⟨acc, hacc⟩ ⟨rfl, hy⟩ kt kf
          obtain ⟨pr, hpr, h0⟩ := pGet plp hy
          have h9 := Mono.mono e h0
          obtain ⟨ta, tx, ty, rfl, hta, e1, e2⟩ := id h9
          have nta : ta ≠ C := by
            obtain ⟨_, _, _, z, hz, _⟩ := h0
            cases z
            exact ne_of_none hz hC
          refine ⟨rfl, _, rfl, _, rfl, prD pr, (prs L.items (WR L)).map prD, prD_dp _ _ h9, .lst (SqL.of (e _ _ hbl7)) (dp_list prD_dp (pMono e pbl7)), prD_shaped (ok2.prNames (List.mem_of_getElem? hpr)), prs_shaped ok, ?_⟩
          rw [any_eqv prD_eqv]
          refine ⟨_, rfl, ite2 (fun c => ⟨_, rfl, kt _ _ pr (by rw [hpr, Option.bind_some]; exact if_pos (by simpa using c)) (Same.refl _) ⟨ta, tx, ty, rfl, by rw [del_ne nta]; exact hta, e1, e2⟩⟩) (fun c => kf _ (by rw [hpr, Option.bind_some]; exact if_neg (by simpa using c)) (Same.refl _))⟩
        · intro H8 m8
          have s8 := m8.same
          refine ⟨by show 2 ≤ sizeLine; decide, fun t2 nt2 => ?_⟩
          have st2 := sNew (o := .tup [.int (i : Int), .ref C]) nt2
          have s68 := ((s46.trans s7).trans s8).trans st2
          have hD8 := s68 _ _ hD4
          have t2D : t2 ≠ D := (ne_of_none (((s46.trans s7).trans s8) _ _ hD4) nt2).symm
          refine ⟨D, ws, _, rfl, rfl, hD8, by rw [pLen rs]; exact Nat.lt_of_le_of_lt (show _ ≤ 10 by omega) (by decide), ⟨_, _, rfl⟩, gs ++ [i], ⟨?_, _, upd_same, ?_⟩, by rw [List.length_append]; exact Nat.succ_le_succ lg, fun g hg hf => ?_⟩
          · rw [del_upd]
            exact m1.trans (sDel s68)
          · rw [del_upd]
            exact pSnoc (pMono (sDel s68) rs) ⟨t2, _, rfl, by rw [del_ne t2D]; exact upd_same⟩
          · rcases Nat.lt_succ_iff_lt_or_eq.mp hg with hg | rfl
            · exact List.mem_append.mpr (.inl (all g hg hf))
            · exact List.mem_append.mpr (.inr (.head _))
      · have s46 := s45.trans s6
        refine ⟨⟨_, _, rfl⟩, gs, ⟨m1.trans (sDel s46), ws, s46 _ _ hD4, pMono (sDel s46) rs⟩, Nat.le_succ_of_le lg, fun g hg hf => ?_⟩
        rcases Nat.lt_succ_iff_lt_or_eq.mp hg with hg | rfl
        · exact all g hg hf
        · obtain ⟨f, hf⟩ := hf
          exact absurd (decide_eq_true (hv f hf)) c
    · rintro σ H3 ⟨⟨u5, u6, rfl⟩, gs, m, lg, all⟩
      exact ⟨_, rfl, q _ gs _ (s1.trans m.same) (fun g hg => all g (Nat.lt_succ_iff.mpr hg)) (by omega) m.rep⟩
def spOutcomes (K : Frg) : Sp := fun vs H Q _ => ∃ (p : Addr) (L : LogD) (j d x : Str) (f : Str → Int), vs = [.ref p, .str j, .str x] ∧ LogAt K H p L ∧ LogOk L ∧ ExplBy L f ∧ (j, d) ∈ L.judges ∧ x ∈ L.items ∧ L.events.length < 120 ∧
  ∀ v gs H', Same H H' → (∀ g, g ≤ L.grades → (∃ f, ExplBy (addEv L (.ans j x g)) f) → g ∈ gs) → gs.length ≤ 10 → rLst rOut H' v gs → Q v H'
theorem ok_outcomes (T : TX K mg) : OkF P w K mg base 13 (fA K "outcomes") ["log", "judge", "item"] (spOutcomes K) := by
  refine okD T.D.d_outcomes sc_outcomes (fun vs H Q E h => ?_) (fun _ _ _ _ _ _ us hl => match us, hl with | [_, _, _], _ => rfl) (fun cdv A outer s H vs Q X hr h => ?_)
  · obtain ⟨p, L, j, d, x, f, rfl, _⟩ := h
    rfl
  · obtain ⟨p, L, j, d, x, f, rfl, hL, ok, ex, hj, hx, few, q⟩ := h
    have G1 := (ok_check_explained (P := P) (w := w) (base := base) T).mono (k := 12) (by decide)
    have G2 := (ok_check_ask (P := P) (w := w) (base := base) T).mono (k := 12) (by decide)
    have G3 := (ok_check_room (P := P) (w := w) (base := base) T).mono (k := 12) (by decide)
    have G4 := ok_made_sure (P := P) (w := w) (base := base) T
    refine ⟨_, pss_cons (ps_expr (pcall G1 hr rfl T.G.g_check_explained (pa_cons (pv 0) pa_nil)))
      (pss_cons (ps_expr (pcall G2 hr rfl T.G.g_check_ask (pa_cons (pv 0) (pa_cons (pv 1) (pa_cons (pv 2) pa_nil)))))
      (pss_cons (ps_expr (pcall G3 hr rfl T.G.g_check_room (pa_cons (pv 0) (pa_cons pe_int pa_nil))))
      (pss_one (ps_ret (pcall G4 hr rfl T.G.g_made_sure (pa_cons (pv 0) (pa_cons (pv 1) (pa_cons (pv 2) pa_nil)))))))), ?_⟩
    refine ⟨_, rfl, p, L, f, rfl, hL, ok, ex, fun H1 s1 => ?_⟩
    refine ⟨_, rfl, _, rfl, _, rfl, p, L, j, d, x, rfl, hL.mono s1, ok, hj, hx, fun H2 s2 => ?_⟩
    have s12 := s1.trans s2
    refine ⟨_, rfl, p, L, 1, rfl, hL.mono s12, few, fun H3 s3 => ?_⟩
    have s13 := s12.trans s3
    exact ⟨_, rfl, _, rfl, _, rfl, p, L, j, d, x, rfl, hL.mono s13, ok, hj, hx, few, fun v gs H4 s4 a b c => q v gs H4 (s13.trans s4) a b c⟩
end
end Rb
namespace Rb
open PySem PySem.Spec PyProof.Rows L2
/-! ### a heap without some places -/
def cut (F : List Addr) (H : Hp) : Hp := fun a => if a ∈ F then none else H a
theorem cut_in {F : List Addr} {H : Hp} {a : Addr} (h : a ∈ F) : cut F H a = none := by unfold cut; rw [if_pos h]
theorem cut_out {F : List Addr} {H : Hp} {a : Addr} (h : a ∉ F) : cut F H a = H a := by unfold cut; rw [if_neg h]
theorem cut_le {F : List Addr} {H : Hp} : Same (cut F H) H := fun a o h => by
  by_cases z : a ∈ F
  · rw [cut_in z] at h; cases h
  · rw [cut_out z] at h; exact h
theorem cut_upd {F : List Addr} {H : Hp} {a : Addr} {o : HO} (h : a ∈ F) : cut F (upd H a o) = cut F H := by
  funext b
  unfold cut
  split
  · rfl
  · rename_i z
    exact upd_ne fun e => z (e ▸ h)
theorem sCut {F : List Addr} {H H' : Hp} (e : Same H H') : Same (cut F H) (cut F H') := fun a o h => by
  by_cases z : a ∈ F
  · rw [cut_in z] at h; cases h
  · rw [cut_out z] at h ⊢
    exact e _ _ h
theorem cut_more {F G : List Addr} {H H' : Hp} (h : ∀ a, a ∈ G → a ∈ F) (e : Same (cut G H) (cut G H')) : Same (cut F H) (cut F H') := fun a o ha => by
  by_cases z : a ∈ F
  · rw [cut_in z] at ha; cases ha
  · have z2 : a ∉ G := fun q => z (h a q)
    rw [cut_out z] at ha ⊢
    rw [← cut_out z2 (H := H')]
    exact e _ _ (by rw [cut_out z2]; exact ha)
theorem Same.cutN {F : List Addr} {H H' : Hp} {a : Addr} {o : HO} (h : H' a = some o) (n : ∀ f ∈ F, H f ≠ none) (na : H a = none) : cut F H' a = some o := by
  rw [cut_out fun m => n a m na]
  exact h
/-! ### sorted texts -/
theorem strNot {a b : Str} : ltCps b.cps.toList a.cps.toList = false ↔ a.cps.toList ≤ b.cps.toList := by
  rw [ltCps_eq, decide_eq_false_iff_not]
  exact List.not_lt
theorem rising_pw : ∀ (r : List Str) (x : Str), risingS x r = true → (x :: r).Pairwise fun a b => a.cps.toList ≤ b.cps.toList
  | [], x, _ => List.pairwise_singleton _ _
  | y :: r, x, h => by
    obtain ⟨h1, h2⟩ := (Bool.and_eq_true _ _).mp (show (!ltCps y.cps.toList x.cps.toList && risingS y r) = true from h)
    have h1 := strNot.mp (Bool.not_eq_true' _ ▸ h1)
    have ih := rising_pw r y h2
    refine List.pairwise_cons.mpr ⟨fun z hz => ?_, ih⟩
    rcases List.mem_cons.mp hz with rfl | hz
    · exact h1
    · exact List.le_trans h1 (List.rel_of_pairwise_cons ih hz)
theorem sorted_pw {xs : List Str} (h : sortedS xs = true) : xs.Pairwise fun a b => a.cps.toList ≤ b.cps.toList := by
  cases xs with
  | nil => exact .nil
  | cons x r => exact rising_pw r x h
theorem str_anti {a b : Str} (h : a.cps.toList ≤ b.cps.toList) (h' : b.cps.toList ≤ a.cps.toList) : a = b := by
  have e := List.le_antisymm h h'
  have e2 := Array.toList_inj.mp e
  cases a; cases b
  exact congrArg _ e2
theorem sorted_uniq : ∀ {xs ys : List Str}, xs.Perm ys → (xs.Pairwise fun a b => a.cps.toList ≤ b.cps.toList) → (ys.Pairwise fun a b => a.cps.toList ≤ b.cps.toList) → xs = ys
  | [], ys, p, _, _ => by rw [List.nil_perm.mp p]
  | x :: xs, [], p, _, _ => by have := p.length_eq; cases this
  | x :: xs, y :: ys, p, h1, h2 => by
    have e : x = y := by
      rcases List.mem_cons.mp (p.mem_iff.mp (List.mem_cons_self ..)) with e | m
      · exact e
      · rcases List.mem_cons.mp (p.mem_iff.mpr (List.mem_cons_self (a := y) (l := ys))) with e | m2
        · exact e.symm
        · exact str_anti (List.rel_of_pairwise_cons h1 m2) (List.rel_of_pairwise_cons h2 m)
    subst e
    rw [sorted_uniq ((List.perm_cons x).mp p) (List.pairwise_cons.mp h1).2 (List.pairwise_cons.mp h2).2]
/-! ### dict(d), sorted(d) -/
def rDictOf : List V → Hp → VK → Prop := fun vs H Q => ∃ (a : Addr) (kvs : List (Key × V)), vs = [.ref a] ∧ Rd H a (.dK kvs) ∧ ∀ p, H p = none → Q (.ref p) (upd H p (.dK kvs))
theorem dictOf {X : Cx} : CallR X (.type "dict") rDictOf := by
  intro pins s σ H vs us Q I r h
  obtain ⟨a, kvs, rfl, rd, q⟩ := h
  obtain ⟨u, rfl, rx⟩ := vals1 r
  cases rx
  exact d_copyOf I rd fun p s' hp I' => ⟨.ref p, _, I', rfl, q p hp⟩
def rSortedKeys : List V → Hp → VK → Prop := fun xs H Q => ∃ (a : Addr) (kvs : List (Key × V)) (ks : List Str), xs = [.ref a] ∧ Rd H a (.dK kvs) ∧ kvs.map (·.1) = ks.map Sum.inr ∧ ks.length < 64 ∧ ∀ ys p, ys.Perm ks → sortedS ys = true → H p = none → Q (.ref p) (upd H p (.lst (ys.map V.str)))
theorem sortedK {X : Cx} (h : X.calm = true := by rfl) : CallR X (.builtin "sorted") rSortedKeys := call_sortedD h
end Rb
namespace Rb
open PySem PySem.Spec PyProof.Rows L2
def wflds (lp qa ba ta : Addr) : List (Str × V) := [("_log", .ref lp), ("_qualities", .ref qa), ("_bars", .ref ba), ("_told", .ref ta)]
section
variable {lp qa ba ta : Addr}
theorem wf_log : (wflds lp qa ba ta).lookup ("_log" : Str) = some (V.ref lp) := lk_hit
theorem wf_qual : (wflds lp qa ba ta).lookup ("_qualities" : Str) = some (V.ref qa) := (lk_miss (by decide +kernel)).trans lk_hit
theorem wf_bars : (wflds lp qa ba ta).lookup ("_bars" : Str) = some (V.ref ba) := (lk_miss (by decide +kernel)).trans ((lk_miss (by decide +kernel)).trans lk_hit)
theorem wf_told : (wflds lp qa ba ta).lookup ("_told" : Str) = some (V.ref ta) := (lk_miss (by decide +kernel)).trans ((lk_miss (by decide +kernel)).trans ((lk_miss (by decide +kernel)).trans lk_hit))
def notWf (m : Str) : Bool := !decide (m = "_log") && (!decide (m = "_qualities") && (!decide (m = "_bars") && !decide (m = "_told")))
theorem wf_no {m : Str} (h : notWf m = true) : (wflds lp qa ba ta).lookup m = none := by
  unfold notWf at h
  simp only [Bool.and_eq_true, Bool.not_eq_true'] at h
  obtain ⟨h1, h2, h3, h4⟩ := h
  exact (lk_miss h1).trans ((lk_miss h2).trans ((lk_miss h3).trans ((lk_miss h4).trans rfl)))
theorem wn1 : ¬ ("_log" : Str) = "_qualities" := str_ne (by decide +kernel)
theorem wn2 : ¬ ("_log" : Str) = "_bars" := str_ne (by decide +kernel)
theorem wn3 : ¬ ("_log" : Str) = "_told" := str_ne (by decide +kernel)
theorem wn4 : ¬ ("_qualities" : Str) = "_bars" := str_ne (by decide +kernel)
theorem wn5 : ¬ ("_qualities" : Str) = "_told" := str_ne (by decide +kernel)
theorem wn6 : ¬ ("_bars" : Str) = "_told" := str_ne (by decide +kernel)
theorem wf_made : putF "_told" (.ref ta) (putF "_bars" (.ref ba) (putF "_qualities" (.ref qa) (putF "_log" (.ref lp) []))) = wflds lp qa ba ta := by
  simp only [putF, if_neg wn1, if_neg wn2, if_neg wn3, if_neg wn4, if_neg wn5, if_neg wn6]
  rfl
theorem wf_put {lp' : Addr} : putF "_log" (.ref lp') (wflds lp qa ba ta) = wflds lp' qa ba ta := by
  unfold wflds
  simp only [putF, if_pos]
end
/-- bars in order -/
def Rising (bs : List Int) : Prop := ∀ i a b, bs[i]? = some a → bs[i + 1]? = some b → a ≤ b
def QualAt (S : Hp) (qa : Addr) (L : LogD) (f : Str → Int) : Prop := ∃ kq, S qa = some (.dK kq) ∧ ∀ x ∈ L.items, valV kq (.inr x) = some (.int (f x))
/-- a bar row of a place -/
def ToldRow (S : Hp) (kv : Key × V) (t : Nat × List Int) : Prop := kv.1 = .inl (t.1 : Int) ∧ ∃ b, kv.2 = .ref b ∧ S b = some (.lst (t.2.map V.int))
/-- a world stands at p; F: what may change -/
structure WSt (K : Frg) (F : List Addr) (H : Hp) (p lp qa ba ta : Addr) (L : LogD) (f : Str → Int) (bars : Str → List Int) (told : List (Nat × List Int)) : Prop where
  inP : p ∈ F
  inB : ba ∈ F
  inT : ta ∈ F
  ne : ba ≠ ta
  here : ∀ a ∈ F, H a ≠ none
  flat : ∀ a ∈ F, ∀ xs, H a ≠ some (.tup xs)
  obj : ∃ dx, H p = some (.ins (fA K "World") dx (wflds lp qa ba ta))
  log : LogAt K (cut F H) lp L
  ok : LogOk L
  qual : QualAt (cut F H) qa L f
  barsOk : ∃ kb : List (Key × V), H ba = some (.dK kb) ∧ kb.length ≤ 8 ∧ ∀ j ∈ L.judges.map (·.1), ∃ b, valV kb (.inr j) = some (.ref b) ∧ cut F H b = some (.lst ((bars j).map V.int))
  toldOk : ∃ kt : List (Key × V), H ta = some (.dK kt) ∧ Paired (ToldRow (cut F H)) kt told
section
variable {K : Frg} {F : List Addr} {H H' : Hp} {p lp qa ba ta : Addr} {L : LogD} {f : Str → Int} {bars : Str → List Int} {told : List (Nat × List Int)}
theorem ToldRow.mono {S S' : Hp} (e : Same S S') {kt : List (Key × V)} (h : Paired (ToldRow S) kt told) : Paired (ToldRow S') kt told :=
  Paired.mapP h fun _ _ q => by
    obtain ⟨h1, b, h2, h3⟩ := q
    exact ⟨h1, b, h2, e _ _ h3⟩
theorem QualAt.mono {S S' : Hp} (e : Same S S') (h : QualAt S qa L f) : QualAt S' qa L f := by
  obtain ⟨kq, h1, h2⟩ := h
  exact ⟨kq, e _ _ h1, h2⟩
theorem same_at {a : Addr} (e : Same H H') (h : H a ≠ none) : H' a = H a := by
  cases z : H a with
  | none => exact absurd z h
  | some o => exact e _ _ z
theorem WSt.mono (e : Same H H') (h : WSt K F H p lp qa ba ta L f bars told) : WSt K F H' p lp qa ba ta L f bars told := by
  have at_ : ∀ a ∈ F, H' a = H a := fun a m => same_at e (h.here a m)
  have s := sCut (F := F) e
  refine ⟨h.inP, h.inB, h.inT, h.ne, fun a m => at_ a m ▸ h.here a m, fun a m => at_ a m ▸ h.flat a m, ?_, h.log.mono s, h.ok, h.qual.mono s, ?_, ?_⟩
  · obtain ⟨dx, z⟩ := h.obj
    exact ⟨dx, e _ _ z⟩
  · obtain ⟨kb, z1, z2, z3⟩ := h.barsOk
    refine ⟨kb, e _ _ z1, z2, fun j hj => ?_⟩
    obtain ⟨b, y1, y2⟩ := z3 j hj
    exact ⟨b, y1, s _ _ y2⟩
  · obtain ⟨kt, z1, z2⟩ := h.toldOk
    exact ⟨kt, e _ _ z1, ToldRow.mono s z2⟩
end
abbrev CW (K : Frg) : Addr := fA K "World"
section
variable {P : Program} {w : World} {K : Frg} {mg : Str → Option Value} {base : Heap}
def spQualityOf (K : Frg) : Sp := fun vs H Q _ => ∃ (p lp qa ba ta : Addr) (L : LogD) (f : Str → Int) (bars : Str → List Int) (told : List (Nat × List Int)) (F : List Addr) (x : Str), vs = [.ref p, .str x] ∧ WSt K F H p lp qa ba ta L f bars told ∧ x ∈ L.items ∧ Q (.int (f x)) H
theorem ok_quality_of (T : TX K mg) : OkF P w K mg base 1 (mA K "World" "quality_of") ["self", "item"] (spQualityOf K) := by
  refine okD T.M.d_World_quality_of sc_World_quality_of (fun vs H Q E h => ?_) (fun _ _ _ _ _ _ us hl => match us, hl with | [_, _], _ => rfl) (fun cdv A outer s H vs Q X hr h => ?_)
  · obtain ⟨p, lp, qa, ba, ta, L, f, bars, told, F, x, rfl, _⟩ := h
    rfl
  · obtain ⟨p, lp, qa, ba, ta, L, f, bars, told, F, x, rfl, ws, hx, q⟩ := h
    refine ⟨_, pss_cons (ps_if (pt_cmp (pc_dnotin (hu_of hr) (pv 1) (peF K (pv 0))) (by with_unfolding_all rfl)) pss_never pss_nil)
      (pss_one (ps_ret (pe_dget (hu_of hr) (peF K (pv 0)) (pv 1) (fun _ _ => rfl)))), ?_⟩
    obtain ⟨dx, hp⟩ := ws.obj
    obtain ⟨kq, hq, hv⟩ := ws.qual
    have hq := cut_le _ _ hq
    refine ⟨_, rfl, _, rfl, p, _, dx, _, _, rfl, hp, T.T.cl_World, T.T.n_World_qualities, wf_qual, qa, _, rfl, dgetK (k := .inr x) hq (hv x hx), false, rfl, iteF ?_⟩
    exact ⟨_, rfl, p, _, dx, _, _, rfl, hp, T.T.cl_World, T.T.n_World_qualities, wf_qual, _, rfl, qa, _, rfl, dgetK (k := .inr x) hq (hv x hx), q⟩
def spBarsOf (K : Frg) : Sp := fun vs H Q _ => ∃ (p lp qa ba ta : Addr) (L : LogD) (f : Str → Int) (bars : Str → List Int) (told : List (Nat × List Int)) (F : List Addr) (j : Str), vs = [.ref p, .str j] ∧ WSt K F H p lp qa ba ta L f bars told ∧ j ∈ L.judges.map (·.1) ∧
  ∀ b H', Same H H' → H b = none → H' b = some (.lst ((bars j).map V.int)) → Q (.ref b) H'
theorem ok_bars_of (T : TX K mg) : OkF P w K mg base 1 (mA K "World" "bars_of") ["self", "judge"] (spBarsOf K) := by
  refine okD T.M.d_World_bars_of sc_World_bars_of (fun vs H Q E h => ?_) (fun _ _ _ _ _ _ us hl => match us, hl with | [_, _], _ => rfl) (fun cdv A outer s H vs Q X hr h => ?_)
  · obtain ⟨p, lp, qa, ba, ta, L, f, bars, told, F, x, rfl, _⟩ := h
    rfl
  · obtain ⟨p, lp, qa, ba, ta, L, f, bars, told, F, j, rfl, ws, hj, q⟩ := h
    refine ⟨_, pss_cons (ps_if (pt_cmp (pc_dnotin (hu_of hr) (pv 1) (peF K (pv 0))) (by with_unfolding_all rfl)) pss_never pss_nil)
      (pss_one (ps_ret (pe_callTy (listK K) rfl T.B.b_list PyProof.Rows.boot_list (pa_cons (pe_dget (hu_of hr) (peF K (pv 0)) (pv 1) (fun _ _ => rfl)) pa_nil)))), ?_⟩
    obtain ⟨dx, hp⟩ := ws.obj
    obtain ⟨kb, hb, _, hv⟩ := ws.barsOk
    obtain ⟨b, hb1, hb2⟩ := hv j hj
    refine ⟨_, rfl, _, rfl, p, _, dx, _, _, rfl, hp, T.T.cl_World, T.T.n_World_bars, wf_bars, ba, _, rfl, dgetK (k := .inr j) hb hb1, false, rfl, iteF ?_⟩
    exact ⟨_, rfl, p, _, dx, _, _, rfl, hp, T.T.cl_World, T.T.n_World_bars, wf_bars, _, rfl, ba, _, rfl, dgetK (k := .inr j) hb hb1, b, _, rfl, .inl (SqL.of (cut_le _ _ hb2)), fun l nl => q l _ (sNew nl) nl upd_same⟩
end
end Rb
namespace Rb
open PySem PySem.Spec PyProof.Rows L2
def intsD (bs : List Int) : PyData := .list (bs.map .int)
theorem intsD_dp {K : Frg} {H : Hp} {b : Addr} {bs : List Int} (h : H b = some (.lst (bs.map V.int))) : Dp K H (.ref b) (intsD bs) :=
  .lst (SqL.of h) (dp_list (r := rInt) (f := .int) (fun v x e => by obtain rfl : v = V.int x := e; exact .int x) (pInt.mpr rfl))
theorem intsD_shaped (bs : List Int) : SeqAt.shaped (intsD bs) = true := shaped_list fun d hd => by
  obtain ⟨i, _, rfl⟩ := List.mem_map.mp hd
  simp [PyData.canLay0, PyData.depth]
theorem ints_eqv : ∀ bs cs : List Int, PyData.eqvAll (bs.map .int) (cs.map .int) = decide (bs = cs)
  | [], [] => by simp [PyData.eqvAll]
  | [], _ :: _ => by simp [PyData.eqvAll]
  | _ :: _, [] => by simp [PyData.eqvAll]
  | b :: bs, c :: cs => by
    have ih := ints_eqv bs cs
    simp only [List.map_cons, PyData.eqvAll, PyData.eqv, ih]
    by_cases h1 : b = c <;> by_cases h2 : bs = cs <;> simp [h1, h2]
theorem intsD_eqv (bs cs : List Int) : PyData.eqv (intsD bs) (intsD cs) = decide (bs = cs) := by
  rw [← ints_eqv]
  simp only [intsD, PyData.eqv]
theorem get_i {bs : List Int} {i : Nat} {a : Int} (h : bs[i]? = some a) : (bs.map V.int)[i]? = some (.int a) := by rw [List.getElem?_map, h]; rfl
theorem get_iv {bs : List Int} {i : Nat} {x : V} (h : (bs.map V.int)[i]? = some x) : ∃ a, bs[i]? = some a ∧ x = .int a := by
  rw [List.getElem?_map] at h
  cases e : bs[i]? with
  | none => rw [e] at h; cases h
  | some n => rw [e] at h; exact ⟨n, rfl, (Option.some.inj h).symm⟩
def MoveOk (d : Str) (bs cs : List Int) : Prop := bs.length = cs.length ∧ (d = "rises" → ∀ (i : Nat) (a b : Int), bs[i]? = some a → cs[i]? = some b → a ≤ b) ∧ (d = "falls" → ∀ (i : Nat) (a b : Int), bs[i]? = some a → cs[i]? = some b → b ≤ a) ∧ (d = "stays" → bs = cs)
section
variable {P : Program} {w : World} {K : Frg} {mg : Str → Option Value} {base : Heap}
def spCheckBars : Sp := fun vs H Q _ => ∃ (b : Addr) (bs : List Int) (g : Nat), vs = [.int (g : Int), .ref b] ∧ H b = some (.lst (bs.map V.int)) ∧ bs.length = g ∧ g ≤ 9 ∧ Rising bs ∧ ∀ H', Same H H' → Q .non H'
theorem ok_check_bars (T : TX K mg) : OkF P w K mg base 1 (fA K "check_bars") ["grades", "bars"] spCheckBars := by
  refine okD T.D.d_check_bars sc_check_bars (fun vs H Q E h => ?_) (fun _ _ _ _ _ _ us hl => match us, hl with | [_, _], _ => rfl) (fun cdv A outer s H vs Q X hr h => ?_)
  · obtain ⟨b, bs, g, rfl, _⟩ := h
    rfl
  · obtain ⟨b, bs, g, rfl, hb, hg, g9, up, q⟩ := h
    have nd := sc_check_bars.nd
    refine ⟨_, pss_one (ps_if (PW.pt (pw_or (pt_cmpR op_ne (pe_callB (lenK K) rfl T.B.b_len boot_len (pa_cons (pv 1) pa_nil)) (pv 0) (nomark _)) (pw_or1 (pt_val (pe_callB (anyK K) rfl T.B.b_any boot_any (pa_cons
      (pe_lc (own := [("at", 2)]) (g := gName 2) (tt := tYes) rfl nd (pi_range1 rfl T.B.b_range (pa_cons (pe_op op_sub (pe_callB (lenK K) rfl T.B.b_len boot_len (pa_cons (pv 1) pa_nil)) pe_int) pa_nil)) (blkOk_by (N := N_check_bars) (sc := defScope s_check_bars) (by decide +kernel))
        (fun _ _ _ _ _ => pg_name (i := 2) nd rfl (Or.inl rfl)) (fun _ _ _ _ _ => pts_nil) (fun _ _ _ _ _ => pe_cmpR op_lt (pe_ix (ixL K) (pv 1) (pe_op op_add (pv 2) pe_int) (fun _ _ => rfl)) (pe_ix (ixL K) (pv 1) (pv 2) (fun _ _ => rfl)) (nomark _))) pa_nil)))))) pss_never pss_nil), ?_⟩
    have ll : (bs.map V.int).length = g := by rw [List.length_map]; exact hg
    refine ⟨_, rfl, b, _, rfl, .inl (SqL.of hb), _, rfl, rfl, false, ?_, iteF ?_⟩
    · rw [ll, decide_eq_true rfl]
      rfl
    refine ⟨_, rfl, b, _, rfl, .inl (SqL.of hb), _, _, rfl, rfl, _, rfl, by omega, by omega, fun D hD => ?_⟩
    have e0 : (((bs.map V.int).length : Int) - 1).toNat = g - 1 := by omega
    rw [e0]
    refine lcP walk_nat rBl hD (Nat.lt_of_le_of_lt (show g - 1 ≤ 9 by omega) (by decide)) (fun _ => some false) (fun _ _ => trivial) ?_ ?_
    · rintro i x H1 H2 KT KF hi e _ ⟨rfl, rfl⟩ kt kf
      have h1 : ∃ a, bs[i + 1]? = some a := ⟨_, List.getElem?_eq_getElem (by omega)⟩
      have h2 : ∃ a, bs[i]? = some a := ⟨_, List.getElem?_eq_getElem (by omega)⟩
      obtain ⟨a1, h1⟩ := h1
      obtain ⟨a2, h2⟩ := h2
      have le := up i a2 a1 h2 h1
      have hb2 := e _ _ hb
      refine ⟨rfl, yes_it ?_⟩
      refine ⟨_, rfl, _, rfl, _, _, rfl, rfl, b, _, _, _, rfl, rfl, SqL.of hb2, atI_nat (j := i + 1) (get_i h1), _, rfl, _, rfl, b, _, _, _, rfl, rfl, SqL.of hb2, atI_nat (get_i h2), _, _, rfl, rfl, kt _ _ false rfl (Same.refl _) (congrArg V.bl (decide_eq_false (by omega)))⟩
    · intro H1 m
      refine ⟨D, _, rfl, SqL.of m.bls, ?_⟩
      rw [any_false fun _ _ => rfl]
      exact ⟨false, rfl, iteF (q H1 m.same)⟩
def spIsMove : Sp := fun vs H Q _ => ∃ (b c : Addr) (bs cs : List Int) (d : Str), vs = [.str d, .ref b, .ref c] ∧ H b = some (.lst (bs.map V.int)) ∧ H c = some (.lst (cs.map V.int)) ∧ DriftOk d ∧ MoveOk d bs cs ∧ bs.length ≤ 9 ∧ ∀ H', Same H H' → Q (.bl true) H'
theorem ok_is_move (T : TX K mg) : OkF P w K mg base 1 (fA K "is_move") ["drift", "bars", "others"] spIsMove := by
  refine okD T.D.d_is_move sc_is_move (fun vs H Q E h => ?_) (fun _ _ _ _ _ _ us hl => match us, hl with | [_, _, _], _ => rfl) (fun cdv A outer s H vs Q X hr h => ?_)
  · obtain ⟨b, c, bs, cs, d, rfl, _⟩ := h
    rfl
  · obtain ⟨b, c, bs, cs, d, rfl, hb, hc, dok, ⟨ln, m1, m2, m3⟩, few, q⟩ := h
    have nd := sc_is_move.nd
    have hu := hr.units
    obtain ⟨t1, g1⟩ := T.C.c_RISES
    obtain ⟨t2, g2⟩ := T.C.c_FALLS
    refine ⟨_, pss_cons (ps_if (pt_cmpR op_eq (pv 0) (pe_glob (v := .str "rises") rfl g1 ⟨_, rfl⟩) (nomark _)) (pss_one (ps_ret (pe_callB (allK K) rfl T.B.b_all boot_all (pa_cons
        (pe_lc (own := [("one", 3), ("other", 4)]) (tt := tYes) rfl nd (pi_zip rfl T.B.b_zip (pa_cons (pv 1) (pa_cons (pv 2) pa_nil))) (blkOk_by (N := N_is_move) (sc := defScope s_is_move) (by decide +kernel))
          (fun _ _ _ _ _ => pgT K (n := 2) (pgs_cons (pg_name (i := 3) nd rfl (Or.inl rfl)) (pgs_cons (pg_name (i := 4) nd rfl (Or.inl rfl)) pgs_nil))) (fun _ _ _ _ _ => pts_nil) (fun _ _ _ _ _ => pe_cmpR op_le (pv 3) (pv 4) (nomark _))) pa_nil)))) pss_nil)
      (pss_cons (ps_if (pt_cmpR op_eq (pv 0) (pe_glob (v := .str "falls") rfl g2 ⟨_, rfl⟩) (nomark _)) (pss_one (ps_ret (pe_callB (allK K) rfl T.B.b_all boot_all (pa_cons
        (pe_lc (own := [("one", 3), ("other", 4)]) (tt := tYes) rfl nd (pi_zip rfl T.B.b_zip (pa_cons (pv 1) (pa_cons (pv 2) pa_nil))) (blkOk_by (N := N_is_move) (sc := defScope s_is_move) (by decide +kernel))
          (fun _ _ _ _ _ => pgT K (n := 2) (pgs_cons (pg_name (i := 3) nd rfl (Or.inl rfl)) (pgs_cons (pg_name (i := 4) nd rfl (Or.inl rfl)) pgs_nil))) (fun _ _ _ _ _ => pts_nil) (fun _ _ _ _ _ => pe_cmpR op_ge (pv 3) (pv 4) (nomark _))) pa_nil)))) pss_nil)
      (pss_one (ps_ret (pe_cmpR (eqK K hu) (pv 1) (pv 2) (by with_unfolding_all rfl))))), ?_⟩
    have lb : (bs.map V.int).length = bs.length := List.length_map _
    have lc : (cs.map V.int).length = bs.length := by rw [List.length_map]; exact ln.symm
    have wz : bs.length = min (bs.map V.int).length (cs.map V.int).length := by rw [lb, lc, Nat.min_self]
    have fw : bs.length < sizeLine := Nat.lt_of_le_of_lt few (by decide)
    refine ⟨_, rfl, rfl, _, rfl, ite2 (fun c1 => ?_) (fun c1 => ?_)⟩
    · have e1 : d = "rises" := V.str.inj (of_decide_eq_true c1)
      refine ⟨_, rfl, _, rfl, b, c, _, _, rfl, SqL.of hb, SqL.of hc, fun D hD => lcP (walk_zip wz) rBl hD fw (fun _ => some true) (fun _ e => ⟨SqL.of (e _ _ hb), SqL.of (e _ _ hc)⟩) ?_ ?_⟩
      · rintro i x H1 H2 KT KF hi e _ ⟨t, u, v, rfl, nt, rfl, h1, h2⟩ kt kf
        obtain ⟨a, ha, rfl⟩ := get_iv h1
        obtain ⟨a', ha', rfl⟩ := get_iv h2
        refine ⟨t, _, rfl, SqT.of upd_same, rfl, _, _, rfl, _, _, rfl, rfl, rfl, yes_it ⟨_, rfl, _, rfl, _, _, rfl, rfl, kt _ _ true rfl (sNew nt) (congrArg V.bl (decide_eq_true (m1 e1 i a a' ha ha')))⟩⟩
      · intro H1 m
        refine ⟨D, _, rfl, SqL.of m.bls, ?_⟩
        rw [all_true (α := Nat) fun _ _ => rfl]
        exact q H1 m.same
    · refine ⟨_, rfl, rfl, _, rfl, ite2 (fun c2 => ?_) (fun c2 => ?_)⟩
      · have e2 : d = "falls" := V.str.inj (of_decide_eq_true c2)
        refine ⟨_, rfl, _, rfl, b, c, _, _, rfl, SqL.of hb, SqL.of hc, fun D hD => lcP (walk_zip wz) rBl hD fw (fun _ => some true) (fun _ e => ⟨SqL.of (e _ _ hb), SqL.of (e _ _ hc)⟩) ?_ ?_⟩
        · rintro i x H1 H2 KT KF hi e _ ⟨t, u, v, rfl, nt, rfl, h1, h2⟩ kt kf
          obtain ⟨a, ha, rfl⟩ := get_iv h1
          obtain ⟨a', ha', rfl⟩ := get_iv h2
          refine ⟨t, _, rfl, SqT.of upd_same, rfl, _, _, rfl, _, _, rfl, rfl, rfl, yes_it ⟨_, rfl, _, rfl, _, _, rfl, rfl, kt _ _ true rfl (sNew nt) (congrArg V.bl (decide_eq_true (m2 e2 i a a' ha ha')))⟩⟩
        · intro H1 m
          refine ⟨D, _, rfl, SqL.of m.bls, ?_⟩
          rw [all_true (α := Nat) fun _ _ => rfl]
          exact q H1 m.same
      · have e3 : d = "stays" := by
          rcases dok with rfl | rfl | rfl
          · exact absurd (decide_eq_true rfl) c1
          · exact absurd (decide_eq_true rfl) c2
          · rfl
        refine ⟨_, rfl, _, rfl, intsD bs, intsD cs, intsD_dp hb, intsD_dp hc, intsD_shaped bs, intsD_shaped cs, ?_⟩
        rw [intsD_eqv, decide_eq_true (m3 e3)]
        exact q H (Same.refl _)
end
end Rb
namespace Rb
open PySem PySem.Spec PyProof.Rows L2
theorem pSnocG {α β : Type} {F : α → β → Prop} {vs : List α} {xs : List β} {v : α} {x : β} (h : Paired F vs xs) (q : F v x) : Paired F (vs ++ [v]) (xs ++ [x]) := by
  induction h with
  | nil => exact .cons q .nil
  | cons a _ ih => exact .cons a ih
def setB (bars : Str → List Int) (j : Str) (cs : List Int) : Str → List Int := fun k => if k = j then cs else bars k
/-- only a world's own places have changed -/
def Chg (F : List Addr) (p ba ta : Addr) (H H' : Hp) : Prop := Same (cut F H) (cut F H') ∧ ∀ a ∈ F, a ≠ p → a ≠ ba → a ≠ ta → H' a = H a
def sayN (bs : List Int) (q : Int) : Nat := (bs.filter fun b => decide (b ≤ q)).length
section
variable {K : Frg} {F : List Addr} {H H' : Hp} {p lp qa ba ta : Addr} {L : LogD} {f : Str → Int} {bars : Str → List Int} {told : List (Nat × List Int)}
theorem Chg.of (e : Same H H') (here : ∀ a ∈ F, H a ≠ none) : Chg F p ba ta H H' := ⟨sCut e, fun a m _ _ _ => same_at e (here a m)⟩
theorem Chg.trans {H'' : Hp} (c : Chg F p ba ta H H') (c' : Chg F p ba ta H' H'') : Chg F p ba ta H H'' := ⟨c.1.trans c'.1, fun a m x y z => (c'.2 a m x y z).trans (c.2 a m x y z)⟩
theorem WSt.p_ne_b (h : WSt K F H p lp qa ba ta L f bars told) : p ≠ ba := by
  rintro rfl
  obtain ⟨dx, z⟩ := h.obj
  obtain ⟨kb, z1, _⟩ := h.barsOk
  rw [z] at z1
  cases z1
theorem WSt.p_ne_t (h : WSt K F H p lp qa ba ta L f bars told) : p ≠ ta := by
  rintro rfl
  obtain ⟨dx, z⟩ := h.obj
  obtain ⟨kb, z1, _⟩ := h.toldOk
  rw [z] at z1
  cases z1
theorem WSt.putBars {kb : List (Key × V)} {j : Str} {l : Addr} {cs : List Int} (h : WSt K F H p lp qa ba ta L f bars told) (hb : H ba = some (.dK kb)) (hj : j ∈ L.judges.map (·.1)) (hl : cut F H l = some (.lst (cs.map V.int))) :
    WSt K F (upd H ba (.dK (putK kb (.inr j) (.ref l)))) p lp qa ba ta L f (setB bars j cs) told ∧ Chg F p ba ta H (upd H ba (.dK (putK kb (.inr j) (.ref l)))) := by
  have ce : cut F (upd H ba (.dK (putK kb (.inr j) (.ref l)))) = cut F H := cut_upd h.inB
  refine ⟨⟨h.inP, h.inB, h.inT, h.ne, fun a m => ?_, fun a m xs => ?_, ?_, by rw [ce]; exact h.log, h.ok, by rw [ce]; exact h.qual, ?_, ?_⟩, by rw [ce]; exact Same.refl _, fun a m _ y _ => upd_ne y⟩
  · by_cases z : a = ba
    · subst z; rw [upd_same]; exact fun e => nomatch e
    · rw [upd_ne z]; exact h.here a m
  · by_cases z : a = ba
    · subst z; rw [upd_same]; exact fun e => nomatch e
    · rw [upd_ne z]; exact h.flat a m xs
  · obtain ⟨dx, z⟩ := h.obj
    exact ⟨dx, by rw [upd_ne h.p_ne_b]; exact z⟩
  · rw [ce]
    obtain ⟨kb', z1, z2, z3⟩ := h.barsOk
    rw [hb] at z1
    obtain rfl := HO.dK.inj (Option.some.inj z1)
    refine ⟨_, upd_same, ?_, fun k hk => ?_⟩
    · obtain ⟨b, y1, _⟩ := z3 j hj
      have : (putK kb (.inr j) (.ref l)).map (·.1) = kb.map (·.1) := putK_keys (by
        by_cases z : (Sum.inr j : Key) ∈ kb.map (·.1)
        · exact z
        · rw [valV_no z] at y1; cases y1)
      have := congrArg List.length this
      rw [List.length_map, List.length_map] at this
      omega
    · rw [valV_put]
      unfold setB
      by_cases e : k = j
      · subst e
        exact ⟨l, by rw [if_pos rfl], by rw [if_pos rfl]; exact hl⟩
      · obtain ⟨b, y1, y2⟩ := z3 k hk
        exact ⟨b, by rw [if_neg (inr_ne e)]; exact y1, by rw [if_neg e]; exact y2⟩
  · rw [ce]
    obtain ⟨kt, z1, z2⟩ := h.toldOk
    exact ⟨kt, by rw [upd_ne h.ne.symm]; exact z1, z2⟩
theorem WSt.putLog {dx lp' : Addr} {e : Ev} (h : WSt K F H p lp qa ba ta L f bars told) (hl : LogAt K (cut F H) lp' (addEv L e)) (ok : LogOk (addEv L e)) :
    WSt K F (upd H p (.ins (fA K "World") dx (wflds lp' qa ba ta))) p lp' qa ba ta (addEv L e) f bars told ∧ Chg F p ba ta H (upd H p (.ins (fA K "World") dx (wflds lp' qa ba ta))) := by
  have ce : cut F (upd H p (.ins (fA K "World") dx (wflds lp' qa ba ta))) = cut F H := cut_upd h.inP
  refine ⟨⟨h.inP, h.inB, h.inT, h.ne, fun a m => ?_, fun a m xs => ?_, ⟨dx, upd_same⟩, by rw [ce]; exact hl, ok, by rw [ce]; exact h.qual, ?_, ?_⟩, by rw [ce]; exact Same.refl _, fun a m x _ _ => upd_ne x⟩
  · by_cases z : a = p
    · subst z; rw [upd_same]; exact fun e => nomatch e
    · rw [upd_ne z]; exact h.here a m
  · by_cases z : a = p
    · subst z; rw [upd_same]; exact fun e => nomatch e
    · rw [upd_ne z]; exact h.flat a m xs
  · rw [ce]
    obtain ⟨kb, z1, z2, z3⟩ := h.barsOk
    exact ⟨kb, by rw [upd_ne h.p_ne_b.symm]; exact z1, z2, z3⟩
  · rw [ce]
    obtain ⟨kt, z1, z2⟩ := h.toldOk
    exact ⟨kt, by rw [upd_ne h.p_ne_t.symm]; exact z1, z2⟩
theorem told_keys {S : Hp} {kt : List (Key × V)} (h : Paired (ToldRow S) kt told) : kt.map (·.1) = told.map fun t => (Sum.inl (t.1 : Int) : Key) := by
  induction h with
  | nil => rfl
  | cons q _ ih => rw [List.map_cons, List.map_cons, ih, q.1]
theorem told_new {S : Hp} {kt : List (Key × V)} {n : Nat} (h : Paired (ToldRow S) kt told) (new : ∀ t ∈ told, t.1 ≠ n) : (Sum.inl (n : Int) : Key) ∉ kt.map (·.1) := by
  rw [told_keys h]
  intro m
  obtain ⟨t, ht, e⟩ := List.mem_map.mp m
  exact new t ht (Int.ofNat.inj (Sum.inl.inj e))
theorem WSt.putTold {kt : List (Key × V)} {n : Nat} {l : Addr} {cs : List Int} (h : WSt K F H p lp qa ba ta L f bars told) (hb : H ta = some (.dK kt)) (new : ∀ t ∈ told, t.1 ≠ n) (hl : cut F H l = some (.lst (cs.map V.int))) :
    WSt K F (upd H ta (.dK (putK kt (.inl (n : Int)) (.ref l)))) p lp qa ba ta L f bars (told ++ [(n, cs)]) ∧ Chg F p ba ta H (upd H ta (.dK (putK kt (.inl (n : Int)) (.ref l)))) := by
  have ce : cut F (upd H ta (.dK (putK kt (.inl (n : Int)) (.ref l)))) = cut F H := cut_upd h.inT
  refine ⟨⟨h.inP, h.inB, h.inT, h.ne, fun a m => ?_, fun a m xs => ?_, ?_, by rw [ce]; exact h.log, h.ok, by rw [ce]; exact h.qual, ?_, ?_⟩, by rw [ce]; exact Same.refl _, fun a m _ _ z => upd_ne z⟩
  · by_cases z : a = ta
    · subst z; rw [upd_same]; exact fun e => nomatch e
    · rw [upd_ne z]; exact h.here a m
  · by_cases z : a = ta
    · subst z; rw [upd_same]; exact fun e => nomatch e
    · rw [upd_ne z]; exact h.flat a m xs
  · obtain ⟨dx, z⟩ := h.obj
    exact ⟨dx, by rw [upd_ne h.p_ne_t]; exact z⟩
  · rw [ce]
    obtain ⟨kb, z1, z2, z3⟩ := h.barsOk
    exact ⟨kb, by rw [upd_ne h.ne]; exact z1, z2, z3⟩
  · rw [ce]
    obtain ⟨kt', z1, z2⟩ := h.toldOk
    rw [hb] at z1
    obtain rfl := HO.dK.inj (Option.some.inj z1)
    refine ⟨_, upd_same, ?_⟩
    rw [putK_new _ (valV_no (told_new z2 new))]
    exact pSnocG z2 (show ToldRow (cut F H) _ (n, cs) from ⟨rfl, l, rfl, hl⟩)
end
section
variable {P : Program} {w : World} {K : Frg} {mg : Str → Option Value} {base : Heap}
def spWRoom (K : Frg) : Sp := fun vs H Q _ => ∃ (p lp qa ba ta : Addr) (L : LogD) (f : Str → Int) (bars : Str → List Int) (told : List (Nat × List Int)) (F : List Addr), vs = [.ref p] ∧ WSt K F H p lp qa ba ta L f bars told ∧ L.events.length < 120 ∧ ∀ H', Same H H' → Q .non H'
theorem ok_World_check_room (T : TX K mg) : OkF P w K mg base 3 (mA K "World" "check_room") ["self"] (spWRoom K) := by
  refine okD T.M.d_World_check_room sc_World_check_room (fun vs H Q E h => ?_) (fun _ _ _ _ _ _ us hl => match us, hl with | [_], _ => rfl) (fun cdv A outer s H vs Q X hr h => ?_)
  · obtain ⟨p, lp, qa, ba, ta, L, f, bars, told, F, rfl, _⟩ := h
    rfl
  · obtain ⟨p, lp, qa, ba, ta, L, f, bars, told, F, rfl, ws, few, q⟩ := h
    have GE := ok_events (P := P) (w := w) (base := base) T
    obtain ⟨t2, g2⟩ := T.C.c_MOST_EVENTS
    refine ⟨_, pss_one (ps_if (pt_cmpR op_eq (pe_callB (lenK K) rfl T.B.b_len boot_len (pa_cons (pprop GE T.T.cl_Log hr (peF K (pv 0))) pa_nil)) (pe_glob (v := .int 120) rfl g2 ⟨_, rfl⟩) (nomark _)) pss_never pss_nil), ?_⟩
    obtain ⟨dx, hp⟩ := ws.obj
    have hL := ws.log.mono cut_le
    obtain ⟨dx2, pi, pj, pe, vj, ve, hp2, _⟩ := hL.ex
    refine ⟨_, rfl, p, _, dx, _, _, rfl, hp, T.T.cl_World, T.T.n_World_log, wf_log, lp, dx2, _, rfl, hp2, lp, L, rfl, hL, fun v H1 s1 hv => ?_⟩
    obtain ⟨ea, evs, rfl, hE, pE⟩ := hv
    have hlen := pLen pE
    exact ⟨ea, evs, rfl, .inl (SqL.of hE), rfl, false, congrArg V.bl (decide_eq_false fun z => by have := V.int.inj z; omega), iteF (q H1 s1)⟩
def spWouldSay (K : Frg) : Sp := fun vs H Q _ => ∃ (p lp qa ba ta : Addr) (L : LogD) (f : Str → Int) (bars : Str → List Int) (told : List (Nat × List Int)) (F : List Addr) (j x : Str), vs = [.ref p, .str j, .str x] ∧ WSt K F H p lp qa ba ta L f bars told ∧ j ∈ L.judges.map (·.1) ∧ x ∈ L.items ∧ (bars j).length ≤ 9 ∧
  ∀ H', Same H H' → Q (.int ((sayN (bars j) (f x) : Nat) : Int)) H'
theorem ok_would_say (T : TX K mg) : OkF P w K mg base 2 (mA K "World" "would_say") ["self", "judge", "item"] (spWouldSay K) := by
  refine okD T.M.d_World_would_say sc_World_would_say (fun vs H Q E h => ?_) (fun _ _ _ _ _ _ us hl => match us, hl with | [_, _, _], _ => rfl) (fun cdv A outer s H vs Q X hr h => ?_)
  · obtain ⟨p, lp, qa, ba, ta, L, f, bars, told, F, j, x, rfl, _⟩ := h
    rfl
  · obtain ⟨p, lp, qa, ba, ta, L, f, bars, told, F, j, x, rfl, ws, hj, hx, few, q⟩ := h
    have nd := sc_World_would_say.nd
    have GB := ok_bars_of (P := P) (w := w) (base := base) T
    have GQ := ok_quality_of (P := P) (w := w) (base := base) T
    refine ⟨_, pss_cons (ps_set (i := 3) nd rfl (Or.inl rfl) (pmeth GB T.T.cl_World T.M.m_World_bars_of hr (pv 0) (pa_cons (pv 1) pa_nil)))
      (pss_cons (ps_set (i := 4) nd rfl (Or.inr rfl) (pmeth GQ T.T.cl_World T.M.m_World_quality_of hr (pv 0) (pa_cons (pv 2) pa_nil)))
      (pss_one (ps_ret (pe_callB (lenK K) rfl T.B.b_len boot_len (pa_cons (pe_lc (own := [("bar", 5)]) (g := gName 5) rfl nd (piL K (pv 3)) (blkOk_by (N := N_World_would_say) (sc := defScope s_World_would_say) (by decide +kernel)) (fun _ _ _ _ _ => pg_name (i := 5) nd rfl (Or.inl rfl))
        (fun _ _ _ _ _ => pts_one (pt_cmpR op_le (pv 5) (pv 4) (nomark _))) (fun _ _ _ _ _ => pv 5)) pa_nil))))), ?_⟩
    obtain ⟨dx, hp⟩ := ws.obj
    refine ⟨_, rfl, p, dx, _, rfl, hp, wf_no (by decide +kernel), _, rfl, p, lp, qa, ba, ta, L, f, bars, told, F, j, rfl, ws, hj, fun b H1 s1 nb hb => ?_⟩
    refine ⟨_, rfl, p, dx, _, rfl, s1 _ _ hp, wf_no (by decide +kernel), _, rfl, p, lp, qa, ba, ta, L, f, bars, told, F, x, rfl, ws.mono s1, hx, ?_⟩
    have ll : ((bars j).map V.int).length = (bars j).length := List.length_map _
    refine ⟨_, rfl, b, rfl, ⟨_, SqL.of hb⟩, fun D hD => lcP walk_list rInt hD (by rw [ll]; exact Nat.lt_of_le_of_lt few (by decide)) (fun i : Nat => ((bars j)[i]?).bind fun y => if decide (y ≤ f x) = true then some y else none) (fun _ e => SqL.of (e _ _ hb)) ?_ ?_⟩
    · rintro i y H2 H3 KT KF hi e _ ⟨rfl, hy⟩ kt kf
      obtain ⟨y, hyi, rfl⟩ := get_iv hy
      exact ⟨rfl, _, rfl, _, rfl, _, _, rfl, rfl, _, rfl, ite2 (fun c => ⟨_, rfl, kt _ _ y (by rw [hyi]; exact if_pos c) (Same.refl _) rfl⟩) (fun c => kf _ (by rw [hyi]; exact if_neg c) (Same.refl _))⟩
    · intro H2 m
      rw [ll, outs_filt] at m
      refine ⟨D, _, rfl, .inl (SqL.of m.ints), ?_⟩
      rw [List.length_map]
      exact q H2 (s1.trans m.same)
def spMove (K : Frg) : Sp := fun vs H Q _ => ∃ (p lp qa ba ta c : Addr) (L : LogD) (f : Str → Int) (bars : Str → List Int) (told : List (Nat × List Int)) (F : List Addr) (j d : Str) (cs : List Int), vs = [.ref p, .str j, .ref c] ∧ WSt K F H p lp qa ba ta L f bars told ∧ (j, d) ∈ L.judges ∧
  cut F H c = some (.lst (cs.map V.int)) ∧ MoveOk d (bars j) cs ∧ cs.length = L.grades ∧ Rising cs ∧ ∀ H', Chg F p ba ta H H' → WSt K F H' p lp qa ba ta L f (setB bars j cs) told → Q .non H'
theorem ok_move (T : TX K mg) : OkF P w K mg base 3 (mA K "World" "move") ["self", "judge", "bars"] (spMove K) := by
  refine okD T.M.d_World_move sc_World_move (fun vs H Q E h => ?_) (fun _ _ _ _ _ _ us hl => match us, hl with | [_, _, _], _ => rfl) (fun cdv A outer s H vs Q X hr h => ?_)
  · obtain ⟨p, lp, qa, ba, ta, c, L, f, bars, told, F, j, d, cs, rfl, _⟩ := h
    rfl
  · obtain ⟨p, lp, qa, ba, ta, c, L, f, bars, told, F, j, d, cs, rfl, ws, hjd, hc, mv, lg, up, q⟩ := h
    have nd := sc_World_move.nd
    have GB := (ok_bars_of (P := P) (w := w) (base := base) T).mono (k := 2) (by decide)
    have GC := (ok_check_bars (P := P) (w := w) (base := base) T).mono (k := 2) (by decide)
    have GD := (ok_drift_of (P := P) (w := w) (base := base) T).mono (k := 2) (by decide)
    have GM := (ok_is_move (P := P) (w := w) (base := base) T).mono (k := 2) (by decide)
    have GG := ok_grades (P := P) (w := w) (base := base) T
    refine ⟨_, pss_cons (ps_set (i := 3) nd rfl (Or.inl rfl) (pmeth GB T.T.cl_World T.M.m_World_bars_of hr (pv 0) (pa_cons (pv 1) pa_nil)))
      (pss_cons (ps_expr (pcall GC hr rfl T.G.g_check_bars (pa_cons (pprop GG T.T.cl_Log hr (peF K (pv 0))) (pa_cons (pv 2) pa_nil))))
      (pss_cons (ps_if (pt_not (pt_val (pcall GM hr rfl T.G.g_is_move (pa_cons (pmeth GD T.T.cl_Log T.M.m_Log_drift_of hr (peF K (pv 0)) (pa_cons (pv 1) pa_nil)) (pa_cons (pv 3) (pa_cons (pv 2) pa_nil)))))) pss_never pss_nil)
      (pss_one (ps_dput (hu_of hr) (peF K (pv 0)) (pv 1) (pe_callTy (listK K) rfl T.B.b_list PyProof.Rows.boot_list (pa_cons (pv 2) pa_nil)) rfl)))), ?_⟩
    obtain ⟨dx, hp⟩ := ws.obj
    have hj : j ∈ L.judges.map (·.1) := List.mem_map_of_mem (f := (·.1)) hjd
    have g9 := ws.ok.g9
    refine ⟨_, rfl, p, dx, _, rfl, hp, wf_no (by decide +kernel), _, rfl, p, lp, qa, ba, ta, L, f, bars, told, F, j, rfl, ws, hj, fun b H1 s1 nb hb => ?_⟩
    have ws1 := ws.mono s1
    have hp1 := s1 _ _ hp
    have hc1 := s1 _ _ (cut_le _ _ hc)
    have hL1 := ws1.log.mono cut_le
    obtain ⟨dx2, pi, pj, pe, vj, ve, hp2, _⟩ := hL1.ex
    refine ⟨_, rfl, p, _, dx, _, _, rfl, hp1, T.T.cl_World, T.T.n_World_log, wf_log, lp, dx2, _, rfl, hp2, lp, L, rfl, hL1, _, rfl, c, cs, L.grades, rfl, hc1, lg, g9, up, fun H2 s2 => ?_⟩
    have s12 := s1.trans s2
    have ws2 := ws1.mono s2
    have hp3 := s12 _ _ hp
    have hL2 := hL1.mono s2
    obtain ⟨dx2, pi, pj, pe, vj, ve, hp2, _⟩ := hL2.ex
    refine ⟨_, rfl, p, _, dx, _, _, rfl, hp3, T.T.cl_World, T.T.n_World_log, wf_log, lp, dx2, _, rfl, hp2, lf_no (by decide +kernel), _, rfl, lp, L, j, d, rfl, hL2, ws.ok, hjd, _, rfl, _, rfl, b, c, bars j, cs, d, rfl, s2 _ _ hb, s2 _ _ hc1, ws.ok.drifts _ hjd, mv, by rw [mv.1, lg]; exact g9, fun H3 s3 => ⟨true, rfl, iteF ?_⟩⟩
    have s13 := s12.trans s3
    have ws3 := ws2.mono s3
    refine ⟨_, rfl, c, _, rfl, .inl (SqL.of (s3 _ _ (s2 _ _ hc1))), fun l nl => ?_⟩
    have s4 := sNew (o := .lst (cs.map V.int)) nl
    have s14 := s13.trans s4
    have ws4 := ws3.mono s4
    obtain ⟨kb, hkb, few, _⟩ := id ws4.barsOk
    have hl : cut F (upd H3 l (.lst (cs.map V.int))) l = some (.lst (cs.map V.int)) := Same.cutN upd_same ws3.here nl
    obtain ⟨ws5, ch⟩ := ws4.putBars hkb hj hl
    refine ⟨_, rfl, p, _, dx, _, _, rfl, s14 _ _ hp, T.T.cl_World, T.T.n_World_bars, wf_bars, _, rfl, ba, _, rfl, DPut.k (k := .inr j) hkb (Nat.lt_of_le_of_lt few (by decide)), q _ ((Chg.of s14 ws.here).trans ch) ws5⟩
end
end Rb
namespace Rb
open PySem PySem.Spec PyProof.Rows L2
theorem LogAt.cutN {K : Frg} {F : List Addr} {H H' : Hp} {a : Addr} {L : LogD} (hl : LogAt K H' a L) (n : NewPts H H' a) (na : H a = none) (here : ∀ f ∈ F, H f ≠ none) (flat : ∀ f ∈ F, ∀ xs, H' f ≠ some (.tup xs)) : LogAt K (cut F H') a L := by
  obtain ⟨dx, pi, pj, pe, vj, ve, h1, h2, h3, h4, h5, h6⟩ := hl.ex
  obtain ⟨C, dx', pi', g, pj', pe', n1, n2, n3, n4⟩ := n
  rw [h1] at n1
  have e := (HO.ins.inj (Option.some.inj n1)).2.2
  have e1 : pi = pi' := V.ref.inj (Option.some.inj ((lf_items (pi := pi) (pj := pj) (pe := pe) (g := L.grades)).symm.trans ((congrArg (List.lookup ("_items" : Str)) e).trans lf_items)))
  have e2 : pj = pj' := V.ref.inj (Option.some.inj ((lf_judges (pi := pi) (pj := pj) (pe := pe) (g := L.grades)).symm.trans ((congrArg (List.lookup ("_judges" : Str)) e).trans lf_judges)))
  have e3 : pe = pe' := V.ref.inj (Option.some.inj ((lf_events (pi := pi) (pj := pj) (pe := pe) (g := L.grades)).symm.trans ((congrArg (List.lookup ("_events" : Str)) e).trans lf_events)))
  subst e1 e2 e3
  have new : ∀ {b : Addr} {o : HO}, H b = none → H' b = some o → cut F H' b = some o := fun nb hb => by
    rw [cut_out fun m => here _ m nb]
    exact hb
  have tup : ∀ {b : Addr} {xs : List V}, H' b = some (.tup xs) → cut F H' b = some (.tup xs) := fun hb => by
    rw [cut_out fun m => flat _ m _ hb]
    exact hb
  refine ⟨dx, pi, pj, pe, vj, ve, new na h1, new n2 h2, new n3 h3, Paired.mapP h4 fun v x q => ?_, new n4 h5, Paired.mapP h6 fun v x q => ?_⟩
  · obtain ⟨t, y, z, q1, q2, q3, q4⟩ := q
    exact ⟨t, y, z, q1, tup q2, q3, q4⟩
  · cases x with
    | ans j i g => obtain ⟨t, q1, q2⟩ := q; exact ⟨t, q1, tup q2⟩
    | rst j => obtain ⟨t, q1, q2⟩ := q; exact ⟨t, q1, tup q2⟩
theorem pGetG {α β : Type} {F : α → β → Prop} : ∀ {vs : List α} {xs : List β}, Paired F vs xs → ∀ {i : Nat} {v : α}, vs[i]? = some v → ∃ x, xs[i]? = some x ∧ F v x
  | _, _, .nil, i, v, h => by simp at h
  | _, _, .cons q _, 0, v, h => by simp at h; subst h; exact ⟨_, rfl, q⟩
  | _, _, .cons _ t, i + 1, v, h => by
    obtain ⟨x, h1, h2⟩ := pGetG t (i := i) (v := v) (by simpa using h)
    exact ⟨x, by simpa using h1, h2⟩
theorem sayN_le {bs : List Int} {q : Int} : sayN bs q ≤ bs.length := List.length_filter_le _ _
section
variable {P : Program} {w : World} {K : Frg} {mg : Str → Option Value} {base : Heap}
def spSetAnew (K : Frg) : Sp := fun vs H Q _ => ∃ (p lp qa ba ta c : Addr) (L : LogD) (f : Str → Int) (bars : Str → List Int) (told : List (Nat × List Int)) (F : List Addr) (j : Str) (cs : List Int), vs = [.ref p, .str j, .ref c] ∧ WSt K F H p lp qa ba ta L f bars told ∧ j ∈ L.judges.map (·.1) ∧
  cut F H c = some (.lst (cs.map V.int)) ∧ cs.length = L.grades ∧ Rising cs ∧ L.events.length < 120 ∧ ∀ lp' H', Chg F p ba ta H H' → WSt K F H' p lp' qa ba ta (addEv L (.rst j)) f (setB bars j cs) told → Q .non H'
theorem ok_set_anew (T : TX K mg) : OkF P w K mg base 8 (mA K "World" "set_anew") ["self", "judge", "bars"] (spSetAnew K) := by
  refine okD T.M.d_World_set_anew sc_World_set_anew (fun vs H Q E h => ?_) (fun _ _ _ _ _ _ us hl => match us, hl with | [_, _, _], _ => rfl) (fun cdv A outer s H vs Q X hr h => ?_)
  · obtain ⟨p, lp, qa, ba, ta, c, L, f, bars, told, F, j, cs, rfl, _⟩ := h
    rfl
  · obtain ⟨p, lp, qa, ba, ta, c, L, f, bars, told, F, j, cs, rfl, ws, hj, hc, lg, up, few, q⟩ := h
    have nd := sc_World_set_anew.nd
    have GB := (ok_bars_of (P := P) (w := w) (base := base) T).mono (k := 7) (by decide)
    have GC := (ok_check_bars (P := P) (w := w) (base := base) T).mono (k := 7) (by decide)
    have GW := ok_with_event (P := P) (w := w) (base := base) T
    have GR := (ok_World_check_room (P := P) (w := w) (base := base) T).mono (k := 7) (by decide)
    have GG := ok_grades (P := P) (w := w) (base := base) T
    obtain ⟨t1, g1⟩ := T.C.c_RESET
    refine ⟨_, pss_cons (ps_expr (pmeth GB T.T.cl_World T.M.m_World_bars_of hr (pv 0) (pa_cons (pv 1) pa_nil)))
      (pss_cons (ps_expr (pcall GC hr rfl T.G.g_check_bars (pa_cons (pprop GG T.T.cl_Log (hr.mono (by decide)) (peF K (pv 0))) (pa_cons (pv 2) pa_nil))))
      (pss_cons (ps_expr (pmeth0 GR T.T.cl_World T.M.m_World_check_room hr (pv 0)))
      (pss_cons (ps_fld (pv 0) (pmeth GW T.T.cl_Log T.M.m_Log_with_event hr (peF K (pv 0)) (pa_cons (pe_tup (pa_cons (pe_glob (v := .str "reset") rfl g1 ⟨_, rfl⟩) (pa_cons (pv 1) pa_nil))) pa_nil)) rfl)
      (pss_one (ps_dput (hu_of hr) (peF K (pv 0)) (pv 1) (pe_callTy (listK K) rfl T.B.b_list PyProof.Rows.boot_list (pa_cons (pv 2) pa_nil)) rfl))))), ?_⟩
    obtain ⟨dx, hp⟩ := ws.obj
    have g9 := ws.ok.g9
    refine ⟨_, rfl, p, dx, _, rfl, hp, wf_no (by decide +kernel), _, rfl, p, lp, qa, ba, ta, L, f, bars, told, F, j, rfl, ws, hj, fun b H1 s1 nb hb => ?_⟩
    have ws1 := ws.mono s1
    have hp1 := s1 _ _ hp
    have hc1 := s1 _ _ (cut_le _ _ hc)
    have hL1 := ws1.log.mono cut_le
    obtain ⟨dx2, pi, pj, pe, vj, ve, hp2, _⟩ := hL1.ex
    refine ⟨_, rfl, p, _, dx, _, _, rfl, hp1, T.T.cl_World, T.T.n_World_log, wf_log, lp, dx2, _, rfl, hp2, lp, L, rfl, hL1, _, rfl, c, cs, L.grades, rfl, hc1, lg, g9, up, fun H2 s2 => ?_⟩
    have s12 := s1.trans s2
    have ws2 := ws1.mono s2
    have hp3 := s12 _ _ hp
    refine ⟨_, rfl, p, dx, _, rfl, hp3, wf_no (by decide +kernel), p, lp, qa, ba, ta, L, f, bars, told, F, rfl, ws2, few, fun H3 s3 => ?_⟩
    have s13 := s12.trans s3
    have ws3 := ws2.mono s3
    have hp4 := s13 _ _ hp
    have hL3 := ws3.log.mono cut_le
    obtain ⟨dx2, pi, pj, pe, vj, ve, hp2, _⟩ := hL3.ex
    refine ⟨_, rfl, p, _, dx, _, _, rfl, hp4, T.T.cl_World, T.T.n_World_log, wf_log, lp, dx2, _, rfl, hp2, lf_no (by decide +kernel), _, rfl, (by show 2 ≤ sizeLine; decide), fun t nt => ?_⟩
    have s4 := sNew (o := .tup [.str "reset", .str j]) nt
    have eo : EvOk L.items L.grades (L.judges.map (·.1)) (.rst j) := hj
    refine ⟨lp, _, L, .rst j, rfl, hL3.mono s4, ws.ok, ⟨t, rfl, upd_same⟩, eo, few, fun a H5 s5 na hL5 np => ?_⟩
    have s45 := s4.trans s5
    have s15 := s13.trans s45
    have ws5 := ws3.mono s45
    have hL6 := hL5.cutN (np.back s4) (s4.free na) ws3.here ws5.flat
    obtain ⟨ws6, ch6⟩ := ws5.putLog (dx := dx) hL6 (ws.ok.add eo few)
    refine ⟨_, rfl, p, _, dx, _, rfl, s15 _ _ hp, T.T.cl_World, T.T.n_World_log, (by show 4 < 1000; decide), ?_⟩
    rw [wf_put]
    have ch := (Chg.of s15 ws.here).trans ch6
    have hc6 := ch.1 _ _ hc
    refine ⟨_, rfl, c, _, rfl, .inl (SqL.of (cut_le _ _ hc6)), fun l nl => ?_⟩
    have s7 := sNew (o := .lst (cs.map V.int)) nl
    have ws7 := ws6.mono s7
    obtain ⟨kb, hkb, fewb, _⟩ := id ws7.barsOk
    have u7 : (upd (upd H5 p (.ins (fA K "World") dx (wflds a qa ba ta))) l (.lst (cs.map V.int))) l = some (.lst (cs.map V.int)) := upd_same
    have hl := Same.cutN (F := F) u7 ws6.here nl
    obtain ⟨ws8, ch8⟩ := ws7.putBars hkb hj hl
    exact ⟨_, rfl, p, _, dx, _, _, rfl, s7 _ _ upd_same, T.T.cl_World, T.T.n_World_bars, wf_bars, _, rfl, ba, _, rfl, DPut.k (k := .inr j) hkb (Nat.lt_of_le_of_lt fewb (by decide)), q a _ ((ch.trans (Chg.of s7 ws6.here)).trans ch8) ws8⟩
def spAnswer (K : Frg) : Sp := fun vs H Q _ => ∃ (p lp qa ba ta : Addr) (L : LogD) (f : Str → Int) (bars : Str → List Int) (told : List (Nat × List Int)) (F : List Addr) (j x : Str), vs = [.ref p, .str j, .str x] ∧ WSt K F H p lp qa ba ta L f bars told ∧ j ∈ L.judges.map (·.1) ∧ x ∈ L.items ∧
  (bars j).length = L.grades ∧ L.events.length < 120 ∧ (∀ t ∈ told, t.1 ≠ L.events.length) ∧ told.length ≤ 120 ∧
  ∀ lp' H', Chg F p ba ta H H' → WSt K F H' p lp' qa ba ta (addEv L (.ans j x (sayN (bars j) (f x)))) f bars (told ++ [(L.events.length, bars j)]) → Q (.int ((sayN (bars j) (f x) : Nat) : Int)) H'
theorem ok_answer (T : TX K mg) : OkF P w K mg base 8 (mA K "World" "answer") ["self", "judge", "item"] (spAnswer K) := by
  refine okD T.M.d_World_answer sc_World_answer (fun vs H Q E h => ?_) (fun _ _ _ _ _ _ us hl => match us, hl with | [_, _, _], _ => rfl) (fun cdv A outer s H vs Q X hr h => ?_)
  · obtain ⟨p, lp, qa, ba, ta, L, f, bars, told, F, j, x, rfl, _⟩ := h
    rfl
  · obtain ⟨p, lp, qa, ba, ta, L, f, bars, told, F, j, x, rfl, ws, hj, hx, lg, few, new, fewT, q⟩ := h
    have nd := sc_World_answer.nd
    have GB := (ok_bars_of (P := P) (w := w) (base := base) T).mono (k := 7) (by decide)
    have GS := (ok_would_say (P := P) (w := w) (base := base) T).mono (k := 7) (by decide)
    have GW := ok_with_event (P := P) (w := w) (base := base) T
    have GR := (ok_World_check_room (P := P) (w := w) (base := base) T).mono (k := 7) (by decide)
    have GE := ok_events (P := P) (w := w) (base := base) T
    obtain ⟨t1, g1⟩ := T.C.c_ANSWER
    refine ⟨_, pss_cons (ps_set (i := 3) nd rfl (Or.inl rfl) (pmeth GS T.T.cl_World T.M.m_World_would_say hr (pv 0) (pa_cons (pv 1) (pa_cons (pv 2) pa_nil))))
      (pss_cons (ps_expr (pmeth0 GR T.T.cl_World T.M.m_World_check_room hr (pv 0)))
      (pss_cons (ps_dput (hu_of hr) (peF K (pv 0)) (pe_callB (lenK K) rfl T.B.b_len boot_len (pa_cons (pprop GE T.T.cl_Log (hr.mono (by decide)) (peF K (pv 0))) pa_nil)) (pmeth GB T.T.cl_World T.M.m_World_bars_of hr (pv 0) (pa_cons (pv 1) pa_nil)) rfl)
      (pss_cons (ps_fld (pv 0) (pmeth GW T.T.cl_Log T.M.m_Log_with_event hr (peF K (pv 0)) (pa_cons (pe_tup (pa_cons (pe_glob (v := .str "answer") rfl g1 ⟨_, rfl⟩) (pa_cons (pv 1) (pa_cons (pv 2) (pa_cons (pv 3) pa_nil))))) pa_nil)) rfl)
      (pss_one (ps_ret (pv 3)))))), ?_⟩
    obtain ⟨dx, hp⟩ := ws.obj
    have g9 := ws.ok.g9
    refine ⟨_, rfl, p, dx, _, rfl, hp, wf_no (by decide +kernel), _, rfl, _, rfl, p, lp, qa, ba, ta, L, f, bars, told, F, j, x, rfl, ws, hj, hx, by rw [lg]; exact g9, fun H1 s1 => ?_⟩
    have ws1 := ws.mono s1
    refine ⟨_, rfl, p, dx, _, rfl, s1 _ _ hp, wf_no (by decide +kernel), p, lp, qa, ba, ta, L, f, bars, told, F, rfl, ws1, few, fun H2 s2 => ?_⟩
    have s12 := s1.trans s2
    have ws2 := ws1.mono s2
    refine ⟨_, rfl, p, dx, _, rfl, s12 _ _ hp, wf_no (by decide +kernel), _, rfl, p, lp, qa, ba, ta, L, f, bars, told, F, j, rfl, ws2, hj, fun b H3 s3 nb hb => ?_⟩
    have s13 := s12.trans s3
    have ws3 := ws2.mono s3
    have hL3 := ws3.log.mono cut_le
    obtain ⟨dx2, pi, pj, pe, vj, ve, hp2, _⟩ := hL3.ex
    refine ⟨_, rfl, p, _, dx, _, _, rfl, s13 _ _ hp, T.T.cl_World, T.T.n_World_told, wf_told, _, rfl, p, _, dx, _, _, rfl, s13 _ _ hp, T.T.cl_World, T.T.n_World_log, wf_log, lp, dx2, _, rfl, hp2, lp, L, rfl, hL3, fun v H4 s4 hv => ?_⟩
    obtain ⟨ea, evs, rfl, hE, pE⟩ := hv
    have hlen := pLen pE
    have s14 := s13.trans s4
    have ws4 := ws3.mono s4
    obtain ⟨kt, hkt, pkt⟩ := id ws4.toldOk
    have ltk : kt.length ≤ 120 := by rw [Paired.length pkt]; exact fewT
    have hb4 := Same.cutN (F := F) (s4 _ _ hb) ws2.here nb
    obtain ⟨ws5, ch5⟩ := ws4.putTold hkt new hb4
    refine ⟨ea, evs, rfl, .inl (SqL.of hE), ta, _, rfl, DPut.k (k := .inl ((evs.length : Nat) : Int)) hkt (Nat.lt_of_le_of_lt ltk (by decide)), ?_⟩
    rw [hlen]
    have ch := (Chg.of s14 ws.here).trans ch5
    obtain ⟨dx5, hp5⟩ := ws5.obj
    have hL5 := ws5.log.mono cut_le
    obtain ⟨dx2, pi, pj, pe, vj, ve, hp2, _⟩ := hL5.ex
    have eo : EvOk L.items L.grades (L.judges.map (·.1)) (.ans j x (sayN (bars j) (f x))) := ⟨hj, hx, by rw [← lg]; exact sayN_le⟩
    refine ⟨_, rfl, p, _, dx5, _, _, rfl, hp5, T.T.cl_World, T.T.n_World_log, wf_log, lp, dx2, _, rfl, hp2, lf_no (by decide +kernel), _, rfl, _, rfl, _, rfl, (by show 4 ≤ sizeLine; decide), fun t nt => ?_⟩
    have s6 := sNew (o := .tup [.str "answer", .str j, .str x, .int ((sayN (bars j) (f x) : Nat) : Int)]) nt
    refine ⟨lp, _, L, .ans j x (sayN (bars j) (f x)), rfl, hL5.mono s6, ws.ok, ⟨t, rfl, upd_same⟩, eo, few, fun a H7 s7 na hL7 np => ?_⟩
    have s67 := s6.trans s7
    have ws7 := ws5.mono s67
    have hL8 := hL7.cutN (np.back s6) (s6.free na) ws5.here ws7.flat
    obtain ⟨ws8, ch8⟩ := ws7.putLog (dx := dx5) hL8 (ws.ok.add eo few)
    refine ⟨_, rfl, p, _, dx5, _, rfl, s67 _ _ hp5, T.T.cl_World, T.T.n_World_log, (by show 4 < 1000; decide), ?_⟩
    rw [wf_put]
    exact ⟨_, rfl, q a _ ((ch.trans (Chg.of s67 ws5.here)).trans ch8) ws8⟩
def spLog (K : Frg) : Sp := fun vs H Q _ => ∃ (p lp qa ba ta : Addr) (L : LogD) (f : Str → Int) (bars : Str → List Int) (told : List (Nat × List Int)) (F : List Addr), vs = [.ref p] ∧ WSt K F H p lp qa ba ta L f bars told ∧ Q (.ref lp) H
theorem ok_log (T : TX K mg) : OkF P w K mg base 1 (mA K "World" "log") ["self"] (spLog K) := by
  refine okD T.M.d_World_log sc_World_log (fun vs H Q E h => ?_) (fun _ _ _ _ _ _ us hl => match us, hl with | [_], _ => rfl) (fun cdv A outer s H vs Q X hr h => ?_)
  · obtain ⟨p, lp, qa, ba, ta, L, f, bars, told, F, rfl, _⟩ := h
    rfl
  · obtain ⟨p, lp, qa, ba, ta, L, f, bars, told, F, rfl, ws, q⟩ := h
    obtain ⟨dx, hp⟩ := ws.obj
    refine ⟨_, pss_one (ps_ret (peF K (pv 0))), ?_⟩
    exact ⟨_, rfl, p, _, dx, _, _, rfl, hp, T.T.cl_World, T.T.n_World_log, wf_log, q⟩
def spBarsAt (K : Frg) : Sp := fun vs H Q _ => ∃ (p lp qa ba ta : Addr) (L : LogD) (f : Str → Int) (bars : Str → List Int) (told : List (Nat × List Int)) (F : List Addr), vs = [.ref p] ∧ WSt K F H p lp qa ba ta L f bars told ∧ (told.map (·.1)).Nodup ∧ told.length ≤ 120 ∧
  ∀ a kt H', Same H H' → H a = none → H' a = some (.dK kt) → Paired (ToldRow H') kt told → Q (.ref a) H'
theorem ok_bars_at (T : TX K mg) : OkF P w K mg base 1 (mA K "World" "bars_at") ["self"] (spBarsAt K) := by
  refine okD T.M.d_World_bars_at sc_World_bars_at (fun vs H Q E h => ?_) (fun _ _ _ _ _ _ us hl => match us, hl with | [_], _ => rfl) (fun cdv A outer s H vs Q X hr h => ?_)
  · obtain ⟨p, lp, qa, ba, ta, L, f, bars, told, F, rfl, _⟩ := h
    rfl
  · obtain ⟨p, lp, qa, ba, ta, L, f, bars, told, F, rfl, ws, ndT, few, q⟩ := h
    have nd := sc_World_bars_at.nd
    obtain ⟨dx, hp⟩ := ws.obj
    refine ⟨_, pss_one (ps_ret (pe_lock (pe_dc (own := [("place", 1), ("bars", 2)]) (tt := tYes) rfl nd (pi_items (peF K (pv 0))) (blkOk_by (N := N_World_bars_at) (sc := defScope s_World_bars_at) (by decide +kernel))
      (fun _ _ _ _ _ => pgT K (n := 2) (pgs_cons (pg_name (i := 1) nd rfl (Or.inl rfl)) (pgs_cons (pg_name (i := 2) nd rfl (Or.inl rfl)) pgs_nil))) (fun _ _ _ _ _ => pts_nil) (fun _ _ _ _ _ => pv 1) (fun _ _ _ _ _ => pe_callTy (listK K) rfl T.B.b_list PyProof.Rows.boot_list (pa_cons (pv 2) pa_nil))))), ?_⟩
    obtain ⟨kt, hkt, pkt⟩ := ws.toldOk
    have pkt2 := ToldRow.mono cut_le pkt
    have lk : kt.length = told.length := Paired.length pkt
    have pt : p ≠ ta := ws.p_ne_t
    refine ⟨ta, .dK kt, hkt, trivial, fun od => ⟨_, rfl, p, _, dx, _, _, rfl, (upd_ne pt).trans hp, T.T.cl_World, T.T.n_World_told, wf_told, ta, od, kt, rfl, upd_same, fun D hD => ?_⟩⟩
    have noTa : ∀ {b : Addr} {bs : List V}, H b = some (.lst bs) → b ≠ ta := fun h e => by subst e; rw [hkt] at h; cases h
    refine dcP walk_items (fun i kvs H => Paired (ToldRow H) kvs (told.take i)) hD (by rw [lk]; exact Nat.lt_of_le_of_lt few (by decide)) (fun _ e => e _ _ upd_same) .nil ?_ ?_
    · rintro i x H2 H3 KT KF hi e ⟨kv0, hD2⟩ ⟨t, u, v, rfl, nt, rfl, h1, h2⟩ kt' kf
      obtain ⟨kv, hkv, rfl⟩ := Option.map_eq_some_iff.mp h1
      obtain ⟨kv', hkv', rfl⟩ := Option.map_eq_some_iff.mp h2
      rw [hkv] at hkv'
      obtain rfl := Option.some.inj hkv'
      obtain ⟨k, z⟩ := kv
      obtain ⟨td, htd, e1, b, e2, e3⟩ := pGetG pkt2 hkv
      have e1 : k = .inl (td.1 : Int) := e1
      have e2 : z = .ref b := e2
      subst e1 e2
      have hb2 := e _ _ ((upd_ne (noTa e3)).trans e3)
      have st := sNew (o := .tup [.int (td.1 : Int), .ref b]) nt
      have hb3 := st _ _ hb2
      refine ⟨t, _, rfl, SqT.of upd_same, rfl, _, _, rfl, _, _, rfl, rfl, rfl, yesD ⟨_, rfl, _, rfl, b, _, rfl, .inl (SqL.of hb3), fun l nl => ?_⟩⟩
      have sl := sNew (o := .lst (td.2.map V.int)) nl
      have lD : l ≠ D := (ne_of_none (st _ _ hD2) nl).symm
      refine kt' (.inl (td.1 : Int)) (.ref l) _ (st.trans sl) fun kvs hk => ?_
      have new : ∀ t ∈ told.take i, t.1 ≠ td.1 := fun t' ht e => by
        obtain ⟨n, hn⟩ := List.mem_iff_getElem?.mp ht
        have lt : n < i := by
          have := (List.getElem?_eq_some_iff.mp hn).1
          rw [List.length_take] at this
          omega
        rw [List.getElem?_take_of_lt lt] at hn
        have q1 : (told.map (·.1))[n]? = some t'.1 := by rw [List.getElem?_map, hn]; rfl
        have q2 : (told.map (·.1))[i]? = some td.1 := by rw [List.getElem?_map, htd]; rfl
        rw [e] at q1
        have := (List.getElem?_inj (List.getElem?_eq_some_iff.mp q1).1 ndT).mp (q1.trans q2.symm)
        omega
      rw [take_succ_get htd, putK_new _ (valV_no (told_new hk new))]
      exact pSnocG (ToldRow.mono (sDel (st.trans sl)) hk) ⟨rfl, l, rfl, by rw [del_ne lD]; exact upd_same⟩
    · intro H1 m
      rw [lk] at m
      obtain ⟨m1, kvs, m2, _, m3⟩ := m
      rw [List.take_length] at m3
      have sD := m1.trans del_le
      have DT : D ≠ ta := (ne_of_none upd_same hD).symm
      have nD : H D = none := by
        rw [upd_ne DT] at hD
        exact hD
      refine ⟨sD _ _ upd_same, q D kvs _ (lock_same hkt sD) nD ((upd_ne DT).trans m2) (Paired.mapP m3 fun _ _ z => ?_)⟩
      obtain ⟨z1, b, z2, z3⟩ := z
      refine ⟨z1, b, z2, ?_⟩
      have z4 := del_le _ _ z3
      rw [upd_ne fun e => ?_]
      · exact z4
      · subst e
        rw [sD _ _ upd_same] at z4
        cases z4
end
end Rb
namespace Rb
open PySem PySem.Spec PyProof.Rows L2
abbrev JB := Str × Str × List Int
abbrev rJB : Rp JB := rT3 rStr rStr (rLst rInt)
theorem SameX.trans {p : Addr} {H H' H'' : Hp} (e : SameX p H H') (e' : SameX p H' H'') : SameX p H H'' := fun b o h n => e' b o (e b o h n) n
theorem SameX.of {p : Addr} {H H' : Hp} (e : Same H H') : SameX p H H' := fun b o h _ => e b o h
theorem SameX.put {p : Addr} {H : Hp} {o : HO} : SameX p H (upd H p o) := fun b o h n => by rw [upd_ne n]; exact h
theorem SameX.cut {p ba ta : Addr} {F0 : List Addr} {H H' : Hp} (e : SameX p H H') (nb : H ba = none) (nt : H ta = none) : Same (Rb.cut (p :: F0) H) (Rb.cut (p :: ba :: ta :: F0) H') := fun a o h => by
  by_cases z : a ∈ p :: F0
  · rw [cut_in z] at h; cases h
  · rw [cut_out z] at h
    have z1 : a ≠ p := fun e => z (e ▸ .head _)
    have z2 : a ∉ F0 := fun m => z (.tail _ m)
    have z3 : a ∉ p :: ba :: ta :: F0 := fun m => by
      rcases List.mem_cons.mp m with rfl | m
      · exact z1 rfl
      · rcases List.mem_cons.mp m with rfl | m
        · rw [nb] at h; cases h
        · rcases List.mem_cons.mp m with rfl | m
          · rw [nt] at h; cases h
          · exact z2 m
    rw [cut_out z3]
    exact e a o h z1
section
variable {P : Program} {w : World} {K : Frg} {mg : Str → Option Value} {base : Heap}
def spWorldInit (K : Frg) : Sp := fun vs H Q _ => ∃ (p qa ja dx : Addr) (kq : List (Key × V)) (ks : List Str) (jvs : List V) (jb : List JB) (L : LogD) (f : Str → Int) (bars : Str → List Int), vs = [.ref p, .int L.grades, .ref qa, .ref ja] ∧ H p = some (.ins (fA K "World") dx []) ∧
  H qa = some (.dK kq) ∧ kq.map (·.1) = keysOf ks ∧ L.items.Perm ks ∧ sortedS L.items = true ∧ (∀ x ∈ L.items, valV kq (.inr x) = some (.int (f x))) ∧
  H ja = some (.lst jvs) ∧ Paired (rJB H) jvs jb ∧ L.judges = jb.map (fun t => (t.1, t.2.1)) ∧ L.events = [] ∧ LogOk L ∧ (∀ t ∈ jb, t.2.2.length = L.grades ∧ Rising t.2.2 ∧ bars t.1 = t.2.2) ∧
  ∀ lp qa' ba ta H', SameX p H H' → (∀ F0 : List Addr, (∀ a ∈ F0, H a ≠ none ∧ a ≠ p ∧ ∀ xs, H a ≠ some (.tup xs)) → WSt K (p :: ba :: ta :: F0) H' p lp qa' ba ta L f bars []) → H ba = none → H ta = none → Q .non H'
theorem ok_World_init (T : TX K mg) : OkF P w K mg base 5 (mA K "World" "__init__") ["self", "grades", "qualities", "judges"] (spWorldInit K) := by
  refine okD T.M.d_World_init sc_World_init (fun vs H Q E h => ?_) (fun _ _ _ _ _ _ us hl => match us, hl with | [_, _, _, _], _ => rfl) (fun cdv A outer s H vs Q X hr h => ?_)
  · obtain ⟨p, qa, ja, dx, kq, ks, jvs, jb, L, f, bars, rfl, _⟩ := h
    rfl
  · obtain ⟨p, qa, ja, dx, kq, ks, jvs, jb, L, f, bars, rfl, hp, hq, hks, pm, srt, vals, hja, pj, ej, ee, ok, jok, q⟩ := h
    have nd := sc_World_init.nd
    have GL := ok_Log_init (P := P) (w := w) (base := base) T
    have GC := (ok_check_bars (P := P) (w := w) (base := base) T).mono (k := 4) (by decide)
    refine ⟨_, pss_cons (ps_setLc (i := 4) (own := [("name", 5), ("drift", 6), ("_", 7)]) (tt := tYes) rfl nd rfl rfl (sw_true rfl rfl rfl (by decide +kernel)) (piL K (pv 3)) (blkOk_by (N := N_World_init) (sc := defScope s_World_init) (by decide +kernel))
        (fun _ _ _ _ _ => pgT K (n := 3) (pgs_cons (pg_name (i := 5) nd rfl (Or.inl rfl)) (pgs_cons (pg_name (i := 6) nd rfl (Or.inl rfl)) (pgs_cons (pg_name (i := 7) nd rfl (Or.inl rfl)) pgs_nil)))) (fun _ _ _ _ _ => pts_nil) (fun _ _ _ _ _ => pe_tup (pa_cons (pv 5) (pa_cons (pv 6) pa_nil))))
      (pss_cons (ps_fld (pv 0) (pmake GL T.T.mk_Log hr rfl T.G.g_Log (pa_cons (pe_callB sortedK rfl T.B.b_sorted boot_sorted (pa_cons (pv 2) pa_nil)) (pa_cons (pv 1) (pa_cons (pv 4) (pa_cons (pe_lst pa_nil) pa_nil))))) rfl)
      (pss_cons (ps_for PassesOwn.never rfl (piL K (pv 3)) (pgT K (n := 3) (pgs_cons (pg_name (i := 7) nd rfl (Or.inl rfl)) (pgs_cons (pg_name (i := 7) nd rfl (Or.inl rfl)) (pgs_cons (pg_name (i := 8) nd rfl (Or.inl rfl)) pgs_nil))))
        (pss_one (ps_expr (pcall GC hr rfl T.G.g_check_bars (pa_cons (pv 1) (pa_cons (pv 8) pa_nil))))))
      (pss_cons (ps_fld (pv 0) (pe_callTy dictOf rfl T.B.b_dict (by decide +kernel) (pa_cons (pv 2) pa_nil)) rfl)
      (pss_cons (ps_fld (pv 0) (pe_dc (own := [("name", 5), ("_", 7), ("bars", 8)]) (tt := tYes) rfl nd (piL K (pv 3)) (blkOk_by (N := N_World_init) (sc := defScope s_World_init) (by decide +kernel))
        (fun _ _ _ _ _ => pgT K (n := 3) (pgs_cons (pg_name (i := 5) nd rfl (Or.inl rfl)) (pgs_cons (pg_name (i := 7) nd rfl (Or.inl rfl)) (pgs_cons (pg_name (i := 8) nd rfl (Or.inl rfl)) pgs_nil)))) (fun _ _ _ _ _ => pts_nil) (fun _ _ _ _ _ => pv 5) (fun _ _ _ _ _ => pe_callTy (listK K) rfl T.B.b_list PyProof.Rows.boot_list (pa_cons (pv 8) pa_nil))) rfl)
      (pss_one (ps_fld (pv 0) pe_dnewK rfl)))))), ?_⟩
    have lj := pLen pj
    have few : jvs.length ≤ 8 := by
      have := ok.judges.le
      rw [List.length_map, ej, List.length_map] at this
      omega
    have hn : jvs.length < sizeLine := Nat.lt_of_le_of_lt few (by decide)
    refine ⟨_, rfl, ja, rfl, ⟨_, SqL.of hja⟩, fun N hN => lcP walk_list (rT2 rStr rStr) hN hn (fun i : Nat => (jb[i]?).map fun t => (t.1, t.2.1)) (fun _ e => SqL.of (e _ _ hja)) ?_ ?_⟩
    · rintro i x H1 H2 KT KF hi e ⟨acc, hacc⟩ ⟨rfl, hx⟩ kt kf
      obtain ⟨jt, hjt, t, v1, v2, v3, rfl, ht, rfl, rfl, _⟩ := pGet pj hx
      refine ⟨t, _, rfl, SqT.of (e _ _ ht), rfl, _, _, rfl, _, _, rfl, _, _, rfl, rfl, rfl, yes_it ⟨_, rfl, _, rfl, (by show 2 ≤ sizeLine; decide), fun t2 nt2 => kt _ _ (jt.1, jt.2.1) (by rw [hjt]; rfl) (sNew nt2) ⟨t2, _, _, rfl, ?_, rfl, rfl⟩⟩⟩
      rw [del_ne (ne_of_none hacc nt2).symm]
      exact upd_same
    intro H1 m
    rw [lj, outs_map, ← ej] at m
    have s1 := m.same
    obtain ⟨nm, nvs, enm, hnm, pnm⟩ := m.rep
    obtain rfl := V.ref.inj enm
    -- self._log
    have few64 : ks.length < 64 := by
      rw [← pm.length_eq]
      exact Nat.lt_of_le_of_lt ok.items.le (by decide)
    refine ⟨_, rfl, qa, kq, ks, rfl, .inl (s1 _ _ hq), hks, few64, fun ys l1 pm2 st n1 => ?_⟩
    have eys : ys = L.items := sorted_uniq (pm2.trans pm.symm) (sorted_pw st) (sorted_pw srt)
    subst eys
    have s2 := sNew (o := .lst (L.items.map V.str)) n1
    refine ⟨_, rfl, _, rfl, (by show 0 ≤ sizeLine; decide), fun l3 n3 => fun x dx2 nx nd2 ne => ?_⟩
    have s3 := sNew (o := .lst []) n3
    have s13 := (s1.trans s2).trans s3
    have s4 : Same (upd (upd H1 l1 (.lst (L.items.map V.str))) l3 (.lst [])) (upd (upd (upd (upd H1 l1 (.lst (L.items.map V.str))) l3 (.lst [])) dx2 (.own x)) x (.ins (fA K "Log") dx2 [])) := fun b o e => by
      rw [upd_ne (ne_of_none e nx), upd_ne (ne_of_none e nd2)]
      exact e
    refine ⟨x, l1, N, l3, dx2, L, rfl, upd_same, ⟨s4 _ _ (s3 _ _ upd_same), ⟨nvs, s4 _ _ (s3 _ _ (s2 _ _ hnm)), pMono ((s2.trans s3).trans s4) pnm⟩, ⟨[], s4 _ _ upd_same, by rw [ee]; exact .nil⟩⟩, ok, fun H4 sx hL np => ⟨rfl, ?_⟩⟩
    generalize hH3 : upd (upd H1 l1 (.lst (L.items.map V.str))) l3 (.lst []) = H3 at *
    have np3 := np.back s4
    have nx3 : H3 x = none := nx
    have s34 : Same H3 H4 := fun b o e => sx _ _ (s4 _ _ e) (ne_of_none e nx)
    have s04 := s13.trans s34
    have hp4 := s04 _ _ hp
    refine ⟨_, rfl, p, _, dx, _, rfl, hp4, T.T.cl_World, T.T.n_World_log, (by show 0 < 1000; decide), ?_⟩
    -- check_bars
    have x45 : SameX p H4 (upd H4 p (.ins (fA K "World") dx (putF "_log" (.ref x) []))) := .put
    have x05 := (SameX.of s04).trans x45
    have nja : ja ≠ p := ne_of hja hp (by intro z; cases z)
    have nqa : qa ≠ p := ne_of hq hp (by intro z; cases z)
    have rjX : ∀ {G : Hp}, SameX p H G → Paired (rJB G) jvs jb := fun up => Paired.mapP pj fun v x q => by
      obtain ⟨a, u, w, y, h1, h2, h3, h4, b, bs, h5, h6, h7⟩ := q
      exact ⟨a, u, w, y, h1, up _ _ h2 (ne_of h2 hp (by intro z; cases z)), h3, h4, b, bs, h5, up _ _ h6 (ne_of h6 hp (by intro z; cases z)), h7⟩
    generalize hH5 : upd H4 p (.ins (fA K "World") dx (putF "_log" (.ref x) [])) = H5 at *
    have hp5 : H5 p = some (.ins (fA K "World") dx (putF "_log" (.ref x) [])) := by rw [← hH5]; exact upd_same
    refine ⟨_, rfl, ja, rfl, ⟨_, SqL.of (x05 _ _ hja nja)⟩, ?_⟩
    refine for_it (walk_list (K := K) (a := ja) (xs := jvs)) (fun i σ H' => (∃ u7 u8, σ = [some (V.ref p), some (V.int L.grades), some (V.ref qa), some (V.ref ja), some (V.ref N), none, none, u7, u8]) ∧ Same H5 H') ⟨⟨_, _, rfl⟩, Same.refl _⟩ (fun i σ H' _ z => SqL.of (z.2 _ _ (x05 _ _ hja nja))) ?_ ?_
    · rintro i y σ H6 H7 hi ⟨⟨u7, u8, rfl⟩, s6⟩ ⟨rfl, hx⟩
      obtain ⟨jt, hjt, t, v1, v2, v3, rfl, ht, rfl, rfl, b, bs, rfl, hb, pb⟩ := pGet (rjX (x05.trans (SameX.of s6))) hx
      obtain ⟨k1, k2, k3⟩ := jok jt (List.mem_of_getElem? hjt)
      rw [pInt.mp pb] at hb
      refine ⟨t, _, rfl, SqT.of ht, rfl, _, _, rfl, _, _, rfl, _, _, rfl, rfl, ?_⟩
      exact ⟨_, rfl, _, rfl, b, jt.2.2, L.grades, rfl, hb, k1, ok.g9, k2, fun H8 s8 => ⟨⟨_, _, rfl⟩, s6.trans s8⟩⟩
    rintro σ H6 ⟨⟨u7, u8, rfl⟩, s6⟩
    have x06 := x05.trans (SameX.of s6)
    have hp6 := s6 _ _ hp5
    -- self._qualities
    refine ⟨_, rfl, qa, kq, rfl, .inl (x06 _ _ hq nqa), fun q1 nq1 => ?_⟩
    have nq1p : q1 ≠ p := (ne_of_none hp6 nq1).symm
    have hp6' : upd H6 q1 (.dK kq) p = some (.ins (fA K "World") dx (putF "_log" (.ref x) [])) := by rw [upd_ne nq1p.symm]; exact hp6
    refine ⟨_, rfl, p, _, dx, _, rfl, hp6', T.T.cl_World, T.T.n_World_qualities, small_putF (n := 0) (Nat.le_refl _) (by decide), ?_⟩
    have x67 : SameX p H6 (upd (upd H6 q1 (.dK kq)) p (.ins (fA K "World") dx (putF "_qualities" (.ref q1) (putF "_log" (.ref x) [])))) := (SameX.of (sNew nq1)).trans .put
    have hq7 : upd (upd H6 q1 (.dK kq)) p (.ins (fA K "World") dx (putF "_qualities" (.ref q1) (putF "_log" (.ref x) []))) q1 = some (.dK kq) := by rw [upd_ne nq1p]; exact upd_same
    have hp7 : upd (upd H6 q1 (.dK kq)) p (.ins (fA K "World") dx (putF "_qualities" (.ref q1) (putF "_log" (.ref x) []))) p = some (.ins (fA K "World") dx (putF "_qualities" (.ref q1) (putF "_log" (.ref x) []))) := upd_same
    generalize hH7 : upd (upd H6 q1 (.dK kq)) p (.ins (fA K "World") dx (putF "_qualities" (.ref q1) (putF "_log" (.ref x) []))) = H7 at *
    have x07 := x06.trans x67
    have rj7 := rjX x07
    have hja7 := x07 _ _ hja nja
    -- self._bars
    refine ⟨_, rfl, ja, rfl, ⟨_, SqL.of hja7⟩, fun ba nba => dcP walk_list (fun i kvs Hx => ∀ k t, k < i → jb[k]? = some t → ∃ b, valV kvs (.inr t.1) = some (.ref b) ∧ Hx b = some (.lst (t.2.2.map V.int)) ∧ H7 b = none) nba hn (fun _ e => SqL.of (e _ _ hja7)) (fun k t hk => absurd hk (Nat.not_lt_zero _)) ?_ ?_⟩
    · rintro i y H8 H9 KT KF hi e ⟨kv0, hD8⟩ ⟨rfl, hx⟩ kt kf
      obtain ⟨jt, hjt, t, v1, v2, v3, rfl, ht, rfl, rfl, b, bs, rfl, hb, pb⟩ := pGet (pMono e rj7) hx
      rw [pInt.mp pb] at hb
      refine ⟨t, _, rfl, SqT.of ht, rfl, _, _, rfl, _, _, rfl, _, _, rfl, rfl, rfl, yesD ⟨_, rfl, _, rfl, b, _, rfl, .inl (SqL.of hb), fun l nl => ?_⟩⟩
      have sl := sNew (o := .lst (jt.2.2.map V.int)) nl
      have lD : l ≠ ba := (ne_of_none hD8 nl).symm
      refine kt (.inr jt.1) (.ref l) _ sl fun kvs hk k t' hkm ht' => ?_
      rw [valV_put]
      by_cases z : t'.1 = jt.1
      · have e1 := (jok t' (List.mem_of_getElem? ht')).2.2
        have e2 := (jok jt (List.mem_of_getElem? hjt)).2.2
        rw [z, e2] at e1
        refine ⟨l, by rw [z, if_pos rfl], ?_, e.free nl⟩
        rw [del_ne lD, ← e1]
        exact upd_same
      · have hk' : k < i := by
          rcases Nat.lt_succ_iff_lt_or_eq.mp hkm with q | q
          · exact q
          · subst q
            rw [hjt] at ht'
            cases ht'
            exact absurd rfl z
        obtain ⟨b', y1, y2, y3⟩ := hk k t' hk' ht'
        exact ⟨b', by rw [if_neg (inr_ne z)]; exact y1, sDel sl _ _ y2, y3⟩
    intro H8 m8
    have s8 := m8.same
    obtain ⟨m81, kb, hba8, lkb, bk⟩ := m8
    have hp8 := s8 _ _ hp7
    have pba : ba ≠ p := (ne_of_none hp7 nba).symm
    refine ⟨_, rfl, p, _, dx, _, rfl, hp8, T.T.cl_World, T.T.n_World_bars, small_putF (n := 1) (length_putF _ _ _) (by decide), ?_⟩
    have x89 : SameX p H8 (upd H8 p (.ins (fA K "World") dx (putF "_bars" (.ref ba) (putF "_qualities" (.ref q1) (putF "_log" (.ref x) []))))) := .put
    have hba9 : upd H8 p (.ins (fA K "World") dx (putF "_bars" (.ref ba) (putF "_qualities" (.ref q1) (putF "_log" (.ref x) [])))) ba = some (.dK kb) := by rw [upd_ne pba]; exact hba8
    have hp9 : upd H8 p (.ins (fA K "World") dx (putF "_bars" (.ref ba) (putF "_qualities" (.ref q1) (putF "_log" (.ref x) [])))) p = some (.ins (fA K "World") dx (putF "_bars" (.ref ba) (putF "_qualities" (.ref q1) (putF "_log" (.ref x) [])))) := upd_same
    generalize hH9 : upd H8 p (.ins (fA K "World") dx (putF "_bars" (.ref ba) (putF "_qualities" (.ref q1) (putF "_log" (.ref x) [])))) = H9 at *
    -- self._told
    refine fun ta nta => ?_
    have pta : ta ≠ p := (ne_of_none hp9 nta).symm
    have bta : ba ≠ ta := ne_of_none hba9 nta
    have few3 : (putF ("_bars" : Str) (V.ref ba) (putF ("_qualities" : Str) (V.ref q1) (putF ("_log" : Str) (V.ref x) []))).length < 1000 := small_putF (n := 2) (Nat.le_trans (length_putF _ _ _) (Nat.succ_le_succ (length_putF _ _ _))) (by decide)
    refine ⟨_, rfl, p, _, dx, _, rfl, (by rw [upd_ne pta.symm]; exact hp9), T.T.cl_World, T.T.n_World_told, few3, ?_⟩
    rw [wf_made]
    have x9 : SameX p H9 (upd (upd H9 ta (.dK [])) p (.ins (fA K "World") dx (wflds x q1 ba ta))) := (SameX.of (sNew nta)).trans .put
    have hta : upd (upd H9 ta (.dK [])) p (.ins (fA K "World") dx (wflds x q1 ba ta)) ta = some (.dK []) := by rw [upd_ne pta]; exact upd_same
    have hpE : upd (upd H9 ta (.dK [])) p (.ins (fA K "World") dx (wflds x q1 ba ta)) p = some (.ins (fA K "World") dx (wflds x q1 ba ta)) := upd_same
    generalize hHE : upd (upd H9 ta (.dK [])) p (.ins (fA K "World") dx (wflds x q1 ba ta)) = HE at *
    have x79 := (SameX.of s8).trans x89
    have x7E := x79.trans x9
    have x47 := (x45.trans (SameX.of s6)).trans x67
    have x49 := x47.trans x79
    have n7ta : H7 ta = none := freeX x79 pta nta
    have n4ba : H4 ba = none := freeX x47 pba nba
    have n4ta : H4 ta = none := freeX x47 pta n7ta
    have n0ba : H ba = none := s04.free n4ba
    have n0ta : H ta = none := s04.free n4ta
    refine q x q1 ba ta HE (x07.trans x7E) (fun F0 hF => ?_) n0ba n0ta
    have x0E := x07.trans x7E
    have x4E := x49.trans x9
    have atF : ∀ a ∈ F0, ∀ G, SameX p H G → G a = H a := fun a m G e => by
      obtain ⟨h1, h2, _⟩ := hF a m
      cases z : H a with
      | none => exact absurd z h1
      | some o => exact e _ _ z h2
    have cL : LogAt K (cut (p :: F0) H4) x L := by
      refine hL.cutN np3 nx3 (fun a m => ?_) fun a m xs => ?_
      · rcases List.mem_cons.mp m with rfl | m
        · rw [s13 _ _ hp]; exact fun e => nomatch e
        · rw [atF a m H3 (SameX.of s13)]; exact (hF a m).1
      · rcases List.mem_cons.mp m with rfl | m
        · rw [hp4]; exact fun e => nomatch e
        · rw [atF a m H4 (SameX.of s04)]; exact (hF a m).2.2 xs
    have fresh : ∀ {b : Addr} {o : HO}, H7 b = none → b ≠ ba → b ≠ ta → HE b = some o → cut (p :: ba :: ta :: F0) HE b = some o := fun {b o} h1 h2 h3 h4 => by
      rw [cut_out fun m => ?_]
      · exact h4
      · rcases List.mem_cons.mp m with rfl | m
        · rw [hp7] at h1; cases h1
        · rcases List.mem_cons.mp m with rfl | m
          · exact h2 rfl
          · rcases List.mem_cons.mp m with rfl | m
            · exact h3 rfl
            · rw [atF b m H7 x07] at h1
              exact (hF b m).1 h1
    refine ⟨.head _, .tail _ (.head _), .tail _ (.tail _ (.head _)), bta, fun a m => ?_, fun a m xs => ?_, ⟨dx, hpE⟩, cL.mono (x4E.cut n4ba n4ta), ok, ⟨kq, ?_, vals⟩, ⟨kb, x9 _ _ hba9 pba, Nat.le_trans lkb few, fun j hj => ?_⟩, ⟨[], hta, .nil⟩⟩
    · rcases List.mem_cons.mp m with rfl | m
      · rw [hpE]; exact fun e => nomatch e
      · rcases List.mem_cons.mp m with rfl | m
        · rw [x9 _ _ hba9 pba]; exact fun e => nomatch e
        · rcases List.mem_cons.mp m with rfl | m
          · rw [hta]; exact fun e => nomatch e
          · rw [atF a m HE x0E]; exact (hF a m).1
    · rcases List.mem_cons.mp m with rfl | m
      · rw [hpE]; exact fun e => nomatch e
      · rcases List.mem_cons.mp m with rfl | m
        · rw [x9 _ _ hba9 pba]; exact fun e => nomatch e
        · rcases List.mem_cons.mp m with rfl | m
          · rw [hta]; exact fun e => nomatch e
          · rw [atF a m HE x0E]; exact (hF a m).2.2 xs
    · -- the qualities
      have nF : q1 ∉ p :: ba :: ta :: F0 := fun m => by
        rcases List.mem_cons.mp m with e | m
        · exact nq1p e
        · rcases List.mem_cons.mp m with e | m
          · rw [e, nba] at hq7; cases hq7
          · rcases List.mem_cons.mp m with e | m
            · rw [e, n7ta] at hq7; cases hq7
            · rw [atF q1 m H6 x06] at nq1
              exact (hF q1 m).1 nq1
      rw [cut_out nF]
      exact x7E _ _ hq7 nq1p
    · rw [ej, List.map_map] at hj
      obtain ⟨t, ht, rfl⟩ := List.mem_map.mp hj
      obtain ⟨k, hk⟩ := List.mem_iff_getElem?.mp ht
      obtain ⟨b, y1, y2, y3⟩ := bk k t (by rw [lj]; exact (List.getElem?_eq_some_iff.mp hk).1) hk
      have e1 := (jok t ht).2.2
      have nb : b ≠ ba := by rintro rfl; rw [del_same] at y2; cases y2
      have y4 := del_le _ _ y2
      have bp : b ≠ p := by rintro rfl; rw [hp7] at y3; cases y3
      have y5 := x89 _ _ y4 bp
      have nt : b ≠ ta := ne_of_none y5 nta
      refine ⟨b, y1, ?_⟩
      show cut _ HE b = some (.lst ((bars t.1).map V.int))
      rw [e1]
      exact fresh y3 nb nt (x9 _ _ y5 bp)
end
end Rb
namespace Rb
open PySem PySem.Spec PyProof.Rows L2
/-! ### the law's numbers -/
theorem small1009 {i : Int} (h : 0 ≤ i) : ∃ n : Nat, i % 1009 = (n : Int) ∧ n < 1009 := by
  refine ⟨(i % 1009).toNat, ?_, ?_⟩
  · have := Int.emod_nonneg i (show (1009 : Int) ≠ 0 by decide)
    omega
  · have := Int.emod_lt_of_pos i (show (0 : Int) < 1009 by decide)
    omega
/-- |i| -/
def absI (i : Int) : Int := if i < 0 then -i else i
theorem absI_nonneg (i : Int) : 0 ≤ absI i := by
  unfold absI
  split <;> omega
section
variable {P : Program} {w : World} {K : Frg} {mg : Str → Option Value} {base : Heap}
def spLRow : Sp := fun vs H Q _ => ∃ (c : Int) (m : Nat), vs = [.int c, .int (m : Int)] ∧ m ≤ 161 ∧ ∀ v (xs : List Nat) H', Same H H' → xs.length = m → (∀ x ∈ xs, x < 1009) → newL rNat H H' v xs → Q v H'
def RowSt (c : Int) (m : Nat) (D : Addr) (H : Hp) (i : Nat) (σ : L2.St) (H' : Hp) : Prop :=
  (∃ (rest st : Int) (u5 : Option V), 0 ≤ rest ∧ 0 ≤ st ∧ st < 2147483647 ∧ σ = [some (V.int c), some (V.int (m : Int)), some (V.ref D), some (V.int rest), some (V.int st), u5]) ∧ ∃ xs : List Nat, MadeL rNat H D xs H' ∧ xs.length = i ∧ ∀ x ∈ xs, x < 1009
theorem ok_l_row (T : TX K mg) : OkF P w K mg base 1 (fA K "_law_row") ["_law_cell", "_law_many"] spLRow := by
  refine okD T.D.d_l_row sc_l_row (fun vs H Q E h => ?_) (fun _ _ _ _ _ _ us hl => match us, hl with | [_, _], _ => rfl) (fun cdv A outer s H vs Q X hr h => ?_)
  · obtain ⟨c, m, rfl, _⟩ := h
    rfl
  · obtain ⟨c, m, rfl, hm, q⟩ := h
    have nd := sc_l_row.nd
    refine ⟨_, pss_cons (ps_set (i := 2) nd rfl (Or.inl rfl) (pe_lst pa_nil))
      (pss_cons (ps_set (i := 3) nd rfl (Or.inl rfl) pe_int)
      (pss_cons (ps_if (pt_cmpR op_ge (pe_callB call_abs rfl T.B.b_abs boot_abs (pa_cons (pv 0) pa_nil)) (pe_op op_pow pe_int pe_int) (nomark _)) (pss_one (ps_set (i := 3) nd rfl (Or.inl rfl) (pe_callB call_abs rfl T.B.b_abs boot_abs (pa_cons (pv 0) pa_nil)))) pss_nil)
      (pss_cons (ps_set (i := 4) nd rfl (Or.inl rfl) (pe_op op_mod (pe_callTy call_int1 rfl T.B.b_int PyProof.Rows.boot_int (pa_cons (pe_callB call_abs rfl T.B.b_abs boot_abs (pa_cons (pv 0) pa_nil)) pa_nil)) pe_int))
      (pss_cons (ps_for PassesOwn.never rfl (pi_range1 rfl T.B.b_range (pa_cons (pv 1) pa_nil)) (pg_name (i := 5) nd rfl (Or.inl rfl))
        (pss_cons (ps_set (i := 4) nd rfl (Or.inl rfl) (pe_op op_mod (pe_callTy call_int1 rfl T.B.b_int PyProof.Rows.boot_int (pa_cons (pe_op op_add (pe_op op_mul (pe_op op_add (pv 4) pe_int) pe_int) (pe_op op_mul pe_int (pv 5))) pa_nil)) pe_int))
        (pss_one (ps_if (pt_cmpR op_gt (pv 3) pe_int (nomark _))
          (pss_cons (ps_expr (pe_bm PySem.F.plainAttrs_list PySem.F.slot_list_append PySem.F.type_list_append mt_append (pv 2) (pa_cons (pe_op op_mod (pe_callTy call_int1 rfl T.B.b_int PyProof.Rows.boot_int (pa_cons (pv 3) pa_nil)) pe_int) pa_nil)))
          (pss_one (ps_set (i := 3) nd rfl (Or.inl rfl) (pe_op op_fdiv (pv 3) pe_int))))
          (pss_one (ps_expr (pe_bm PySem.F.plainAttrs_list PySem.F.slot_list_append PySem.F.type_list_append mt_append (pv 2) (pa_cons (pe_op op_mod (pe_callTy call_int1 rfl T.B.b_int PyProof.Rows.boot_int (pa_cons (pe_op op_fdiv (pv 4) pe_int) pa_nil)) pe_int) pa_nil))))))))
      (pss_one (ps_ret (pv 2))))))), ?_⟩
    refine ⟨by show 0 ≤ sizeLine; decide, fun D hD => ?_⟩
    have s1 := sNew (o := .lst []) hD
    have em : ∀ i : Int, 0 ≤ i % 2147483647 ∧ i % 2147483647 < 2147483647 := fun i => ⟨Int.emod_nonneg i (by decide), Int.emod_lt_of_pos i (by decide)⟩
    refine ⟨_, rfl, c, rfl, _, _, rfl, rfl, ⟨by decide, by decide, by decide⟩, _, _, rfl, rfl, _, rfl, ite2 (fun _ => ⟨_, rfl, c, rfl, ?_⟩) (fun _ => ?_)⟩
    all_goals
      refine ⟨_, rfl, c, rfl, .inl ⟨_, rfl, _, _, rfl, rfl, (show (0 : Int) < 2147483647 by decide), ?_⟩⟩
      refine ⟨_, rfl, _, rfl, by omega, by omega, ?_⟩
      rw [Int.toNat_natCast]
      refine for_it (walk_nat (n := m)) (RowSt c m D H) ⟨⟨_, _, _, by first | exact Int.le_refl 0 | exact absI_nonneg c, (em _).1, (em _).2, rfl⟩, [], ⟨?_, [], upd_same, .nil⟩, rfl, fun _ z => nomatch z⟩ (fun _ _ _ _ _ => trivial) ?_ ?_
      · rw [del_upd]
        exact sDelR (Same.refl _) hD
      · rintro i x σ H2 H3 hi ⟨⟨rest, st, u5, r0, t0, t1, rfl⟩, xs, mm, lx, sm⟩ ⟨rfl, rfl⟩
        obtain ⟨m1, ws, hD3, rs⟩ := id mm
        refine ⟨_, rfl, _, _, rfl, rfl, _, _, rfl, rfl, .inl ⟨by omega, by omega⟩, _, rfl, _, _, rfl, rfl, .inl ⟨by decide, by decide⟩, _, _, rfl, rfl, .inl ⟨_, rfl, _, _, rfl, rfl, (show (0 : Int) < 2147483647 by decide), ?_⟩⟩
        have app : ∀ (n : Nat) (rest' st' : Int), n < 1009 → 0 ≤ rest' → 0 ≤ st' → st' < 2147483647 → RowSt c m D H (i + 1) [some (V.int c), some (V.int (m : Int)), some (V.ref D), some (V.int rest'), some (V.int st'), some (V.int (i : Int))] (upd H3 D (.lst (ws ++ [V.int (n : Int)]))) := fun n rest' st' hn h1 h2 h3 => by
          refine ⟨⟨rest', st', _, h1, h2, h3, rfl⟩, xs ++ [n], ⟨?_, _, upd_same, ?_⟩, ?_, fun y hy => ?_⟩
          · rw [del_upd]
            exact m1
          · rw [del_upd]
            exact pSnoc rs rfl
          · rw [List.length_append, lx]
            rfl
          · rcases List.mem_append.mp hy with hy | hy
            · exact sm y hy
            · rw [List.mem_singleton.mp hy]; exact hn
        have lws : ws.length < sizeLine := by
          rw [pLen rs, lx]
          exact Nat.lt_of_lt_of_le hi (Nat.le_trans hm (by decide))
        have em2 := em ((st + 1) * 48271 + 69621 * (i : Int))
        refine ⟨_, rfl, _, _, rfl, rfl, _, rfl, ite2 (fun _ => ?_) (fun _ => ?_)⟩
        · obtain ⟨n, en, hn⟩ := small1009 r0
          refine ⟨_, rfl, .inl ⟨rfl, _, SqL.of hD3⟩, _, rfl, .inl ⟨_, rfl, _, _, rfl, rfl, (show (0 : Int) < 1009 by decide), ?_⟩⟩
          refine ⟨D, ws, _, rfl, rfl, hD3, lws, _, rfl, _, _, rfl, rfl, ⟨by decide, by decide⟩, ?_⟩
          show RowSt c m D H (i + 1) [some (V.int c), some (V.int (m : Int)), some (V.ref D), some (V.int (rest / 1009)), some (V.int (((st + 1) * 48271 + 69621 * (i : Int)) % 2147483647)), some (V.int (i : Int))] (upd H3 D (.lst (ws ++ [V.int (rest % 1009)])))
          rw [en]
          exact app n _ _ hn (Int.ediv_nonneg r0 (by decide)) em2.1 em2.2
        · obtain ⟨n, en, hn⟩ := small1009 (Int.ediv_nonneg em2.1 (show (0 : Int) ≤ 2048 by decide))
          refine ⟨_, rfl, .inl ⟨rfl, _, SqL.of hD3⟩, _, rfl, _, _, rfl, rfl, ⟨by decide, by decide⟩, .inl ⟨_, rfl, _, _, rfl, rfl, (show (0 : Int) < 1009 by decide), ?_⟩⟩
          refine ⟨D, ws, _, rfl, rfl, hD3, lws, ?_⟩
          show RowSt c m D H (i + 1) [some (V.int c), some (V.int (m : Int)), some (V.ref D), some (V.int rest), some (V.int (((st + 1) * 48271 + 69621 * (i : Int)) % 2147483647)), some (V.int (i : Int))] (upd H3 D (.lst (ws ++ [V.int ((((st + 1) * 48271 + 69621 * (i : Int)) % 2147483647) / 2048 % 1009)])))
          rw [en]
          exact app n _ _ hn r0 em2.1 em2.2
      · rintro σ H3 ⟨⟨rest, st, u5, r0, t0, t1, rfl⟩, xs, mm, lx, sm⟩
        exact ⟨_, rfl, q _ xs _ mm.same lx sm (mm.new (Same.refl _) hD)⟩
end
end Rb
namespace Rb
open PySem PySem.Spec PyProof.Rows L2
theorem cut_to {xs : List V} {n : Nat} : cutV xs none (some (n : Int)) = xs.take n := by
  unfold cutV
  rw [HT.sIx_none, HT.sIx_nat, List.drop_zero, Nat.sub_zero, ← List.take_eq_take_min]
/-- small numbers -/
def Small (xs : List Nat) : Prop := ∀ x ∈ xs, x < 1009
theorem Small.snoc {xs : List Nat} {n : Nat} (h : Small xs) (hn : n < 1009) : Small (xs ++ [n]) := fun y hy => by
  rcases List.mem_append.mp hy with hy | hy
  · exact h y hy
  · rw [List.mem_singleton.mp hy]; exact hn
section
variable {P : Program} {w : World} {K : Frg} {mg : Str → Option Value} {base : Heap}
def NumSt (a C D : Addr) (m e : Nat) (H : Hp) (b : Nat) (σ : L2.St) (H' : Hp) : Prop :=
  (∃ u5 u6, σ = [some (V.ref a), some (V.int (m : Int)), some (V.ref C), some (V.int (e : Int)), some (V.ref D), u5, u6]) ∧ ∃ xs : List Nat, MadeL rNat H D xs H' ∧ xs.length ≤ b ∧ Small xs
def spNumbers (K : Frg) : Sp := fun vs H Q _ => ∃ (a : Addr) (ns : List Int) (m : Nat), vs = [.ref a, .int (m : Int)] ∧ SqL K H a (ns.map V.int) ∧ m ≤ 160 ∧ ∀ v (xs : List Nat) H', Same H H' → xs.length = m → Small xs → newL rNat H H' v xs → Q v H'
theorem ok_l_numbers (T : TX K mg) : OkF P w K mg base 2 (fA K "_law_numbers") ["_law_script", "_law_many"] (spNumbers K) := by
  refine okD T.D.d_l_numbers sc_l_numbers (fun vs H Q E h => ?_) (fun _ _ _ _ _ _ us hl => match us, hl with | [_, _], _ => rfl) (fun cdv A outer s H vs Q X hr h => ?_)
  · obtain ⟨a, ns, m, rfl, _⟩ := h
    rfl
  · obtain ⟨a, ns, m, rfl, ha, hm, q⟩ := h
    have nd := sc_l_numbers.nd
    have GR := ok_l_row (P := P) (w := w) (base := base) T
    refine ⟨_, pss_cons (ps_set (i := 2) nd rfl (Or.inl rfl) (pe_slice (slL K) (pv 0) po_none (po_some pe_int)))
      (pss_cons (ps_set (i := 3) nd rfl (Or.inl rfl) (pe_op op_add pe_int (pe_op op_fdiv (pv 1) (pe_callB (call_max2 rfl) rfl T.B.b_max boot_max (pa_cons pe_int (pa_cons (pe_callB (lenK K) rfl T.B.b_len boot_len (pa_cons (pv 2) pa_nil)) pa_nil))))))
      (pss_cons (ps_set (i := 4) nd rfl (Or.inl rfl) (pe_lst pa_nil))
      (pss_cons (ps_for PassesOwn.never rfl (piL K (pv 2)) (pg_name (i := 5) nd rfl (Or.inl rfl))
        (pss_one (ps_for PassesOwn.never rfl (piL K (pcall GR hr rfl T.G.g_l_row (pa_cons (pv 5) (pa_cons (pv 3) pa_nil)))) (pg_name (i := 6) nd rfl (Or.inl rfl))
          (pss_one (ps_expr (pe_bm PySem.F.plainAttrs_list PySem.F.slot_list_append PySem.F.type_list_append mt_append (pv 4) (pa_cons (pv 6) pa_nil)))))))
      (pss_cons (ps_while PassesOwn.never (pt_cmpR op_lt (pe_callB (lenK K) rfl T.B.b_len boot_len (pa_cons (pv 4) pa_nil)) (pv 1) (nomark _))
        (pss_one (ps_expr (pe_bm PySem.F.plainAttrs_list PySem.F.slot_list_append PySem.F.type_list_append mt_append (pv 4) (pa_cons pe_int pa_nil)))))
      (pss_one (ps_ret (pe_slice (slL K) (pv 4) po_none (po_some (pv 1))))))))), ?_⟩
    refine ⟨_, rfl, _, rfl, a, _, rfl, ha, fun C hC => ?_⟩
    rw [show (63 : Int) = ((63 : Nat) : Int) from rfl, cut_to, ← List.map_take]
    have s1 := sNew (o := .lst ((ns.take 63).map V.int)) hC
    have lc : ((ns.take 63).map V.int).length ≤ 63 := by
      rw [List.length_map]
      exact List.length_take_le _ _
    generalize hcs : ns.take 63 = cs at *
    have hd : ∃ d : Nat, (if (((cs.map V.int).length : Nat) : Int) > 1 then (((cs.map V.int).length : Nat) : Int) else 1) = (d : Int) ∧ 1 ≤ d ∧ d ≤ 63 := by
      by_cases z : (((cs.map V.int).length : Nat) : Int) > 1
      · exact ⟨_, if_pos z, by omega, lc⟩
      · exact ⟨1, if_neg z, by omega, by omega⟩
    obtain ⟨d, ed, d1, d63⟩ := hd
    refine ⟨_, rfl, _, rfl, C, _, rfl, .inl (SqL.of upd_same), _, _, rfl, ?_⟩
    rw [ed]
    refine ⟨_, _, rfl, rfl, ⟨by omega, by omega⟩, _, _, rfl, rfl, ?_⟩
    have ee : (1 : Int) + (m : Int) / (d : Int) = ((1 + m / d : Nat) : Int) := by
      rw [Int.natCast_add, Int.natCast_ediv]
      rfl
    have le : 1 + m / d ≤ 161 := by
      have := Nat.div_le_self m d
      omega
    show gName 3 (V.int ((1 : Int) + (m : Int) / (d : Int))) _ _ _
    rw [ee]
    generalize 1 + m / d = e at *
    refine ⟨by show 0 ≤ sizeLine; decide, fun D hD => ?_⟩
    have s2 := sNew (o := .lst []) hD
    have hC2 : upd (upd H C (.lst (cs.map V.int))) D (.lst []) C = some (.lst (cs.map V.int)) := s2 _ _ upd_same
    refine ⟨_, rfl, C, rfl, ⟨_, SqL.of hC2⟩, ?_⟩
    generalize hH1 : upd H C (.lst (cs.map V.int)) = H1 at *
    have hC1 : H1 C = some (.lst (cs.map V.int)) := by rw [← hH1]; exact upd_same
    refine for_it (walk_list (K := K) (a := C) (xs := cs.map V.int)) (fun i σ H' => NumSt a C D m e H1 (i * 161) σ H') ⟨⟨_, _, rfl⟩, [], ⟨?_, [], upd_same, .nil⟩, Nat.zero_le _, fun _ z => nomatch z⟩ (fun i σ H' _ z => by obtain ⟨_, xs, mm, _⟩ := z; exact SqL.of (mm.same _ _ hC1)) ?_ ?_
    · rw [del_upd]
      exact sDelR (Same.refl _) hD
    · rintro i x σ H3 H4 hi ⟨⟨u5, u6, rfl⟩, xs, mm, lx, sm⟩ ⟨rfl, hx⟩
      obtain ⟨c, hc, rfl⟩ := get_iv hx
      refine ⟨_, rfl, _, rfl, c, e, rfl, le, fun v row H5 s5 lr srow hv => ?_⟩
      obtain ⟨ra, rvs, rfl, nra, hra, pra⟩ := hv
      have lrv := pLen pra
      obtain ⟨m1, ws, hD4, rs⟩ := id mm
      have hD5 := s5 _ _ hD4
      have nrD : ra ≠ D := (ne_of_none hD4 nra).symm
      have hrB : del H5 D ra = some (.lst rvs) := by rw [del_ne nrD]; exact hra
      refine ⟨ra, rfl, ⟨_, SqL.of hra⟩, ?_⟩
      refine for_it (walk_list (K := K) (a := ra) (xs := rvs)) (fun k σ H' => NumSt a C D m e (del H5 D) (i * 161 + k) σ H') ⟨⟨_, _, rfl⟩, xs, ⟨Same.refl _, ws, hD5, pMono (sDel s5) rs⟩, lx, sm⟩ (fun i σ H' _ z => by obtain ⟨_, xs, mm, _⟩ := z; exact SqL.of (mm.same _ _ hrB)) ?_ ?_
      · rintro k y σ H6 H7 hk ⟨⟨u5, u6, rfl⟩, xs2, mm2, lx2, sm2⟩ ⟨rfl, hy⟩
        obtain ⟨n, hn, rfl⟩ := pGet pra hy
        obtain ⟨n1, ws2, hD7, rs2⟩ := id mm2
        have lcs : i < 63 := Nat.lt_of_lt_of_le hi lc
        refine ⟨_, rfl, .inl ⟨rfl, _, SqL.of hD7⟩, _, rfl, D, ws2, _, rfl, rfl, hD7, ?_, ⟨_, _, rfl⟩, xs2 ++ [n], ⟨?_, _, upd_same, ?_⟩, ?_, sm2.snoc (srow n (List.mem_of_getElem? hn))⟩
        · rw [pLen rs2]
          exact Nat.lt_of_le_of_lt (show _ ≤ 63 * 161 + 161 by omega) (by decide)
        · rw [del_upd]; exact n1
        · rw [del_upd]; exact pSnoc rs2 rfl
        · rw [List.length_append]
          show xs2.length + 1 ≤ i * 161 + (k + 1)
          omega
      · rintro σ H6 ⟨⟨u5, u6, rfl⟩, xs2, mm2, lx2, sm2⟩
        exact ⟨⟨_, _, rfl⟩, xs2, ⟨(m1.trans (sDel s5)).trans mm2.1, mm2.2⟩, by omega, sm2⟩
    · rintro σ H3 ⟨⟨u5, u6, rfl⟩, xs, mm, lx, sm⟩
      refine ⟨fun n σ H' => (∃ u5 u6, σ = [some (V.ref a), some (V.int (m : Int)), some (V.ref C), some (V.int (e : Int)), some (V.ref D), u5, u6]) ∧ ∃ xs : List Nat, MadeL rNat H1 D xs H' ∧ xs.length ≤ 63 * 161 + 160 ∧ Small xs ∧ n = m - xs.length, ⟨_, ⟨_, _, rfl⟩, xs, mm, by omega, sm, rfl⟩, ?_⟩
      rintro n σ H4 ⟨⟨u5, u6, rfl⟩, ys, m4, ly, sy, rfl⟩
      obtain ⟨m41, ws, hD4, rs⟩ := id m4
      have lws := pLen rs
      refine ⟨_, rfl, D, ws, rfl, .inl (SqL.of hD4), _, rfl, _, _, rfl, rfl, _, rfl, ite2 (fun c => ?_) (fun c => ?_)⟩
      · have lt : ys.length < m := by
          have := of_decide_eq_true c
          omega
        refine ⟨fun σ' H' => ∃ n', n' < m - ys.length ∧ (∃ u5 u6, σ' = [some (V.ref a), some (V.int (m : Int)), some (V.ref C), some (V.int (e : Int)), some (V.ref D), u5, u6]) ∧ ∃ xs : List Nat, MadeL rNat H1 D xs H' ∧ xs.length ≤ 63 * 161 + 160 ∧ Small xs ∧ n' = m - xs.length, fun _ _ h => h, ?_⟩
        refine ⟨_, rfl, .inl ⟨rfl, _, SqL.of hD4⟩, D, ws, _, rfl, rfl, hD4, ?_, _, ?_, ⟨_, _, rfl⟩, ys ++ [0], ⟨?_, _, upd_same, ?_⟩, ?_, sy.snoc (by decide), rfl⟩
        · rw [lws]
          exact Nat.lt_of_le_of_lt (show _ ≤ 160 by omega) (by decide)
        · rw [List.length_append]
          show m - (ys.length + 1) < m - ys.length
          omega
        · rw [del_upd]; exact m41
        · rw [del_upd]; exact pSnoc rs rfl
        · rw [List.length_append]
          show ys.length + 1 ≤ _
          omega
      · have ge : m ≤ ys.length := by
          by_cases z : ys.length < m
          · exact absurd (decide_eq_true (by omega)) c
          · omega
        refine ⟨_, rfl, _, rfl, _, rfl, D, ws, rfl, SqL.of hD4, fun p np => ?_⟩
        rw [cut_to]
        have s5 := sNew (o := .lst (ws.take m)) np
        have s05 := ((s1.trans m4.same)).trans s5
        refine q _ (ys.take m) _ s05 (by rw [List.length_take]; omega) (fun y hy => sy y (List.mem_of_mem_take hy)) ⟨p, ws.take m, rfl, (s1.trans m4.same).free np, upd_same, ?_⟩
        rw [pNat.mp rs, ← List.map_take]
        exact pNat.mpr rfl
end
end Rb
namespace Rb
open PySem PySem.Spec PyProof.Rows L2
/-! ### rows in order -/
abbrev Up (cs : List Int) : Prop := cs.Pairwise (· ≤ ·)
theorem Up.get {cs : List Int} (h : Up cs) {i j : Nat} {a b : Int} (ha : cs[i]? = some a) (hb : cs[j]? = some b) (le : i ≤ j) : a ≤ b := by
  obtain ⟨h1, e1⟩ := List.getElem?_eq_some_iff.mp ha
  obtain ⟨h2, e2⟩ := List.getElem?_eq_some_iff.mp hb
  rcases Nat.lt_or_eq_of_le le with lt | rfl
  · rw [← e1, ← e2]
    exact List.pairwise_iff_getElem.mp h i j h1 h2 lt
  · rw [ha] at hb
    exact Int.le_of_eq (Option.some.inj hb)
theorem Up.rising {cs : List Int} (h : Up cs) : Rising cs := fun i a b ha hb => h.get ha hb (Nat.le_succ _)
theorem ints_uniq : ∀ {xs ys : List Int}, xs.Perm ys → Up xs → Up ys → xs = ys
  | [], ys, p, _, _ => by rw [List.nil_perm.mp p]
  | x :: xs, [], p, _, _ => by have := p.length_eq; cases this
  | x :: xs, y :: ys, p, h1, h2 => by
    have e : x = y := by
      rcases List.mem_cons.mp (p.mem_iff.mp (List.mem_cons_self ..)) with e | m
      · exact e
      · rcases List.mem_cons.mp (p.mem_iff.mpr (List.mem_cons_self (a := y) (l := ys))) with e | m2
        · exact e.symm
        · exact Int.le_antisymm (List.rel_of_pairwise_cons h1 m2) (List.rel_of_pairwise_cons h2 m)
    subst e
    rw [ints_uniq ((List.perm_cons x).mp p) (List.pairwise_cons.mp h1).2 (List.pairwise_cons.mp h2).2]
theorem cnt_ge {xs : List Int} {f : Int → Bool} {n : Nat} (h : ∀ k a, k < n → xs[k]? = some a → f a = true) (ln : n ≤ xs.length) : n ≤ xs.countP f := by
  have e : xs.countP f = (xs.take n).countP f + (xs.drop n).countP f := by rw [← List.countP_append, List.take_append_drop]
  have e2 : (xs.take n).countP f = (xs.take n).length := List.countP_eq_length.mpr fun a ha => by
    obtain ⟨k, hk⟩ := List.mem_iff_getElem?.mp ha
    have lt : k < n := by
      have := (List.getElem?_eq_some_iff.mp hk).1
      rw [List.length_take] at this
      omega
    rw [List.getElem?_take_of_lt lt] at hk
    exact h k a lt hk
  rw [List.length_take] at e2
  omega
theorem cnt_le {xs : List Int} {f : Int → Bool} {n : Nat} (h : ∀ k a, n ≤ k → xs[k]? = some a → f a = false) : xs.countP f ≤ n := by
  have e : xs.countP f = (xs.take n).countP f + (xs.drop n).countP f := by rw [← List.countP_append, List.take_append_drop]
  have e2 : (xs.drop n).countP f = 0 := List.countP_eq_zero.mpr fun a ha => by
    obtain ⟨k, hk⟩ := List.mem_iff_getElem?.mp ha
    rw [List.getElem?_drop] at hk
    rw [h (n + k) a (Nat.le_add_right _ _) hk]
    exact Bool.false_ne_true
  have e3 : (xs.take n).countP f ≤ (xs.take n).length := List.countP_le_length
  rw [List.length_take] at e3
  omega
/-- a sorted row stays under one that grew at each place, sorted again -/
theorem sort_up {bs xs cs : List Int} (hb : Up bs) (p : cs.Perm xs) (hc : Up cs) (ln : bs.length = xs.length) (h : ∀ (k : Nat) (a b : Int), bs[k]? = some a → xs[k]? = some b → a ≤ b) : ∀ (i : Nat) (a b : Int), bs[i]? = some a → cs[i]? = some b → a ≤ b := by
  intro i a b ha hcb
  by_cases z : a ≤ b
  · exact z
  · exfalso
    have z : b < a := Int.not_le.mp z
    have l1 := (List.getElem?_eq_some_iff.mp hcb).1
    have l2 := (List.getElem?_eq_some_iff.mp ha).1
    have c1 := cnt_ge (xs := cs) (f := fun y => decide (y < a)) (n := i + 1) (fun k y hk hy => decide_eq_true (Int.lt_of_le_of_lt (hc.get hy hcb (Nat.lt_succ_iff.mp hk)) z)) l1
    have c2 := cnt_le (xs := xs) (f := fun y => decide (y < a)) (n := i) (fun k y hk hy => decide_eq_false (Int.not_lt.mpr ?_))
    · rw [p.countP_eq] at c1
      omega
    · have l3 : k < bs.length := by rw [ln]; exact (List.getElem?_eq_some_iff.mp hy).1
      have hk2 : bs[k]? = some bs[k] := List.getElem?_eq_getElem l3
      exact Int.le_trans (hb.get ha hk2 hk) (h k _ y hk2 hy)
theorem sort_down {bs xs cs : List Int} (hb : Up bs) (p : cs.Perm xs) (hc : Up cs) (ln : bs.length = xs.length) (h : ∀ (k : Nat) (a b : Int), bs[k]? = some a → xs[k]? = some b → b ≤ a) : ∀ (i : Nat) (a b : Int), bs[i]? = some a → cs[i]? = some b → b ≤ a := by
  intro i a b ha hcb
  by_cases z : b ≤ a
  · exact z
  · exfalso
    have z : a < b := Int.not_le.mp z
    have l1 := (List.getElem?_eq_some_iff.mp hcb).1
    have l2 := (List.getElem?_eq_some_iff.mp ha).1
    have c1 := cnt_ge (xs := xs) (f := fun y => decide (y ≤ a)) (n := i + 1) (fun k y hk hy => decide_eq_true ?_) (by omega)
    have c2 := cnt_le (xs := cs) (f := fun y => decide (y ≤ a)) (n := i) (fun k y hk hy => decide_eq_false (Int.not_le.mpr (Int.lt_of_lt_of_le z (hc.get hcb hy hk))))
    · rw [p.countP_eq] at c2
      omega
    · have l3 : k < bs.length := by omega
      have hk2 : bs[k]? = some bs[k] := List.getElem?_eq_getElem l3
      exact Int.le_trans (h k _ y hk2 hy) (hb.get hk2 ha (Nat.lt_succ_iff.mp hk))
section
variable {P : Program} {w : World} {K : Frg} {mg : Str → Option Value} {base : Heap}
def nats (xs : List Nat) : List V := xs.map fun n : Nat => V.int (n : Int)
def spLBars (K : Frg) : Sp := fun vs H Q _ => ∃ (na : Addr) (xs : List Nat) (at_ g : Nat), vs = [.ref na, .int (at_ : Int), .int (g : Int)] ∧ H na = some (.lst (nats xs)) ∧ at_ + g ≤ xs.length ∧ g ≤ 9 ∧
  ∀ c cs H', Same H H' → H c = none → H' c = some (.lst (cs.map V.int)) → cs.length = g → Up cs → Q (.ref c) H'
theorem get_nat {xs : List Nat} {i : Nat} (h : i < xs.length) : ∃ n : Nat, (nats xs)[i]? = some (.int (n : Int)) := ⟨xs[i], by unfold nats; rw [List.getElem?_map, List.getElem?_eq_getElem h]; rfl⟩
theorem outs_some {α : Type} (g : Nat → α) (n : Nat) : outs (fun i => some (g i)) n = (List.range n).map g := by
  unfold outs
  exact List.filterMap_eq_map ▸ rfl
theorem get_natD {xs : List Nat} {i : Nat} (h : i < xs.length) : (nats xs)[i]? = some (.int ((xs.getD i 0 : Nat) : Int)) := by
  unfold nats
  rw [List.getElem?_map, List.getElem?_eq_getElem h, List.getD_eq_getElem?_getD, List.getElem?_eq_getElem h]
  rfl
theorem get_iD {bs : List Int} {i : Nat} (h : i < bs.length) : (bs.map V.int)[i]? = some (.int (bs.getD i 0)) := by
  rw [List.getElem?_map, List.getElem?_eq_getElem h, List.getD_eq_getElem?_getD, List.getElem?_eq_getElem h]
  rfl
theorem range_get {g : Nat → Int} {n k : Nat} {b : Int} (h : ((List.range n).map g)[k]? = some b) : k < n ∧ b = g k := by
  rw [List.getElem?_map] at h
  obtain ⟨y, hy, rfl⟩ := Option.map_eq_some_iff.mp h
  obtain ⟨lt, e⟩ := List.getElem?_eq_some_iff.mp hy
  rw [List.length_range] at lt
  rw [List.getElem_range] at e
  exact ⟨lt, e ▸ rfl⟩
theorem ok_l_bars (T : TX K mg) : OkF P w K mg base 1 (fA K "_law_bars") ["_law_numbers_here", "_law_at", "_law_grades"] (spLBars K) := by
  refine okD T.D.d_l_bars sc_l_bars (fun vs H Q E h => ?_) (fun _ _ _ _ _ _ us hl => match us, hl with | [_, _, _], _ => rfl) (fun cdv A outer s H vs Q X hr h => ?_)
  · obtain ⟨na, xs, at_, g, rfl, _⟩ := h
    rfl
  · obtain ⟨na, xs, at_, g, rfl, hna, le, g9, q⟩ := h
    have nd := sc_l_bars.nd
    refine ⟨_, pss_one (ps_ret (pe_callB (sortIK K) rfl T.B.b_sorted boot_sorted (pa_cons (pe_lc (own := [("_law_k", 3)]) (g := gName 3) (tt := tYes) rfl nd (pi_range1 rfl T.B.b_range (pa_cons (pv 2) pa_nil)) (blkOk_by (N := N_l_bars) (sc := defScope s_l_bars) (by decide +kernel))
      (fun _ _ _ _ _ => pg_name (i := 3) nd rfl (Or.inl rfl)) (fun _ _ _ _ _ => pts_nil) (fun _ _ _ _ _ => pe_op op_mod (pe_callTy call_int1 rfl T.B.b_int PyProof.Rows.boot_int (pa_cons (pe_ix (ixL K) (pv 0) (pe_op op_add (pv 1) (pv 3)) (fun _ _ => rfl)) pa_nil)) pe_int)) pa_nil))), ?_⟩
    refine ⟨_, rfl, _, rfl, by omega, by omega, fun D hD => ?_⟩
    rw [Int.toNat_natCast]
    refine lcP walk_nat rInt hD (Nat.lt_of_le_of_lt g9 (by decide)) (fun i => some (((xs.getD (at_ + i) 0 : Nat) : Int) % 9)) (fun _ _ => trivial) ?_ ?_
    · rintro i x H1 H2 KT KF hi e _ ⟨rfl, rfl⟩ kt kf
      exact ⟨rfl, yes_it ⟨_, rfl, _, rfl, _, rfl, _, _, rfl, rfl, na, _, ((at_ + i : Nat) : Int), _, rfl, rfl, SqL.of (e _ _ hna), atI_nat (get_natD (by omega)), .inl ⟨_, rfl, _, _, rfl, rfl, (show (0 : Int) < 9 by decide), kt _ _ _ rfl (Same.refl _) rfl⟩⟩⟩
    · intro H1 m
      rw [outs_some] at m
      refine ⟨D, _, rfl, SqL.of m.ints, fun cs p pm up np => ?_⟩
      refine q p cs _ (m.same.trans (sNew np)) (m.same.free np) upd_same ?_ up
      rw [pm.length_eq, List.length_map, List.length_range]
def spMoved (K : Frg) : Sp := fun vs H Q _ => ∃ (na b : Addr) (xs : List Nat) (bs : List Int) (at_ : Nat) (d : Str), vs = [.str d, .ref b, .ref na, .int (at_ : Int)] ∧ H na = some (.lst (nats xs)) ∧ H b = some (.lst (bs.map V.int)) ∧ Up bs ∧ at_ + bs.length ≤ xs.length ∧ bs.length ≤ 9 ∧ DriftOk d ∧
  ∀ c cs H', Same H H' → H' c = some (.lst (cs.map V.int)) → MoveOk d bs cs → Up cs → Q (.ref c) H'
theorem ok_l_moved (T : TX K mg) : OkF P w K mg base 1 (fA K "_law_moved") ["_law_drift", "_law_bars_here", "_law_numbers_here", "_law_at"] (spMoved K) := by
  refine okD T.D.d_l_moved sc_l_moved (fun vs H Q E h => ?_) (fun _ _ _ _ _ _ us hl => match us, hl with | [_, _, _, _], _ => rfl) (fun cdv A outer s H vs Q X hr h => ?_)
  · obtain ⟨na, b, xs, bs, at_, d, rfl, _⟩ := h
    rfl
  · obtain ⟨na, b, xs, bs, at_, d, rfl, hna, hb, up, le, b9, dok, q⟩ := h
    have nd := sc_l_moved.nd
    refine ⟨_, pss_cons (ps_if (pt_cmpR op_eq (pv 0) pe_str (nomark _)) (pss_one (ps_ret (pe_callB (sortIK K) rfl T.B.b_sorted boot_sorted (pa_cons (pe_lc (own := [("_law_k", 4)]) (g := gName 4) (tt := tYes) rfl nd (pi_range1 rfl T.B.b_range (pa_cons (pe_callB (lenK K) rfl T.B.b_len boot_len (pa_cons (pv 1) pa_nil)) pa_nil)) (blkOk_by (N := N_l_moved) (sc := defScope s_l_moved) (by decide +kernel))
        (fun _ _ _ _ _ => pg_name (i := 4) nd rfl (Or.inl rfl)) (fun _ _ _ _ _ => pts_nil) (fun _ _ _ _ _ => pe_op op_add (pe_ix (ixL K) (pv 1) (pv 4) (fun _ _ => rfl)) (pe_op op_mod (pe_callTy call_int1 rfl T.B.b_int PyProof.Rows.boot_int (pa_cons (pe_ix (ixL K) (pv 2) (pe_op op_add (pv 3) (pv 4)) (fun _ _ => rfl)) pa_nil)) pe_int))) pa_nil)))) pss_nil)
      (pss_cons (ps_if (pt_cmpR op_eq (pv 0) pe_str (nomark _)) (pss_one (ps_ret (pe_callB (sortIK K) rfl T.B.b_sorted boot_sorted (pa_cons (pe_lc (own := [("_law_k", 4)]) (g := gName 4) (tt := tYes) rfl nd (pi_range1 rfl T.B.b_range (pa_cons (pe_callB (lenK K) rfl T.B.b_len boot_len (pa_cons (pv 1) pa_nil)) pa_nil)) (blkOk_by (N := N_l_moved) (sc := defScope s_l_moved) (by decide +kernel))
        (fun _ _ _ _ _ => pg_name (i := 4) nd rfl (Or.inl rfl)) (fun _ _ _ _ _ => pts_nil) (fun _ _ _ _ _ => pe_op op_sub (pe_ix (ixL K) (pv 1) (pv 4) (fun _ _ => rfl)) (pe_op op_mod (pe_callTy call_int1 rfl T.B.b_int PyProof.Rows.boot_int (pa_cons (pe_ix (ixL K) (pv 2) (pe_op op_add (pv 3) (pv 4)) (fun _ _ => rfl)) pa_nil)) pe_int))) pa_nil)))) pss_nil)
      (pss_one (ps_ret (pv 1)))), ?_⟩
    have ll : (bs.map V.int).length = bs.length := List.length_map _
    have r12 : ¬ ("rises" : Str) = "falls" := str_ne (by decide +kernel)
    have r13 : ¬ ("rises" : Str) = "stays" := str_ne (by decide +kernel)
    have r23 : ¬ ("falls" : Str) = "stays" := str_ne (by decide +kernel)
    have em : ∀ n : Nat, 0 ≤ (n : Int) % 3 := fun n => Int.emod_nonneg _ (by decide)
    have gD : ∀ {k : Nat} {a : Int}, bs[k]? = some a → bs.getD k 0 = a := fun h => by rw [List.getD_eq_getElem?_getD, h]; rfl
    refine ⟨_, rfl, rfl, _, rfl, ite2 (fun c1 => ?_) (fun c1 => ?_)⟩
    · obtain rfl : d = "rises" := V.str.inj (of_decide_eq_true c1)
      refine ⟨_, rfl, b, _, rfl, .inl (SqL.of hb), _, rfl, by omega, by omega, fun D hD => ?_⟩
      rw [Int.toNat_natCast, ll]
      refine lcP walk_nat rInt hD (Nat.lt_of_le_of_lt b9 (by decide)) (fun i => some (bs.getD i 0 + ((xs.getD (at_ + i) 0 : Nat) : Int) % 3)) (fun _ _ => trivial) ?_ ?_
      · rintro i x H1 H2 KT KF hi e _ ⟨rfl, rfl⟩ kt kf
        exact ⟨rfl, yes_it ⟨_, rfl, _, rfl, b, _, (i : Int), _, rfl, rfl, SqL.of (e _ _ hb), atI_nat (get_iD hi), _, rfl, _, rfl, _, rfl, _, _, rfl, rfl, na, _, ((at_ + i : Nat) : Int), _, rfl, rfl, SqL.of (e _ _ hna), atI_nat (get_natD (by omega)), .inl ⟨_, rfl, _, _, rfl, rfl, (show (0 : Int) < 3 by decide), _, _, rfl, rfl, kt _ _ _ rfl (Same.refl _) rfl⟩⟩⟩
      · intro H1 m
        rw [outs_some] at m
        refine ⟨D, _, rfl, SqL.of m.ints, fun cs p pm upc np => ?_⟩
        have lr : bs.length = ((List.range bs.length).map fun i => bs.getD i 0 + ((xs.getD (at_ + i) 0 : Nat) : Int) % 3).length := by rw [List.length_map, List.length_range]
        refine q p cs _ (m.same.trans (sNew np)) upd_same ⟨lr.trans pm.length_eq.symm, fun _ => sort_up up pm upc lr fun k a y ha hy => ?_, fun z => absurd z r12, fun z => absurd z r13⟩ upc
        obtain ⟨_, rfl⟩ := range_get hy
        rw [gD ha]
        have := em (xs.getD (at_ + k) 0)
        omega
    · refine ⟨_, rfl, rfl, _, rfl, ite2 (fun c2 => ?_) (fun c2 => ?_)⟩
      · obtain rfl : d = "falls" := V.str.inj (of_decide_eq_true c2)
        refine ⟨_, rfl, b, _, rfl, .inl (SqL.of hb), _, rfl, by omega, by omega, fun D hD => ?_⟩
        rw [Int.toNat_natCast, ll]
        refine lcP walk_nat rInt hD (Nat.lt_of_le_of_lt b9 (by decide)) (fun i => some (bs.getD i 0 - ((xs.getD (at_ + i) 0 : Nat) : Int) % 3)) (fun _ _ => trivial) ?_ ?_
        · rintro i x H1 H2 KT KF hi e _ ⟨rfl, rfl⟩ kt kf
          exact ⟨rfl, yes_it ⟨_, rfl, _, rfl, b, _, (i : Int), _, rfl, rfl, SqL.of (e _ _ hb), atI_nat (get_iD hi), _, rfl, _, rfl, _, rfl, _, _, rfl, rfl, na, _, ((at_ + i : Nat) : Int), _, rfl, rfl, SqL.of (e _ _ hna), atI_nat (get_natD (by omega)), .inl ⟨_, rfl, _, _, rfl, rfl, (show (0 : Int) < 3 by decide), _, _, rfl, rfl, kt _ _ _ rfl (Same.refl _) rfl⟩⟩⟩
        · intro H1 m
          rw [outs_some] at m
          refine ⟨D, _, rfl, SqL.of m.ints, fun cs p pm upc np => ?_⟩
          have lr : bs.length = ((List.range bs.length).map fun i => bs.getD i 0 - ((xs.getD (at_ + i) 0 : Nat) : Int) % 3).length := by rw [List.length_map, List.length_range]
          refine q p cs _ (m.same.trans (sNew np)) upd_same ⟨lr.trans pm.length_eq.symm, fun z => absurd z.symm r12, fun _ => sort_down up pm upc lr fun k a y ha hy => ?_, fun z => absurd z r23⟩ upc
          obtain ⟨_, rfl⟩ := range_get hy
          rw [gD ha]
          have := em (xs.getD (at_ + k) 0)
          omega
      · have e3 : d = "stays" := by
          rcases dok with rfl | rfl | rfl
          · exact absurd (decide_eq_true rfl) c1
          · exact absurd (decide_eq_true rfl) c2
          · rfl
        subst e3
        exact ⟨_, rfl, q b bs H (Same.refl _) hb ⟨rfl, fun z => absurd z.symm r13, fun z => absurd z.symm r23, fun _ => rfl⟩ up⟩
end
end Rb
namespace Rb
open PySem PySem.Spec PyProof.Rows L2
/-! ### the law's names -/
abbrev LL : List Nat := letters.cps.toList
theorem LL_len : LL.length = 36 := by decide +kernel
theorem LL_nd : LL.Nodup := by decide +kernel
theorem letters_len : letters.length = 36 := by decide +kernel
def chr (i : Nat) : Nat := LL.getD i 0
theorem chr_get {i : Nat} (h : i < 36) : LL[i]? = some (chr i) := by
  unfold chr
  rw [List.getD_eq_getElem?_getD, List.getElem?_eq_getElem (by rw [LL_len]; exact h)]
  rfl
theorem chr_mem {i : Nat} (h : i < 36) : chr i ∈ LL := List.mem_of_getElem? (chr_get h)
theorem chr_inj {i j : Nat} (hi : i < 36) (hj : j < 36) (e : chr i = chr j) : i = j := by
  have h := (chr_get hi).trans ((congrArg some e).trans (chr_get hj).symm)
  exact (List.getElem?_inj (by rw [LL_len]; exact hi) LL_nd).mp h
def ownC (n : Nat) (bl : List Nat) (k : Nat) : List Nat := if (n / 144 + k) % 3 = 0 then bl.drop 1 else bl
def nmC (n : Nat) (bl : List Nat) (pl k : Nat) : List Nat := (ownC n bl k).take (min pl (ownC n bl k).length) ++ chr ((n / 11 + 5 * k) % 36) :: (ownC n bl k).drop (min pl (ownC n bl k).length)
def nm (n : Nat) (bl : List Nat) (pl k : Nat) : Str := ⟨(nmC n bl pl k).toArray⟩
theorem nmC_len {n : Nat} {bl : List Nat} {pl k : Nat} : (nmC n bl pl k).length = (ownC n bl k).length + 1 := by
  unfold nmC
  rw [List.length_append, List.length_cons, List.length_take, List.length_drop]
  omega
theorem ownC_sub {n : Nat} {bl : List Nat} {k : Nat} : ∀ c ∈ ownC n bl k, c ∈ bl := fun c h => by
  unfold ownC at h
  split at h
  · exact List.mem_of_mem_drop h
  · exact h
theorem ownC_len {n : Nat} {bl : List Nat} {k : Nat} : (ownC n bl k).length ≤ bl.length := by
  unfold ownC
  split
  · rw [List.length_drop]; omega
  · exact Nat.le_refl _
theorem nm_ok {n : Nat} {bl : List Nat} {pl k : Nat} (sig : ∀ c ∈ bl, c ∈ LL) (few : bl.length ≤ 11) : NameOk (nm n bl pl k) := by
  have e : (nm n bl pl k).length = (ownC n bl k).length + 1 := by
    show (nmC n bl pl k).toArray.size = _
    rw [List.size_toArray, nmC_len]
  have l := ownC_len (n := n) (bl := bl) (k := k)
  refine ⟨by omega, by omega, fun c hc => ?_⟩
  have hc : c ∈ nmC n bl pl k := by simpa [nm] using hc
  unfold nmC at hc
  rcases List.mem_append.mp hc with h | h
  · exact sig c (ownC_sub c (List.mem_of_mem_take h))
  · rcases List.mem_cons.mp h with rfl | h
    · exact chr_mem (Nat.mod_lt _ (by decide))
    · exact sig c (ownC_sub c (List.mem_of_mem_drop h))
theorem nm_inj {n : Nat} {bl : List Nat} {pl k k' : Nat} (hk : k < 5) (hk' : k' < 5) (e : nm n bl pl k = nm n bl pl k') : k = k' := by
  have e : nmC n bl pl k = nmC n bl pl k' := by
    have := congrArg (fun z : Str => z.cps.toList) e
    simpa [nm] using this
  have el := congrArg List.length e
  rw [nmC_len, nmC_len] at el
  have eo : ownC n bl k = ownC n bl k' := by
    unfold ownC at el ⊢
    by_cases h1 : (n / 144 + k) % 3 = 0 <;> by_cases h2 : (n / 144 + k') % 3 = 0
    · rw [if_pos h1, if_pos h2]
    · rw [if_pos h1, if_neg h2] at el ⊢
      rw [List.length_drop] at el
      have : bl = [] := List.eq_nil_of_length_eq_zero (by omega)
      rw [this]; rfl
    · rw [if_neg h1, if_pos h2] at el ⊢
      rw [List.length_drop] at el
      have : bl = [] := List.eq_nil_of_length_eq_zero (by omega)
      rw [this]; rfl
    · rw [if_neg h1, if_neg h2]
  unfold nmC at e
  rw [eo] at e
  have e2 := (List.cons.inj (List.append_cancel_left e)).1
  have e3 := chr_inj (Nat.mod_lt _ (by decide)) (Nat.mod_lt _ (by decide)) e2
  omega
theorem join_cps : ∀ ys : List Str, (Txt.join "" ys).cps.toList = ys.flatMap fun y => y.cps.toList := by
  have e0 : ("" : Str) = ⟨#[]⟩ := by decide +kernel
  have go : ∀ ys : List Str, (Str.join ⟨#[]⟩ ys).cps.toList = ys.flatMap fun y => y.cps.toList := fun ys => by
    induction ys with
    | nil => rfl
    | cons y r ih =>
      cases r with
      | nil => simp [Str.join]
      | cons z r =>
        have : Str.join ⟨#[]⟩ (y :: z :: r) = y ++ ⟨#[]⟩ ++ Str.join ⟨#[]⟩ (z :: r) := rfl
        rw [this, Str.cps_append, Str.cps_append, List.flatMap_cons, ← ih]
        simp
  intro ys
  rw [e0, ← go]
  show (Builtin.Str.glued _ ys).cps.toList = _
  rw [StrLaws.glued_eq_join]
theorem cutS_from1 {z : Str} : (cutS z (some 1) none).cps.toList = z.cps.toList.drop 1 := by
  unfold cutS
  rw [show (1 : Int) = ((1 : Nat) : Int) from rfl, HT.sIx_nat, HT.sIx_none]
  have hl : z.cps.toList.length = z.length := Array.length_toList
  rw [List.toList_toArray, List.take_of_length_le (by rw [List.length_drop, hl]; omega)]
  by_cases h : 1 ≤ z.length
  · rw [Nat.min_eq_left h]
  · have : z.cps.toList = [] := List.eq_nil_of_length_eq_zero (by omega)
    rw [this]
    simp
theorem cutS_to {z : Str} {n : Nat} : (cutS z none (some (n : Int))).cps.toList = z.cps.toList.take n := by
  unfold cutS
  rw [HT.sIx_nat, HT.sIx_none, List.toList_toArray, List.drop_zero, Nat.sub_zero]
  have hl : z.cps.toList.length = z.length := Array.length_toList
  rw [← hl, ← List.take_eq_take_min]
theorem cutS_from {z : Str} {n : Nat} (h : n ≤ z.length) : (cutS z (some (n : Int)) none).cps.toList = z.cps.toList.drop n := by
  unfold cutS
  rw [HT.sIx_nat, HT.sIx_none, List.toList_toArray, Nat.min_eq_left h]
  have hl : z.cps.toList.length = z.length := Array.length_toList
  rw [List.take_of_length_le (by rw [List.length_drop, hl]; omega)]
theorem str_eq {a b : Str} (h : a.cps.toList = b.cps.toList) : a = b := by
  cases a; cases b
  exact congrArg _ (Array.toList_inj.mp h)
section
variable {P : Program} {w : World} {K : Frg} {mg : Str → Option Value} {base : Heap}
def spNames : Sp := fun vs H Q _ => ∃ (n m : Nat), vs = [.int (n : Int), .int (m : Int)] ∧ n < 1009 ∧ m ≤ 5 ∧ ∀ v (zs : List Str) H', Same H H' → zs.length = m → zs.Nodup → (∀ z ∈ zs, NameOk z) → newL rStr H H' v zs → Q v H'
theorem ok_l_names (T : TX K mg) : OkF P w K mg base 1 (fA K "_law_names") ["_law_number", "_law_many"] spNames := by
  refine okD T.D.d_l_names sc_l_names (fun vs H Q E h => ?_) (fun _ _ _ _ _ _ us hl => match us, hl with | [_, _], _ => rfl) (fun cdv A outer s H vs Q X hr h => ?_)
  · obtain ⟨n, m, rfl, _⟩ := h
    rfl
  · obtain ⟨n, m, rfl, hn, hm, q⟩ := h
    have nd := sc_l_names.nd
    refine ⟨_, pss_cons (ps_set (i := 2) nd rfl (Or.inr rfl) pe_str)
      (pss_cons (ps_set (i := 3) nd rfl (Or.inl rfl) (pe_join pe_str (pe_lc (own := [("_law_k", 4)]) (g := gName 4) (tt := tYes) rfl nd (pi_range1 rfl T.B.b_range (pa_cons (pe_op op_mod (pe_callTy call_int1 rfl T.B.b_int PyProof.Rows.boot_int (pa_cons (pv 0) pa_nil)) pe_int) pa_nil)) (blkOk_by (N := N_l_names) (sc := defScope s_l_names) (by decide +kernel))
        (fun _ _ _ _ _ => pg_name (i := 4) nd rfl (Or.inl rfl)) (fun _ _ _ _ _ => pts_nil) (fun _ _ _ _ _ => pe_ix ix_str (pv 2) (pe_op op_mod (pe_callTy call_int1 rfl T.B.b_int PyProof.Rows.boot_int (pa_cons (pe_op op_add (pv 0) (pe_op op_mul (pe_op op_mul pe_int (pv 4)) (pv 4))) pa_nil)) pe_int) (fun _ _ => rfl)))))
      (pss_cons (ps_set (i := 5) nd rfl (Or.inl rfl) (pe_op op_mod (pe_callTy call_int1 rfl T.B.b_int PyProof.Rows.boot_int (pa_cons (pe_op op_fdiv (pv 0) pe_int) pa_nil)) (pe_op op_add (pe_callB call_len_str rfl T.B.b_len boot_len (pa_cons (pv 3) pa_nil)) pe_int)))
      (pss_cons (ps_set (i := 6) nd rfl (Or.inl rfl) (pe_lst pa_nil))
      (pss_cons (ps_for PassesOwn.never rfl (pi_range1 rfl T.B.b_range (pa_cons (pv 1) pa_nil)) (pg_name (i := 4) nd rfl (Or.inl rfl))
        (pss_cons (ps_set (i := 7) nd rfl (Or.inl rfl) (pv 3))
        (pss_cons (ps_if (pt_cmpR op_eq (pe_op op_mod (pe_callTy call_int1 rfl T.B.b_int PyProof.Rows.boot_int (pa_cons (pe_op op_add (pe_op op_fdiv (pv 0) pe_int) (pv 4)) pa_nil)) pe_int) pe_int (nomark _)) (pss_one (ps_set (i := 7) nd rfl (Or.inl rfl) (pe_slice sl_str (pv 3) (po_some pe_int) po_none))) pss_nil)
        (pss_cons (ps_set (i := 8) nd rfl (Or.inl rfl) (pe_callB (call_min2 rfl) rfl T.B.b_min boot_min (pa_cons (pv 5) (pa_cons (pe_callB call_len_str rfl T.B.b_len boot_len (pa_cons (pv 7) pa_nil)) pa_nil))))
        (pss_one (ps_expr (pe_bm PySem.F.plainAttrs_list PySem.F.slot_list_append PySem.F.type_list_append mt_append (pv 6) (pa_cons (pe_op op_add_str (pe_op op_add_str (pe_slice sl_str (pv 7) po_none (po_some (pv 8)))
          (pe_ix ix_str (pv 2) (pe_op op_mod (pe_callTy call_int1 rfl T.B.b_int PyProof.Rows.boot_int (pa_cons (pe_op op_add (pe_op op_fdiv (pv 0) pe_int) (pe_op op_mul pe_int (pv 4))) pa_nil)) pe_int) (fun _ _ => rfl))) (pe_slice sl_str (pv 7) (po_some (pv 8)) po_none)) pa_nil))))))))
      (pss_one (ps_ret (pv 6))))))), ?_⟩
    have k36 : (0 : Int) < 36 := by decide
    refine ⟨⟨_, rfl⟩, _, rfl, .inl ⟨_, rfl, _, _, rfl, rfl, (show (0 : Int) < 12 by decide), ?_⟩⟩
    refine ⟨_, rfl, by omega, by omega, fun D0 hD0 => ?_⟩
    have e0 : ((n : Int) % 12).toNat = n % 12 := by omega
    rw [e0]
    have n12 : n % 12 ≤ 11 := by omega
    refine lcP walk_nat rStr hD0 (Nat.lt_of_le_of_lt n12 (by decide)) (fun i => some (⟨#[chr ((n + 7 * i * i) % 36)]⟩ : Str)) (fun _ _ => trivial) ?_ ?_
    · rintro i x H1 H2 KT KF hi e _ ⟨rfl, rfl⟩ kt kf
      have ei : ((n : Int) + 7 * (i : Int) * (i : Int)) % 36 = (((n + 7 * i * i) % 36 : Nat) : Int) := by
        rw [Int.natCast_emod, Int.natCast_add, Int.natCast_mul, Int.natCast_mul]
        rfl
      refine ⟨rfl, yes_it ⟨_, rfl, _, rfl, _, rfl, _, _, rfl, rfl, .inl ⟨by decide, by decide⟩, _, rfl, _, _, rfl, rfl, .inr ⟨by omega, by omega⟩, _, _, rfl, rfl, .inl ⟨_, rfl, _, _, rfl, rfl, k36, letters, _, chr ((n + 7 * i * i) % 36), rfl, rfl, (by rw [letters_len]; decide), ?_, kt _ _ _ rfl (Same.refl _) rfl⟩⟩⟩
      show atI LL (((n : Int) + 7 * (i : Int) * (i : Int)) % 36) = _
      rw [ei]
      exact atI_nat (chr_get (Nat.mod_lt _ (by decide)))
    intro H1 m1
    rw [outs_some] at m1
    generalize hys : (List.range (n % 12)).map (fun i => (⟨#[chr ((n + 7 * i * i) % 36)]⟩ : Str)) = ys at m1
    have ly : ys.length = n % 12 := by rw [← hys, List.length_map, List.length_range]
    have oney : ∀ y ∈ ys, ∃ i, i < 36 ∧ y = ⟨#[chr i]⟩ := fun y hy => by
      rw [← hys] at hy
      obtain ⟨i, _, rfl⟩ := List.mem_map.mp hy
      exact ⟨_, Nat.mod_lt _ (by decide), rfl⟩
    have sumy : (ys.map (·.length)).sum = ys.length := by
      clear hys ly m1
      induction ys with
      | nil => rfl
      | cons y r ih =>
        obtain ⟨i, _, rfl⟩ := oney _ (.head _)
        rw [List.map_cons, List.sum_cons, ih fun y hy => oney y (.tail _ hy), List.length_cons]
        show 1 + r.length = r.length + 1
        omega
    have le0 : ("" : Str).length = 0 := by decide +kernel
    have flat : (Txt.join "" ys).cps.toList = ys.flatMap fun y => y.cps.toList := join_cps ys
    have lenb : (Txt.join "" ys).cps.toList.length = ys.length := by
      rw [flat]
      clear hys ly m1 sumy flat
      induction ys with
      | nil => rfl
      | cons y r ih =>
        obtain ⟨i, _, rfl⟩ := oney _ (.head _)
        rw [List.flatMap_cons, List.length_append, ih fun y hy => oney y (.tail _ hy)]
        show 1 + r.length = r.length + 1
        omega
    have sigb : ∀ c ∈ (Txt.join "" ys).cps.toList, c ∈ LL := fun c hc => by
      rw [flat] at hc
      obtain ⟨y, hy, hc⟩ := List.mem_flatMap.mp hc
      obtain ⟨i, hi, rfl⟩ := oney y hy
      rw [List.mem_singleton.mp (show c ∈ [chr i] from hc)]
      exact chr_mem hi
    refine ⟨"", D0, ys, rfl, rfl, .inl (SqL.of m1.strs), (by rw [sumy, le0, ly]; omega), ?_⟩
    generalize Txt.join "" ys = bs at lenb sigb
    have lb : bs.length = n % 12 := by
      rw [← ly, ← lenb]
      exact (Array.length_toList).symm
    have lbs : bs.length ≤ sizeLine := by rw [lb]; exact Nat.le_trans n12 (by decide)
    refine ⟨_, rfl, _, _, rfl, rfl, ⟨(by decide : (0 : Int) < 12), (by decide : (12 : Int) < 1073741824)⟩, .inl ⟨_, rfl, _, rfl, bs, rfl, lbs, _, _, rfl, rfl, _, _, rfl, rfl, (by omega : (0 : Int) < (bs.length : Int) + 1), ?_⟩⟩
    have ep : ((n : Int) / 12) % ((bs.length : Int) + 1) = ((n / 12 % (bs.length + 1) : Nat) : Int) := by
      rw [Int.natCast_emod, Int.natCast_ediv, Int.natCast_add]
      rfl
    show gName 5 (V.int (((n : Int) / 12) % ((bs.length : Int) + 1))) _ _ _
    rw [ep]
    generalize n / 12 % (bs.length + 1) = pl
    have s1 := m1.same
    refine ⟨by show 0 ≤ sizeLine; decide, fun D hD => ?_⟩
    refine ⟨_, rfl, _, rfl, by omega, by omega, ?_⟩
    rw [Int.toNat_natCast]
    refine for_it (walk_nat (n := m)) (fun i σ H' => (∃ u4 u7 u8, σ = [some (V.int (n : Int)), some (V.int (m : Int)), some (V.str letters), some (V.str bs), u4, some (V.int (pl : Int)), some (V.ref D), u7, u8]) ∧ MadeL rStr H1 D ((List.range i).map (nm n bs.cps.toList pl)) H')
      ⟨⟨_, _, _, rfl⟩, ?_, [], upd_same, .nil⟩ (fun _ _ _ _ _ => trivial) ?_ ?_
    · rw [del_upd]
      exact sDelR (Same.refl _) hD
    · rintro k x σ H3 H4 hk ⟨⟨u4, u7, u8, rfl⟩, mm⟩ ⟨rfl, rfl⟩
      obtain ⟨m1', ws, hD4, rs⟩ := id mm
      have e144 : ((n : Int) / 144 + (k : Int)) % 3 = (((n / 144 + k) % 3 : Nat) : Int) := by omega
      refine ⟨_, rfl, _, rfl, _, _, rfl, rfl, ⟨(by decide : (0 : Int) < 144), (by decide : (144 : Int) < 1073741824)⟩, _, rfl, _, _, rfl, rfl, .inl ⟨_, rfl, _, _, rfl, rfl, (by decide : (0 : Int) < 3), rfl, _, rfl, ite2 (fun c => ⟨_, rfl, _, rfl, bs, rfl, lbs, ?_⟩) (fun c => ?_)⟩⟩
      · have ho : (cutS bs (some 1) none).cps.toList = ownC n bs.cps.toList k := by
          unfold ownC
          rw [if_pos (by have c4 := V.int.inj (of_decide_eq_true (show decide (V.int (((n : Int) / 144 + (k : Int)) % 3) = V.int 0) = true from c)); omega)]
          exact cutS_from1
        have lo : (cutS bs (some 1) none).length = (ownC n bs.cps.toList k).length := by
          rw [← ho]
          exact (Array.length_toList).symm
        have lo2 : (ownC n bs.cps.toList k).length ≤ bs.cps.toList.length := ownC_len
        have lob : bs.cps.toList.length = bs.length := Array.length_toList
        have hz : (cutS bs (some 1) none).length ≤ sizeLine := by rw [lo]; exact Nat.le_trans lo2 (by rw [lob]; exact lbs)
        refine ⟨_, rfl, _, rfl, _, rfl, hz, _, _, rfl, ?_⟩
        have es : (if (((cutS bs (some 1) none).length : Nat) : Int) < (pl : Int) then (((cutS bs (some 1) none).length : Nat) : Int) else (pl : Int)) = ((min pl (ownC n bs.cps.toList k).length : Nat) : Int) := by
          rw [lo]
          split <;> omega
        show gName 8 (V.int (if (((cutS bs (some 1) none).length : Nat) : Int) < (pl : Int) then (((cutS bs (some 1) none).length : Nat) : Int) else (pl : Int))) _ _ _
        rw [es]
        have hsp : min pl (ownC n bs.cps.toList k).length ≤ (cutS bs (some 1) none).length := by rw [lo]; exact Nat.min_le_right _ _
        have e11 : ((n : Int) / 11 + 5 * (k : Int)) % 36 = (((n / 11 + 5 * k) % 36 : Nat) : Int) := by omega
        have q1 : (cutS (cutS bs (some 1) none) none (some ((min pl (ownC n bs.cps.toList k).length : Nat) : Int))).cps.toList = (ownC n bs.cps.toList k).take (min pl (ownC n bs.cps.toList k).length) := cutS_to.trans (congrArg (List.take _) ho)
        have q2 : (cutS (cutS bs (some 1) none) (some ((min pl (ownC n bs.cps.toList k).length : Nat) : Int)) none).cps.toList = (ownC n bs.cps.toList k).drop (min pl (ownC n bs.cps.toList k).length) := (cutS_from hsp).trans (congrArg (List.drop _) ho)
        have q3 : (cutS (cutS bs (some 1) none) none (some ((min pl (ownC n bs.cps.toList k).length : Nat) : Int))).length ≤ 11 := by
          have z1 := congrArg List.length q1
          rw [Array.length_toList, List.length_take] at z1
          show Array.size _ ≤ 11
          omega
        have q4 : (cutS (cutS bs (some 1) none) (some ((min pl (ownC n bs.cps.toList k).length : Nat) : Int)) none).length ≤ 11 := by
          have z1 := congrArg List.length q2
          rw [Array.length_toList, List.length_drop] at z1
          show Array.size _ ≤ 11
          omega
        have res : cutS (cutS bs (some 1) none) none (some ((min pl (ownC n bs.cps.toList k).length : Nat) : Int)) ++ (⟨#[chr ((n / 11 + 5 * k) % 36)]⟩ : Str) ++ cutS (cutS bs (some 1) none) (some ((min pl (ownC n bs.cps.toList k).length : Nat) : Int)) none = nm n bs.cps.toList pl k := by
          refine str_eq ?_
          rw [Str.cps_append, Str.cps_append, Array.toList_append, Array.toList_append, q1, q2]
          unfold nm nmC
          simp
        refine ⟨_, rfl, .inl ⟨rfl, _, SqL.of hD4⟩, _, rfl, _, rfl, _, rfl, _, rfl, hz, _, rfl, _, rfl, _, _, rfl, rfl, ⟨(by decide : (0 : Int) < 11), (by decide : (11 : Int) < 1073741824)⟩, _, rfl, _, _, rfl, rfl, .inl ⟨by decide, by decide⟩, _, _, rfl, rfl, .inl ⟨_, rfl, _, _, rfl, rfl, k36, letters, _, chr ((n / 11 + 5 * k) % 36), rfl, rfl, (by rw [letters_len]; decide), ?_, _, _, rfl, rfl, ?_, _, rfl, _, rfl, _, rfl, _, rfl, hz, _, _, rfl, rfl, ?_, D, ws, _, rfl, rfl, hD4, ?_, ?_⟩⟩
        · show atI LL (((n : Int) / 11 + 5 * (k : Int)) % 36) = _
          rw [e11]
          exact atI_nat (chr_get (Nat.mod_lt _ (by decide)))
        · exact Nat.le_trans (Nat.add_le_add_right q3 _) (by show 11 + 1 ≤ sizeLine; decide)
        · rw [Str.length_append]
          exact Nat.le_trans (Nat.add_le_add (Nat.add_le_add_right q3 _) q4) (by show 11 + 1 + 11 ≤ sizeLine; decide)
        · rw [pLen rs, List.length_map, List.length_range]
          exact Nat.lt_of_lt_of_le hk (Nat.le_trans hm (by decide))
        · rw [res]
          refine ⟨⟨_, _, _, rfl⟩, ?_, _, upd_same, ?_⟩
          · rw [del_upd]
            exact m1'
          · rw [del_upd, List.range_succ, List.map_append]
            exact pSnoc rs rfl
      · have ho : bs.cps.toList = ownC n bs.cps.toList k := by
          unfold ownC
          rw [if_neg fun z => c (decide_eq_true (show V.int (((n : Int) / 144 + (k : Int)) % 3) = V.int 0 by rw [e144, z]; rfl))]
        have lo : bs.length = (ownC n bs.cps.toList k).length := by
          rw [← ho]
          exact (Array.length_toList).symm
        have lo2 : (ownC n bs.cps.toList k).length ≤ bs.cps.toList.length := ownC_len
        have lob : bs.cps.toList.length = bs.length := Array.length_toList
        have hz : bs.length ≤ sizeLine := by rw [lo]; exact Nat.le_trans lo2 (by rw [lob]; exact lbs)
        refine ⟨_, rfl, _, rfl, _, rfl, hz, _, _, rfl, ?_⟩
        have es : (if ((bs.length : Nat) : Int) < (pl : Int) then ((bs.length : Nat) : Int) else (pl : Int)) = ((min pl (ownC n bs.cps.toList k).length : Nat) : Int) := by
          rw [lo]
          split <;> omega
        show gName 8 (V.int (if ((bs.length : Nat) : Int) < (pl : Int) then ((bs.length : Nat) : Int) else (pl : Int))) _ _ _
        rw [es]
        have hsp : min pl (ownC n bs.cps.toList k).length ≤ bs.length := by rw [lo]; exact Nat.min_le_right _ _
        have e11 : ((n : Int) / 11 + 5 * (k : Int)) % 36 = (((n / 11 + 5 * k) % 36 : Nat) : Int) := by omega
        have q1 : (cutS bs none (some ((min pl (ownC n bs.cps.toList k).length : Nat) : Int))).cps.toList = (ownC n bs.cps.toList k).take (min pl (ownC n bs.cps.toList k).length) := cutS_to.trans (congrArg (List.take _) ho)
        have q2 : (cutS bs (some ((min pl (ownC n bs.cps.toList k).length : Nat) : Int)) none).cps.toList = (ownC n bs.cps.toList k).drop (min pl (ownC n bs.cps.toList k).length) := (cutS_from hsp).trans (congrArg (List.drop _) ho)
        have q3 : (cutS bs none (some ((min pl (ownC n bs.cps.toList k).length : Nat) : Int))).length ≤ 11 := by
          have z1 := congrArg List.length q1
          rw [Array.length_toList, List.length_take] at z1
          show Array.size _ ≤ 11
          omega
        have q4 : (cutS bs (some ((min pl (ownC n bs.cps.toList k).length : Nat) : Int)) none).length ≤ 11 := by
          have z1 := congrArg List.length q2
          rw [Array.length_toList, List.length_drop] at z1
          show Array.size _ ≤ 11
          omega
        have res : cutS bs none (some ((min pl (ownC n bs.cps.toList k).length : Nat) : Int)) ++ (⟨#[chr ((n / 11 + 5 * k) % 36)]⟩ : Str) ++ cutS bs (some ((min pl (ownC n bs.cps.toList k).length : Nat) : Int)) none = nm n bs.cps.toList pl k := by
          refine str_eq ?_
          rw [Str.cps_append, Str.cps_append, Array.toList_append, Array.toList_append, q1, q2]
          unfold nm nmC
          simp
        refine ⟨_, rfl, .inl ⟨rfl, _, SqL.of hD4⟩, _, rfl, _, rfl, _, rfl, _, rfl, hz, _, rfl, _, rfl, _, _, rfl, rfl, ⟨(by decide : (0 : Int) < 11), (by decide : (11 : Int) < 1073741824)⟩, _, rfl, _, _, rfl, rfl, .inl ⟨by decide, by decide⟩, _, _, rfl, rfl, .inl ⟨_, rfl, _, _, rfl, rfl, k36, letters, _, chr ((n / 11 + 5 * k) % 36), rfl, rfl, (by rw [letters_len]; decide), ?_, _, _, rfl, rfl, ?_, _, rfl, _, rfl, _, rfl, _, rfl, hz, _, _, rfl, rfl, ?_, D, ws, _, rfl, rfl, hD4, ?_, ?_⟩⟩
        · show atI LL (((n : Int) / 11 + 5 * (k : Int)) % 36) = _
          rw [e11]
          exact atI_nat (chr_get (Nat.mod_lt _ (by decide)))
        · exact Nat.le_trans (Nat.add_le_add_right q3 _) (by show 11 + 1 ≤ sizeLine; decide)
        · rw [Str.length_append]
          exact Nat.le_trans (Nat.add_le_add (Nat.add_le_add_right q3 _) q4) (by show 11 + 1 + 11 ≤ sizeLine; decide)
        · rw [pLen rs, List.length_map, List.length_range]
          exact Nat.lt_of_lt_of_le hk (Nat.le_trans hm (by decide))
        · rw [res]
          refine ⟨⟨_, _, _, rfl⟩, ?_, _, upd_same, ?_⟩
          · rw [del_upd]
            exact m1'
          · rw [del_upd, List.range_succ, List.map_append]
            exact pSnoc rs rfl
    · rintro σ H3 ⟨⟨u4, u7, u8, rfl⟩, mm⟩
      refine ⟨_, rfl, q _ _ _ (s1.trans mm.same) (by rw [List.length_map, List.length_range]) ?_ (fun z hz => ?_) (mm.new s1 hD)⟩
      · refine List.pairwise_map.mpr (List.Pairwise.imp_of_mem (fun {a b} ha hb hab e => hab ?_) List.nodup_range)
        exact nm_inj (Nat.lt_of_lt_of_le (List.mem_range.mp ha) hm) (Nat.lt_of_lt_of_le (List.mem_range.mp hb) hm) e
      · obtain ⟨k, _, rfl⟩ := List.mem_map.mp hz
        exact nm_ok sigb (by rw [lenb, ly]; exact n12)
end
end Rb
namespace Rb
open PySem PySem.Spec PyProof.Rows L2
/-! ### sorted names -/
def sortS (ks : List Str) : List Str := ks.mergeSort fun a b => decide (a.cps.toList ≤ b.cps.toList)
theorem sortS_perm (ks : List Str) : (sortS ks).Perm ks := List.mergeSort_perm _ _
theorem sortS_ok (ks : List Str) : sortedS (sortS ks) = true := by
  refine sortedS_of_pairwise _ ?_
  have h := List.pairwise_mergeSort (le := fun a b : Str => decide (a.cps.toList ≤ b.cps.toList)) (fun a b c h1 h2 => decide_eq_true (List.le_trans (of_decide_eq_true h1) (of_decide_eq_true h2)))
    (fun a b => by
      rcases List.le_total a.cps.toList b.cps.toList with h | h
      · rw [decide_eq_true h]; rfl
      · rw [decide_eq_true h, Bool.or_true]) ks
  exact List.Pairwise.imp (fun {a b} h => strNot.mpr (of_decide_eq_true h)) h
theorem NamesOk.perm {n : Nat} {xs ys : List Str} (p : ys.Perm xs) (h : NamesOk n xs) : NamesOk n ys :=
  ⟨by rw [p.length_eq]; exact h.pos, by rw [p.length_eq]; exact h.le, fun z hz => h.ok z (p.mem_iff.mp hz), p.nodup_iff.mpr h.nd⟩
/-! ### the law's own dict -/
def okv (g : Nat) (oq od ob oj oe ot : Addr) : List (Key × V) := [(.inr "grades", .int (g : Int)), (.inr "qualities", .ref oq), (.inr "drifts", .ref od), (.inr "bars", .ref ob), (.inr "judges", .ref oj), (.inr "events", .ref oe), (.inr "told", .ref ot)]
theorem kmiss {a b : Str} {v : V} {r : List (Key × V)} (h : decide (b = a) = false) : valV (((.inr b : Key), v) :: r) (.inr a) = valV r (.inr a) := valV_neg (inr_ne (of_decide_eq_false h))
theorem khit {a : Str} {v : V} {r : List (Key × V)} : valV (((.inr a : Key), v) :: r) (.inr a) = some v := valV_pos rfl
section
variable {g : Nat} {oq od ob oj oe ot : Addr}
theorem ok_grd : valV (okv g oq od ob oj oe ot) (.inr "grades") = some (.int (g : Int)) := khit
theorem ok_qua : valV (okv g oq od ob oj oe ot) (.inr "qualities") = some (.ref oq) := (kmiss (by decide +kernel)).trans khit
theorem ok_dri : valV (okv g oq od ob oj oe ot) (.inr "drifts") = some (.ref od) := (kmiss (by decide +kernel)).trans ((kmiss (by decide +kernel)).trans khit)
theorem ok_bar : valV (okv g oq od ob oj oe ot) (.inr "bars") = some (.ref ob) := (kmiss (by decide +kernel)).trans ((kmiss (by decide +kernel)).trans ((kmiss (by decide +kernel)).trans khit))
theorem ok_jud : valV (okv g oq od ob oj oe ot) (.inr "judges") = some (.ref oj) := (kmiss (by decide +kernel)).trans ((kmiss (by decide +kernel)).trans ((kmiss (by decide +kernel)).trans ((kmiss (by decide +kernel)).trans khit)))
theorem ok_eve : valV (okv g oq od ob oj oe ot) (.inr "events") = some (.ref oe) := (kmiss (by decide +kernel)).trans ((kmiss (by decide +kernel)).trans ((kmiss (by decide +kernel)).trans ((kmiss (by decide +kernel)).trans ((kmiss (by decide +kernel)).trans khit))))
theorem ok_tol : valV (okv g oq od ob oj oe ot) (.inr "told") = some (.ref ot) := (kmiss (by decide +kernel)).trans ((kmiss (by decide +kernel)).trans ((kmiss (by decide +kernel)).trans ((kmiss (by decide +kernel)).trans ((kmiss (by decide +kernel)).trans ((kmiss (by decide +kernel)).trans khit)))))
end
theorem merge_nd : ∀ (kvs acc : List (Key × V)), (kvs.map (·.1)).Nodup → (∀ k ∈ kvs.map (·.1), k ∉ acc.map (·.1)) → mergeK acc kvs = acc ++ kvs
  | [], acc, _, _ => by simp [mergeK]
  | p :: r, acc, nd, ds => by
    have h1 : putK acc p.1 p.2 = acc ++ [(p.1, p.2)] := putK_new _ (valV_no (ds p.1 (List.mem_cons_self ..)))
    have nd2 := List.nodup_cons.mp (show (p.1 :: r.map (·.1)).Nodup from nd)
    show mergeK (putK acc p.1 p.2) r = _
    rw [h1, merge_nd r _ nd2.2 fun k hk m => ?_]
    · simp
    · rw [List.map_append] at m
      rcases List.mem_append.mp m with m | m
      · exact ds k (List.mem_cons_of_mem _ hk) m
      · rw [List.mem_singleton.mp m] at hk
        exact nd2.1 hk
theorem okv_nd : ([.inr "grades", .inr "qualities", .inr "drifts", .inr "bars", .inr "judges", .inr "events", .inr "told"] : List Key).Nodup := by decide +kernel
/-- the law's own world; F: what may change -/
structure OSt (F : List Addr) (H : Hp) (o oq od ob oj oe ot : Addr) (L : LogD) (f : Str → Int) (bars : Str → List Int) : Prop where
  inB : ob ∈ F
  inE : oe ∈ F
  inT : ot ∈ F
  bt : ob ≠ ot
  own : cut F H o = some (.dK (okv L.grades oq od ob oj oe ot))
  qual : ∃ (kq : List (Key × V)) (ks : List Str), cut F H oq = some (.dK kq) ∧ kq.map (·.1) = keysOf ks ∧ L.items.Perm ks ∧ sortedS L.items = true ∧ ∀ x ∈ L.items, valV kq (.inr x) = some (.int (f x))
  drifts : ∃ kd : List (Key × V), cut F H od = some (.dK kd) ∧ ∀ j d, (j, d) ∈ L.judges → valV kd (.inr j) = some (.str d)
  judges : cut F H oj = some (.lst ((L.judges.map (·.1)).map V.str))
  barsOk : ∃ kb : List (Key × V), H ob = some (.dK kb) ∧ kb.length ≤ 8 ∧ ∀ j ∈ L.judges.map (·.1), ∃ b, valV kb (.inr j) = some (.ref b) ∧ cut F H b = some (.lst ((bars j).map V.int))
  events : ∃ ve, H oe = some (.lst ve) ∧ Paired (rEv (cut F H)) ve L.events
  told : ∃ kt : List (Key × V), H ot = some (.dK kt) ∧ kt.length ≤ L.events.length
/-- while the own world is made -/
structure BSt (H0 : Hp) (o oq od ob oj oe ot : Addr) (g : Nat) (kq kd kb : List (Key × V)) (js : List Str) (H' : Hp) : Prop where
  same : Same H0 H'
  o : H' o = some (.dK (okv g oq od ob oj oe ot))
  q : H' oq = some (.dK kq)
  d : H' od = some (.dK kd)
  b : H' ob = some (.dK kb)
  j : H' oj = some (.lst (js.map V.str))
  e : H' oe = some (.lst [])
  t : H' ot = some (.dK [])
section
variable {H0 H' H2 : Hp} {o oq od ob oj oe ot : Addr} {g : Nat} {kq kd kb k2 : List (Key × V)} {js : List Str}
theorem BSt.mono (h : BSt H0 o oq od ob oj oe ot g kq kd kb js H') (e : Same H' H2) : BSt H0 o oq od ob oj oe ot g kq kd kb js H2 :=
  ⟨h.same.trans e, e _ _ h.o, e _ _ h.q, e _ _ h.d, e _ _ h.b, e _ _ h.j, e _ _ h.e, e _ _ h.t⟩
theorem BSt.putQ (h : BSt H0 o oq od ob oj oe ot g kq kd kb js H') (n : H0 oq = none) (dn : [o, oq, od, ob, oj, oe, ot].Nodup) : BSt H0 o oq od ob oj oe ot g k2 kd kb js (upd H' oq (.dK k2)) :=
  ⟨sMut h.same n, (upd_ne fun e => by subst e; simp at dn).trans h.o, upd_same, (upd_ne fun e => by subst e; simp at dn).trans h.d, (upd_ne fun e => by subst e; simp at dn).trans h.b, (upd_ne fun e => by subst e; simp at dn).trans h.j, (upd_ne fun e => by subst e; simp at dn).trans h.e, (upd_ne fun e => by subst e; simp at dn).trans h.t⟩
theorem BSt.putD (h : BSt H0 o oq od ob oj oe ot g kq kd kb js H') (n : H0 od = none) (dn : [o, oq, od, ob, oj, oe, ot].Nodup) : BSt H0 o oq od ob oj oe ot g kq k2 kb js (upd H' od (.dK k2)) :=
  ⟨sMut h.same n, (upd_ne fun e => by subst e; simp at dn).trans h.o, (upd_ne fun e => by subst e; simp at dn).trans h.q, upd_same, (upd_ne fun e => by subst e; simp at dn).trans h.b, (upd_ne fun e => by subst e; simp at dn).trans h.j, (upd_ne fun e => by subst e; simp at dn).trans h.e, (upd_ne fun e => by subst e; simp at dn).trans h.t⟩
theorem BSt.putB (h : BSt H0 o oq od ob oj oe ot g kq kd kb js H') (n : H0 ob = none) (dn : [o, oq, od, ob, oj, oe, ot].Nodup) : BSt H0 o oq od ob oj oe ot g kq kd k2 js (upd H' ob (.dK k2)) :=
  ⟨sMut h.same n, (upd_ne fun e => by subst e; simp at dn).trans h.o, (upd_ne fun e => by subst e; simp at dn).trans h.q, (upd_ne fun e => by subst e; simp at dn).trans h.d, upd_same, (upd_ne fun e => by subst e; simp at dn).trans h.j, (upd_ne fun e => by subst e; simp at dn).trans h.e, (upd_ne fun e => by subst e; simp at dn).trans h.t⟩
theorem BSt.putJ {x : Str} (h : BSt H0 o oq od ob oj oe ot g kq kd kb js H') (n : H0 oj = none) (dn : [o, oq, od, ob, oj, oe, ot].Nodup) : BSt H0 o oq od ob oj oe ot g kq kd kb (js ++ [x]) (upd H' oj (.lst (js.map V.str ++ [V.str x]))) :=
  ⟨sMut h.same n, (upd_ne fun e => by subst e; simp at dn).trans h.o, (upd_ne fun e => by subst e; simp at dn).trans h.q, (upd_ne fun e => by subst e; simp at dn).trans h.d, (upd_ne fun e => by subst e; simp at dn).trans h.b, by rw [upd_same, List.map_append]; rfl, (upd_ne fun e => by subst e; simp at dn).trans h.e, (upd_ne fun e => by subst e; simp at dn).trans h.t⟩
end
def qf (kq : List (Key × V)) (x : Str) : Int := match valV kq (.inr x) with
  | some (.int v) => v
  | _ => 0
def df (kd : List (Key × V)) (x : Str) : Str := match valV kd (.inr x) with
  | some (.str v) => v
  | _ => ""
def jr (kd : List (Key × V)) (j : Str) : Str × Str := (j, df kd j)
theorem drift3 (n : Nat) : ∃ d : Str, [V.str "rises", V.str "falls", V.str "stays"][n % 3]? = some (.str d) ∧ DriftOk d := by
  have : n % 3 < 3 := Nat.mod_lt _ (by decide)
  rcases (by omega : n % 3 = 0 ∨ n % 3 = 1 ∨ n % 3 = 2) with h | h | h <;> rw [h]
  · exact ⟨_, rfl, .inl rfl⟩
  · exact ⟨_, rfl, .inr (.inl rfl)⟩
  · exact ⟨_, rfl, .inr (.inr rfl)⟩
section
variable {P : Program} {w : World} {K : Frg} {mg : Str → Option Value} {base : Heap}
def spLWorld : Sp := fun vs H Q _ => ∃ (na : Addr) (xs : List Nat), vs = [.ref na, .int 0] ∧ H na = some (.lst (nats xs)) ∧ 31 ≤ xs.length ∧ Small xs ∧
  ∀ o oq od ob oj oe ot L f bars H', Same H H' → H ob = none → H oe = none → H ot = none → OSt [ob, oe, ot] H' o oq od ob oj oe ot L f bars → LogOk L → L.events = [] → L.items.length ≤ 5 → L.judges.length ≤ 3 → (∀ j ∈ L.judges.map (·.1), (bars j).length = L.grades ∧ Up (bars j)) → L.grades ≤ 4 → Q (.ref o) H'
theorem ok_l_world (T : TX K mg) : OkF P w K mg base 2 (fA K "_law_world") ["_law_numbers_here", "_law_at"] spLWorld := by
  refine okD T.D.d_l_world sc_l_world (fun vs H Q E h => ?_) (fun _ _ _ _ _ _ us hl => match us, hl with | [_, _], _ => rfl) (fun cdv A outer s H vs Q X hr h => ?_)
  · obtain ⟨na, xs, rfl, _⟩ := h
    rfl
  · obtain ⟨na, xs, rfl, hna, l31, sm, q⟩ := h
    have nd := sc_l_world.nd
    have hu := hu_of hr
    have GN := ok_l_names (P := P) (w := w) (base := base) T
    have GB := ok_l_bars (P := P) (w := w) (base := base) T
    refine ⟨_, pss_cons (ps_set (i := 2) nd rfl (Or.inl rfl) (pcall GN hr rfl T.G.g_l_names (pa_cons (pe_ix (ixL K) (pv 0) (pv 1) (fun _ _ => rfl)) (pa_cons (pe_op op_add pe_int (pe_op op_mod (pe_callTy call_int1 rfl T.B.b_int PyProof.Rows.boot_int (pa_cons (pe_ix (ixL K) (pv 0) (pe_op op_add (pv 1) pe_int) (fun _ _ => rfl)) pa_nil)) pe_int)) pa_nil))))
      (pss_cons (ps_set (i := 3) nd rfl (Or.inl rfl) (pe_op op_add pe_int (pe_op op_mod (pe_callTy call_int1 rfl T.B.b_int PyProof.Rows.boot_int (pa_cons (pe_ix (ixL K) (pv 0) (pe_op op_add (pv 1) pe_int) (fun _ _ => rfl)) pa_nil)) pe_int)))
      (pss_cons (ps_set (i := 4) nd rfl (Or.inl rfl) (pe_disp (pps_cons pe_str (pv 3) (pps_cons pe_str pe_dnewK (pps_cons pe_str pe_dnewK (pps_cons pe_str pe_dnewK (pps_cons pe_str (pe_lst pa_nil) (pps_cons pe_str (pe_lst pa_nil) (pps_cons pe_str pe_dnewK pps_nil))))))) (by rfl) (by rfl) (fun z => by cases z) (by decide)))
      (pss_cons (ps_for PassesOwn.never rfl (pi_range1 rfl T.B.b_range (pa_cons (pe_callB (lenK K) rfl T.B.b_len boot_len (pa_cons (pv 2) pa_nil)) pa_nil)) (pg_name (i := 5) nd rfl (Or.inl rfl))
        (pss_one (ps_dput hu (pe_dget hu (pv 4) pe_str (fun _ _ => rfl)) (pe_ix (ixL K) (pv 2) (pv 5) (fun _ _ => rfl)) (pe_op op_sub (pe_op op_mod (pe_callTy call_int1 rfl T.B.b_int PyProof.Rows.boot_int (pa_cons (pe_ix (ixL K) (pv 0) (pe_op op_add (pe_op op_add (pv 1) pe_int) (pv 5)) (fun _ _ => rfl)) pa_nil)) pe_int) pe_int) rfl)))
      (pss_cons (ps_for PassesOwn.never rfl (piL K (pcall GN hr rfl T.G.g_l_names (pa_cons (pe_ix (ixL K) (pv 0) (pe_op op_add (pv 1) pe_int) (fun _ _ => rfl)) (pa_cons (pe_op op_add pe_int (pe_op op_mod (pe_callTy call_int1 rfl T.B.b_int PyProof.Rows.boot_int (pa_cons (pe_ix (ixL K) (pv 0) (pe_op op_add (pv 1) pe_int) (fun _ _ => rfl)) pa_nil)) pe_int)) pa_nil)))) (pg_name (i := 6) nd rfl (Or.inl rfl))
        (pss_cons (ps_set (i := 5) nd rfl (Or.inl rfl) (pe_callB (lenK K) rfl T.B.b_len boot_len (pa_cons (pe_dget hu (pv 4) pe_str (fun _ _ => rfl)) pa_nil)))
        (pss_cons (ps_expr (pe_bm PySem.F.plainAttrs_list PySem.F.slot_list_append PySem.F.type_list_append mt_append (pe_dget hu (pv 4) pe_str (fun _ _ => rfl)) (pa_cons (pv 6) pa_nil)))
        (pss_cons (ps_dput hu (pe_dget hu (pv 4) pe_str (fun _ _ => rfl)) (pv 6) (pe_ix (ixL K) (pe_lst (pa_cons pe_str (pa_cons pe_str (pa_cons pe_str pa_nil)))) (pe_op op_mod (pe_callTy call_int1 rfl T.B.b_int PyProof.Rows.boot_int (pa_cons (pe_ix (ixL K) (pv 0) (pe_op op_add (pe_op op_add (pv 1) pe_int) (pv 5)) (fun _ _ => rfl)) pa_nil)) pe_int) (fun _ _ => rfl)) rfl)
        (pss_one (ps_dput hu (pe_dget hu (pv 4) pe_str (fun _ _ => rfl)) (pv 6) (pcall GB hr rfl T.G.g_l_bars (pa_cons (pv 0) (pa_cons (pe_op op_add (pe_op op_add (pv 1) pe_int) (pe_op op_mul pe_int (pv 5))) (pa_cons (pv 3) pa_nil)))) rfl))))))
      (pss_one (ps_ret (pv 4))))))), ?_⟩
    have sx : ∀ i, xs.getD i 0 < 1009 := fun i => by
      rw [List.getD_eq_getElem?_getD]
      cases h : xs[i]? with
      | none => exact (by decide : (0 : Nat) < 1009)
      | some v => exact sm v (List.mem_of_getElem? h)
    have e5 : (1 : Int) + ((xs.getD 1 0 : Nat) : Int) % 5 = ((1 + xs.getD 1 0 % 5 : Nat) : Int) := by omega
    have e4 : (1 : Int) + ((xs.getD 2 0 : Nat) : Int) % 4 = ((1 + xs.getD 2 0 % 4 : Nat) : Int) := by omega
    have e3 : (1 : Int) + ((xs.getD 9 0 : Nat) : Int) % 3 = ((1 + xs.getD 9 0 % 3 : Nat) : Int) := by omega
    -- the items' names
    refine ⟨_, rfl, _, rfl, na, _, ((0 : Nat) : Int), _, rfl, rfl, SqL.of hna, atI_nat (get_natD (by omega)), _, rfl, _, rfl, _, _, rfl, rfl, na, _, ((1 : Nat) : Int), _, rfl, rfl, SqL.of hna, atI_nat (get_natD (by omega)), .inl ⟨_, rfl, _, _, rfl, rfl, (by decide : (0 : Int) < 5), _, _, rfl, rfl, ?_⟩⟩
    refine ⟨xs.getD 0 0, 1 + xs.getD 1 0 % 5, congrArg (fun z => [V.int ((xs.getD 0 0 : Nat) : Int), V.int z]) e5, sx 0, by omega, fun v names H1 s1 ln ndn okn hv => ?_⟩
    obtain ⟨nl, nvs, rfl, nnl, hnl, pn⟩ := hv
    rw [pStr.mp pn] at hnl
    have hna1 := s1 _ _ hna
    -- the grades
    refine ⟨_, rfl, _, rfl, _, _, rfl, rfl, na, _, ((2 : Nat) : Int), _, rfl, rfl, SqL.of hna1, atI_nat (get_natD (by omega)), .inl ⟨_, rfl, _, _, rfl, rfl, (by decide : (0 : Int) < 4), _, _, rfl, rfl, ?_⟩⟩
    show gName 3 (V.int ((1 : Int) + ((xs.getD 2 0 : Nat) : Int) % 4)) _ _ _
    rw [e4]
    have hg4 : 1 + xs.getD 2 0 % 4 ≤ 4 := by omega
    have hg1 : 1 ≤ 1 + xs.getD 2 0 % 4 := by omega
    generalize 1 + xs.getD 2 0 % 4 = g at hg4 hg1
    -- the own dict
    refine fun o no => ⟨_, rfl, fun oq nq od nod ob nob => ⟨by show 0 ≤ sizeLine; decide, fun oj noj => ⟨by show 0 ≤ sizeLine; decide, fun oe noe ot not => ?_⟩⟩⟩
    have a1 := sNew (o := .dK []) no
    have a2 := sNew (o := .dK []) nq
    have a3 := sNew (o := .dK []) nod
    have a4 := sNew (o := .dK []) nob
    have a5 := sNew (o := .lst []) noj
    have a6 := sNew (o := .lst []) noe
    have a7 := sNew (o := .dK []) not
    have z1 : o ≠ oq := ne_of_none upd_same nq
    have z2 : o ≠ od := ne_of_none (a2 _ _ upd_same) nod
    have z3 : o ≠ ob := ne_of_none (a3 _ _ (a2 _ _ upd_same)) nob
    have z4 : o ≠ oj := ne_of_none (a4 _ _ (a3 _ _ (a2 _ _ upd_same))) noj
    have z5 : o ≠ oe := ne_of_none (a5 _ _ (a4 _ _ (a3 _ _ (a2 _ _ upd_same)))) noe
    have z6 : o ≠ ot := ne_of_none (a6 _ _ (a5 _ _ (a4 _ _ (a3 _ _ (a2 _ _ upd_same))))) not
    have y1 : oq ≠ od := ne_of_none upd_same nod
    have y2 : oq ≠ ob := ne_of_none (a3 _ _ upd_same) nob
    have y3 : oq ≠ oj := ne_of_none (a4 _ _ (a3 _ _ upd_same)) noj
    have y4 : oq ≠ oe := ne_of_none (a5 _ _ (a4 _ _ (a3 _ _ upd_same))) noe
    have y5 : oq ≠ ot := ne_of_none (a6 _ _ (a5 _ _ (a4 _ _ (a3 _ _ upd_same)))) not
    have x1 : od ≠ ob := ne_of_none upd_same nob
    have x2 : od ≠ oj := ne_of_none (a4 _ _ upd_same) noj
    have x3 : od ≠ oe := ne_of_none (a5 _ _ (a4 _ _ upd_same)) noe
    have x4 : od ≠ ot := ne_of_none (a6 _ _ (a5 _ _ (a4 _ _ upd_same))) not
    have w1 : ob ≠ oj := ne_of_none upd_same noj
    have w2 : ob ≠ oe := ne_of_none (a5 _ _ upd_same) noe
    have w3 : ob ≠ ot := ne_of_none (a6 _ _ (a5 _ _ upd_same)) not
    have u1 : oj ≠ oe := ne_of_none upd_same noe
    have u2 : oj ≠ ot := ne_of_none (a6 _ _ upd_same) not
    have t1 : oe ≠ ot := ne_of_none upd_same not
    have dn : [o, oq, od, ob, oj, oe, ot].Nodup := by simp [z1, z2, z3, z4, z5, z6, y1, y2, y3, y4, y5, x1, x2, x3, x4, w1, w2, w3, u1, u2, t1]
    have n1q := a1.free nq
    have n1d := a1.free (a2.free nod)
    have n1b := a1.free (a2.free (a3.free nob))
    have n1j := a1.free (a2.free (a3.free (a4.free noj)))
    have n1e := a1.free (a2.free (a3.free (a4.free (a5.free noe))))
    have n1t := a1.free (a2.free (a3.free (a4.free (a5.free (a6.free not)))))
    refine ⟨a7 _ _ (a6 _ _ (a5 _ _ (a4 _ _ (a3 _ _ (a2 _ _ upd_same))))), okv g oq od ob oj oe ot, rfl, by show 7 ≤ 15; decide, ?_⟩
    rw [merge_nd (okv g oq od ob oj oe ot) [] okv_nd (fun _ _ m => nomatch m), List.nil_append]
    have st0 : BSt H1 o oq od ob oj oe ot g [] [] [] [] (upd (upd (upd (upd (upd (upd (upd (upd H1 o (.dK [])) oq (.dK [])) od (.dK [])) ob (.dK [])) oj (.lst [])) oe (.lst [])) ot (.dK [])) o (.dK (okv g oq od ob oj oe ot))) := by
      refine ⟨sMut ((((((a1.trans a2).trans a3).trans a4).trans a5).trans a6).trans a7) no, upd_same, ?_, ?_, ?_, ?_, ?_, ?_⟩
      · exact (upd_ne z1.symm).trans (a7 _ _ (a6 _ _ (a5 _ _ (a4 _ _ (a3 _ _ upd_same)))))
      · exact (upd_ne z2.symm).trans (a7 _ _ (a6 _ _ (a5 _ _ (a4 _ _ upd_same))))
      · exact (upd_ne z3.symm).trans (a7 _ _ (a6 _ _ (a5 _ _ upd_same)))
      · exact (upd_ne z4.symm).trans (a7 _ _ (a6 _ _ upd_same))
      · exact (upd_ne z5.symm).trans (a7 _ _ upd_same)
      · exact (upd_ne z6.symm).trans upd_same
    generalize upd (upd (upd (upd (upd (upd (upd (upd H1 o (.dK [])) oq (.dK [])) od (.dK [])) ob (.dK [])) oj (.lst [])) oe (.lst [])) ot (.dK [])) o (.dK (okv g oq od ob oj oe ot)) = G at st0
    clear a1 a2 a3 a4 a5 a6 a7 nq nod nob noj noe not
    have lnm : (names.map V.str).length = names.length := List.length_map _
    refine ⟨_, rfl, nl, _, rfl, .inl (SqL.of (st0.same _ _ hnl)), _, rfl, by omega, by omega, ?_⟩
    rw [Int.toNat_natCast, lnm]
    refine for_it (walk_nat (n := names.length)) (fun i σ H' => (∃ u5 u6, σ = [some (V.ref na), some (V.int 0), some (V.ref nl), some (V.int (g : Int)), some (V.ref o), u5, u6]) ∧ ∃ kq, BSt H1 o oq od ob oj oe ot g kq [] [] [] H' ∧ kq.map (·.1) = keysOf (names.take i) ∧ ∀ x ∈ names.take i, ∃ v : Int, valV kq (.inr x) = some (.int v))
      ⟨⟨_, _, rfl⟩, [], st0, rfl, fun _ m => nomatch m⟩ (fun _ _ _ _ _ => trivial) ?_ ?_
    · rintro k x σ H3 H4 hk ⟨⟨u5, u6, rfl⟩, kq, st, hkq, vals⟩ ⟨rfl, rfl⟩
      obtain ⟨x, hx⟩ : ∃ x, names[k]? = some x := ⟨_, List.getElem?_eq_getElem hk⟩
      have lkq : kq.length = k := by
        have := congrArg List.length hkq
        rw [List.length_map, List.length_map, List.length_take] at this
        omega
      refine ⟨_, rfl, _, rfl, _, _, rfl, rfl, _, rfl, _, _, rfl, rfl, na, _, ((3 + k : Nat) : Int), _, rfl, rfl, SqL.of (st.same _ _ hna1), atI_nat (get_natD (by omega)), .inl ⟨_, rfl, _, _, rfl, rfl, (by decide : (0 : Int) < 13), _, _, rfl, rfl, ?_⟩⟩
      refine ⟨_, rfl, o, _, rfl, dgetK (k := .inr "qualities") st.o ok_qua, _, rfl, _, rfl, nl, _, (k : Int), _, rfl, rfl, SqL.of (st.same _ _ hnl), atI_nat (show (names.map V.str)[k]? = some (.str x) by rw [List.getElem?_map, hx]; rfl), oq, _, rfl, DPut.k (k := .inr x) st.q (by rw [lkq]; exact Nat.lt_of_lt_of_le hk (Nat.le_trans (by omega : names.length ≤ 5) (by decide))), ⟨_, _, rfl⟩, _, st.putQ n1q dn, ?_, fun y hy => ?_⟩
      · have nx : x ∉ names.take k := fun z => by
          obtain ⟨i, hi⟩ := List.mem_iff_getElem?.mp z
          have lt : i < k := by
            have := (List.getElem?_eq_some_iff.mp hi).1
            rw [List.length_take] at this
            omega
          rw [List.getElem?_take_of_lt lt] at hi
          have := (List.getElem?_inj (List.getElem?_eq_some_iff.mp hi).1 ndn).mp (hi.trans hx.symm)
          omega
        rw [putK_keys_new (by rw [hkq]; exact fun z => nx (key_in.mp z)), hkq, take_succ_get hx]
        show _ = List.map Sum.inr (names.take k ++ [x])
        rw [List.map_append]
        rfl
      · rw [valV_put]
        by_cases z : y = x
        · subst z
          exact ⟨_, if_pos rfl⟩
        · rw [take_succ_get hx] at hy
          rcases List.mem_append.mp hy with hy | hy
          · obtain ⟨v, h1⟩ := vals y hy
            exact ⟨v, by rw [if_neg (inr_ne z)]; exact h1⟩
          · exact absurd (List.mem_singleton.mp hy) z
    rintro σ H3 ⟨⟨u5, u6, rfl⟩, kq, st, hkq, vals⟩
    rw [List.take_length] at hkq vals
    -- the judges
    refine ⟨_, rfl, _, rfl, _, _, rfl, rfl, na, _, ((8 : Nat) : Int), _, rfl, rfl, SqL.of (st.same _ _ hna1), atI_nat (get_natD (by omega)), _, rfl, _, rfl, _, _, rfl, rfl, na, _, ((9 : Nat) : Int), _, rfl, rfl, SqL.of (st.same _ _ hna1), atI_nat (get_natD (by omega)), .inl ⟨_, rfl, _, _, rfl, rfl, (by decide : (0 : Int) < 3), _, _, rfl, rfl, ?_⟩⟩
    refine ⟨xs.getD 8 0, 1 + xs.getD 9 0 % 3, congrArg (fun z => [V.int ((xs.getD 8 0 : Nat) : Int), V.int z]) e3, sx 8, by omega, fun v jn H4 s4 ljn ndj okj hv => ?_⟩
    obtain ⟨jl, jvs, rfl, njl, hjl, pjn⟩ := hv
    rw [pStr.mp pjn] at hjl
    have st4 := st.mono s4
    have jnew : ∀ a, H3 a ≠ none → jl ≠ a := fun a h e => h (e ▸ njl)
    have nj_oq : jl ≠ oq := jnew _ (by rw [st.q]; exact fun e => nomatch e)
    have nj_od : jl ≠ od := jnew _ (by rw [st.d]; exact fun e => nomatch e)
    have nj_ob : jl ≠ ob := jnew _ (by rw [st.b]; exact fun e => nomatch e)
    have nj_oj : jl ≠ oj := jnew _ (by rw [st.j]; exact fun e => nomatch e)
    have ljm : (jn.map V.str).length = jn.length := List.length_map _
    refine ⟨jl, rfl, ⟨_, SqL.of hjl⟩, ?_⟩
    refine for_it (walk_list (K := K) (a := jl) (xs := jn.map V.str)) (fun i σ H' => (∃ u5 u6, σ = [some (V.ref na), some (V.int 0), some (V.ref nl), some (V.int (g : Int)), some (V.ref o), u5, u6]) ∧ H' jl = some (.lst (jn.map V.str)) ∧ ∃ (kd kb : List (Key × V)) (bars : Str → List Int), BSt H1 o oq od ob oj oe ot g kq kd kb (jn.take i) H' ∧ kd.length ≤ i ∧ kb.length ≤ i ∧
      ∀ j ∈ jn.take i, (∃ d, valV kd (.inr j) = some (.str d) ∧ DriftOk d) ∧ (bars j).length = g ∧ Up (bars j) ∧ ∃ b, valV kb (.inr j) = some (.ref b) ∧ H' b = some (.lst ((bars j).map V.int)) ∧ b ∉ [o, oq, od, ob, oj, oe, ot])
      ⟨⟨_, _, rfl⟩, hjl, [], [], fun _ => [], st4, Nat.le_refl _, Nat.le_refl _, fun _ m => nomatch m⟩ (fun i σ H' _ z => SqL.of z.2.1) ?_ ?_
    · rintro i x σ H5 H6 hi ⟨⟨u5, u6, rfl⟩, hjl, kd, kb, bars, st, lkd, lkb, all⟩ ⟨rfl, hx⟩
      obtain ⟨j, hj, rfl⟩ := get_str hx
      have hi3 : i < 3 := by rw [ljm] at hi; omega
      have ltk : (jn.take i).length = i := by rw [List.length_take]; rw [ljm] at hi; omega
      -- k = len(judges)
      refine ⟨_, rfl, o, _, rfl, dgetK (k := .inr "judges") st.o ok_jud, oj, _, rfl, .inl (SqL.of st.j), ?_⟩
      rw [List.length_map, ltk]
      -- judges.append
      refine ⟨_, rfl, o, _, rfl, dgetK (k := .inr "judges") st.o ok_jud, .inl ⟨rfl, _, SqL.of st.j⟩, _, rfl, oj, _, _, rfl, rfl, st.j, by rw [List.length_map, ltk]; exact Nat.lt_trans hi3 (by decide), ?_⟩
      have st5 := st.putJ (x := j) n1j dn
      have hjl5 : upd H6 oj (.lst ((jn.take i).map V.str ++ [V.str j])) jl = some (.lst (jn.map V.str)) := (upd_ne nj_oj).trans hjl
      have keep5 : ∀ b z, H6 b = some z → b ∉ [o, oq, od, ob, oj, oe, ot] → upd H6 oj (.lst ((jn.take i).map V.str ++ [V.str j])) b = some z := fun b z hb nb => (upd_ne fun e => nb (by subst e; simp)).trans hb
      generalize upd H6 oj (.lst ((jn.take i).map V.str ++ [V.str j])) = H7 at st5 hjl5 keep5
      rw [← take_succ_get hj] at st5
      -- drifts[name] = ..
      obtain ⟨d, hd, dok⟩ := drift3 (xs.getD (10 + i) 0)
      refine ⟨by show 3 ≤ sizeLine; decide, fun dl ndl => ?_⟩
      have s8 := sNew (o := .lst [.str "rises", .str "falls", .str "stays"]) ndl
      have st6 := st5.mono s8
      have ed3 : ((xs.getD (10 + i) 0 : Nat) : Int) % 3 = ((xs.getD (10 + i) 0 % 3 : Nat) : Int) := by omega
      refine ⟨_, rfl, _, rfl, _, _, rfl, rfl, _, rfl, _, _, rfl, rfl, na, _, ((10 + i : Nat) : Int), _, rfl, rfl, SqL.of (st6.same _ _ hna1), atI_nat (get_natD (by omega)), .inl ⟨_, rfl, _, _, rfl, rfl, (by decide : (0 : Int) < 3), dl, _, ((xs.getD (10 + i) 0 : Nat) : Int) % 3, _, rfl, rfl, SqL.of upd_same, (by rw [ed3]; exact atI_nat hd), ?_⟩⟩
      refine ⟨_, rfl, o, _, rfl, dgetK (k := .inr "drifts") st6.o ok_dri, _, rfl, od, _, rfl, DPut.k (k := .inr j) st6.d (Nat.lt_of_le_of_lt (Nat.le_trans lkd (Nat.le_of_lt hi3)) (by decide)), ?_⟩
      have st7 := st6.putD (k2 := putK kd (.inr j) (.str d)) n1d dn
      have hjl7 : upd (upd H7 dl (.lst [.str "rises", .str "falls", .str "stays"])) od (.dK (putK kd (.inr j) (.str d))) jl = some (.lst (jn.map V.str)) := (upd_ne nj_od).trans (s8 _ _ hjl5)
      have keep7 : ∀ b z, H6 b = some z → b ∉ [o, oq, od, ob, oj, oe, ot] → upd (upd H7 dl (.lst [.str "rises", .str "falls", .str "stays"])) od (.dK (putK kd (.inr j) (.str d))) b = some z := fun b z hb nb => (upd_ne fun e => nb (by subst e; simp)).trans (s8 _ _ (keep5 b z hb nb))
      generalize upd (upd H7 dl (.lst [.str "rises", .str "falls", .str "stays"])) od (.dK (putK kd (.inr j) (.str d))) = H8 at st7 hjl7 keep7
      -- bars[name] = ..
      refine ⟨_, rfl, _, rfl, _, _, rfl, rfl, _, rfl, _, _, rfl, rfl, .inl ⟨by decide, by decide⟩, _, _, rfl, rfl, _, rfl, ?_⟩
      refine ⟨na, xs, 13 + 4 * i, g, rfl, st7.same _ _ hna1, by omega, by omega, fun c cs H9 s9 nc hc lcs ucs => ?_⟩
      have st8 := st7.mono s9
      refine ⟨_, rfl, o, _, rfl, dgetK (k := .inr "bars") st8.o ok_bar, _, rfl, ob, _, rfl, DPut.k (k := .inr j) st8.b (Nat.lt_of_le_of_lt (Nat.le_trans lkb (Nat.le_of_lt hi3)) (by decide)), ?_⟩
      have cF : c ∉ [o, oq, od, ob, oj, oe, ot] := fun m => by
        have some_ : ∀ a, a ∈ [o, oq, od, ob, oj, oe, ot] → H8 a ≠ none := fun a ha => by
          simp only [List.mem_cons, List.mem_nil_iff, or_false] at ha
          rcases ha with rfl | rfl | rfl | rfl | rfl | rfl | rfl
          · rw [st7.o]; exact fun e => nomatch e
          · rw [st7.q]; exact fun e => nomatch e
          · rw [st7.d]; exact fun e => nomatch e
          · rw [st7.b]; exact fun e => nomatch e
          · rw [st7.j]; exact fun e => nomatch e
          · rw [st7.e]; exact fun e => nomatch e
          · rw [st7.t]; exact fun e => nomatch e
        exact some_ c m nc
      have cb : c ≠ ob := fun e => cF (by subst e; simp)
      refine ⟨⟨_, _, rfl⟩, (upd_ne nj_ob).trans (s9 _ _ hjl7), _, _, setB bars j cs, st8.putB (k2 := putK kb (.inr j) (.ref c)) n1b dn, ?_, ?_, fun j' hj' => ?_⟩
      · have := length_putK kd (.inr j) (.str d); omega
      · have := length_putK kb (.inr j) (.ref c); omega
      · rw [valV_put, valV_put]
        unfold setB
        by_cases z : j' = j
        · subst z
          rw [if_pos rfl, if_pos rfl, if_pos rfl]
          exact ⟨⟨d, rfl, dok⟩, lcs, ucs, c, rfl, (upd_ne cb).trans hc, cF⟩
        · rw [if_neg (inr_ne z), if_neg (inr_ne z), if_neg z]
          rw [take_succ_get hj] at hj'
          rcases List.mem_append.mp hj' with hj' | hj'
          · obtain ⟨h1, h2, h3, b, h4, h5, h6⟩ := all j' hj'
            exact ⟨h1, h2, h3, b, h4, (upd_ne fun e => h6 (by subst e; simp)).trans (s9 _ _ (keep7 b _ h5 h6)), h6⟩
          · exact absurd (List.mem_singleton.mp hj') z
    · rintro σ H5 ⟨⟨u5, u6, rfl⟩, hjl, kd, kb, bars, st, lkd, lkb, all⟩
      rw [ljm, List.take_length] at st all
      rw [ljm] at lkb
      have oF : o ∉ [ob, oe, ot] := by simp [z3, z5, z6]
      have qF : oq ∉ [ob, oe, ot] := by simp [y2, y4, y5]
      have dF : od ∉ [ob, oe, ot] := by simp [x1, x3, x4]
      have jF : oj ∉ [ob, oe, ot] := by simp [w1.symm, u1, u2]
      have mj : ((jn.map (jr kd)).map (·.1)) = jn := by
        rw [List.map_map]
        exact List.map_id'' (fun _ => rfl) jn
      have noF : ∀ {b}, b ∉ [o, oq, od, ob, oj, oe, ot] → b ∉ [ob, oe, ot] := fun {b} h m => h (by
        simp only [List.mem_cons, List.mem_nil_iff, or_false] at m ⊢
        rcases m with h | h | h <;> simp [h])
      refine ⟨_, rfl, q o oq od ob oj oe ot ⟨sortS names, g, jn.map (jr kd), []⟩ (qf kq) bars H5 (s1.trans st.same) (s1.free n1b) (s1.free n1e) (s1.free n1t) ⟨.head _, .tail _ (.head _), .tail _ (.tail _ (.head _)), w3, ?_, ⟨kq, names, ?_, hkq, sortS_perm names, sortS_ok names, fun x hx => ?_⟩, ⟨kd, ?_, fun j d hjd => ?_⟩, ?_, ⟨kb, st.b, by omega, fun j hj => ?_⟩, ⟨[], st.e, .nil⟩, ⟨[], st.t, Nat.le_refl _⟩⟩ ⟨?_, ?_, fun p hp => ?_, hg1, by show g ≤ 9; omega, by show 0 ≤ 120; decide, fun _ m => nomatch m⟩ rfl (by rw [show (LogD.mk (sortS names) g (jn.map (jr kd)) []).items = sortS names from rfl, (sortS_perm names).length_eq]; omega) (by show (jn.map (jr kd)).length ≤ 3; rw [List.length_map]; omega) (fun j hj => ?_) hg4⟩
      · rw [cut_out oF]; exact st.o
      · rw [cut_out qF]; exact st.q
      · obtain ⟨v, hv⟩ := vals x ((sortS_perm names).mem_iff.mp hx)
        rw [hv]
        unfold qf
        rw [hv]
      · rw [cut_out dF]; exact st.d
      · obtain ⟨j', hj', e⟩ := List.mem_map.mp (show (j, d) ∈ jn.map (jr kd) from hjd)
        obtain ⟨⟨d', h1, _⟩, _⟩ := all j' hj'
        cases e
        rw [h1]
        unfold df
        rw [h1]
      · rw [cut_out jF, st.j]
        exact congrArg (fun l => some (HO.lst (List.map V.str l))) mj.symm
      · rw [show (LogD.mk (sortS names) g (jn.map (jr kd)) []).judges = jn.map (jr kd) from rfl, mj] at hj
        obtain ⟨_, _, _, b, h4, h5, h6⟩ := all j hj
        exact ⟨b, h4, by rw [cut_out (noF h6)]; exact h5⟩
      · refine NamesOk.perm (sortS_perm names) ⟨by omega, by omega, okn, ndn⟩
      · show NamesOk 8 ((jn.map (jr kd)).map (·.1))
        rw [mj]
        exact ⟨by omega, by omega, okj, ndj⟩
      · obtain ⟨j', hj', rfl⟩ := List.mem_map.mp (show p ∈ jn.map (jr kd) from hp)
        obtain ⟨⟨d', h1, h2⟩, _⟩ := all j' hj'
        show DriftOk (df kd j')
        unfold df
        rw [h1]
        exact h2
      · rw [show (LogD.mk (sortS names) g (jn.map (jr kd)) []).judges = jn.map (jr kd) from rfl, mj] at hj
        obtain ⟨_, h2, h3, _⟩ := all j hj
        exact ⟨h2, h3⟩
end
end Rb
namespace Rb
open PySem PySem.Spec PyProof.Rows L2
section
variable {F : List Addr} {H H' : Hp} {o oq od ob oj oe ot : Addr} {L : LogD} {f : Str → Int} {bars : Str → List Int}
theorem OSt.move {F' : List Addr} (h : OSt F H o oq od ob oj oe ot L f bars) (sub : ∀ a ∈ F, a ∈ F') (c : Same (cut F H) (cut F' H')) (eb : H' ob = H ob) (ee : H' oe = H oe) (et : H' ot = H ot) : OSt F' H' o oq od ob oj oe ot L f bars := by
  refine ⟨sub _ h.inB, sub _ h.inE, sub _ h.inT, h.bt, c _ _ h.own, ?_, ?_, c _ _ h.judges, ?_, ?_, ?_⟩
  · obtain ⟨kq, ks, z1, z2⟩ := h.qual
    exact ⟨kq, ks, c _ _ z1, z2⟩
  · obtain ⟨kd, z1, z2⟩ := h.drifts
    exact ⟨kd, c _ _ z1, z2⟩
  · obtain ⟨kb, z1, z2, z3⟩ := h.barsOk
    refine ⟨kb, eb ▸ z1, z2, fun j hj => ?_⟩
    obtain ⟨b, y1, y2⟩ := z3 j hj
    exact ⟨b, y1, c _ _ y2⟩
  · obtain ⟨ve, z1, z2⟩ := h.events
    exact ⟨ve, ee ▸ z1, pMono c z2⟩
  · obtain ⟨kt, z1, z2⟩ := h.told
    exact ⟨kt, et ▸ z1, z2⟩
theorem OSt.mono (e : Same H H') (h : OSt F H o oq od ob oj oe ot L f bars) : OSt F H' o oq od ob oj oe ot L f bars := by
  obtain ⟨kb, z1, _⟩ := h.barsOk
  obtain ⟨ve, z2, _⟩ := h.events
  obtain ⟨kt, z3, _⟩ := h.told
  exact h.move (fun _ m => m) (sCut e) ((e _ _ z1).trans z1.symm) ((e _ _ z2).trans z2.symm) ((e _ _ z3).trans z3.symm)
theorem OSt.grow {p ba ta : Addr} (e : Same H H') (h : OSt F H o oq od ob oj oe ot L f bars) (np : H p = none) (nb : H ba = none) (nt : H ta = none) : OSt (p :: ba :: ta :: F) H' o oq od ob oj oe ot L f bars := by
  obtain ⟨kb, z1, _⟩ := h.barsOk
  obtain ⟨ve, z2, _⟩ := h.events
  obtain ⟨kt, z3, _⟩ := h.told
  refine h.move (fun _ m => .tail _ (.tail _ (.tail _ m))) (fun a u ha => ?_) ((e _ _ z1).trans z1.symm) ((e _ _ z2).trans z2.symm) ((e _ _ z3).trans z3.symm)
  have ha2 := cut_le _ _ ha
  rw [cut_out fun m => ?_]
  · exact e _ _ ha2
  · rcases List.mem_cons.mp m with rfl | m
    · rw [np] at ha2; cases ha2
    · rcases List.mem_cons.mp m with rfl | m
      · rw [nb] at ha2; cases ha2
      · rcases List.mem_cons.mp m with rfl | m
        · rw [nt] at ha2; cases ha2
        · rw [cut_in m] at ha; cases ha
end
/-- items, grades, judges, events as a tuple -/
def PartsAt (H : Hp) (t : Addr) (L : LogD) : Prop := ∃ si jl ea jvs evs, H t = some (.tup [.ref si, .int (L.grades : Int), .ref jl, .ref ea]) ∧ H si = some (.lst (L.items.map V.str)) ∧ H jl = some (.lst jvs) ∧ Paired (rT2 rStr rStr H) jvs L.judges ∧ H ea = some (.lst evs) ∧ Paired (rEv H) evs L.events
theorem PartsAt.mono {H H' : Hp} {t : Addr} {L : LogD} (e : Same H H') (h : PartsAt H t L) : PartsAt H' t L := by
  obtain ⟨si, jl, ea, jvs, evs, h1, h2, h3, h4, h5, h6⟩ := h
  exact ⟨si, jl, ea, jvs, evs, e _ _ h1, e _ _ h2, e _ _ h3, pMono e h4, e _ _ h5, pMono e h6⟩
section
variable {P : Program} {w : World} {K : Frg} {mg : Str → Option Value} {base : Heap}
def spSays : Sp := fun vs H Q _ => ∃ (F : List Addr) (o oq od ob oj oe ot : Addr) (L : LogD) (f : Str → Int) (bars : Str → List Int) (j x : Str), vs = [.ref o, .str j, .str x] ∧ OSt F H o oq od ob oj oe ot L f bars ∧ j ∈ L.judges.map (·.1) ∧ x ∈ L.items ∧ (bars j).length ≤ 9 ∧
  ∀ H', Same H H' → Q (.int ((sayN (bars j) (f x) : Nat) : Int)) H'
theorem ok_l_says (T : TX K mg) : OkF P w K mg base 1 (fA K "_law_says") ["_law_own", "_law_judge", "_law_item"] spSays := by
  refine okD T.D.d_l_says sc_l_says (fun vs H Q E h => ?_) (fun _ _ _ _ _ _ us hl => match us, hl with | [_, _, _], _ => rfl) (fun cdv A outer s H vs Q X hr h => ?_)
  · obtain ⟨F, o, oq, od, ob, oj, oe, ot, L, f, bars, j, x, rfl, _⟩ := h
    rfl
  · obtain ⟨F, o, oq, od, ob, oj, oe, ot, L, f, bars, j, x, rfl, os, hj, hx, few, q⟩ := h
    have nd := sc_l_says.nd
    have hu := hu_of hr
    refine ⟨_, pss_one (ps_ret (pe_callB (lenK K) rfl T.B.b_len boot_len (pa_cons (pe_lc (own := [("_law_bar", 3)]) (g := gName 3) rfl nd (piL K (pe_dget hu (pe_dget hu (pv 0) pe_str (fun _ _ => rfl)) (pv 1) (fun _ _ => rfl))) (blkOk_by (N := N_l_says) (sc := defScope s_l_says) (by decide +kernel)) (fun _ _ _ _ _ => pg_name (i := 3) nd rfl (Or.inl rfl))
        (fun _ _ _ _ _ => pts_one (pt_cmpR op_le (pv 3) (pe_dget (hu_of hr) (pe_dget (hu_of hr) (pv 0) pe_str (fun _ _ => rfl)) (pv 2) (fun _ _ => rfl)) (nomark _))) (fun _ _ _ _ _ => pv 3)) pa_nil))), ?_⟩
    have ho := cut_le _ _ os.own
    obtain ⟨kb, hkb, _, ab⟩ := os.barsOk
    obtain ⟨b, b1, b2⟩ := ab j hj
    have b2 := cut_le _ _ b2
    obtain ⟨kq, ks, hkq, _, _, _, aq⟩ := os.qual
    have hkq := cut_le _ _ hkq
    have ll : ((bars j).map V.int).length = (bars j).length := List.length_map _
    refine ⟨_, rfl, o, _, rfl, dgetK (k := .inr "bars") ho ok_bar, _, rfl, ob, _, rfl, dgetK (k := .inr j) hkb b1, b, rfl, ⟨_, SqL.of b2⟩, fun D hD => lcP walk_list rInt hD (by rw [ll]; exact Nat.lt_of_le_of_lt few (by decide)) (fun i : Nat => ((bars j)[i]?).bind fun y => if decide (y ≤ f x) = true then some y else none) (fun _ e => SqL.of (e _ _ b2)) ?_ ?_⟩
    · rintro i y H2 H3 KT KF hi e _ ⟨rfl, hy⟩ kt kf
      obtain ⟨y, hyi, rfl⟩ := get_iv hy
      exact ⟨rfl, _, rfl, _, rfl, o, _, rfl, dgetK (k := .inr "qualities") (e _ _ ho) ok_qua, _, rfl, oq, _, rfl, dgetK (k := .inr x) (e _ _ hkq) (aq x hx), _, _, rfl, rfl, _, rfl, ite2 (fun c => ⟨_, rfl, kt _ _ y (by rw [hyi]; exact if_pos c) (Same.refl _) rfl⟩) (fun c => kf _ (by rw [hyi]; exact if_neg c) (Same.refl _))⟩
    · intro H2 m
      rw [ll, outs_filt] at m
      refine ⟨D, _, rfl, .inl (SqL.of m.ints), ?_⟩
      rw [List.length_map]
      exact q H2 m.same
def spParts : Sp := fun vs H Q _ => ∃ (F : List Addr) (o oq od ob oj oe ot : Addr) (L : LogD) (f : Str → Int) (bars : Str → List Int), vs = [.ref o] ∧ OSt F H o oq od ob oj oe ot L f bars ∧ LogOk L ∧ ∀ t H', Same H H' → PartsAt H' t L → Q (.ref t) H'
theorem ok_l_parts (T : TX K mg) : OkF P w K mg base 1 (fA K "_law_parts") ["_law_own"] spParts := by
  refine okD T.D.d_l_parts sc_l_parts (fun vs H Q E h => ?_) (fun _ _ _ _ _ _ us hl => match us, hl with | [_], _ => rfl) (fun cdv A outer s H vs Q X hr h => ?_)
  · obtain ⟨F, o, oq, od, ob, oj, oe, ot, L, f, bars, rfl, _⟩ := h
    rfl
  · obtain ⟨F, o, oq, od, ob, oj, oe, ot, L, f, bars, rfl, os, ok, q⟩ := h
    have nd := sc_l_parts.nd
    have hu := hu_of hr
    refine ⟨_, pss_cons (ps_setLc (i := 1) (own := [("_law_name", 2)]) (g := gName 2) (tt := tYes) rfl nd rfl rfl (sw_true rfl rfl rfl (by decide +kernel)) (piL K (pe_dget hu (pv 0) pe_str (fun _ _ => rfl))) (blkOk_by (N := N_l_parts) (sc := defScope s_l_parts) (by decide +kernel)) (fun _ _ _ _ _ => pg_name (i := 2) nd rfl (Or.inl rfl)) (fun _ _ _ _ _ => pts_nil)
        (fun _ _ _ _ _ => pe_tup (pa_cons (pv 2) (pa_cons (pe_dget (hu_of hr) (pe_dget (hu_of hr) (pv 0) pe_str (fun _ _ => rfl)) (pv 2) (fun _ _ => rfl)) pa_nil))))
      (pss_one (ps_ret (pe_tup (pa_cons (pe_callB sortedK rfl T.B.b_sorted boot_sorted (pa_cons (pe_dget hu (pv 0) pe_str (fun _ _ => rfl)) pa_nil)) (pa_cons (pe_dget hu (pv 0) pe_str (fun _ _ => rfl)) (pa_cons (pv 1) (pa_cons (pe_dget hu (pv 0) pe_str (fun _ _ => rfl)) pa_nil))))))), ?_⟩
    have ho := cut_le _ _ os.own
    have hoj := cut_le _ _ os.judges
    obtain ⟨kd, hkd, ad⟩ := os.drifts
    have hkd := cut_le _ _ hkd
    obtain ⟨kq, ks, hkq, hks, pm, srt, _⟩ := os.qual
    have hkq := cut_le _ _ hkq
    obtain ⟨ve, hve, pve⟩ := os.events
    have pve := pMono cut_le pve
    have ll : ((L.judges.map (·.1)).map V.str).length = L.judges.length := by rw [List.length_map, List.length_map]
    have few : L.judges.length ≤ 8 := by have := ok.judges.le; rwa [List.length_map] at this
    refine ⟨_, rfl, o, _, rfl, dgetK (k := .inr "judges") ho ok_jud, oj, rfl, ⟨_, SqL.of hoj⟩, fun D hD => lcP walk_list (rT2 rStr rStr) hD (by rw [ll]; exact Nat.lt_of_le_of_lt few (by decide)) (fun i : Nat => (L.judges[i]?).map fun p => p) (fun _ e => SqL.of (e _ _ hoj)) ?_ ?_⟩
    · rintro i x H2 H3 KT KF hi e ⟨acc, hacc⟩ ⟨rfl, hx⟩ kt kf
      obtain ⟨j, hj, rfl⟩ := get_str hx
      rw [List.getElem?_map] at hj
      obtain ⟨⟨j', d⟩, hjd, rfl⟩ := Option.map_eq_some_iff.mp hj
      refine ⟨rfl, yes_it ⟨_, rfl, _, rfl, o, _, rfl, dgetK (k := .inr "drifts") (e _ _ ho) ok_dri, _, rfl, od, _, rfl, dgetK (k := .inr j') (e _ _ hkd) (ad j' d (List.mem_of_getElem? hjd)), (by show 2 ≤ sizeLine; decide), fun t nt => kt _ _ (j', d) (by rw [hjd]; rfl) (sNew nt) ⟨t, _, _, rfl, ?_, rfl, rfl⟩⟩⟩
      rw [del_ne (ne_of_none hacc nt).symm]
      exact upd_same
    · intro H1 m
      rw [ll, outs_map, List.map_id'] at m
      have s1 := m.same
      obtain ⟨m1, jvs, hD1, pj⟩ := m
      have few64 : ks.length < 64 := by
        rw [← pm.length_eq]
        exact Nat.lt_of_le_of_lt ok.items.le (by decide)
      refine ⟨_, rfl, o, _, rfl, dgetK (k := .inr "qualities") (s1 _ _ ho) ok_qua, oq, kq, ks, rfl, .inl (s1 _ _ hkq), hks, few64, fun ys si pm2 st nsi => ?_⟩
      have eys : ys = L.items := sorted_uniq (pm2.trans pm.symm) (sorted_pw st) (sorted_pw srt)
      subst eys
      have s2 := sNew (o := .lst (L.items.map V.str)) nsi
      have s12 := s1.trans s2
      refine ⟨_, rfl, o, _, rfl, dgetK (k := .inr "grades") (s12 _ _ ho) ok_grd, _, rfl, _, rfl, o, _, rfl, dgetK (k := .inr "events") (s12 _ _ ho) ok_eve, (by show 4 ≤ sizeLine; decide), fun t nt => ?_⟩
      have s3 := sNew (o := .tup [.ref si, .int (L.grades : Int), .ref D, .ref oe]) nt
      exact q t _ (s12.trans s3) ⟨si, D, oe, jvs, ve, upd_same, s3 _ _ upd_same, s3 _ _ (s2 _ _ hD1), pMono ((del_le.trans s2).trans s3) pj, s3 _ _ (s12 _ _ hve), pMono (s12.trans s3) pve⟩
def spWorldMade (K : Frg) : Sp := fun vs H Q _ => ∃ (o oq od ob oj oe ot : Addr) (L : LogD) (f : Str → Int) (bars : Str → List Int), vs = [.ref o] ∧ OSt [ob, oe, ot] H o oq od ob oj oe ot L f bars ∧ LogOk L ∧ L.events = [] ∧ (∀ j ∈ L.judges.map (·.1), (bars j).length = L.grades ∧ Up (bars j)) ∧
  ∀ p lp qa ba ta H', Same H H' → H p = none → H ba = none → H ta = none → p ≠ ba → p ≠ ta → WSt K [p, ba, ta, ob, oe, ot] H' p lp qa ba ta L f bars [] → Q (.ref p) H'
theorem ok_l_world_made (T : TX K mg) : OkF P w K mg base 7 (fA K "_law_world_made") ["_law_own"] (spWorldMade K) := by
  refine okD T.D.d_l_world_made sc_l_world_made (fun vs H Q E h => ?_) (fun _ _ _ _ _ _ us hl => match us, hl with | [_], _ => rfl) (fun cdv A outer s H vs Q X hr h => ?_)
  · obtain ⟨o, oq, od, ob, oj, oe, ot, L, f, bars, rfl, _⟩ := h
    rfl
  · obtain ⟨o, oq, od, ob, oj, oe, ot, L, f, bars, rfl, os, ok, ee, bok, q⟩ := h
    have nd := sc_l_world_made.nd
    have hu := hu_of hr
    have GW := ok_World_init (P := P) (w := w) (base := base) T
    refine ⟨_, pss_cons (ps_setLc (i := 1) (own := [("_law_name", 2)]) (g := gName 2) (tt := tYes) rfl nd rfl rfl (sw_true rfl rfl rfl (by decide +kernel)) (piL K (pe_dget hu (pv 0) pe_str (fun _ _ => rfl))) (blkOk_by (N := N_l_world_made) (sc := defScope s_l_world_made) (by decide +kernel)) (fun _ _ _ _ _ => pg_name (i := 2) nd rfl (Or.inl rfl)) (fun _ _ _ _ _ => pts_nil)
        (fun _ _ _ _ _ => pe_tup (pa_cons (pv 2) (pa_cons (pe_dget (hu_of hr) (pe_dget (hu_of hr) (pv 0) pe_str (fun _ _ => rfl)) (pv 2) (fun _ _ => rfl)) (pa_cons (pe_callTy (listK K) rfl T.B.b_list PyProof.Rows.boot_list (pa_cons (pe_dget (hu_of hr) (pe_dget (hu_of hr) (pv 0) pe_str (fun _ _ => rfl)) (pv 2) (fun _ _ => rfl)) pa_nil)) pa_nil)))))
      (pss_one (ps_ret (pmake GW T.T.mk_World hr rfl T.G.g_World (pa_cons (pe_dget hu (pv 0) pe_str (fun _ _ => rfl)) (pa_cons (pe_callTy dictOf rfl T.B.b_dict PyProof.Rows.boot_dict (pa_cons (pe_dget hu (pv 0) pe_str (fun _ _ => rfl)) pa_nil)) (pa_cons (pv 1) pa_nil)))))), ?_⟩
    have ho := cut_le _ _ os.own
    have hoj := cut_le _ _ os.judges
    obtain ⟨kd, hkd, ad⟩ := os.drifts
    have hkd := cut_le _ _ hkd
    obtain ⟨kq, ks, hkq, hks, pm, srt, vals⟩ := os.qual
    have hkq := cut_le _ _ hkq
    obtain ⟨kb, hkb, _, ab⟩ := id os.barsOk
    have ll : ((L.judges.map (·.1)).map V.str).length = L.judges.length := by rw [List.length_map, List.length_map]
    have few : L.judges.length ≤ 8 := by have := ok.judges.le; rwa [List.length_map] at this
    refine ⟨_, rfl, o, _, rfl, dgetK (k := .inr "judges") ho ok_jud, oj, rfl, ⟨_, SqL.of hoj⟩, fun D hD => lcP walk_list rJB hD (by rw [ll]; exact Nat.lt_of_le_of_lt few (by decide)) (fun i : Nat => (L.judges[i]?).map fun p => (p.1, p.2, bars p.1)) (fun _ e => SqL.of (e _ _ hoj)) ?_ ?_⟩
    · rintro i x H2 H3 KT KF hi e ⟨acc, hacc⟩ ⟨rfl, hx⟩ kt kf
      obtain ⟨j, hj, rfl⟩ := get_str hx
      rw [List.getElem?_map] at hj
      obtain ⟨⟨j', d⟩, hjd, rfl⟩ := Option.map_eq_some_iff.mp hj
      have hm := List.mem_of_getElem? hjd
      obtain ⟨b, b1, b2⟩ := ab j' (List.mem_map_of_mem (f := (·.1)) hm)
      have b2 := cut_le _ _ b2
      refine ⟨rfl, yes_it ⟨_, rfl, _, rfl, o, _, rfl, dgetK (k := .inr "drifts") (e _ _ ho) ok_dri, _, rfl, od, _, rfl, dgetK (k := .inr j') (e _ _ hkd) (ad j' d hm), _, rfl, o, _, rfl, dgetK (k := .inr "bars") (e _ _ ho) ok_bar, _, rfl, ob, _, rfl, dgetK (k := .inr j') (e _ _ hkb) b1, b, _, rfl, .inl (SqL.of (e _ _ b2)), fun l nl => ⟨(by show 3 ≤ sizeLine; decide), fun t nt => ?_⟩⟩⟩
      have s1 := sNew (o := .lst ((bars j').map V.int)) nl
      have s2 := sNew (o := .tup [.str j', .str d, .ref l]) nt
      refine kt _ _ (j', d, bars j') (by rw [hjd]; rfl) (s1.trans s2) ⟨t, _, _, _, rfl, ?_, rfl, rfl, l, _, rfl, ?_, pInt.mpr rfl⟩
      · rw [del_ne (ne_of_none (s1 _ _ hacc) nt).symm]
        exact upd_same
      · rw [del_ne (ne_of_none hacc nl).symm]
        exact s2 _ _ upd_same
    · intro H1 m
      rw [ll, outs_map] at m
      have s1 := m.same
      obtain ⟨m1, jvs, hD1, pj⟩ := m
      refine ⟨_, rfl, o, _, rfl, dgetK (k := .inr "grades") (s1 _ _ ho) ok_grd, _, rfl, o, _, rfl, dgetK (k := .inr "qualities") (s1 _ _ ho) ok_qua, oq, kq, rfl, .inl (s1 _ _ hkq), fun q1 nq1 => ⟨_, rfl, fun x dx2 nx nd2 ne => ?_⟩⟩
      have s2 := sNew (o := .dK kq) nq1
      have s3 : Same (upd H1 q1 (.dK kq)) (upd (upd (upd H1 q1 (.dK kq)) dx2 (.own x)) x (.ins (fA K "World") dx2 [])) := fun b o e => by
        rw [upd_ne (ne_of_none e nx), upd_ne (ne_of_none e nd2)]
        exact e
      have s03 := (s1.trans s2).trans s3
      have s02 := s1.trans s2
      refine ⟨x, q1, D, dx2, kq, ks, jvs, L.judges.map fun p => (p.1, p.2, bars p.1), L, f, bars, rfl, upd_same, s3 _ _ upd_same, hks, pm, srt, vals, s3 _ _ (s2 _ _ hD1), pMono ((del_le.trans s2).trans s3) pj, ?_, ee, ok, fun t ht => ?_, fun lp qa' ba ta H' sx ws nba nta => ⟨rfl, ?_⟩⟩
      · rw [List.map_map]
        exact (List.map_id'' (fun _ => rfl) _).symm
      · obtain ⟨p, hp, rfl⟩ := List.mem_map.mp ht
        obtain ⟨h1, h2⟩ := bok p.1 (List.mem_map_of_mem (f := (·.1)) hp)
        exact ⟨h1, h2.rising, rfl⟩
      · have hx : (upd (upd (upd H1 q1 (.dK kq)) dx2 (.own x)) x (.ins (fA K "World") dx2 [])) x = some (.ins (fA K "World") dx2 []) := upd_same
        have s0x : Same H H' := fun b u e => sx _ _ (s03 _ _ e) (ne_of_none (s02 _ _ e) nx)
        obtain ⟨ve, hve, _⟩ := os.events
        obtain ⟨kt, hkt, _⟩ := os.told
        refine q x lp qa' ba ta H' s0x (s02.free nx) (s03.free nba) (s03.free nta) (ne_of_none hx nba) (ne_of_none hx nta) (ws [ob, oe, ot] fun a ha => ?_)
        simp only [List.mem_cons, List.mem_nil_iff, or_false] at ha
        rcases ha with rfl | rfl | rfl
        · refine ⟨by rw [s03 _ _ hkb]; exact (fun e => nomatch e), ne_of_none (s02 _ _ hkb) nx, fun xs => by rw [s03 _ _ hkb]; exact fun e => nomatch e⟩
        · refine ⟨by rw [s03 _ _ hve]; exact (fun e => nomatch e), ne_of_none (s02 _ _ hve) nx, fun xs => by rw [s03 _ _ hve]; exact fun e => nomatch e⟩
        · refine ⟨by rw [s03 _ _ hkt]; exact (fun e => nomatch e), ne_of_none (s02 _ _ hkt) nx, fun xs => by rw [s03 _ _ hkt]; exact fun e => nomatch e⟩
end
end Rb
namespace Rb
open PySem PySem.Spec PyProof.Rows L2
def rDictP (K : Frg) : List V → Hp → VK → Prop := fun xs H Q => ∃ (a : Addr) (ps : List Addr) (kvs : List (Key × V)), xs = [.ref a] ∧ SqL K H a (ps.map V.ref) ∧ Paired (fun p kv => SqT K H p [kV kv.1, kv.2]) ps kvs ∧ ∀ p, H p = none → Q (.ref p) (upd H p (.dK (mergeK [] kvs)))
theorem dictPK {X : Cx} (K : Frg) (hc : X.calm = true := by rfl) (h : X.K = K := by rfl) : CallR X (.type "dict") (rDictP K) := by subst h; exact call_dictP hc
def jkv (js : List (Str × Str)) : List (Key × V) := js.map fun jd => ((.inr jd.1 : Key), V.str jd.2)
theorem jkv_keys (js : List (Str × Str)) : (jkv js).map (·.1) = keysOf (js.map (·.1)) := by
  unfold jkv
  rw [List.map_map]
  show _ = List.map Sum.inr (js.map (·.1))
  rw [List.map_map]
  rfl
theorem jkv_val {j d : Str} : ∀ {js : List (Str × Str)}, (js.map (·.1)).Nodup → (j, d) ∈ js → valV (jkv js) (.inr j) = some (.str d)
  | y :: r, nd, h => by
    rcases List.mem_cons.mp h with rfl | m
    · exact valV_pos rfl
    · have n2 := List.nodup_cons.mp (show (y.1 :: r.map (·.1)).Nodup from nd)
      show valV (((.inr y.1 : Key), V.str y.2) :: jkv r) _ = _
      rw [valV_neg (inr_ne fun e : y.1 = j => n2.1 (by rw [e]; exact List.mem_map_of_mem (f := (·.1)) m))]
      exact jkv_val n2.2 m
theorem jkv_dp {K : Frg} {H : Hp} : ∀ {vs : List V} {js : List (Str × Str)}, Paired (rT2 rStr rStr H) vs js → ∃ ps : List Addr, vs = ps.map V.ref ∧ Paired (fun p (kv : Key × V) => SqT K H p [kV kv.1, kv.2]) ps (jkv js)
  | _, _, .nil => ⟨[], rfl, .nil⟩
  | _, _, .cons h t => by
    obtain ⟨ps, e1, e2⟩ := jkv_dp (K := K) t
    obtain ⟨a, y, z, rfl, ha, rfl, rfl⟩ := h
    exact ⟨a :: ps, by rw [e1]; rfl, .cons (SqT.of ha) e2⟩
/-- answers of one stretch, in order -/
def InOrd (L : LogD) (a b : Nat) : Prop := ∃ j d, (j, d) ∈ L.judges ∧ a ∈ ansJ L.events j ∧ b ∈ ansJ L.events j ∧ SameStr L.events j a b ∧ (d = "stays" ∨ (d = "rises" ∧ a ≤ b) ∨ (d = "falls" ∧ b ≤ a))
theorem r12 : ¬ ("rises" : Str) = "falls" := str_ne (by decide +kernel)
theorem r13 : ¬ ("rises" : Str) = "stays" := str_ne (by decide +kernel)
theorem r23 : ¬ ("falls" : Str) = "stays" := str_ne (by decide +kernel)
theorem Lk_iff {L : LogD} (ok : LogOk L) {a b : Nat} : Lk L a b ↔ InOrd L a b ∧ gAt L.events a < gAt L.events b := by
  constructor
  · rintro ⟨j, d, hjd, ha, hb, hs, hl⟩
    obtain ⟨h1, h2⟩ := (Bool.and_eq_true _ _).mp hl
    refine ⟨⟨j, d, hjd, ha, hb, hs, ?_⟩, of_decide_eq_true h1⟩
    unfold ordB at h2
    rcases (Bool.or_eq_true _ _).mp h2 with h2 | h2
    · exact .inl (of_decide_eq_true h2)
    · have h3 := beq_iff_eq.mp h2
      rcases ok.drifts _ hjd with e | e | e
      · have e : d = "rises" := e
        rw [decide_eq_true e] at h3
        exact .inr (.inl ⟨e, Nat.le_of_lt (of_decide_eq_true h3)⟩)
      · have e : d = "falls" := e
        rw [decide_eq_false (show ¬ d = "rises" by rw [e]; exact fun z => r12 z.symm)] at h3
        exact .inr (.inr ⟨e, Nat.not_lt.mp (of_decide_eq_false h3)⟩)
      · exact .inl e
  · rintro ⟨⟨j, d, hjd, ha, hb, hs, h⟩, lt⟩
    refine ⟨j, d, hjd, ha, hb, hs, (Bool.and_eq_true _ _).mpr ⟨decide_eq_true lt, ?_⟩⟩
    have ne : a ≠ b := fun e => by subst e; omega
    unfold ordB
    rcases h with e | ⟨e, le⟩ | ⟨e, le⟩
    · rw [decide_eq_true e]; rfl
    · rw [decide_eq_true e, decide_eq_true (show a < b by omega)]
      exact Bool.or_true _
    · rw [decide_eq_false (show ¬ a < b by omega), decide_eq_false (show ¬ d = "rises" by rw [e]; exact fun z => r12 z.symm)]
      exact Bool.or_true _
section
variable {P : Program} {w : World} {K : Frg} {mg : Str → Option Value} {base : Heap}
def spInOrder : Sp := fun vs H Q _ => ∃ (t : Addr) (L : LogD) (a b : Nat) (j x j' x' : Str) (g g' : Nat), vs = [.ref t, .int (a : Int), .int (b : Int)] ∧ PartsAt H t L ∧ LogOk L ∧ L.events[a]? = some (.ans j x g) ∧ L.events[b]? = some (.ans j' x' g') ∧
  ∀ v H', Same H H' → (v = true ↔ InOrd L a b) → Q (.bl v) H'
theorem ok_l_in_order (T : TX K mg) : OkF P w K mg base 1 (fA K "_law_in_order") ["_law_parts_here", "_law_one", "_law_other"] spInOrder := by
  refine okD T.D.d_l_in_order sc_l_in_order (fun vs H Q E h => ?_) (fun _ _ _ _ _ _ us hl => match us, hl with | [_, _, _], _ => rfl) (fun cdv A outer s H vs Q X hr h => ?_)
  · obtain ⟨t, L, a, b, j, x, j', x', g, g', rfl, _⟩ := h
    rfl
  · obtain ⟨t, L, a, b, j, x, j', x', g, g', rfl, hP, ok, ea, eb, q⟩ := h
    have nd := sc_l_in_order.nd
    have hu := hr.units
    refine ⟨_, pss_cons (ps_par (by rfl) nd (i := 3) (j := 4) rfl rfl (by decide) rfl rfl (pa_cons (pe_ix (ixL K) (pe_ix (ixT K) (pv 0) pe_int (fun _ _ => rfl)) (pv 1) (fun _ _ => rfl)) (pa_cons (pe_ix (ixL K) (pe_ix (ixT K) (pv 0) pe_int (fun _ _ => rfl)) (pv 2) (fun _ _ => rfl)) pa_nil)) (by rfl))
      (pss_cons (ps_if (pt_cmpR op_ne (pe_ix (ixT K) (pv 3) pe_int (fun _ _ => rfl)) (pe_ix (ixT K) (pv 4) pe_int (fun _ _ => rfl)) (nomark _)) (pss_one (ps_ret pe_bl)) pss_nil)
      (pss_cons (ps_for PassesOwn.never rfl (pi_range2 rfl T.B.b_range (pa_cons (pe_callB (call_min2 rfl) rfl T.B.b_min boot_min (pa_cons (pv 1) (pa_cons (pv 2) pa_nil))) (pa_cons (pe_callB (call_max2 rfl) rfl T.B.b_max boot_max (pa_cons (pv 1) (pa_cons (pv 2) pa_nil))) pa_nil))) (pg_name (i := 5) nd rfl (Or.inl rfl))
        (pss_one (ps_if (pt_cmpR (eqK K hu) (pe_ix (ixL K) (pe_ix (ixT K) (pv 0) pe_int (fun _ _ => rfl)) (pv 5) (fun _ _ => rfl)) (pe_tup (pa_cons pe_str (pa_cons (pe_ix (ixT K) (pv 3) pe_int (fun _ _ => rfl)) pa_nil))) (by with_unfolding_all rfl)) (pss_one (ps_ret pe_bl)) pss_nil)))
      (pss_cons (ps_set (i := 6) nd rfl (Or.inl rfl) (pe_dget (hu_of hr) (pe_callTy (dictPK K) rfl T.B.b_dict PyProof.Rows.boot_dict (pa_cons (pe_ix (ixT K) (pv 0) pe_int (fun _ _ => rfl)) pa_nil)) (pe_ix (ixT K) (pv 3) pe_int (fun _ _ => rfl)) (fun _ _ => rfl)))
      (pss_one (ps_ret (pe_or (pe_cmpR op_eq (pv 6) pe_str (nomark _)) (pe_or (pe_and (pe_cmpR op_eq (pv 6) pe_str (nomark _)) (pe_one (pe_cmpR op_le (pv 1) (pv 2) (nomark _)))) (pe_one (pe_and (pe_cmpR op_eq (pv 6) pe_str (nomark _)) (pe_one (pe_cmpR op_ge (pv 1) (pv 2) (nomark _)))))))))))), ?_⟩
    obtain ⟨si, jl, er, jvs, evs, ht, hsi, hjl, pjl, her, pev⟩ := hP
    obtain ⟨v1, hv1, r1, rfl, hr1⟩ := pGet' pev ea
    obtain ⟨v2, hv2, r2, rfl, hr2⟩ := pGet' pev eb
    have la := (List.getElem?_eq_some_iff.mp ea).1
    have lb := (List.getElem?_eq_some_iff.mp eb).1
    have few := ok.few
    have mja : a ∈ ansJ L.events j := mem_ansJ.mpr ⟨x, g, ea⟩
    have mjb : b ∈ ansJ L.events j' := mem_ansJ.mpr ⟨x', g', eb⟩
    have evA := ok.evs _ (List.mem_of_getElem? ea)
    have hdis : ∀ {j1 : Str}, a ∈ ansJ L.events j1 → j1 = j := fun h => by
      obtain ⟨_, _, e⟩ := mem_ansJ.mp h
      rw [ea] at e
      cases e
      rfl
    refine ⟨_, rfl, t, _, _, _, rfl, rfl, SqT.of ht, rfl, _, rfl, er, _, _, _, rfl, rfl, SqL.of her, atI_nat hv1, _, rfl, t, _, _, _, rfl, rfl, SqT.of ht, rfl, _, rfl, er, _, _, _, rfl, rfl, SqL.of her, atI_nat hv2, _, _, rfl, ?_⟩
    refine ⟨_, rfl, r1, _, _, _, rfl, rfl, SqT.of hr1, rfl, _, rfl, r2, _, _, _, rfl, rfl, SqT.of hr2, rfl, rfl, _, rfl, ite2 (fun c => ?_) (fun c => ?_)⟩
    · have ne : j ≠ j' := fun e => by subst e; rw [decide_eq_true rfl] at c; cases c
      exact q false H (Same.refl _) ⟨(fun z => nomatch z), fun ⟨j1, d, _, h1, h2, _⟩ => by
        have e1 := hdis h1
        subst e1
        obtain ⟨_, _, e2⟩ := mem_ansJ.mp h2
        rw [eb] at e2
        cases e2
        exact absurd rfl ne⟩
    have ej : j' = j := by
      by_cases z : j = j'
      · exact z.symm
      · exact absurd (by rw [decide_eq_false fun e => z (V.str.inj e)]; rfl) c
    subst ej
    obtain ⟨⟨j0, d⟩, hjd, e0⟩ := List.mem_map.mp evA.1
    obtain rfl : j0 = j' := e0
    have dok := ok.drifts _ hjd
    have emin : (if (b : Int) < (a : Int) then (b : Int) else (a : Int)) = ((min a b : Nat) : Int) := by split <;> omega
    have emax : (if (b : Int) > (a : Int) then (b : Int) else (a : Int)) = ((max a b : Nat) : Int) := by split <;> omega
    refine ⟨_, rfl, _, rfl, _, _, rfl, _, rfl, _, rfl, _, _, rfl, _, _, rfl, ?_⟩
    rw [emin, emax]
    have en : (((max a b : Nat) : Int) - ((min a b : Nat) : Int)).toNat = max a b - min a b := by omega
    refine ⟨⟨by omega, by omega, by omega, by omega⟩, ?_⟩
    rw [en]
    have same_iff : SameStr L.events j0 a b ↔ ∀ r, min a b ≤ r → r < max a b → L.events[r]? ≠ some (.rst j0) := by
      constructor
      · intro h r h1 h2 e
        have := h r e
        omega
      · intro h r e
        have := fun h1 h2 => h r h1 h2 e
        constructor
        · intro h1
          by_cases z : r < b
          · exact z
          · exact absurd (this (by omega) (by omega)) (by simp)
        · intro h1
          by_cases z : r < a
          · exact z
          · exact absurd (this (by omega) (by omega)) (by simp)
    refine for_it (walk_range (lo := ((min a b : Nat) : Int)) (n := max a b - min a b)) (fun i σ H' => (∃ u5 u6, σ = [some (V.ref t), some (V.int (a : Int)), some (V.int (b : Int)), some (V.ref r1), some (V.ref r2), u5, u6]) ∧ Same H H' ∧ ∀ r, min a b ≤ r → r < min a b + i → L.events[r]? ≠ some (.rst j0))
      ⟨⟨_, _, rfl⟩, Same.refl _, fun r h1 h2 => absurd h1 (by omega)⟩ (fun _ _ _ _ _ => trivial) ?_ ?_
    · rintro i x0 σ H2 H3 hi ⟨⟨u5, u6, rfl⟩, s3, no⟩ hy
      obtain ⟨rfl, rfl⟩ := hy
      have hev : ∃ ev, L.events[min a b + i]? = some ev := ⟨_, List.getElem?_eq_getElem (by omega)⟩
      obtain ⟨ev, hev⟩ := hev
      obtain ⟨v3, hv3, rv3⟩ := pGet' pev hev
      refine ⟨_, rfl, t, _, _, _, rfl, rfl, SqT.of (s3 _ _ ht), rfl, _, rfl, er, _, ((min a b + i : Nat) : Int), _, rfl, rfl, SqL.of (s3 _ _ her), atI_nat hv3, _, rfl, r1, _, _, _, rfl, rfl, SqT.of (s3 _ _ hr1), rfl, (by show 2 ≤ sizeLine; decide), fun t2 nt2 => ?_⟩
      have s4 := sNew (o := .tup [.str "reset", .str j0]) nt2
      have s34 := s3.trans s4
      refine ⟨evD ev, evD (.rst j0), evD_dp (Mono.mono s34 rv3), evD_dp (e := .rst j0) ⟨t2, rfl, upd_same⟩, evD_shaped (ok.evNames (List.mem_of_getElem? hev)), evD_shaped (e := .rst j0) (ok.judges.ok _ evA.1), ?_⟩
      rw [evD_eqv]
      refine ⟨_, rfl, ite2 (fun c2 => ?_) (fun c2 => ?_)⟩
      · have e2 := of_decide_eq_true c2
        subst e2
        refine q false _ s34 ⟨(fun z => nomatch z), fun ⟨j1, d1, _, h1, _, h3, _⟩ => ?_⟩
        have e1 := hdis h1
        subst e1
        exact absurd hev (same_iff.mp h3 _ (Nat.le_add_right _ _) (by omega))
      · refine ⟨⟨_, _, rfl⟩, s34, fun r h1 h2 e => ?_⟩
        rcases Nat.lt_or_eq_of_le (show r ≤ min a b + i by omega) with h | h
        · exact no r h1 h e
        · subst h
          rw [hev] at e
          exact c2 (decide_eq_true (Option.some.inj e))
    · rintro σ H3 ⟨⟨u5, u6, rfl⟩, s3, no⟩
      have hs : SameStr L.events j0 a b := same_iff.mpr fun r h1 h2 => no r h1 (by omega)
      obtain ⟨ps, eps, pps⟩ := jkv_dp (K := K) (pMono s3 pjl)
      subst eps
      refine ⟨_, rfl, t, _, _, _, rfl, rfl, SqT.of (s3 _ _ ht), rfl, jl, ps, jkv L.judges, rfl, SqL.of (s3 _ _ hjl), pps, fun p np => ?_⟩
      have knd : ((jkv L.judges).map (·.1)).Nodup := by
        rw [jkv_keys]
        exact List.pairwise_map.mpr (List.Pairwise.imp (fun h e => h (Sum.inr.inj e)) ok.judges.nd)
      rw [merge_nd _ [] knd (fun _ _ m => nomatch m), List.nil_append]
      have s5 := sNew (o := .dK (jkv L.judges)) np
      have hval := jkv_val ok.judges.nd hjd
      have s35 := s3.trans s5
      refine ⟨_, rfl, r1, _, _, _, rfl, rfl, SqT.of (s35 _ _ hr1), rfl, p, _, rfl, dgetK (k := .inr j0) upd_same hval, ?_⟩
      have done : ∀ v, (v = true ↔ (d = "stays" ∨ (d = "rises" ∧ a ≤ b) ∨ (d = "falls" ∧ b ≤ a))) → Q (.bl v) (upd H3 p (.dK (jkv L.judges))) := fun v hv => by
        refine q v _ s35 (hv.trans ⟨fun h => ⟨j0, d, hjd, mja, mjb, hs, h⟩, fun ⟨j1, d1, h0, h1, _, _, h4⟩ => ?_⟩)
        have e1 := hdis h1
        subst e1
        have e2 := fst_uniq ok.judges.nd h0 hjd rfl
        cases e2
        exact h4
      have ds : ∀ z : Str, decide (V.str d = V.str z) = decide (d = z) := fun z => by by_cases e : d = z <;> simp [e]
      rcases dok with e | e | e
      · have e : d = "rises" := e
        subst e
        refine ⟨_, rfl, rfl, false, congrArg V.bl (decide_eq_false fun z => r13 (V.str.inj z)), iteF ⟨_, rfl, rfl, true, congrArg V.bl (decide_eq_true rfl), iteT ⟨_, rfl, _, rfl, _, _, rfl, rfl, _, rfl, ite2 (fun c2 => done true ⟨fun _ => .inr (.inl ⟨rfl, by have := of_decide_eq_true c2; omega⟩), fun _ => rfl⟩) (fun c2 => ?_)⟩⟩⟩
        refine ⟨_, rfl, rfl, false, congrArg V.bl (decide_eq_false fun z => r12 (V.str.inj z)), iteF (done false ⟨fun z => (nomatch z), fun h => ?_⟩)⟩
        rcases h with h | ⟨_, h⟩ | ⟨h, _⟩
        · exact absurd h r13
        · exact absurd (decide_eq_true (by omega)) c2
        · exact absurd h r12
      · have e : d = "falls" := e
        subst e
        refine ⟨_, rfl, rfl, false, congrArg V.bl (decide_eq_false fun z => r23 (V.str.inj z)), iteF ⟨_, rfl, rfl, false, congrArg V.bl (decide_eq_false fun z => r12 (V.str.inj z).symm), iteF ⟨false, rfl, iteF ⟨_, rfl, rfl, true, congrArg V.bl (decide_eq_true rfl), iteT ⟨_, rfl, _, rfl, _, _, rfl, rfl, done _ ⟨fun h => .inr (.inr ⟨rfl, by have := of_decide_eq_true h; omega⟩), fun h => ?_⟩⟩⟩⟩⟩⟩
        rcases h with h | ⟨h, _⟩ | ⟨_, h⟩
        · exact absurd h r23
        · exact absurd h.symm r12
        · exact decide_eq_true (by omega)
      · have e : d = "stays" := e
        subst e
        exact ⟨_, rfl, rfl, true, congrArg V.bl (decide_eq_true rfl), iteT (done true ⟨fun _ => .inl rfl, fun _ => rfl⟩)⟩
end
end Rb
namespace Rb
open PySem PySem.Spec PyProof.Rows L2
section
variable {α : Type} (W : α → α → Bool)
def rowG (x : α) (S : List α) : List (α × α) := (S.filter fun y => W x y).map fun y => (x, y)
def allG (xs S : List α) : List (α × α) := xs.flatMap fun x => rowG W x S
theorem rowG_snoc {x y : α} {S : List α} : rowG W x (S ++ [y]) = if W x y = true then rowG W x S ++ [(x, y)] else rowG W x S := by
  unfold rowG
  rw [List.filter_append, List.map_append]
  cases h : W x y <;> simp [h]
theorem allG_snoc {x : α} {xs S : List α} : allG W (xs ++ [x]) S = allG W xs S ++ rowG W x S := by
  unfold allG
  rw [List.flatMap_append]
  simp
theorem rowG_len {x : α} {S : List α} : (rowG W x S).length ≤ S.length := by
  unfold rowG
  rw [List.length_map]
  exact List.length_filter_le _ _
theorem allG_len {xs S : List α} : (allG W xs S).length ≤ xs.length * S.length := by
  unfold allG
  induction xs with
  | nil => simp
  | cons x xs ih =>
    rw [List.flatMap_cons, List.length_append, List.length_cons, Nat.add_mul]
    have := rowG_len W (x := x) (S := S)
    omega
theorem mem_allG {xs S : List α} {a b : α} : (a, b) ∈ allG W xs S ↔ a ∈ xs ∧ b ∈ S ∧ W a b = true := by
  unfold allG rowG
  simp only [List.mem_flatMap, List.mem_map, List.mem_filter, Prod.mk.injEq]
  constructor
  · rintro ⟨x, hx, y, ⟨hy, hw⟩, rfl, rfl⟩
    exact ⟨hx, hy, hw⟩
  · rintro ⟨ha, hb, hw⟩
    exact ⟨a, ha, b, ⟨hb, hw⟩, rfl, rfl⟩
end
open Classical in
noncomputable def lkW (L : LogD) : Nat → Nat → Bool := fun a b => decide (Lk L a b)
open Classical in
theorem lkW_iff {L : LogD} {a b : Nat} : lkW L a b = true ↔ Lk L a b := by
  unfold lkW
  exact decide_eq_true_iff
noncomputable def lawLinks (L : LogD) : List (Nat × Nat) := allG (lkW L) (ansP L.events) (ansP L.events)
theorem mem_lawLinks {L : LogD} {a b : Nat} : (a, b) ∈ lawLinks L ↔ Lk L a b := by
  unfold lawLinks
  rw [mem_allG, lkW_iff]
  exact ⟨fun h => h.2.2, fun h => ⟨h.ans.1, h.ans.2, h⟩⟩
section
variable {P : Program} {w : World} {K : Frg} {mg : Str → Option Value} {base : Heap}
def spLLinks : Sp := fun vs H Q _ => ∃ (t : Addr) (L : LogD), vs = [.ref t] ∧ PartsAt H t L ∧ LogOk L ∧ ∀ v H', Same H H' → rLst (rT2 rNat rNat) H' v (lawLinks L) → Q v H'
def LLk (t pl D : Addr) (HB : Hp) (a : Nat) (X : List (Nat × Nat)) (σ : L2.St) (H' : Hp) : Prop := (∃ u5, σ = [some (V.ref t), some (V.ref pl), none, some (V.ref D), some (V.int (a : Int)), u5]) ∧ MadeL (rT2 rNat rNat) HB D X H'
theorem ok_l_links (T : TX K mg) : OkF P w K mg base 2 (fA K "_law_links") ["_law_parts_here"] spLLinks := by
  refine okD T.D.d_l_links sc_l_links (fun vs H Q E h => ?_) (fun _ _ _ _ _ _ us hl => match us, hl with | [_], _ => rfl) (fun cdv A outer s H vs Q X hr h => ?_)
  · obtain ⟨t, L, rfl, _⟩ := h
    rfl
  · obtain ⟨t, L, rfl, hP, ok, q⟩ := h
    have nd := sc_l_links.nd
    have G := ok_l_in_order (P := P) (w := w) (base := base) T
    refine ⟨_, pss_cons (ps_setLc (i := 1) (own := [("_law_place", 2)]) (g := gName 2) rfl nd rfl rfl (sw_true rfl rfl rfl (by decide +kernel)) (pi_range1 rfl T.B.b_range (pa_cons (pe_callB (lenK K) rfl T.B.b_len boot_len (pa_cons (pe_ix (ixT K) (pv 0) pe_int (fun _ _ => rfl)) pa_nil)) pa_nil)) (blkOk_by (N := N_l_links) (sc := defScope s_l_links) (by decide +kernel))
        (fun _ _ _ _ _ => pg_name (i := 2) nd rfl (Or.inl rfl)) (fun _ _ _ _ _ => pts_one (pt_cmpR op_eq (pe_ix (ixT K) (pe_ix (ixL K) (pe_ix (ixT K) (pv 0) pe_int (fun _ _ => rfl)) (pv 2) (fun _ _ => rfl)) pe_int (fun _ _ => rfl)) pe_str (nomark _))) (fun _ _ _ _ _ => pv 2))
      (pss_cons (ps_set (i := 3) nd rfl (Or.inl rfl) (pe_lst pa_nil))
      (pss_cons (ps_for PassesOwn.never rfl (piL K (pv 1)) (pg_name (i := 4) nd rfl (Or.inl rfl))
        (pss_one (ps_for PassesOwn.never rfl (piL K (pv 1)) (pg_name (i := 5) nd rfl (Or.inl rfl))
          (pss_one (ps_if (PW.pt (pw_and (pt_cmpR op_lt (pe_ix (ixT K) (pe_ix (ixL K) (pe_ix (ixT K) (pv 0) pe_int (fun _ _ => rfl)) (pv 4) (fun _ _ => rfl)) pe_int (fun _ _ => rfl)) (pe_ix (ixT K) (pe_ix (ixL K) (pe_ix (ixT K) (pv 0) pe_int (fun _ _ => rfl)) (pv 5) (fun _ _ => rfl)) pe_int (fun _ _ => rfl)) (nomark _))
              (pw_and1 (pt_val (pcall G hr rfl T.G.g_l_in_order (pa_cons (pv 0) (pa_cons (pv 4) (pa_cons (pv 5) pa_nil))))))))
            (pss_one (ps_expr (pe_bm PySem.F.plainAttrs_list PySem.F.slot_list_append PySem.F.type_list_append mt_append (pv 3) (pa_cons (pe_tup (pa_cons (pv 4) (pa_cons (pv 5) pa_nil))) pa_nil)))) pss_nil)))))
      (pss_one (ps_ret (pv 3))))), ?_⟩
    have hP0 := hP
    obtain ⟨si, jl, er, jvs, evs, ht, hsi, hjl, pjl, her, pev⟩ := hP
    have le := pLen pev
    have few := ok.few
    refine ⟨_, rfl, t, _, _, _, rfl, rfl, SqT.of ht, rfl, er, _, rfl, .inl (SqL.of her), _, rfl, by omega, by omega, fun C hC => ?_⟩
    have e0 : ((evs.length : Int)).toNat = L.events.length := by omega
    rw [e0]
    refine lcP walk_nat rNat hC (Nat.lt_of_le_of_lt few (by decide)) (fun i => (L.events[i]?).bind fun e => if isAns e then some i else none) (fun _ _ => trivial) ?_ ?_
    · rintro i x H1 H2 KT KF hi e _ ⟨rfl, rfl⟩ kt kf
      obtain ⟨ev, hev⟩ : ∃ ev, L.events[i]? = some ev := ⟨_, List.getElem?_eq_getElem hi⟩
      obtain ⟨v, hv, rv⟩ := pGet' pev hev
      have sn : decide (V.str "reset" = V.str "answer") = false := by decide +kernel
      cases ev with
      | ans j x g =>
        obtain ⟨r, rfl, hr⟩ := rv
        exact ⟨rfl, _, rfl, t, _, _, _, rfl, rfl, SqT.of (e _ _ ht), rfl, _, rfl, er, _, (i : Int), _, rfl, rfl, SqL.of (e _ _ her), atI_nat hv, r, _, _, _, rfl, rfl, SqT.of (e _ _ hr), rfl, rfl, true, congrArg V.bl (decide_eq_true rfl), iteT ⟨_, rfl, kt _ _ i (by rw [hev]; rfl) (Same.refl _) rfl⟩⟩
      | rst j =>
        obtain ⟨r, rfl, hr⟩ := rv
        exact ⟨rfl, _, rfl, t, _, _, _, rfl, rfl, SqT.of (e _ _ ht), rfl, _, rfl, er, _, (i : Int), _, rfl, rfl, SqL.of (e _ _ her), atI_nat hv, r, _, _, _, rfl, rfl, SqT.of (e _ _ hr), rfl, rfl, false, congrArg V.bl sn, iteF (kf _ (by rw [hev]; rfl) (Same.refl _))⟩
    intro H1 m
    have s1 := m.same
    have hC1 : H1 C = some (.lst ((ansP L.events).map fun n : Nat => V.int (n : Int))) := m.nats
    have la : (ansP L.events).length ≤ 120 := Nat.le_trans (outs_len _ _) few
    have ll : ((ansP L.events).map fun n : Nat => V.int (n : Int)).length = (ansP L.events).length := List.length_map _
    refine ⟨by show 0 ≤ sizeLine; decide, fun D hD => ?_⟩
    have s2 := sNew (o := .lst []) hD
    refine ⟨_, rfl, C, rfl, ⟨_, SqL.of (s2 _ _ hC1)⟩, ?_⟩
    refine for_it (walk_list (K := K) (a := C) (xs := (ansP L.events).map fun n : Nat => V.int (n : Int))) (fun i σ H' => (∃ u4 u5, σ = [some (V.ref t), some (V.ref C), none, some (V.ref D), u4, u5]) ∧ MadeL (rT2 rNat rNat) H1 D (allG (lkW L) ((ansP L.events).take i) (ansP L.events)) H')
      ⟨⟨_, _, rfl⟩, ?_, [], upd_same, .nil⟩ (fun i σ H' _ z => SqL.of (z.2.same _ _ hC1)) ?_ ?_
    · rw [del_upd]
      exact sDelR (Same.refl _) hD
    · rintro i x σ H3 H4 hi ⟨⟨u4, u5, rfl⟩, mm⟩ ⟨rfl, hx⟩
      obtain ⟨a, ha, rfl⟩ := get_int hx
      refine ⟨_, rfl, C, rfl, ⟨_, SqL.of (mm.same _ _ hC1)⟩, ?_⟩
      refine for_it (walk_list (K := K) (a := C) (xs := (ansP L.events).map fun n : Nat => V.int (n : Int))) (fun k σ H' => LLk t C D H1 a (allG (lkW L) ((ansP L.events).take i) (ansP L.events) ++ rowG (lkW L) a ((ansP L.events).take k)) σ H')
        ⟨⟨_, rfl⟩, ?_⟩ (fun i σ H' _ z => SqL.of (z.2.same _ _ hC1)) ?_ ?_
      · rw [List.take_zero, show rowG (lkW L) a [] = [] from rfl, List.append_nil]
        exact mm
      · rintro k x σ H5 H6 hk ⟨⟨u5, rfl⟩, m6⟩ ⟨rfl, hx⟩
        obtain ⟨b, hb, rfl⟩ := get_int hx
        obtain ⟨ja, xa, ga, ea⟩ := mem_ansP.mp (List.mem_of_getElem? ha)
        obtain ⟨jb, xb, gb, eb⟩ := mem_ansP.mp (List.mem_of_getElem? hb)
        obtain ⟨va, hva, ra, rfl, hra⟩ := pGet' pev ea
        obtain ⟨vb, hvb, rb, rfl, hrb⟩ := pGet' pev eb
        have s6 := s1.trans m6.same
        have fin : ∀ H7, MadeL (rT2 rNat rNat) H1 D (if lkW L a b = true then (allG (lkW L) ((ansP L.events).take i) (ansP L.events) ++ rowG (lkW L) a ((ansP L.events).take k)) ++ [(a, b)] else (allG (lkW L) ((ansP L.events).take i) (ansP L.events) ++ rowG (lkW L) a ((ansP L.events).take k))) H7 →
            LLk t C D H1 a (allG (lkW L) ((ansP L.events).take i) (ansP L.events) ++ rowG (lkW L) a ((ansP L.events).take (k + 1))) [some (V.ref t), some (V.ref C), none, some (V.ref D), some (V.int (a : Int)), some (V.int (b : Int))] H7 := fun H7 h7 => by
          refine ⟨⟨_, rfl⟩, ?_⟩
          rw [take_succ_get hb, rowG_snoc]
          cases z : lkW L a b with
          | true => rw [z, if_pos rfl] at h7; rw [if_pos rfl, ← List.append_assoc]; exact h7
          | false => rw [z, if_neg Bool.false_ne_true] at h7; rw [if_neg Bool.false_ne_true]; exact h7
        have no : ¬ Lk L a b → lkW L a b = false := fun h => by
          cases z : lkW L a b with
          | false => rfl
          | true => exact absurd (lkW_iff.mp z) h
        have ega := gAt_eq ea
        have egb := gAt_eq eb
        refine ⟨_, rfl, t, _, _, _, rfl, rfl, SqT.of (s6 _ _ ht), rfl, _, rfl, er, _, (a : Int), _, rfl, rfl, SqL.of (s6 _ _ her), atI_nat hva, ra, _, _, _, rfl, rfl, SqT.of (s6 _ _ hra), rfl, _, rfl, t, _, _, _, rfl, rfl, SqT.of (s6 _ _ ht), rfl, _, rfl, er, _, (b : Int), _, rfl, rfl, SqL.of (s6 _ _ her), atI_nat hvb, rb, _, _, _, rfl, rfl, SqT.of (s6 _ _ hrb), rfl, _, _, rfl, rfl, _, rfl, ite2 (fun c => ?_) (fun c => iteF (fin _ ?_))⟩
        · have lt : ga < gb := Int.ofNat_lt.mp (of_decide_eq_true c)
          refine ⟨_, rfl, _, rfl, _, rfl, t, L, a, b, ja, xa, jb, xb, ga, gb, rfl, hP0.mono s6, ok, ea, eb, fun v H7 s7 hv => ⟨v, rfl, ite2 (fun c2 => ?_) (fun c2 => fin _ ?_)⟩⟩
          · have lk : lkW L a b = true := lkW_iff.mpr ((Lk_iff ok).mpr ⟨hv.mp c2, by rw [ega, egb]; exact lt⟩)
            rw [lk, if_pos rfl] at fin
            obtain ⟨n1, ws, hD6, rs⟩ := id m6
            have hD7 := s7 _ _ hD6
            refine ⟨_, rfl, .inl ⟨rfl, _, SqL.of hD7⟩, _, rfl, _, rfl, (by show 2 ≤ sizeLine; decide), fun t2 nt2 => ?_⟩
            have s8 := sNew (o := .tup [.int (a : Int), .int (b : Int)]) nt2
            have t2D : t2 ≠ D := (ne_of_none hD7 nt2).symm
            refine ⟨D, ws, _, rfl, rfl, s8 _ _ hD7, ?_, fin _ ⟨?_, _, upd_same, ?_⟩⟩
            · rw [pLen rs, List.length_append]
              have l1 := allG_len (lkW L) (xs := (ansP L.events).take i) (S := ansP L.events)
              have l2 := rowG_len (lkW L) (x := a) (S := (ansP L.events).take k)
              have l3 : ((ansP L.events).take i).length ≤ 120 := Nat.le_trans (List.length_take_le' _ _) la
              have l4 : ((ansP L.events).take k).length ≤ 120 := Nat.le_trans (List.length_take_le' _ _) la
              have l5 := Nat.mul_le_mul l3 la
              exact Nat.lt_of_le_of_lt (show _ ≤ 120 * 120 + 120 by omega) (by decide)
            · rw [del_upd]
              exact n1.trans (sDel (s7.trans s8))
            · rw [del_upd]
              exact pSnoc (pMono (sDel (s7.trans s8)) rs) ⟨t2, _, _, rfl, by rw [del_ne t2D]; exact upd_same, rfl, rfl⟩
          · rw [no fun h => c2 (hv.mpr ((Lk_iff ok).mp h).1), if_neg Bool.false_ne_true]
            obtain ⟨n1, ws, hD6, rs⟩ := m6
            exact ⟨n1.trans (sDel s7), ws, s7 _ _ hD6, pMono (sDel s7) rs⟩
        · rw [no fun h => c (decide_eq_true (by have := ((Lk_iff ok).mp h).2; rw [ega, egb] at this; exact Int.ofNat_lt.mpr this)), if_neg Bool.false_ne_true]
          exact m6
      · rintro σ H5 ⟨⟨u5, rfl⟩, m5⟩
        refine ⟨⟨_, _, rfl⟩, ?_⟩
        rw [take_succ_get ha, allG_snoc]
        rw [ll, List.take_length] at m5
        exact m5
    · rintro σ H3 ⟨⟨u4, u5, rfl⟩, mm⟩
      rw [ll, List.take_length] at mm
      exact ⟨_, rfl, q _ _ (s1.trans mm.same) mm.rep⟩
end
end Rb
namespace Rb
open PySem PySem.Spec PyProof.Rows L2
/-- part of a turn: the first ends of a row -/
def inR (m x : Str) (S : List Str) (R : Rl) : Rl := fun a b => (decide (a = x) && R x m && decide (b ∈ S) && R m b) || R a b
theorem inR_nil {m x : Str} {R : Rl} : inR m x [] R = R := by
  funext a b
  unfold inR
  rw [decide_eq_false (show b ∉ ([] : List Str) from fun z => nomatch z), Bool.and_false, Bool.false_and, Bool.false_or]
theorem inR_full {m x : Str} {S : List Str} {R : Rl} {a b : Str} (hb : b ∈ S) : inR m x S R a b = stepR m x R a b := by
  unfold inR stepR
  rw [decide_eq_true hb, Bool.and_true]
  by_cases h1 : a = x
  · subst h1
    cases h2 : R a m with
    | true => rw [if_pos ⟨rfl, rfl⟩, decide_eq_true rfl]; cases R m b <;> cases R a b <;> rfl
    | false => rw [if_neg (fun z => Bool.false_ne_true z.2), Bool.and_false, Bool.false_and, Bool.false_or]
  · rw [if_neg fun z => h1 z.1, decide_eq_false h1]
    rfl
theorem inR_low {m x : Str} {S : List Str} {R : Rl} : inR m x S R x m = R x m := by
  unfold inR
  cases h : R x m <;> simp
theorem inR_mid {m x b : Str} {S : List Str} {R : Rl} : inR m x S R m b = R m b := by
  unfold inR
  cases h : R m b <;> simp
theorem inR_put {m x c : Str} {S : List Str} {R : Rl} (h1 : R x m = true) (h2 : R m c = true) {a b : Str} : inR m x (S ++ [c]) R a b = true ↔ (a = x ∧ b = c) ∨ inR m x S R a b = true := by
  unfold inR
  simp only [Bool.or_eq_true, Bool.and_eq_true, decide_eq_true_eq, List.mem_append, List.mem_singleton]
  constructor
  · rintro (⟨⟨⟨e1, e2⟩, e3 | e3⟩, e4⟩ | h)
    · exact .inr (.inl ⟨⟨⟨e1, e2⟩, e3⟩, e4⟩)
    · exact .inl ⟨e1, e3⟩
    · exact .inr (.inr h)
  · rintro (⟨rfl, rfl⟩ | ⟨⟨⟨e1, e2⟩, e3⟩, e4⟩ | h)
    · exact .inl ⟨⟨⟨rfl, h1⟩, .inr rfl⟩, h2⟩
    · exact .inl ⟨⟨⟨e1, e2⟩, .inl e3⟩, e4⟩
    · exact .inr h
theorem inR_skip {m x c : Str} {S : List Str} {R : Rl} (h : ¬ (R x m = true ∧ R m c = true)) {a b : Str} : inR m x (S ++ [c]) R a b = inR m x S R a b := by
  rw [Bool.eq_iff_iff]
  unfold inR
  simp only [Bool.or_eq_true, Bool.and_eq_true, decide_eq_true_eq, List.mem_append, List.mem_singleton]
  constructor
  · rintro (⟨⟨⟨e1, e2⟩, e3 | e3⟩, e4⟩ | z)
    · exact .inl ⟨⟨⟨e1, e2⟩, e3⟩, e4⟩
    · subst e3; exact absurd ⟨e2, e4⟩ h
    · exact .inr z
  · rintro (⟨⟨⟨e1, e2⟩, e3⟩, e4⟩ | z)
    · exact .inl ⟨⟨⟨e1, e2⟩, .inl e3⟩, e4⟩
    · exact .inr z
/-- a dict tells a relation of items -/
def Agr (items : List Str) (kd : List (List Key × V)) (R : Rl) : Prop := ∀ x ∈ items, ∀ y ∈ items, relT kd x y = R x y
section
variable {P : Program} {w : World} {K : Frg} {mg : Str → Option Value} {base : Heap}
def spLPairs : Sp := fun vs H Q _ => ∃ (t : Addr) (L : LogD), vs = [.ref t] ∧ PartsAt H t L ∧ LogOk L ∧ ∀ v H', Same H H' → newL (rT2 rStr rStr) H H' v (prs L.items (WR L)) → Q v H'
theorem ok_l_pairs (T : TX K mg) : OkF P w K mg base 3 (fA K "_law_pairs") ["_law_parts_here"] spLPairs := by
  refine okD T.D.d_l_pairs sc_l_pairs (fun vs H Q E h => ?_) (fun _ _ _ _ _ _ us hl => match us, hl with | [_], _ => rfl) (fun cdv A outer s H vs Q X hr h => ?_)
  · obtain ⟨t, L, rfl, _⟩ := h
    rfl
  · obtain ⟨t, L, rfl, hP, ok, q⟩ := h
    have nd := sc_l_pairs.nd
    have hu := hu_of hr
    have G := ok_l_links (P := P) (w := w) (base := base) T
    refine ⟨_, pss_cons (ps_set (i := 1) nd rfl (Or.inl rfl) (pe_ix (ixT K) (pv 0) pe_int (fun _ _ => rfl)))
      (pss_cons (ps_set (i := 2) nd rfl (Or.inl rfl) pe_dnewT)
      (pss_cons (ps_for PassesOwn.never rfl (piL K (pcall G hr rfl T.G.g_l_links (pa_cons (pv 0) pa_nil))) (pgT K (n := 2) (pgs_cons (pg_name (i := 3) nd rfl (Or.inl rfl)) (pgs_cons (pg_name (i := 4) nd rfl (Or.inl rfl)) pgs_nil)))
        (pss_one (ps_dput hu (pv 2) (pe_tup (pa_cons (pe_ix (ixT K) (pe_ix (ixL K) (pe_ix (ixT K) (pv 0) pe_int (fun _ _ => rfl)) (pv 3) (fun _ _ => rfl)) pe_int (fun _ _ => rfl)) (pa_cons (pe_ix (ixT K) (pe_ix (ixL K) (pe_ix (ixT K) (pv 0) pe_int (fun _ _ => rfl)) (pv 4) (fun _ _ => rfl)) pe_int (fun _ _ => rfl)) pa_nil))) pe_bl rfl)))
      (pss_cons (ps_for PassesOwn.never rfl (piL K (pv 1)) (pg_name (i := 5) nd rfl (Or.inl rfl))
        (pss_one (ps_for PassesOwn.never rfl (piL K (pv 1)) (pg_name (i := 6) nd rfl (Or.inl rfl))
          (pss_one (ps_for PassesOwn.never rfl (piL K (pv 1)) (pg_name (i := 7) nd rfl (Or.inl rfl))
            (pss_one (ps_if (PW.pt (pw_and (pt_cmp (pc_din hu (pe_tup (pa_cons (pv 6) (pa_cons (pv 5) pa_nil))) (pv 2)) (by with_unfolding_all rfl)) (pw_and1 (pt_cmp (pc_din hu (pe_tup (pa_cons (pv 5) (pa_cons (pv 7) pa_nil))) (pv 2)) (by with_unfolding_all rfl)))))
              (pss_one (ps_dput hu (pv 2) (pe_tup (pa_cons (pv 6) (pa_cons (pv 7) pa_nil))) pe_bl rfl)) pss_nil)))))))
      (pss_cons (ps_set (i := 8) nd rfl (Or.inl rfl) (pe_lst pa_nil))
      (pss_cons (ps_for PassesOwn.never rfl (piL K (pv 1)) (pg_name (i := 6) nd rfl (Or.inl rfl))
        (pss_one (ps_for PassesOwn.never rfl (piL K (pv 1)) (pg_name (i := 7) nd rfl (Or.inl rfl))
          (pss_one (ps_if (pt_cmp (pc_din hu (pe_tup (pa_cons (pv 6) (pa_cons (pv 7) pa_nil))) (pv 2)) (by with_unfolding_all rfl))
            (pss_one (ps_expr (pe_bm PySem.F.plainAttrs_list PySem.F.slot_list_append PySem.F.type_list_append mt_append (pv 8) (pa_cons (pe_tup (pa_cons (pv 6) (pa_cons (pv 7) pa_nil))) pa_nil)))) pss_nil)))))
      (pss_one (ps_ret (pv 8)))))))), ?_⟩
    have hP0 := hP
    obtain ⟨si, jl, er, jvs, evs, ht, hsi, hjl, pjl, her, pev⟩ := hP
    have few := ok.items.le
    have li : (L.items.map V.str).length = L.items.length := List.length_map _
    refine ⟨_, rfl, t, _, _, _, rfl, rfl, SqT.of ht, rfl, fun D hD => ?_⟩
    have s1 := sNew (o := .dT []) hD
    refine ⟨_, rfl, t, L, rfl, hP0.mono s1, ok, fun v H3 s3 hv => ?_⟩
    obtain ⟨pl, pvs, rfl, hpl, ppl⟩ := hv
    have hlen := pLen ppl
    have s13 := s1.trans s3
    have hD3 := s3 _ _ upd_same
    have sB : Same H (del H3 D) := sDelR s13 hD
    have plD : pl ≠ D := by rintro rfl; rw [hD3] at hpl; cases hpl
    have hplB : del H3 D pl = some (.lst pvs) := by rw [del_ne plD]; exact hpl
    have tB : ∀ t xs, H3 t = some (.tup xs) → del H3 D t = some (.tup xs) := fun t xs ht => by
      rw [del_ne fun e => ?_]
      · exact ht
      · subst e; rw [hD3] at ht; cases ht
    have l144 : pvs.length ≤ 14400 := by
      rw [hlen]
      have l1 := allG_len (lkW L) (xs := ansP L.events) (S := ansP L.events)
      have l2 : (ansP L.events).length ≤ 120 := Nat.le_trans (outs_len _ _) ok.few
      exact Nat.le_trans l1 (Nat.mul_le_mul l2 l2)
    refine ⟨pl, rfl, ⟨_, SqL.of hpl⟩, ?_⟩
    refine for_it (walk_list (K := K) (a := pl) (xs := pvs)) (fun i σ H' => (∃ u3 u4, σ = [some (V.ref t), some (V.ref si), some (V.ref D), u3, u4, none, none, none, none]) ∧ Same (del H3 D) H' ∧ ∃ kd, H' D = some (.dT kd) ∧ kd.length ≤ i ∧ ∀ x y, relT kd x y = true ↔ ∃ n a b, n < i ∧ (lawLinks L)[n]? = some (a, b) ∧ x = iAt L.events a ∧ y = iAt L.events b)
      ⟨⟨_, _, rfl⟩, del_le, [], hD3, Nat.le_refl _, fun x y => ⟨fun h => (nomatch h), fun ⟨n, _, _, h, _⟩ => absurd h (Nat.not_lt_zero _)⟩⟩ (fun i σ H' _ z => SqL.of (z.2.1 _ _ hplB)) ?_ ?_
    · rintro i x σ H4 H5 hi ⟨⟨u3, u4, rfl⟩, s5, kd, hD5, lk, rel⟩ ⟨rfl, hx⟩
      obtain ⟨⟨a, b⟩, hab, t1, y1, y2, rfl, ht1, rfl, rfl⟩ := pGet ppl hx
      have lnk := mem_lawLinks.mp (List.mem_of_getElem? hab)
      obtain ⟨ja, xa, ga, ea⟩ := mem_ansP.mp lnk.ans.1
      obtain ⟨jb, xb, gb, eb⟩ := mem_ansP.mp lnk.ans.2
      obtain ⟨va, hva, ra, rfl, hra⟩ := pGet' pev ea
      obtain ⟨vb, hvb, rb, rfl, hrb⟩ := pGet' pev eb
      have s6 := sB.trans s5
      refine ⟨t1, _, rfl, SqT.of (s5 _ _ (tB _ _ ht1)), rfl, _, _, rfl, _, _, rfl, rfl, ?_⟩
      refine ⟨_, rfl, _, rfl, t, _, _, _, rfl, rfl, SqT.of (s6 _ _ ht), rfl, _, rfl, er, _, (a : Int), _, rfl, rfl, SqL.of (s6 _ _ her), atI_nat hva, ra, _, _, _, rfl, rfl, SqT.of (s6 _ _ hra), rfl, _, rfl, t, _, _, _, rfl, rfl, SqT.of (s6 _ _ ht), rfl, _, rfl, er, _, (b : Int), _, rfl, rfl, SqL.of (s6 _ _ her), atI_nat hvb, rb, _, _, _, rfl, rfl, SqT.of (s6 _ _ hrb), rfl, (by show 2 ≤ sizeLine; decide), fun t3 nt3 => ?_⟩
      have s7 := sNew (o := .tup [.str xa, .str xb]) nt3
      refine ⟨D, _, rfl, DPut.t (k := [.inr xa, .inr xb]) (s7 _ _ hD5) upd_same (Nat.lt_of_le_of_lt lk (Nat.lt_of_lt_of_le hi (Nat.le_trans l144 (by decide)))), ⟨_, _, rfl⟩, sMut (s5.trans s7) del_same, _, upd_same, ?_, fun x y => ?_⟩
      · have := length_putK kd [.inr xa, .inr xb] (.bl true)
        omega
      · rw [relT_put]
        constructor
        · rintro (⟨rfl, rfl⟩ | h)
          · exact ⟨i, a, b, Nat.lt_succ_self _, hab, (iAt_eq ea).symm, (iAt_eq eb).symm⟩
          · obtain ⟨n, a', b', h1, h2⟩ := (rel x y).mp h
            exact ⟨n, a', b', Nat.lt_succ_of_lt h1, h2⟩
        · rintro ⟨n, a', b', h1, h2, h3, h4⟩
          rcases Nat.lt_succ_iff_lt_or_eq.mp h1 with h1 | rfl
          · exact .inr ((rel x y).mpr ⟨n, a', b', h1, h2, h3, h4⟩)
          · rw [hab] at h2
            cases h2
            exact .inl ⟨h3.trans (iAt_eq ea), h4.trans (iAt_eq eb)⟩
    rintro σ H4 ⟨⟨u3, u4, rfl⟩, s4, kd, hD4, lk, rel⟩
    have eR : Agr L.items kd (LR L) := fun x _ y _ => by
      rw [Bool.eq_iff_iff, rel, LR_iff]
      constructor
      · rintro ⟨n, a, b, _, h, h1, h2⟩
        exact ⟨a, b, mem_lawLinks.mp (List.mem_of_getElem? h), h1, h2⟩
      · rintro ⟨a, b, h, h1, h2⟩
        obtain ⟨n, hn⟩ := List.mem_iff_getElem?.mp (mem_lawLinks.mpr h)
        exact ⟨n, a, b, by rw [hlen]; exact (List.getElem?_eq_some_iff.mp hn).1, hn, h1, h2⟩
    have hsiB := sB _ _ hsi
    have lk0 : kd.length ≤ 14400 := Nat.le_trans lk l144
    clear rel lk
    refine ⟨_, rfl, si, rfl, ⟨_, SqL.of (s4 _ _ hsiB)⟩, ?_⟩
    refine for_it (walk_list (K := K) (a := si) (xs := L.items.map V.str)) (fun i σ H' => (∃ u3 u4 u5 u6 u7, σ = [some (V.ref t), some (V.ref si), some (V.ref D), u3, u4, u5, u6, u7, none]) ∧ Same (del H3 D) H' ∧ ∃ kd, H' D = some (.dT kd) ∧ kd.length ≤ 14400 + i * 400 ∧ Agr L.items kd (wars (L.items.take i) L.items (LR L)))
      ⟨⟨_, _, _, _, _, rfl⟩, s4, kd, hD4, lk0, eR⟩ (fun i σ H' _ z => SqL.of (z.2.1 _ _ hsiB)) ?_ ?_
    · rintro i x σ H5 H6 hi ⟨⟨u3, u4, u5, u6, u7, rfl⟩, s6, kd, hD6, lk6, ag⟩ ⟨rfl, hx⟩
      obtain ⟨mid, hmi, rfl⟩ := get_str hx
      have hmid := List.mem_of_getElem? hmi
      refine ⟨_, rfl, si, rfl, ⟨_, SqL.of (s6 _ _ hsiB)⟩, ?_⟩
      refine for_it (walk_list (K := K) (a := si) (xs := L.items.map V.str)) (fun k σ H' => (∃ u3 u4 u6 u7, σ = [some (V.ref t), some (V.ref si), some (V.ref D), u3, u4, some (V.str mid), u6, u7, none]) ∧ Same (del H3 D) H' ∧ ∃ kd, H' D = some (.dT kd) ∧ kd.length ≤ 14400 + i * 400 + k * 20 ∧ Agr L.items kd (turnR (L.items.take k) mid (wars (L.items.take i) L.items (LR L))))
        ⟨⟨_, _, _, _, rfl⟩, s6, kd, hD6, lk6, ag⟩ (fun i σ H' _ z => SqL.of (z.2.1 _ _ hsiB)) ?_ ?_
      · rintro k x σ H7 H8 hk ⟨⟨u3, u4, u6, u7, rfl⟩, s8, kd, hD8, lk8, ag⟩ ⟨rfl, hx⟩
        obtain ⟨low, hli, rfl⟩ := get_str hx
        have hlow := List.mem_of_getElem? hli
        have eR : turnR (L.items.take (k + 1)) mid (wars (L.items.take i) L.items (LR L)) = stepR mid low (turnR (L.items.take k) mid (wars (L.items.take i) L.items (LR L))) := by rw [take_succ_get hli, turnR_snoc]
        generalize turnR (L.items.take k) mid (wars (L.items.take i) L.items (LR L)) = R at ag eR
        refine ⟨_, rfl, si, rfl, ⟨_, SqL.of (s8 _ _ hsiB)⟩, ?_⟩
        refine for_it (walk_list (K := K) (a := si) (xs := L.items.map V.str)) (fun n σ H' => (∃ u3 u4 u7, σ = [some (V.ref t), some (V.ref si), some (V.ref D), u3, u4, some (V.str mid), some (V.str low), u7, none]) ∧ Same (del H3 D) H' ∧ ∃ kd, H' D = some (.dT kd) ∧ kd.length ≤ 14400 + i * 400 + k * 20 + n ∧ Agr L.items kd (inR mid low (L.items.take n) R))
          ⟨⟨_, _, _, rfl⟩, s8, kd, hD8, lk8, by rw [List.take_zero, inR_nil]; exact ag⟩ (fun i σ H' _ z => SqL.of (z.2.1 _ _ hsiB)) ?_ ?_
        · rintro n x σ H9 Ha hn ⟨⟨u3, u4, u7, rfl⟩, sa, kd, hDa, lka, ag⟩ ⟨rfl, hx⟩
          obtain ⟨hgh, hhi, rfl⟩ := get_str hx
          have hhigh := List.mem_of_getElem? hhi
          refine ⟨_, rfl, _, rfl, (by show 2 ≤ sizeLine; decide), fun t1 nt1 => ?_⟩
          have st1 := sNew (o := .tup [.str low, .str mid]) nt1
          have e1 : relT kd low mid = R low mid := (ag low hlow mid hmid).trans inR_low
          have e2 : relT kd mid hgh = R mid hgh := (ag mid hmid hgh hhigh).trans inR_mid
          refine ⟨_, rfl, D, _, rfl, DGet.t (k := [.inr low, .inr mid]) (st1 _ _ hDa) upd_same, _, rfl, ite2 (fun c1 => ?_) (fun c1 => iteF ⟨⟨_, _, _, rfl⟩, sa.trans st1, kd, st1 _ _ hDa, by omega, ?_⟩)⟩
          · have c1' : R low mid = true := e1.symm.trans c1
            refine ⟨_, rfl, _, rfl, (by show 2 ≤ sizeLine; decide), fun t2 nt2 => ?_⟩
            have st2 := sNew (o := .tup [.str mid, .str hgh]) nt2
            have s12 := st1.trans st2
            refine ⟨_, rfl, D, _, rfl, DGet.t (k := [.inr mid, .inr hgh]) (s12 _ _ hDa) upd_same, _, rfl, ite2 (fun c2 => ?_) (fun c2 => ⟨⟨_, _, _, rfl⟩, sa.trans s12, kd, s12 _ _ hDa, by omega, ?_⟩)⟩
            · have c2' : R mid hgh = true := e2.symm.trans c2
              refine ⟨_, rfl, _, rfl, _, rfl, (by show 2 ≤ sizeLine; decide), fun t3 nt3 => ?_⟩
              have st3 := sNew (o := .tup [.str low, .str hgh]) nt3
              have s123 := s12.trans st3
              have i20 : i < 20 := by rw [li] at hi; omega
              have k20 : k < 20 := by rw [li] at hk; omega
              have n20 : n < 20 := by rw [li] at hn; omega
              refine ⟨D, _, rfl, DPut.t (k := [.inr low, .inr hgh]) (s123 _ _ hDa) upd_same (Nat.lt_of_le_of_lt (show kd.length ≤ 22820 by omega) (by decide)), ⟨_, _, _, rfl⟩, sMut (sa.trans s123) del_same, _, upd_same, ?_, fun x hx y hy => ?_⟩
              · have := length_putK kd [.inr low, .inr hgh] (.bl true)
                omega
              · rw [Bool.eq_iff_iff, relT_put, take_succ_get hhi, inR_put c1' c2', ag x hx y hy]
            · intro x hx y hy
              rw [take_succ_get hhi, inR_skip (fun z => c2 (e2.trans z.2))]
              exact ag x hx y hy
          · intro x hx y hy
            rw [take_succ_get hhi, inR_skip (fun z => c1 (e1.trans z.1))]
            exact ag x hx y hy
        · rintro σ H9 ⟨⟨u3, u4, u7, rfl⟩, sa, kd, hDa, lka, ag⟩
          rw [li, List.take_length] at ag
          rw [li] at lka
          refine ⟨⟨_, _, _, _, rfl⟩, sa, kd, hDa, by omega, fun x hx y hy => ?_⟩
          rw [eR, ag x hx y hy, inR_full hy]
      · rintro σ H7 ⟨⟨u3, u4, u6, u7, rfl⟩, sa, kd, hDa, lka, ag⟩
        rw [li, List.take_length] at ag
        rw [li] at lka
        refine ⟨⟨_, _, _, _, _, rfl⟩, sa, kd, hDa, by omega, ?_⟩
        rw [take_succ_get hmi, wars_snoc]
        exact ag
    · rintro σ H5 ⟨⟨u3, u4, u5, u6, u7, rfl⟩, s5, kd, hD5, lk5, ag⟩
      rw [li, List.take_length] at ag
      have ag : Agr L.items kd (WR L) := ag
      have s05 := sB.trans s5
      refine ⟨by show 0 ≤ sizeLine; decide, fun E hE => ?_⟩
      have s6 := sNew (o := .lst []) hE
      refine ⟨_, rfl, si, rfl, ⟨_, SqL.of (s6 _ _ (s5 _ _ hsiB))⟩, ?_⟩
      have hsi5 := s5 _ _ hsiB
      refine for_it (walk_list (K := K) (a := si) (xs := L.items.map V.str)) (fun i σ H' => (∃ u3 u4 u5 u6 u7, σ = [some (V.ref t), some (V.ref si), some (V.ref D), u3, u4, u5, u6, u7, some (V.ref E)]) ∧ MadeL (rT2 rStr rStr) H5 E ((L.items.take i).flatMap fun x => prRow L.items (WR L) x L.items) H')
        ⟨⟨_, _, _, _, _, rfl⟩, ?_, [], upd_same, .nil⟩ (fun i σ H' _ z => SqL.of (z.2.same _ _ hsi5)) ?_ ?_
      · rw [del_upd]
        exact sDelR (Same.refl _) hE
      · rintro i x σ H6 H7 hi ⟨⟨u3, u4, u5, u6, u7, rfl⟩, mm⟩ ⟨rfl, hx⟩
        obtain ⟨low, hli, rfl⟩ := get_str hx
        have hlow := List.mem_of_getElem? hli
        refine ⟨_, rfl, si, rfl, ⟨_, SqL.of (mm.same _ _ hsi5)⟩, ?_⟩
        refine for_it (walk_list (K := K) (a := si) (xs := L.items.map V.str)) (fun k σ H' => (∃ u3 u4 u5 u7, σ = [some (V.ref t), some (V.ref si), some (V.ref D), u3, u4, u5, some (V.str low), u7, some (V.ref E)]) ∧ MadeL (rT2 rStr rStr) H5 E (((L.items.take i).flatMap fun x => prRow L.items (WR L) x L.items) ++ prRow L.items (WR L) low (L.items.take k)) H')
          ⟨⟨_, _, _, _, rfl⟩, ?_⟩ (fun i σ H' _ z => SqL.of (z.2.same _ _ hsi5)) ?_ ?_
        · rw [List.take_zero, show prRow L.items (WR L) low [] = [] from rfl, List.append_nil]
          exact mm
        · rintro k x σ H8 H9 hk ⟨⟨u3, u4, u5, u7, rfl⟩, m9⟩ ⟨rfl, hx⟩
          obtain ⟨hgh, hhi, rfl⟩ := get_str hx
          have hhigh := List.mem_of_getElem? hhi
          have hD9 := m9.same _ _ hD5
          obtain ⟨n1, ws, hE9, rs⟩ := id m9
          refine ⟨_, rfl, _, rfl, (by show 2 ≤ sizeLine; decide), fun t1 nt1 => ?_⟩
          have st1 := sNew (o := .tup [.str low, .str hgh]) nt1
          have e1 : relT kd low hgh = WR L low hgh := ag low hlow hgh hhigh
          refine ⟨_, rfl, D, _, rfl, DGet.t (k := [.inr low, .inr hgh]) (st1 _ _ hD9) upd_same, _, rfl, ite2 (fun c => ?_) (fun c => ⟨⟨_, _, _, _, rfl⟩, ?_⟩)⟩
          · have c' : WR L low hgh = true := e1.symm.trans c
            have hE1 := st1 _ _ hE9
            refine ⟨_, rfl, .inl ⟨rfl, _, SqL.of hE1⟩, _, rfl, _, rfl, (by show 2 ≤ sizeLine; decide), fun t2 nt2 => ?_⟩
            have st2 := sNew (o := .tup [.str low, .str hgh]) nt2
            have t2E : t2 ≠ E := (ne_of_none hE1 nt2).symm
            refine ⟨E, ws, _, rfl, rfl, st2 _ _ hE1, ?_, ⟨_, _, _, _, rfl⟩, ?_, _, upd_same, ?_⟩
            · rw [pLen rs, List.length_append]
              have l1 := prs_len (items := L.items) (xs := L.items.take i) (W := WR L)
              have l2 := prRow_len (items := L.items) (W := WR L) (x := low) (S := L.items.take k)
              have l3 : (L.items.take i).length ≤ 20 := Nat.le_trans (List.length_take_le' _ _) few
              have l4 : (L.items.take k).length ≤ 20 := Nat.le_trans (List.length_take_le' _ _) few
              have l5 := Nat.mul_le_mul l3 few
              exact Nat.lt_of_le_of_lt (show _ ≤ 420 by omega) (by decide)
            · rw [del_upd]
              exact n1.trans (sDel (st1.trans st2))
            · rw [del_upd, take_succ_get hhi, prRow_snoc, if_pos c', ← List.append_assoc]
              exact pSnoc (pMono (sDel (st1.trans st2)) rs) ⟨t2, _, _, rfl, by rw [del_ne t2E]; exact upd_same, rfl, rfl⟩
          · rw [take_succ_get hhi, prRow_snoc, if_neg fun z => c (e1.trans z)]
            exact ⟨n1.trans (sDel st1), ws, st1 _ _ hE9, pMono (sDel st1) rs⟩
        · rintro σ H8 ⟨⟨u3, u4, u5, u7, rfl⟩, m8⟩
          refine ⟨⟨_, _, _, _, _, rfl⟩, ?_⟩
          rw [li, List.take_length] at m8
          rw [take_succ_get hli, prs_snoc]
          exact m8
      · rintro σ H6 ⟨⟨u3, u4, u5, u6, u7, rfl⟩, mm⟩
        rw [li, List.take_length] at mm
        exact ⟨_, rfl, q _ _ (s05.trans mm.same) (mm.new s05 hE)⟩
end
end Rb
namespace Rb
open PySem PySem.Spec PyProof.Rows L2
theorem sayN_iff {bs : List Int} {q b : Int} {k : Nat} (up : Up bs) (h : bs[k]? = some b) : b ≤ q ↔ k + 1 ≤ sayN bs q := by
  have e : sayN bs q = bs.countP fun y => decide (y ≤ q) := List.countP_eq_length_filter.symm
  rw [e]
  constructor
  · intro le
    exact cnt_ge (fun i a hi ha => decide_eq_true (Int.le_trans (up.get ha h (Nat.lt_succ_iff.mp hi)) le)) (List.getElem?_eq_some_iff.mp h).1
  · intro le
    by_cases z : b ≤ q
    · exact z
    · have := cnt_le (xs := bs) (f := fun y => decide (y ≤ q)) (n := k) (fun i a hi ha => decide_eq_false (Int.not_le.mpr (Int.lt_of_lt_of_le (Int.not_le.mp z) (up.get h ha hi))))
      omega
/-- bars that explain the answers -/
structure TOK (L : LogD) (f : Str → Int) (told : List (Nat × List Int)) : Prop where
  nd : (told.map (·.1)).Nodup
  each : ∀ t ∈ told, ∃ j x g, L.events[t.1]? = some (.ans j x g) ∧ t.2.length = L.grades ∧ Up t.2 ∧ g = sayN t.2 (f x)
  ord : ∀ t ∈ told, ∀ u ∈ told, InOrd L t.1 u.1 → ∀ (k : Nat) (a b : Int), t.2[k]? = some a → u.2[k]? = some b → a ≤ b
theorem told_val {S : Hp} {kt : List (Key × V)} {told : List (Nat × List Int)} (h : Paired (ToldRow S) kt told) : (told.map (·.1)).Nodup → ∀ t ∈ told, ∃ b, valV kt (.inl (t.1 : Int)) = some (.ref b) ∧ S b = some (.lst (t.2.map V.int)) := by
  induction h with
  | nil => intro _ t m; cases m
  | @cons kv td kt told q _ ih =>
    intro nd t m
    have n2 := List.nodup_cons.mp (show (td.1 :: told.map (·.1)).Nodup from nd)
    obtain ⟨q1, b, q2, q3⟩ := q
    obtain ⟨k, v⟩ := kv
    have q1 : k = .inl (td.1 : Int) := q1
    have q2 : v = .ref b := q2
    subst q1 q2
    rcases List.mem_cons.mp m with rfl | m
    · exact ⟨b, valV_pos rfl, q3⟩
    · obtain ⟨b', h1, h2⟩ := ih n2.2 t m
      refine ⟨b', ?_, h2⟩
      rw [valV_neg fun e => ?_]
      · exact h1
      · exact n2.1 (by rw [show td.1 = t.1 from Int.ofNat.inj (Sum.inl.inj e)]; exact List.mem_map_of_mem (f := (·.1)) m)
def rSortedKI : List V → Hp → VK → Prop := fun xs H Q => ∃ (a : Addr) (kvs : List (Key × V)) (ks : List Int), xs = [.ref a] ∧ Rd H a (.dK kvs) ∧ kvs.map (·.1) = ks.map Sum.inl ∧ ks.length < 64 ∧
  ∀ (ys : List Int) (p : Addr), ys.Perm ks → ys.Pairwise (· ≤ ·) → H p = none → Q (.ref p) (upd H p (.lst (ys.map V.int)))
theorem sortedKI {X : Cx} (h : X.calm = true := by rfl) : CallR X (.builtin "sorted") rSortedKI := call_sortedDI h
def toldI (told : List (Nat × List Int)) : List Int := told.map fun t => (t.1 : Int)
theorem told_keysI {S : Hp} {kt : List (Key × V)} {told : List (Nat × List Int)} (h : Paired (ToldRow S) kt told) : kt.map (·.1) = (toldI told).map Sum.inl := by
  rw [told_keys h]
  unfold toldI
  rw [List.map_map]
  rfl
section
variable {P : Program} {w : World} {K : Frg} {mg : Str → Option Value} {base : Heap}
def spIsExpl : Sp := fun vs H Q _ => ∃ (t qa ta : Addr) (L : LogD) (f : Str → Int) (kq kt : List (Key × V)) (told : List (Nat × List Int)), vs = [.ref t, .ref qa, .ref ta] ∧ PartsAt H t L ∧ LogOk L ∧ H qa = some (.dK kq) ∧ (∀ x ∈ L.items, valV kq (.inr x) = some (.int (f x))) ∧
  H ta = some (.dK kt) ∧ Paired (ToldRow H) kt told ∧ TOK L f told ∧ told.length < 64 ∧ ∀ H', Same H H' → Q (.bl true) H'
theorem ok_l_is_explained (T : TX K mg) : OkF P w K mg base 2 (fA K "_law_is_explained") ["_law_parts_here", "_law_qualities", "_law_told"] spIsExpl := by
  refine okD T.D.d_l_is_explained sc_l_is_explained (fun vs H Q E h => ?_) (fun _ _ _ _ _ _ us hl => match us, hl with | [_, _, _], _ => rfl) (fun cdv A outer s H vs Q X hr h => ?_)
  · obtain ⟨t, qa, ta, L, f, kq, kt, told, rfl, _⟩ := h
    rfl
  · obtain ⟨t, qa, ta, L, f, kq, kt, told, rfl, hP, ok, hq, vals, hta, pkt, tok, l64, q⟩ := h
    have nd := sc_l_is_explained.nd
    have hu := hr.units
    have G := ok_l_in_order (P := P) (w := w) (base := base) T
    refine ⟨_, pss_cons (ps_set (i := 3) nd rfl (Or.inl rfl) (pe_callB sortedKI rfl T.B.b_sorted boot_sorted (pa_cons (pv 2) pa_nil)))
      (pss_cons (ps_for PassesOwn.never rfl (piL K (pv 3)) (pg_name (i := 4) nd rfl (Or.inr rfl))
        (pss_cons (ps_set (i := 5) nd rfl (Or.inr rfl) (pe_ix (ixL K) (pe_ix (ixT K) (pv 0) pe_int (fun _ _ => rfl)) (pv 4) (fun _ _ => rfl)))
        (pss_cons (ps_set (i := 6) nd rfl (Or.inr rfl) (pe_dget (hu_of hr) (pv 2) (pv 4) (fun _ _ => rfl)))
        (pss_cons (ps_if (PW.pt (pw_or (pt_val (pe_callB (anyK K) rfl T.B.b_any boot_any (pa_cons (pe_lc (own := [("_law_k", 7)]) (g := gName 7) (tt := tYes) rfl nd (pi_range1 rfl T.B.b_range (pa_cons (pe_ix (ixT K) (pv 0) pe_int (fun _ _ => rfl)) pa_nil)) (blkOk_by (N := N_l_is_explained) (sc := defScope s_l_is_explained) (by decide +kernel))
              (fun _ _ _ _ _ => pg_name (i := 7) nd rfl (Or.inl rfl)) (fun _ _ _ _ _ => pts_nil) (fun _ _ _ _ _ => pe_cmpR op_ne (pe_cmpR op_le (pe_ix (ixL K) (pv 6) (pv 7) (fun _ _ => rfl)) (pe_dget (hu_of hr) (pv 1) (pe_ix (ixT K) (pv 5) pe_int (fun _ _ => rfl)) (fun _ _ => rfl)) (nomark _)) (pe_cmpR op_ge (pe_ix (ixT K) (pv 5) pe_int (fun _ _ => rfl)) (pe_op op_add (pv 7) pe_int) (nomark _)) (nomark _))) pa_nil)))
            (pw_or1 (pt_cmpR (neK K hu) (pv 6) (pe_callB (sortIK K) rfl T.B.b_sorted boot_sorted (pa_cons (pv 6) pa_nil)) (by with_unfolding_all rfl))))) (pss_one (ps_ret pe_bl)) pss_nil)
        (pss_one (ps_for PassesOwn.never rfl (piL K (pv 3)) (pg_name (i := 8) nd rfl (Or.inr rfl))
          (pss_one (ps_if (PW.pt (pw_and (pt_val (pcall G hr rfl T.G.g_l_in_order (pa_cons (pv 0) (pa_cons (pv 4) (pa_cons (pv 8) pa_nil))))) (pw_and1 (pt_val (pe_callB (anyK K) rfl T.B.b_any boot_any (pa_cons (pe_lc (own := [("_law_k", 7)]) (g := gName 7) (tt := tYes) rfl nd (pi_range1 rfl T.B.b_range (pa_cons (pe_ix (ixT K) (pv 0) pe_int (fun _ _ => rfl)) pa_nil)) (blkOk_by (N := N_l_is_explained) (sc := defScope s_l_is_explained) (by decide +kernel))
              (fun _ _ _ _ _ => pg_name (i := 7) nd rfl (Or.inl rfl)) (fun _ _ _ _ _ => pts_nil) (fun _ _ _ _ _ => pe_cmpR op_gt (pe_ix (ixL K) (pe_dget (hu_of hr) (pv 2) (pv 4) (fun _ _ => rfl)) (pv 7) (fun _ _ => rfl)) (pe_ix (ixL K) (pe_dget (hu_of hr) (pv 2) (pv 8) (fun _ _ => rfl)) (pv 7) (fun _ _ => rfl)) (nomark _))) pa_nil)))))) (pss_one (ps_ret pe_bl)) pss_nil))))))))
      (pss_one (ps_ret pe_bl))), ?_⟩
    have hP0 := hP
    obtain ⟨si, jl, er, jvs, evs, ht, hsi, hjl, pjl, her, pev⟩ := hP
    have g9 := ok.g9
    refine ⟨_, rfl, ta, kt, toldI told, rfl, .inl hta, told_keysI pkt, by unfold toldI; rw [List.length_map]; exact l64, fun ys p pm up np => ?_⟩
    have s1 := sNew (o := .lst (ys.map V.int)) np
    have memY : ∀ y ∈ ys, ∃ td ∈ told, y = (td.1 : Int) := fun y hy => by
      obtain ⟨td, h1, h2⟩ := List.mem_map.mp (pm.mem_iff.mp hy)
      exact ⟨td, h1, h2.symm⟩
    have hp1 : upd H p (.lst (ys.map V.int)) p = some (.lst (ys.map V.int)) := upd_same
    refine ⟨_, rfl, p, rfl, ⟨_, SqL.of hp1⟩, ?_⟩
    refine for_it (walk_list (K := K) (a := p) (xs := ys.map V.int)) (fun i σ H' => (∃ u4 u5 u6 u8, σ = [some (V.ref t), some (V.ref qa), some (V.ref ta), some (V.ref p), u4, u5, u6, none, u8]) ∧ Same (upd H p (.lst (ys.map V.int))) H')
      ⟨⟨_, _, _, _, rfl⟩, Same.refl _⟩ (fun i σ H' _ z => SqL.of (z.2 _ _ hp1)) ?_ ?_
    · rintro i x σ H3 H4 hi ⟨⟨u4, u5, u6, u8, rfl⟩, s4⟩ ⟨rfl, hx⟩
      obtain ⟨y, hy, rfl⟩ := get_iv hx
      obtain ⟨td, htd, rfl⟩ := memY y (List.mem_of_getElem? hy)
      obtain ⟨j, it, g, ev, lt, upt, eg⟩ := tok.each td htd
      obtain ⟨v, hv, r, rfl, hr5⟩ := pGet' pev ev
      obtain ⟨b, hb1, hb2⟩ := told_val pkt tok.nd td htd
      have s04 := s1.trans s4
      have hit : it ∈ L.items := (ok.evs _ (List.mem_of_getElem? ev)).2.1
      refine ⟨_, rfl, t, _, _, _, rfl, rfl, SqT.of (s04 _ _ ht), rfl, _, rfl, er, _, (td.1 : Int), _, rfl, rfl, SqL.of (s04 _ _ her), atI_nat hv, ?_⟩
      refine ⟨_, rfl, _, rfl, ta, _, rfl, dgetK (k := .inl (td.1 : Int)) (s04 _ _ hta) hb1, ?_⟩
      have hb4 := s04 _ _ hb2
      -- any([..])
      refine ⟨_, rfl, t, _, _, _, rfl, rfl, SqT.of (s04 _ _ ht), rfl, _, rfl, by omega, by omega, fun D hD => ?_⟩
      rw [Int.toNat_natCast]
      refine lcP walk_nat rBl hD (Nat.lt_of_le_of_lt g9 (by decide)) (fun _ => some false) (fun _ _ => trivial) ?_ ?_
      · rintro k x H5 H6 KT KF hk e _ ⟨rfl, rfl⟩ kt' kf
        obtain ⟨bk, hbk⟩ : ∃ bk, td.2[k]? = some bk := ⟨_, List.getElem?_eq_getElem (by rw [lt]; exact hk)⟩
        have s06 := s04.trans e
        have iff := sayN_iff (q := f it) upt hbk
        refine ⟨rfl, yes_it ⟨_, rfl, _, rfl, b, _, (k : Int), _, rfl, rfl, SqL.of (e _ _ hb4), atI_nat (get_i hbk), _, rfl, _, rfl, r, _, _, _, rfl, rfl, SqT.of (s06 _ _ hr5), rfl, qa, _, rfl, dgetK (k := .inr it) (s06 _ _ hq) (vals it hit), _, _, rfl, rfl, _, rfl, r, _, _, _, rfl, rfl, SqT.of (s06 _ _ hr5), rfl, _, rfl, _, _, rfl, rfl, _, _, rfl, rfl, rfl, kt' _ _ false rfl (Same.refl _) ?_⟩⟩
        show V.bl (!decide (V.bl (decide (bk ≤ f it)) = V.bl (decide ((k : Int) + 1 ≤ (g : Int))))) = V.bl false
        have e2 : decide (bk ≤ f it) = decide ((k : Int) + 1 ≤ (g : Int)) := by
          by_cases z : bk ≤ f it
          · rw [decide_eq_true z, decide_eq_true (by have := iff.mp z; omega)]
          · rw [decide_eq_false z, decide_eq_false (fun h => z (iff.mpr (by omega)))]
        rw [e2, decide_eq_true rfl]
        rfl
      intro H5 m5
      have s05 := s04.trans m5.same
      have hb5 := m5.same _ _ hb4
      refine ⟨D, _, rfl, SqL.of m5.bls, ?_⟩
      rw [any_false fun _ _ => rfl]
      refine ⟨false, rfl, iteF ⟨_, rfl, _, rfl, b, td.2, rfl, SqL.of hb5, fun ns c pm2 up2 nc => ?_⟩⟩
      have ens : ns = td.2 := ints_uniq pm2 up2 upt
      subst ens
      have s6 := sNew (o := .lst (td.2.map V.int)) nc
      refine ⟨intsD td.2, intsD td.2, intsD_dp (s6 _ _ hb5), intsD_dp upd_same, intsD_shaped _, intsD_shaped _, ?_⟩
      rw [intsD_eqv, decide_eq_true rfl]
      refine ⟨false, rfl, iteF ?_⟩
      have s46 := (s4.trans m5.same).trans s6
      refine ⟨_, rfl, p, rfl, ⟨_, SqL.of (s46 _ _ hp1)⟩, ?_⟩
      refine for_it (walk_list (K := K) (a := p) (xs := ys.map V.int)) (fun i σ H' => (∃ u8, σ = [some (V.ref t), some (V.ref qa), some (V.ref ta), some (V.ref p), some (V.int (td.1 : Int)), some (V.ref r), some (V.ref b), none, u8]) ∧ Same (upd H p (.lst (ys.map V.int))) H')
        ⟨⟨_, rfl⟩, s46⟩ (fun i σ H' _ z => SqL.of (z.2 _ _ hp1)) ?_ ?_
      · rintro n x σ H7 H8 hn ⟨⟨u8, rfl⟩, s8⟩ ⟨rfl, hx⟩
        obtain ⟨y, hy, rfl⟩ := get_iv hx
        obtain ⟨ud, hud, rfl⟩ := memY y (List.mem_of_getElem? hy)
        obtain ⟨j2, it2, g2, ev2, lt2, upt2, eg2⟩ := tok.each ud hud
        obtain ⟨b2, hc1, hc2⟩ := told_val pkt tok.nd ud hud
        have s08 := s1.trans s8
        refine ⟨_, rfl, _, rfl, _, rfl, t, L, td.1, ud.1, j, it, j2, it2, g, g2, rfl, hP0.mono s08, ok, ev, ev2, fun v H9 s9 hv9 => ⟨v, rfl, ite2 (fun c1 => ?_) (fun c1 => iteF ⟨⟨_, rfl⟩, s8.trans s9⟩)⟩⟩
        have s09 := s08.trans s9
        have io := hv9.mp c1
        refine ⟨_, rfl, t, _, _, _, rfl, rfl, SqT.of (s09 _ _ ht), rfl, _, rfl, by omega, by omega, fun D2 hD2 => ?_⟩
        rw [Int.toNat_natCast]
        refine lcP walk_nat rBl hD2 (Nat.lt_of_le_of_lt g9 (by decide)) (fun _ => some false) (fun _ _ => trivial) ?_ ?_
        · rintro k x Ha Hb KT KF hk e _ ⟨rfl, rfl⟩ kt' kf
          obtain ⟨bk, hbk⟩ : ∃ bk, td.2[k]? = some bk := ⟨_, List.getElem?_eq_getElem (by rw [lt]; exact hk)⟩
          obtain ⟨ck, hck⟩ : ∃ bk, ud.2[k]? = some bk := ⟨_, List.getElem?_eq_getElem (by rw [lt2]; exact hk)⟩
          have s0b := s09.trans e
          have le := tok.ord td htd ud hud io k bk ck hbk hck
          exact ⟨rfl, yes_it ⟨_, rfl, _, rfl, ta, _, rfl, dgetK (k := .inl (td.1 : Int)) (s0b _ _ hta) hb1, _, rfl, b, _, (k : Int), _, rfl, rfl, SqL.of (s0b _ _ hb2), atI_nat (get_i hbk), _, rfl, _, rfl, ta, _, rfl, dgetK (k := .inl (ud.1 : Int)) (s0b _ _ hta) hc1, _, rfl, b2, _, (k : Int), _, rfl, rfl, SqL.of (s0b _ _ hc2), atI_nat (get_i hck), _, _, rfl, rfl, kt' _ _ false rfl (Same.refl _) (congrArg V.bl (decide_eq_false (by omega)))⟩⟩
        · intro Ha m
          refine ⟨D2, _, rfl, SqL.of m.bls, ?_⟩
          rw [any_false fun _ _ => rfl]
          exact ⟨false, rfl, iteF ⟨⟨_, rfl⟩, (s8.trans s9).trans m.same⟩⟩
      · rintro σ H7 ⟨⟨u8, rfl⟩, s8⟩
        exact ⟨⟨_, _, _, _, rfl⟩, s8⟩
    · rintro σ H3 ⟨⟨u4, u5, u6, u8, rfl⟩, s4⟩
      exact q H3 (s1.trans s4)
end
end Rb
namespace Rb
open PySem PySem.Spec PyProof.Rows L2
/-! ### a log with one more event -/
section
variable {L : LogD} {e : Ev}
theorem add_old {i : Nat} (h : i < L.events.length) : (addEv L e).events[i]? = L.events[i]? := List.getElem?_append_left h
theorem add_new : (addEv L e).events[L.events.length]? = some e := List.getElem?_concat_length
theorem add_len : (addEv L e).events.length = L.events.length + 1 := by
  show (L.events ++ [e]).length = _
  rw [List.length_append]
  rfl
theorem add_get {i : Nat} {f : Ev} (h : (addEv L e).events[i]? = some f) : (i < L.events.length ∧ L.events[i]? = some f) ∨ (i = L.events.length ∧ f = e) := by
  have lt := (List.getElem?_eq_some_iff.mp h).1
  rw [add_len] at lt
  rcases Nat.lt_succ_iff_lt_or_eq.mp lt with lt | rfl
  · exact .inl ⟨lt, by rw [add_old lt] at h; exact h⟩
  · rw [add_new] at h
    exact .inr ⟨rfl, (Option.some.inj h).symm⟩
theorem add_mono {i : Nat} {f : Ev} (h : L.events[i]? = some f) : (addEv L e).events[i]? = some f := by rw [add_old (List.getElem?_eq_some_iff.mp h).1]; exact h
theorem add_ansJ {i : Nat} {j : Str} (h : i ∈ ansJ L.events j) : i ∈ ansJ (addEv L e).events j := by
  obtain ⟨x, g, h⟩ := mem_ansJ.mp h
  exact mem_ansJ.mpr ⟨x, g, add_mono h⟩
theorem ansJ_lt {i : Nat} {es : List Ev} {j : Str} (h : i ∈ ansJ es j) : i < es.length := by
  obtain ⟨x, g, h⟩ := mem_ansJ.mp h
  exact (List.getElem?_eq_some_iff.mp h).1
theorem add_ansJ' {i : Nat} {j : Str} (lt : i < L.events.length) (h : i ∈ ansJ (addEv L e).events j) : i ∈ ansJ L.events j := by
  obtain ⟨x, g, h⟩ := mem_ansJ.mp h
  rw [add_old lt] at h
  exact mem_ansJ.mpr ⟨x, g, h⟩
/-- stretches of old places stay -/
theorem add_same {a b : Nat} {j : Str} (ha : a ≤ L.events.length) (hb : b ≤ L.events.length) : SameStr (addEv L e).events j a b ↔ SameStr L.events j a b := by
  constructor
  · exact fun h r hr => h r (add_mono hr)
  · intro h r hr
    rcases add_get hr with ⟨lt, hr⟩ | ⟨rfl, _⟩
    · exact h r hr
    · constructor <;> intro <;> omega
theorem add_ord {a b : Nat} (ha : a < L.events.length) (hb : b < L.events.length) : InOrd (addEv L e) a b ↔ InOrd L a b := by
  constructor
  · rintro ⟨j, d, hj, h1, h2, h3, h4⟩
    exact ⟨j, d, hj, add_ansJ' ha h1, add_ansJ' hb h2, (add_same (Nat.le_of_lt ha) (Nat.le_of_lt hb)).mp h3, h4⟩
  · rintro ⟨j, d, hj, h1, h2, h3, h4⟩
    exact ⟨j, d, hj, add_ansJ h1, add_ansJ h2, (add_same (Nat.le_of_lt ha) (Nat.le_of_lt hb)).mpr h3, h4⟩
theorem add_item {i : Nat} (h : i < L.events.length) : iAt (addEv L e).events i = iAt L.events i := by unfold iAt; rw [add_old h]
theorem add_grade {i : Nat} (h : i < L.events.length) : gAt (addEv L e).events i = gAt L.events i := by unfold gAt; rw [add_old h]
theorem Lk.lt {a b : Nat} (h : Lk L a b) : a < L.events.length ∧ b < L.events.length := by
  obtain ⟨j, d, _, h1, h2, _⟩ := h
  exact ⟨ansJ_lt h1, ansJ_lt h2⟩
theorem add_Lk (ok : LogOk L) (ok' : LogOk (addEv L e)) {a b : Nat} (h : Lk L a b) : Lk (addEv L e) a b := by
  obtain ⟨la, lb⟩ := h.lt
  obtain ⟨h1, h2⟩ := (Lk_iff ok).mp h
  exact (Lk_iff ok').mpr ⟨(add_ord la lb).mpr h1, by rw [add_grade la, add_grade lb]; exact h2⟩
theorem add_WR (ok : LogOk L) (ok' : LogOk (addEv L e)) : leR (WR L) (WR (addEv L e)) := by
  refine wars_mono L.items fun x y h => ?_
  obtain ⟨a, b, lk, h1, h2⟩ := LR_iff.mp h
  obtain ⟨la, lb⟩ := lk.lt
  exact LR_iff.mpr ⟨a, b, add_Lk ok ok' lk, by rw [add_item la]; exact h1, by rw [add_item lb]; exact h2⟩
theorem outs_congr {α : Type} {f g : Nat → Option α} : ∀ {n : Nat}, (∀ i, i < n → f i = g i) → outs f n = outs g n
  | 0, _ => rfl
  | n + 1, h => by rw [outs_succ, outs_succ, outs_congr fun i hi => h i (Nat.lt_succ_of_lt hi), h n (Nat.lt_succ_self n)]
theorem ansP_add : ansP (addEv L e).events = if isAns e then ansP L.events ++ [L.events.length] else ansP L.events := by
  unfold ansP
  rw [add_len, outs_succ, add_new]
  have e1 : outs (fun i => ((addEv L e).events[i]?).bind fun e => if isAns e then some i else none) L.events.length = outs (fun i => (L.events[i]?).bind fun e => if isAns e then some i else none) L.events.length := by
    exact outs_congr fun i hi => by rw [add_old hi]
  rw [e1]
  cases h : isAns e <;> simp [h]
end
theorem ansP_nd (es : List Ev) : (ansP es).Nodup := by
  unfold ansP outs
  refine List.Pairwise.filterMap _ (fun a a' hne b hb b' hb' => ?_) (List.nodup_range (n := es.length))
  have e1 : b = a := by
    cases h : es[a]? with
    | none => rw [h] at hb; cases hb
    | some v => rw [h] at hb; simp at hb; exact hb.2.symm
  have e2 : b' = a' := by
    cases h : es[a']? with
    | none => rw [h] at hb'; cases hb'
    | some v => rw [h] at hb'; simp at hb'; exact hb'.2.symm
  rw [e1, e2]
  exact hne
/-- how told bars stand to the present ones -/
def BarRel (d : Str) (bs cs : List Int) : Prop := ∀ (k : Nat) (a b : Int), bs[k]? = some a → cs[k]? = some b → (d = "rises" → a ≤ b) ∧ (d = "falls" → b ≤ a) ∧ (d = "stays" → a = b)
/-- all that a world keeps -/
structure Good (L : LogD) (f : Str → Int) (bars : Str → List Int) (told : List (Nat × List Int)) : Prop where
  ok : LogOk L
  keys : told.map (·.1) = ansP L.events
  bar : ∀ j ∈ L.judges.map (·.1), (bars j).length = L.grades ∧ Up (bars j)
  tok : TOK L f told
  cur : ∀ t ∈ told, ∀ j d, (j, d) ∈ L.judges → t.1 ∈ ansJ L.events j → SameStr L.events j t.1 L.events.length → BarRel d t.2 (bars j)
section
variable {L : LogD} {f : Str → Int} {bars : Str → List Int} {told : List (Nat × List Int)}
theorem Good.lt (G : Good L f bars told) {t : Nat × List Int} (h : t ∈ told) : t.1 < L.events.length := by
  obtain ⟨j, x, g, e, _⟩ := G.tok.each t h
  exact (List.getElem?_eq_some_iff.mp e).1
theorem Good.find (G : Good L f bars told) {a : Nat} (h : a ∈ ansP L.events) : ∃ bs, (a, bs) ∈ told := by
  rw [← G.keys] at h
  obtain ⟨t, ht, rfl⟩ := List.mem_map.mp h
  exact ⟨t.2, ht⟩
theorem sayN_mono {bs cs : List Int} {p q : Int} (hb : Up bs) (hc : Up cs) (ln : bs.length = cs.length) (h : ∀ (k : Nat) (a b : Int), bs[k]? = some a → cs[k]? = some b → a ≤ b) (le : q ≤ p) : sayN cs q ≤ sayN bs p := by
  by_cases z : sayN cs q = 0
  · omega
  · have lt : sayN cs q - 1 < cs.length := by
      have := sayN_le (bs := cs) (q := q)
      omega
    have hc1 : cs[sayN cs q - 1]? = some cs[sayN cs q - 1] := List.getElem?_eq_getElem lt
    have hb1 : bs[sayN cs q - 1]? = some (bs[sayN cs q - 1]'(by omega)) := List.getElem?_eq_getElem (by omega)
    have h1 := (sayN_iff hc hc1 (q := q)).mpr (by omega)
    have h2 := h _ _ _ hb1 hc1
    have h3 := (sayN_iff hb hb1 (q := p)).mp (by omega)
    omega
theorem Good.expl (G : Good L f bars told) : ExplBy L f := by
  intro a b lk
  obtain ⟨io, lt⟩ := (Lk_iff G.ok).mp lk
  obtain ⟨bs, hbs⟩ := G.find lk.ans.1
  obtain ⟨cs, hcs⟩ := G.find lk.ans.2
  obtain ⟨j, x, g, e1, l1, u1, eg1⟩ := G.tok.each _ hbs
  obtain ⟨j', y, g', e2, l2, u2, eg2⟩ := G.tok.each _ hcs
  have pw := G.tok.ord _ hbs _ hcs io
  rw [gAt_eq e1, gAt_eq e2] at lt
  rw [iAt_eq e1, iAt_eq e2]
  by_cases z : f x < f y
  · exact z
  · have := sayN_mono u1 u2 (l1.trans l2.symm) pw (Int.not_lt.mp z)
    have eg1 : g = sayN bs (f x) := eg1
    have eg2 : g' = sayN cs (f y) := eg2
    omega
theorem BarRel.refl {d : Str} {bs : List Int} : BarRel d bs bs := fun k a b ha hb => by
  rw [ha] at hb
  cases hb
  exact ⟨fun _ => Int.le_refl _, fun _ => Int.le_refl _, fun _ => rfl⟩
theorem Good.answer {j d x : Str} (G : Good L f bars told) (hj : (j, d) ∈ L.judges) (hx : x ∈ L.items) (few : L.events.length < 120) :
    Good (addEv L (.ans j x (sayN (bars j) (f x)))) f bars (told ++ [(L.events.length, bars j)]) := by
  have hjm := List.mem_map_of_mem (f := (·.1)) hj
  obtain ⟨lb, ub⟩ := G.bar j hjm
  obtain ⟨_, ok'⟩ := addEv_ok (g := sayN (bars j) (f x)) G.ok hj hx (by rw [← lb]; exact sayN_le) few
  have keys' : (told ++ [(L.events.length, bars j)]).map (·.1) = ansP (addEv L (.ans j x (sayN (bars j) (f x)))).events := by
    rw [List.map_append, G.keys, ansP_add]
    rfl
  have jd : ∀ {j1 d1 : Str}, (j1, d1) ∈ L.judges → L.events.length ∈ ansJ (addEv L (.ans j x (sayN (bars j) (f x)))).events j1 → j1 = j ∧ d1 = d := fun {j1 d1} h1 h2 => by
    obtain ⟨_, _, e⟩ := mem_ansJ.mp h2
    rw [add_new] at e
    cases e
    have := fst_uniq G.ok.judges.nd h1 hj rfl
    exact ⟨rfl, congrArg Prod.snd this⟩
  refine ⟨ok', keys', G.bar, ⟨by rw [keys']; exact ansP_nd _, fun t ht => ?_, fun t ht u hu io k a b ha hb => ?_⟩, fun t ht j1 d1 h1 h2 h3 => ?_⟩
  · rcases List.mem_append.mp ht with ht | ht
    · obtain ⟨j', x', g, e, h⟩ := G.tok.each t ht
      exact ⟨j', x', g, add_mono e, h⟩
    · rw [List.mem_singleton.mp ht]
      exact ⟨j, x, _, add_new, lb, ub, rfl⟩
  · rcases List.mem_append.mp ht with ta | ta <;> rcases List.mem_append.mp hu with ua | ua
    · exact G.tok.ord t ta u ua ((add_ord (G.lt ta) (G.lt ua)).mp io) k a b ha hb
    · rw [List.mem_singleton.mp ua] at io hb
      obtain ⟨j1, d1, h0, h1, h2, h3, h4⟩ := io
      obtain ⟨rfl, rfl⟩ := jd h0 h2
      have lt := G.lt ta
      have c := G.cur t ta j1 d1 h0 (add_ansJ' lt h1) ((add_same (Nat.le_of_lt lt) (Nat.le_refl _)).mp h3) k a b ha hb
      rcases h4 with e | ⟨e, _⟩ | ⟨_, le⟩
      · exact Int.le_of_eq (c.2.2 e)
      · exact c.1 e
      · exact absurd lt (Nat.not_lt.mpr le)
    · rw [List.mem_singleton.mp ta] at io ha
      obtain ⟨j1, d1, h0, h1, h2, h3, h4⟩ := io
      obtain ⟨rfl, rfl⟩ := jd h0 h1
      have lt := G.lt ua
      have c := G.cur u ua j1 d1 h0 (add_ansJ' lt h2) ((add_same (Nat.le_of_lt lt) (Nat.le_refl _)).mp h3.symm) k b a hb ha
      rcases h4 with e | ⟨_, le⟩ | ⟨e, _⟩
      · exact Int.le_of_eq (c.2.2 e).symm
      · exact absurd lt (Nat.not_lt.mpr le)
      · exact c.2.1 e
    · rw [List.mem_singleton.mp ta] at ha
      rw [List.mem_singleton.mp ua] at hb
      have ha : (bars j)[k]? = some a := ha
      have hb : (bars j)[k]? = some b := hb
      rw [ha] at hb
      cases hb
      exact Int.le_refl _
  · rw [add_len] at h3
    rcases List.mem_append.mp ht with ht | ht
    · have lt := G.lt ht
      refine G.cur t ht j1 d1 h1 (add_ansJ' lt h2) fun r hr => ?_
      have lr := (List.getElem?_eq_some_iff.mp hr).1
      have := h3 r (add_mono hr)
      omega
    · rw [List.mem_singleton.mp ht] at h2 ⊢
      obtain ⟨rfl, rfl⟩ := jd h1 h2
      exact .refl
theorem Good.move {j d : Str} {cs : List Int} (G : Good L f bars told) (hj : (j, d) ∈ L.judges) (m : MoveOk d (bars j) cs) (up : Up cs) : Good L f (setB bars j cs) told := by
  obtain ⟨lb, ub⟩ := G.bar j (List.mem_map_of_mem (f := (·.1)) hj)
  refine ⟨G.ok, G.keys, fun k hk => ?_, G.tok, fun t ht j1 d1 h1 h2 h3 => ?_⟩
  · unfold setB
    by_cases e : k = j
    · rw [if_pos e]; exact ⟨m.1.symm.trans lb, up⟩
    · rw [if_neg e]; exact G.bar k hk
  · have c := G.cur t ht j1 d1 h1 h2 h3
    unfold setB
    by_cases e : j1 = j
    · subst e
      rw [if_pos rfl]
      have := fst_uniq G.ok.judges.nd h1 hj rfl
      obtain rfl : d1 = d := congrArg Prod.snd this
      intro k a b ha hb
      obtain ⟨m0, m1, m2, m3⟩ := m
      obtain ⟨y, hy⟩ : ∃ y, (bars j1)[k]? = some y := ⟨_, List.getElem?_eq_getElem (by rw [m0]; exact (List.getElem?_eq_some_iff.mp hb).1)⟩
      obtain ⟨c1, c2, c3⟩ := c k a y ha hy
      refine ⟨fun z => Int.le_trans (c1 z) (m1 z k y b hy hb), fun z => Int.le_trans (m2 z k y b hy hb) (c2 z), fun z => ?_⟩
      rw [m3 z, hb] at hy
      exact (c3 z).trans (Option.some.inj hy).symm
    · rw [if_neg e]
      exact c
theorem Good.anew {j d : Str} {cs : List Int} (G : Good L f bars told) (hj : (j, d) ∈ L.judges) (lc : cs.length = L.grades) (up : Up cs) (few : L.events.length < 120) : Good (addEv L (.rst j)) f (setB bars j cs) told := by
  have hjm := List.mem_map_of_mem (f := (·.1)) hj
  refine ⟨G.ok.add (e := .rst j) hjm few, by rw [ansP_add]; exact G.keys, fun k hk => ?_, ⟨G.tok.nd, fun t ht => ?_, fun t ht u hu io => G.tok.ord t ht u hu ((add_ord (G.lt ht) (G.lt hu)).mp io)⟩, fun t ht j1 d1 h1 h2 h3 => ?_⟩
  · unfold setB
    by_cases e : k = j
    · rw [if_pos e]; exact ⟨lc, up⟩
    · rw [if_neg e]; exact G.bar k hk
  · obtain ⟨j', x', g, e, h⟩ := G.tok.each t ht
    exact ⟨j', x', g, add_mono e, h⟩
  · rw [add_len] at h3
    have lt := G.lt ht
    by_cases e : j1 = j
    · subst e
      have := h3 L.events.length add_new
      omega
    · unfold setB
      rw [if_neg e]
      refine G.cur t ht j1 d1 h1 (add_ansJ' lt h2) fun r hr => ?_
      have lr := (List.getElem?_eq_some_iff.mp hr).1
      have := h3 r (add_mono hr)
      omega
end
end Rb
namespace Rb
open PySem PySem.Spec PyProof.Rows L2
section
variable {K : Frg} {F : List Addr} {H H' : Hp} {p lp qa ba ta o oq od ob oj oe ot : Addr} {L : LogD} {f : Str → Int} {bars : Str → List Int} {told : List (Nat × List Int)}
theorem WSt.other {a : Addr} {u : HO} (h : WSt K F H p lp qa ba ta L f bars told) (m : a ∈ F) (np : a ≠ p) (nb : a ≠ ba) (nt : a ≠ ta) (tu : ∀ xs, u ≠ .tup xs) : WSt K F (upd H a u) p lp qa ba ta L f bars told := by
  have ce : cut F (upd H a u) = cut F H := cut_upd m
  refine ⟨h.inP, h.inB, h.inT, h.ne, fun b mb => ?_, fun b mb xs => ?_, ?_, by rw [ce]; exact h.log, h.ok, by rw [ce]; exact h.qual, ?_, ?_⟩
  · by_cases z : b = a
    · subst z; rw [upd_same]; exact fun e => nomatch e
    · rw [upd_ne z]; exact h.here b mb
  · by_cases z : b = a
    · subst z; rw [upd_same]; exact fun e => tu xs (Option.some.inj e)
    · rw [upd_ne z]; exact h.flat b mb xs
  · obtain ⟨dx, z⟩ := h.obj
    exact ⟨dx, by rw [upd_ne np.symm]; exact z⟩
  · rw [ce]
    obtain ⟨kb, z1, z2⟩ := h.barsOk
    exact ⟨kb, by rw [upd_ne nb.symm]; exact z1, z2⟩
  · rw [ce]
    obtain ⟨kt, z1, z2⟩ := h.toldOk
    exact ⟨kt, by rw [upd_ne nt.symm]; exact z1, z2⟩
theorem OSt.putB {kb : List (Key × V)} {j : Str} {l : Addr} {cs : List Int} (h : OSt F H o oq od ob oj oe ot L f bars) (ne : ob ≠ oe) (hb : H ob = some (.dK kb)) (hj : j ∈ L.judges.map (·.1)) (hl : cut F H l = some (.lst (cs.map V.int))) :
    OSt F (upd H ob (.dK (putK kb (.inr j) (.ref l)))) o oq od ob oj oe ot L f (setB bars j cs) := by
  have ce : cut F (upd H ob (.dK (putK kb (.inr j) (.ref l)))) = cut F H := cut_upd h.inB
  refine ⟨h.inB, h.inE, h.inT, h.bt, by rw [ce]; exact h.own, by rw [ce]; exact h.qual, by rw [ce]; exact h.drifts, by rw [ce]; exact h.judges, ?_, ?_, ?_⟩
  · rw [ce]
    obtain ⟨kb', z1, z2, z3⟩ := h.barsOk
    rw [hb] at z1
    obtain rfl := HO.dK.inj (Option.some.inj z1)
    refine ⟨_, upd_same, ?_, fun k hk => ?_⟩
    · obtain ⟨b, y1, _⟩ := z3 j hj
      have : (putK kb (.inr j) (.ref l)).map (·.1) = kb.map (·.1) := putK_keys (by
        by_cases z : (Sum.inr j : Key) ∈ kb.map (·.1)
        · exact z
        · rw [valV_no z] at y1; cases y1)
      have := congrArg List.length this
      rw [List.length_map, List.length_map] at this
      omega
    · rw [valV_put]
      unfold setB
      by_cases e : k = j
      · subst e
        exact ⟨l, by rw [if_pos rfl], by rw [if_pos rfl]; exact hl⟩
      · obtain ⟨b, y1, y2⟩ := z3 k hk
        exact ⟨b, by rw [if_neg (inr_ne e)]; exact y1, by rw [if_neg e]; exact y2⟩
  · rw [ce]
    obtain ⟨ve, z1, z2⟩ := h.events
    exact ⟨ve, by rw [upd_ne ne.symm]; exact z1, z2⟩
  · obtain ⟨kt, z1, z2⟩ := h.told
    exact ⟨kt, by rw [upd_ne h.bt.symm]; exact z1, z2⟩
theorem OSt.putEv {ve : List V} {v : V} {e : Ev} (h : OSt F H o oq od ob oj oe ot L f bars) (nb : ob ≠ oe) (nt : ot ≠ oe) (he : H oe = some (.lst ve)) (hv : rEv (cut F H) v e) : OSt F (upd H oe (.lst (ve ++ [v]))) o oq od ob oj oe ot (addEv L e) f bars := by
  have ce : cut F (upd H oe (.lst (ve ++ [v]))) = cut F H := cut_upd h.inE
  refine ⟨h.inB, h.inE, h.inT, h.bt, by rw [ce]; exact h.own, by rw [ce]; exact h.qual, by rw [ce]; exact h.drifts, by rw [ce]; exact h.judges, ?_, ?_, ?_⟩
  · rw [ce]
    obtain ⟨kb, z1, z2⟩ := h.barsOk
    exact ⟨kb, by rw [upd_ne nb]; exact z1, z2⟩
  · rw [ce]
    obtain ⟨ve', z1, z2⟩ := h.events
    rw [he] at z1
    obtain rfl := HO.lst.inj (Option.some.inj z1)
    exact ⟨_, upd_same, pSnoc z2 hv⟩
  · obtain ⟨kt, z1, z2⟩ := h.told
    exact ⟨kt, by rw [upd_ne nt]; exact z1, by rw [add_len]; omega⟩
theorem OSt.putAns {H5 : Hp} {kt : List (Key × V)} {ve : List V} {v : V} {e : Ev} (h : OSt F H o oq od ob oj oe ot L f bars) (nb : ob ≠ oe) (nt : ot ≠ oe) (lt : kt.length ≤ L.events.length + 1) (s : Same (upd H ot (.dK kt)) H5) (he : H5 oe = some (.lst ve)) (hv : rEv (cut F H5) v e) :
    OSt F (upd H5 oe (.lst (ve ++ [v]))) o oq od ob oj oe ot (addEv L e) f bars := by
  have c4 : cut F (upd H ot (.dK kt)) = cut F H := cut_upd h.inT
  have c5 : Same (cut F H) (cut F H5) := c4 ▸ sCut s
  have ce : cut F (upd H5 oe (.lst (ve ++ [v]))) = cut F H5 := cut_upd h.inE
  refine ⟨h.inB, h.inE, h.inT, h.bt, by rw [ce]; exact c5 _ _ h.own, ?_, ?_, by rw [ce]; exact c5 _ _ h.judges, ?_, ?_, ?_⟩
  · rw [ce]
    obtain ⟨kq, ks, z1, z2⟩ := h.qual
    exact ⟨kq, ks, c5 _ _ z1, z2⟩
  · rw [ce]
    obtain ⟨kd, z1, z2⟩ := h.drifts
    exact ⟨kd, c5 _ _ z1, z2⟩
  · rw [ce]
    obtain ⟨kb, z1, z2, z3⟩ := h.barsOk
    refine ⟨kb, by rw [upd_ne nb]; exact s _ _ ((upd_ne h.bt).trans z1), z2, fun j hj => ?_⟩
    obtain ⟨b, y1, y2⟩ := z3 j hj
    exact ⟨b, y1, c5 _ _ y2⟩
  · rw [ce]
    obtain ⟨ve', z1, z2⟩ := h.events
    have z3 := s _ _ ((upd_ne nt.symm).trans z1)
    rw [he] at z3
    obtain rfl := HO.lst.inj (Option.some.inj z3)
    exact ⟨_, upd_same, pSnoc (pMono c5 z2) hv⟩
  · exact ⟨kt, by rw [upd_ne nt]; exact s _ _ upd_same, by rw [add_len]; exact lt⟩
/-- the world and the law's own one, side by side -/
structure CSt (K : Frg) (H : Hp) (p lp qa ba ta o oq od ob oj oe ot : Addr) (L : LogD) (f : Str → Int) (bars : Str → List Int) (told : List (Nat × List Int)) : Prop where
  nd : [p, ba, ta, ob, oe, ot].Nodup
  ws : WSt K [p, ba, ta, ob, oe, ot] H p lp qa ba ta L f bars told
  os : OSt [p, ba, ta, ob, oe, ot] H o oq od ob oj oe ot L f bars
  good : Good L f bars told
  g4 : L.grades ≤ 4
theorem CSt.mono (e : Same H H') (h : CSt K H p lp qa ba ta o oq od ob oj oe ot L f bars told) : CSt K H' p lp qa ba ta o oq od ob oj oe ot L f bars told := ⟨h.nd, h.ws.mono e, h.os.mono e, h.good, h.g4⟩
end
/-- a log, or one more event -/
def Grows (L L' : LogD) : Prop := L'.items = L.items ∧ L'.grades = L.grades ∧ L'.judges = L.judges ∧ L'.events.length ≤ L.events.length + 1 ∧ leR (WR L) (WR L')
section
variable {P : Program} {w : World} {K : Frg} {mg : Str → Option Value} {base : Heap}
def spDeed (K : Frg) : Sp := fun vs H Q _ => ∃ (p lp qa ba ta o oq od ob oj oe ot da : Addr) (L : LogD) (f : Str → Int) (bars : Str → List Int) (told : List (Nat × List Int)) (ds : List Nat), vs = [.ref p, .ref o, .ref da] ∧ CSt K H p lp qa ba ta o oq od ob oj oe ot L f bars told ∧
  cut [p, ba, ta, ob, oe, ot] H da = some (.lst (nats ds)) ∧ ds.length = 6 ∧ L.events.length < 60 ∧
  ∀ lp' L' bars' told' H', Same (cut [p, ba, ta, ob, oe, ot] H) (cut [p, ba, ta, ob, oe, ot] H') → CSt K H' p lp' qa ba ta o oq od ob oj oe ot L' f bars' told' → Grows L L' → Q (.bl true) H'
theorem ok_l_deed (T : TX K mg) : OkF P w K mg base 9 (fA K "_law_deed") ["_law_world_here", "_law_own", "_law_draws"] (spDeed K) := by
  refine okD T.D.d_l_deed sc_l_deed (fun vs H Q E h => ?_) (fun _ _ _ _ _ _ us hl => match us, hl with | [_, _, _], _ => rfl) (fun cdv A outer s H vs Q X hr h => ?_)
  · obtain ⟨p, lp, qa, ba, ta, o, oq, od, ob, oj, oe, ot, da, L, f, bars, told, ds, rfl, _⟩ := h
    rfl
  · obtain ⟨p, lp, qa, ba, ta, o, oq, od, ob, oj, oe, ot, da, L, f, bars, told, ds, rfl, cs, hda, l6, few, q⟩ := h
    have nd := sc_l_deed.nd
    have hu := hu_of hr
    have GS := (ok_l_says (P := P) (w := w) (base := base) T).mono (k := 8) (by decide)
    have GW := (ok_would_say (P := P) (w := w) (base := base) T).mono (k := 8) (by decide)
    have GA := ok_answer (P := P) (w := w) (base := base) T
    have GM := (ok_move (P := P) (w := w) (base := base) T).mono (k := 8) (by decide)
    have GN := ok_set_anew (P := P) (w := w) (base := base) T
    have GLM := (ok_l_moved (P := P) (w := w) (base := base) T).mono (k := 8) (by decide)
    have GLB := (ok_l_bars (P := P) (w := w) (base := base) T).mono (k := 8) (by decide)
    refine ⟨_, pss_cons (ps_set (i := 3) nd rfl (Or.inl rfl) (pe_ix (ixL K) (pe_dget hu (pv 1) pe_str (fun _ _ => rfl)) (pe_op op_mod (pe_callTy call_int1 rfl T.B.b_int PyProof.Rows.boot_int (pa_cons (pe_ix (ixL K) (pv 2) pe_int (fun _ _ => rfl)) pa_nil)) (pe_callB (lenK K) rfl T.B.b_len boot_len (pa_cons (pe_dget hu (pv 1) pe_str (fun _ _ => rfl)) pa_nil))) (fun _ _ => rfl)))
      (pss_cons (ps_set (i := 4) nd rfl (Or.inl rfl) (pe_op op_mod (pe_op op_fdiv (pe_callTy call_int1 rfl T.B.b_int PyProof.Rows.boot_int (pa_cons (pe_ix (ixL K) (pv 2) pe_int (fun _ _ => rfl)) pa_nil)) pe_int) pe_int))
      (pss_cons (ps_if (pt_cmpR op_lt (pv 4) pe_int (nomark _))
        (pss_cons (ps_set (i := 5) nd rfl (Or.inl rfl) (pe_callB sortedK rfl T.B.b_sorted boot_sorted (pa_cons (pe_dget hu (pv 1) pe_str (fun _ _ => rfl)) pa_nil)))
        (pss_cons (ps_set (i := 6) nd rfl (Or.inl rfl) (pe_ix (ixL K) (pv 5) (pe_op op_mod (pe_callTy call_int1 rfl T.B.b_int PyProof.Rows.boot_int (pa_cons (pe_ix (ixL K) (pv 2) pe_int (fun _ _ => rfl)) pa_nil)) (pe_callB (lenK K) rfl T.B.b_len boot_len (pa_cons (pv 5) pa_nil))) (fun _ _ => rfl)))
        (pss_cons (ps_set (i := 7) nd rfl (Or.inl rfl) (pcall GS hr rfl T.G.g_l_says (pa_cons (pv 1) (pa_cons (pv 3) (pa_cons (pv 6) pa_nil)))))
        (pss_cons (ps_dput hu (pe_dget hu (pv 1) pe_str (fun _ _ => rfl)) (pe_callB (lenK K) rfl T.B.b_len boot_len (pa_cons (pe_dget hu (pv 1) pe_str (fun _ _ => rfl)) pa_nil)) (pe_callTy (listK K) rfl T.B.b_list PyProof.Rows.boot_list (pa_cons (pe_dget hu (pe_dget hu (pv 1) pe_str (fun _ _ => rfl)) (pv 3) (fun _ _ => rfl)) pa_nil)) rfl)
        (pss_cons (ps_expr (pe_bm PySem.F.plainAttrs_list PySem.F.slot_list_append PySem.F.type_list_append mt_append (pe_dget hu (pv 1) pe_str (fun _ _ => rfl)) (pa_cons (pe_tup (pa_cons pe_str (pa_cons (pv 3) (pa_cons (pv 6) (pa_cons (pv 7) pa_nil))))) pa_nil)))
        (pss_one (ps_ret (pe_and (pe_cmpR op_eq (pmeth GW T.T.cl_World T.M.m_World_would_say hr (pv 0) (pa_cons (pv 3) (pa_cons (pv 6) pa_nil))) (pv 7) (nomark _)) (pe_one (pe_cmpR op_eq (pmeth GA T.T.cl_World T.M.m_World_answer hr (pv 0) (pa_cons (pv 3) (pa_cons (pv 6) pa_nil))) (pv 7) (nomark _)))))))))))
        pss_nil)
      (pss_cons (ps_if (pt_cmpR op_lt (pv 4) pe_int (nomark _))
        (pss_cons (ps_set (i := 8) nd rfl (Or.inl rfl) (pcall GLM hr rfl T.G.g_l_moved (pa_cons (pe_dget hu (pe_dget hu (pv 1) pe_str (fun _ _ => rfl)) (pv 3) (fun _ _ => rfl)) (pa_cons (pe_dget hu (pe_dget hu (pv 1) pe_str (fun _ _ => rfl)) (pv 3) (fun _ _ => rfl)) (pa_cons (pv 2) (pa_cons pe_int pa_nil))))))
        (pss_cons (ps_dput hu (pe_dget hu (pv 1) pe_str (fun _ _ => rfl)) (pv 3) (pe_callTy (listK K) rfl T.B.b_list PyProof.Rows.boot_list (pa_cons (pv 8) pa_nil)) rfl)
        (pss_one (ps_ret (pe_cmpR op_isN (pmeth GM T.T.cl_World T.M.m_World_move hr (pv 0) (pa_cons (pv 3) (pa_cons (pe_callTy (listK K) rfl T.B.b_list PyProof.Rows.boot_list (pa_cons (pv 8) pa_nil)) pa_nil))) pe_non (nomark _))))))
        pss_nil)
      (pss_cons (ps_set (i := 8) nd rfl (Or.inl rfl) (pcall GLB hr rfl T.G.g_l_bars (pa_cons (pv 2) (pa_cons pe_int (pa_cons (pe_dget hu (pv 1) pe_str (fun _ _ => rfl)) pa_nil)))))
      (pss_cons (ps_dput hu (pe_dget hu (pv 1) pe_str (fun _ _ => rfl)) (pv 3) (pe_callTy (listK K) rfl T.B.b_list PyProof.Rows.boot_list (pa_cons (pv 8) pa_nil)) rfl)
      (pss_cons (ps_expr (pe_bm PySem.F.plainAttrs_list PySem.F.slot_list_append PySem.F.type_list_append mt_append (pe_dget hu (pv 1) pe_str (fun _ _ => rfl)) (pa_cons (pe_tup (pa_cons pe_str (pa_cons (pv 3) pa_nil))) pa_nil)))
      (pss_one (ps_ret (pe_cmpR op_isN (pmeth GN T.T.cl_World T.M.m_World_set_anew hr (pv 0) (pa_cons (pv 3) (pa_cons (pe_callTy (listK K) rfl T.B.b_list PyProof.Rows.boot_list (pa_cons (pv 8) pa_nil)) pa_nil))) pe_non (nomark _)))))))))), ?_⟩
    generalize hF : [p, ba, ta, ob, oe, ot] = F at *
    have inF : p ∈ F ∧ ba ∈ F ∧ ta ∈ F ∧ ob ∈ F ∧ oe ∈ F ∧ ot ∈ F := by rw [← hF]; simp
    have ne : p ≠ ob ∧ p ≠ oe ∧ p ≠ ot ∧ ba ≠ ob ∧ ba ≠ oe ∧ ba ≠ ot ∧ ta ≠ ob ∧ ta ≠ oe ∧ ta ≠ ot ∧ ob ≠ oe ∧ ob ≠ ot ∧ oe ≠ ot := by
      have := cs.nd
      simp only [List.nodup_cons, List.mem_cons, List.mem_nil_iff, or_false, not_or] at this
      obtain ⟨⟨_, _, a1, a2, a3⟩, ⟨_, a4, a5, a6⟩, ⟨a7, a8, a9⟩, ⟨b1, b2⟩, b3, _⟩ := this
      exact ⟨a1, a2, a3, a4, a5, a6, a7, a8, a9, b1, b2, b3⟩
    obtain ⟨iP, iBa, iTa, iOb, iOe, iOt⟩ := inF
    obtain ⟨n1, n2, n3, n4, n5, n6, n7, n8, n9, n10, n11, n12⟩ := ne
    have csnd := cs.nd
    have os : OSt F H o oq od ob oj oe ot L f bars := by rw [← hF]; exact cs.os
    have ws : WSt K F H p lp qa ba ta L f bars told := by rw [← hF]; exact cs.ws
    have G := cs.good
    have ok := G.ok
    have g4 := cs.g4
    have fin : ∀ {lp' : Addr} {L' : LogD} {bars' : Str → List Int} {told' : List (Nat × List Int)} {H' : Hp}, Same (cut F H) (cut F H') → WSt K F H' p lp' qa ba ta L' f bars' told' → OSt F H' o oq od ob oj oe ot L' f bars' → Good L' f bars' told' → Grows L L' → Q (.bl true) H' := fun {lp' L' bars' told' H'} c w' o' g' gr => by
      refine q lp' L' bars' told' H' c ⟨csnd, by rw [hF]; exact w', by rw [hF]; exact o', g', ?_⟩ gr
      rw [gr.2.1]
      exact g4
    have ho := cut_le _ _ os.own
    have hoj := cut_le _ _ os.judges
    have hda0 := cut_le _ _ hda
    obtain ⟨kd, hkd, ad⟩ := os.drifts
    have hkd := cut_le _ _ hkd
    obtain ⟨kq, ks, hkq, hks, pm, srt, _⟩ := os.qual
    have hkq := cut_le _ _ hkq
    obtain ⟨kb, hkb, fewb, ab⟩ := id os.barsOk
    obtain ⟨ve, hve, pve⟩ := id os.events
    obtain ⟨kt, hkt, lkt⟩ := id os.told
    have lve := pLen pve
    obtain ⟨dx, hp⟩ := ws.obj
    have gd : ∀ i, i < 6 → (nats ds)[i]? = some (.int ((ds.getD i 0 : Nat) : Int)) := fun i hi => get_natD (by rw [l6]; exact hi)
    have lnj : ((L.judges.map (·.1)).map V.str).length = (L.judges.map (·.1)).length := List.length_map _
    have pj : 0 < (L.judges.map (·.1)).length := ok.judges.pos
    have pj2 : (0 : Int) < ((((L.judges.map (·.1)).map V.str).length : Nat) : Int) := by rw [lnj]; exact Int.ofNat_lt.mpr pj
    obtain ⟨j, hjx⟩ : ∃ j, (L.judges.map (·.1))[ds.getD 0 0 % ((L.judges.map (·.1)).map V.str).length]? = some j := ⟨_, List.getElem?_eq_getElem (by rw [lnj]; exact Nat.mod_lt _ pj)⟩
    have hj := List.mem_of_getElem? hjx
    obtain ⟨⟨j0, d⟩, hjd, e0⟩ := List.mem_map.mp hj
    obtain rfl : j0 = j := e0
    have dok := ok.drifts _ hjd
    obtain ⟨lb, ub⟩ := G.bar j0 hj
    obtain ⟨b, hb1, hb2⟩ := ab j0 hj
    have hb := cut_le _ _ hb2
    have hjv : ((L.judges.map (·.1)).map V.str)[ds.getD 0 0 % ((L.judges.map (·.1)).map V.str).length]? = some (.str j0) := by rw [List.getElem?_map, hjx]; rfl
    refine ⟨_, rfl, o, _, rfl, dgetK (k := .inr "judges") ho ok_jud, _, rfl, da, _, ((0 : Nat) : Int), _, rfl, rfl, SqL.of hda0, atI_nat (gd 0 (by decide)), .inl ⟨_, rfl, _, rfl, o, _, rfl, dgetK (k := .inr "judges") ho ok_jud, oj, _, rfl, .inl (SqL.of hoj), _, _, rfl, rfl, pj2, oj, _, ((ds.getD 0 0 % ((L.judges.map (·.1)).map V.str).length : Nat) : Int), _, rfl, rfl, SqL.of hoj, atI_nat hjv, ?_⟩⟩
    refine ⟨_, rfl, da, _, ((0 : Nat) : Int), _, rfl, rfl, SqL.of hda0, atI_nat (gd 0 (by decide)), .inl ⟨_, rfl, _, _, rfl, rfl, ⟨(by decide : (0 : Int) < 3), (by decide : (3 : Int) < 1073741824)⟩, _, _, rfl, rfl, (by decide : (0 : Int) < 8), ?_⟩⟩
    refine ⟨_, rfl, _, _, rfl, rfl, _, rfl, ite2 (fun _ => ?_) (fun _ => ⟨_, rfl, _, _, rfl, rfl, _, rfl, ite2 (fun _ => ?_) (fun _ => ?_)⟩)⟩
    · -- an answer
      have few64 : ks.length < 64 := by
        rw [← pm.length_eq]
        exact Nat.lt_of_le_of_lt ok.items.le (by decide)
      refine ⟨_, rfl, o, _, rfl, dgetK (k := .inr "qualities") ho ok_qua, oq, kq, ks, rfl, .inl hkq, hks, few64, fun ys nl pm2 st nnl => ?_⟩
      have eys : ys = L.items := sorted_uniq (pm2.trans pm.symm) (sorted_pw st) (sorted_pw srt)
      subst eys
      have s1 := sNew (o := .lst (L.items.map V.str)) nnl
      have lni : (L.items.map V.str).length = L.items.length := List.length_map _
      have pi2 : (0 : Int) < (((L.items.map V.str).length : Nat) : Int) := by rw [lni]; exact Int.ofNat_lt.mpr ok.items.pos
      obtain ⟨x, hxi⟩ : ∃ x, L.items[ds.getD 1 0 % (L.items.map V.str).length]? = some x := ⟨_, List.getElem?_eq_getElem (by rw [lni]; exact Nat.mod_lt _ ok.items.pos)⟩
      have hx := List.mem_of_getElem? hxi
      have hxv : (L.items.map V.str)[ds.getD 1 0 % (L.items.map V.str).length]? = some (.str x) := by rw [List.getElem?_map, hxi]; rfl
      refine ⟨_, rfl, _, rfl, da, _, ((1 : Nat) : Int), _, rfl, rfl, SqL.of (s1 _ _ hda0), atI_nat (gd 1 (by decide)), .inl ⟨_, rfl, _, rfl, nl, _, rfl, .inl (SqL.of upd_same), _, _, rfl, rfl, pi2, nl, _, ((ds.getD 1 0 % (L.items.map V.str).length : Nat) : Int), _, rfl, rfl, SqL.of upd_same, atI_nat hxv, ?_⟩⟩
      refine ⟨_, rfl, _, rfl, _, rfl, F, o, oq, od, ob, oj, oe, ot, L, f, bars, j0, x, rfl, os.mono s1, hj, hx, by rw [lb]; exact ok.g9, fun H2 s2 => ?_⟩
      have s02 := s1.trans s2
      refine ⟨_, rfl, o, _, rfl, dgetK (k := .inr "bars") (s02 _ _ ho) ok_bar, _, rfl, ob, _, rfl, dgetK (k := .inr j0) (s02 _ _ hkb) hb1, b, _, rfl, .inl (SqL.of (s02 _ _ hb)), fun l nl2 => ?_⟩
      have s3 := sNew (o := .lst ((bars j0).map V.int)) nl2
      have s03 := s02.trans s3
      have os3 := os.mono s03
      have ws3 := ws.mono s03
      have lput := length_putK kt (.inl ((ve.length : Nat) : Int)) (.ref l)
      refine ⟨_, rfl, o, _, rfl, dgetK (k := .inr "told") (s03 _ _ ho) ok_tol, _, rfl, o, _, rfl, dgetK (k := .inr "events") (s03 _ _ ho) ok_eve, oe, _, rfl, .inl (SqL.of (s03 _ _ hve)), ot, _, rfl, DPut.k (k := .inl ((ve.length : Nat) : Int)) (s03 _ _ hkt) (Nat.lt_of_le_of_lt (show _ ≤ 60 by omega) (by decide)), ?_⟩
      have ws4 := ws3.other (u := .dK (putK kt (.inl ((ve.length : Nat) : Int)) (.ref l))) iOt n3.symm n6.symm n9.symm (fun _ e => nomatch e)
      generalize hH3 : upd H2 l (.lst ((bars j0).map V.int)) = H3 at *
      generalize hH4 : upd H3 ot (.dK (putK kt (.inl ((ve.length : Nat) : Int)) (.ref l))) = H4 at *
      have c4 : cut F H4 = cut F H3 := by rw [← hH4]; exact cut_upd iOt
      have c04 : Same (cut F H) (cut F H4) := by rw [c4]; exact sCut s03
      have ho4 := cut_le _ _ (c04 _ _ os.own)
      have hve4 : H4 oe = some (.lst ve) := by rw [← hH4, upd_ne n12]; exact s03 _ _ hve
      refine ⟨_, rfl, o, _, rfl, dgetK (k := .inr "events") ho4 ok_eve, .inl ⟨rfl, _, SqL.of hve4⟩, _, rfl, _, rfl, _, rfl, (by show 4 ≤ sizeLine; decide), fun t nt => ?_⟩
      have s5 := sNew (o := .tup [.str "answer", .str j0, .str x, .int ((sayN (bars j0) (f x) : Nat) : Int)]) nt
      have tF : t ∉ F := fun m => ws4.here t m nt
      refine ⟨oe, ve, _, rfl, rfl, s5 _ _ hve4, by rw [lve]; exact Nat.lt_trans few (by decide), ?_⟩
      have rv : rEv (cut F (upd H4 t (.tup [.str "answer", .str j0, .str x, .int ((sayN (bars j0) (f x) : Nat) : Int)]))) (.ref t) (.ans j0 x (sayN (bars j0) (f x))) := ⟨t, rfl, by rw [cut_out tF]; exact upd_same⟩
      have os6 := os3.putAns (H5 := upd H4 t (.tup [.str "answer", .str j0, .str x, .int ((sayN (bars j0) (f x) : Nat) : Int)])) (kt := putK kt (.inl ((ve.length : Nat) : Int)) (.ref l)) (ve := ve) (v := .ref t) (e := .ans j0 x (sayN (bars j0) (f x))) n10 n12.symm (by omega) (by rw [hH4]; exact s5) (s5 _ _ hve4) rv
      have ws6 := (ws4.mono s5).other (u := .lst (ve ++ [.ref t])) iOe n2.symm n5.symm n8.symm (fun _ e => nomatch e)
      have c46 : Same (cut F H4) (cut F (upd (upd H4 t (.tup [.str "answer", .str j0, .str x, .int ((sayN (bars j0) (f x) : Nat) : Int)])) oe (.lst (ve ++ [.ref t])))) := by
        rw [cut_upd iOe]
        exact sCut s5
      have c06 := c04.trans c46
      generalize upd (upd H4 t (.tup [.str "answer", .str j0, .str x, .int ((sayN (bars j0) (f x) : Nat) : Int)])) oe (.lst (ve ++ [.ref t])) = H6 at *
      obtain ⟨dx6, hp6⟩ := ws6.obj
      refine ⟨_, rfl, p, dx6, _, rfl, hp6, wf_no (by decide +kernel), _, rfl, _, rfl, p, lp, qa, ba, ta, L, f, bars, told, F, j0, x, rfl, ws6, hj, hx, by rw [lb]; exact ok.g9, fun H7 s7 => ?_⟩
      have ws7 := ws6.mono s7
      have os7 := os6.mono s7
      have ltold : told.length ≤ 120 := by
        have e1 := congrArg List.length G.keys
        rw [List.length_map] at e1
        have := outs_len (fun i => (L.events[i]?).bind fun e => if isAns e then some i else none) L.events.length
        unfold ansP at e1
        omega
      refine ⟨_, rfl, rfl, true, congrArg V.bl (decide_eq_true rfl), iteT ?_⟩
      refine ⟨_, rfl, p, dx6, _, rfl, s7 _ _ hp6, wf_no (by decide +kernel), _, rfl, _, rfl, p, lp, qa, ba, ta, L, f, bars, told, F, j0, x, rfl, ws7, hj, hx, lb, by omega, fun t ht => Nat.ne_of_lt (G.lt ht), ltold, fun lp' H8 ch ws8 => ⟨_, rfl, rfl, ?_⟩⟩
      have os8 := os7.move (fun _ m => m) ch.1 (ch.2 ob iOb n1.symm n4.symm n7.symm) (ch.2 oe iOe n2.symm n5.symm n8.symm) (ch.2 ot iOt n3.symm n6.symm n9.symm)
      have G8 := G.answer hjd hx (by omega)
      refine (congrArg (fun z => Q (V.bl z) H8) (decide_eq_true rfl)).mpr (fin ((c06.trans (sCut s7)).trans ch.1) ws8 os8 G8 ⟨rfl, rfl, rfl, Nat.le_of_eq add_len, add_WR ok G8.ok⟩)
    · -- a move
      refine ⟨_, rfl, o, _, rfl, dgetK (k := .inr "drifts") ho ok_dri, _, rfl, od, _, rfl, dgetK (k := .inr j0) hkd (ad j0 d hjd), _, rfl, o, _, rfl, dgetK (k := .inr "bars") ho ok_bar, _, rfl, ob, _, rfl, dgetK (k := .inr j0) hkb hb1, _, rfl, da, b, ds, bars j0, 2, d, rfl, hda0, hb, ub, by rw [lb]; omega, by rw [lb]; exact ok.g9, dok, fun c cc H1 s1 hc mv upc => ?_⟩
      refine ⟨_, rfl, c, _, rfl, .inl (SqL.of hc), fun l nl => ?_⟩
      have s2 := sNew (o := .lst (cc.map V.int)) nl
      have s02 := s1.trans s2
      have os2 := os.mono s02
      have ws2 := ws.mono s02
      have hl := Same.cutN (F := F) (a := l) (H' := upd H1 l (.lst (cc.map V.int))) upd_same (ws.mono s1).here nl
      refine ⟨_, rfl, o, _, rfl, dgetK (k := .inr "bars") (s02 _ _ ho) ok_bar, _, rfl, ob, _, rfl, DPut.k (k := .inr j0) (s02 _ _ hkb) (Nat.lt_of_le_of_lt fewb (by decide)), ?_⟩
      have os3 := os2.putB n10 (s02 _ _ hkb) hj hl
      have ws3 := ws2.other (u := .dK (putK kb (.inr j0) (.ref l))) iOb n1.symm n4.symm n7.symm (fun _ e => nomatch e)
      have c03 : Same (cut F H) (cut F (upd (upd H1 l (.lst (cc.map V.int))) ob (.dK (putK kb (.inr j0) (.ref l))))) := by rw [cut_upd iOb]; exact sCut s02
      have cob : c ≠ ob := fun e => by subst e; rw [s1 _ _ hkb] at hc; cases hc
      have hc3 : upd (upd H1 l (.lst (cc.map V.int))) ob (.dK (putK kb (.inr j0) (.ref l))) c = some (.lst (cc.map V.int)) := (upd_ne cob).trans (s2 _ _ hc)
      generalize upd (upd H1 l (.lst (cc.map V.int))) ob (.dK (putK kb (.inr j0) (.ref l))) = H3 at *
      obtain ⟨dx3, hp3⟩ := ws3.obj
      refine ⟨_, rfl, p, dx3, _, rfl, hp3, wf_no (by decide +kernel), _, rfl, _, rfl, c, _, rfl, .inl (SqL.of hc3), fun l2 nl2 => ?_⟩
      have s4 := sNew (o := .lst (cc.map V.int)) nl2
      have ws4 := ws3.mono s4
      have hl2 := Same.cutN (F := F) (a := l2) (H' := upd H3 l2 (.lst (cc.map V.int))) upd_same ws3.here nl2
      refine ⟨p, lp, qa, ba, ta, l2, L, f, bars, told, F, j0, d, cc, rfl, ws4, hjd, hl2, mv, mv.1.symm.trans lb, upc.rising, fun H5 ch ws5 => ⟨rfl, ?_⟩⟩
      have os5 := (os3.mono s4).move (fun _ m => m) ch.1 (ch.2 ob iOb n1.symm n4.symm n7.symm) (ch.2 oe iOe n2.symm n5.symm n8.symm) (ch.2 ot iOt n3.symm n6.symm n9.symm)
      refine (congrArg (fun z => Q (V.bl z) H5) (decide_eq_true rfl)).mpr (fin ((c03.trans (sCut s4)).trans ch.1) ws5 os5 (G.move hjd mv upc) ⟨rfl, rfl, rfl, Nat.le_succ _, fun _ _ h => h⟩)
    · -- set anew
      refine ⟨_, rfl, _, rfl, o, _, rfl, dgetK (k := .inr "grades") ho ok_grd, da, ds, 2, L.grades, rfl, hda0, by omega, by omega, fun c cc H1 s1 nc hc lc upc => ?_⟩
      refine ⟨_, rfl, c, _, rfl, .inl (SqL.of hc), fun l nl => ?_⟩
      have s2 := sNew (o := .lst (cc.map V.int)) nl
      have s02 := s1.trans s2
      have os2 := os.mono s02
      have ws2 := ws.mono s02
      have hl := Same.cutN (F := F) (a := l) (H' := upd H1 l (.lst (cc.map V.int))) upd_same (ws.mono s1).here nl
      refine ⟨_, rfl, o, _, rfl, dgetK (k := .inr "bars") (s02 _ _ ho) ok_bar, _, rfl, ob, _, rfl, DPut.k (k := .inr j0) (s02 _ _ hkb) (Nat.lt_of_le_of_lt fewb (by decide)), ?_⟩
      have os3 := os2.putB n10 (s02 _ _ hkb) hj hl
      have ws3 := ws2.other (u := .dK (putK kb (.inr j0) (.ref l))) iOb n1.symm n4.symm n7.symm (fun _ e => nomatch e)
      have c03 : Same (cut F H) (cut F (upd (upd H1 l (.lst (cc.map V.int))) ob (.dK (putK kb (.inr j0) (.ref l))))) := by rw [cut_upd iOb]; exact sCut s02
      have cob : c ≠ ob := fun e => by subst e; rw [s1 _ _ hkb] at hc; cases hc
      have hc3 : upd (upd H1 l (.lst (cc.map V.int))) ob (.dK (putK kb (.inr j0) (.ref l))) c = some (.lst (cc.map V.int)) := (upd_ne cob).trans (s2 _ _ hc)
      have hve3 : upd (upd H1 l (.lst (cc.map V.int))) ob (.dK (putK kb (.inr j0) (.ref l))) oe = some (.lst ve) := (upd_ne n10.symm).trans (s02 _ _ hve)
      generalize upd (upd H1 l (.lst (cc.map V.int))) ob (.dK (putK kb (.inr j0) (.ref l))) = H3 at *
      have ho3 := cut_le _ _ (c03 _ _ os.own)
      refine ⟨_, rfl, o, _, rfl, dgetK (k := .inr "events") ho3 ok_eve, .inl ⟨rfl, _, SqL.of hve3⟩, _, rfl, (by show 2 ≤ sizeLine; decide), fun t nt => ?_⟩
      have s4 := sNew (o := .tup [.str "reset", .str j0]) nt
      have tF : t ∉ F := fun m => ws3.here t m nt
      refine ⟨oe, ve, _, rfl, rfl, s4 _ _ hve3, by rw [lve]; exact Nat.lt_trans few (by decide), ?_⟩
      have rv : rEv (cut F (upd H3 t (.tup [.str "reset", .str j0]))) (.ref t) (.rst j0) := ⟨t, rfl, by rw [cut_out tF]; exact upd_same⟩
      have os5 := (os3.mono s4).putEv n10 n12.symm (s4 _ _ hve3) rv
      have ws5 := (ws3.mono s4).other (u := .lst (ve ++ [.ref t])) iOe n2.symm n5.symm n8.symm (fun _ e => nomatch e)
      have c35 : Same (cut F H3) (cut F (upd (upd H3 t (.tup [.str "reset", .str j0])) oe (.lst (ve ++ [.ref t])))) := by
        rw [cut_upd iOe]
        exact sCut s4
      have coe : c ≠ oe := fun e => by subst e; exact absurd (ws.here c iOe) (fun z => z nc)
      have hc5 : upd (upd H3 t (.tup [.str "reset", .str j0])) oe (.lst (ve ++ [.ref t])) c = some (.lst (cc.map V.int)) := (upd_ne coe).trans (s4 _ _ hc3)
      have c05 := c03.trans c35
      generalize upd (upd H3 t (.tup [.str "reset", .str j0])) oe (.lst (ve ++ [.ref t])) = H5 at *
      obtain ⟨dx5, hp5⟩ := ws5.obj
      refine ⟨_, rfl, p, dx5, _, rfl, hp5, wf_no (by decide +kernel), _, rfl, _, rfl, c, _, rfl, .inl (SqL.of hc5), fun l2 nl2 => ?_⟩
      have s6 := sNew (o := .lst (cc.map V.int)) nl2
      have ws6 := ws5.mono s6
      have hl2 := Same.cutN (F := F) (a := l2) (H' := upd H5 l2 (.lst (cc.map V.int))) upd_same ws5.here nl2
      refine ⟨p, lp, qa, ba, ta, l2, L, f, bars, told, F, j0, cc, rfl, ws6, hj, hl2, lc, upc.rising, by omega, fun lp' H7 ch ws7 => ⟨rfl, ?_⟩⟩
      have os7 := (os5.mono s6).move (fun _ m => m) ch.1 (ch.2 ob iOb n1.symm n4.symm n7.symm) (ch.2 oe iOe n2.symm n5.symm n8.symm) (ch.2 ot iOt n3.symm n6.symm n9.symm)
      have G7 := G.anew hjd lc upc (by omega)
      refine (congrArg (fun z => Q (V.bl z) H7) (decide_eq_true rfl)).mpr (fin ((c05.trans (sCut s6)).trans ch.1) ws7 os7 G7 ⟨rfl, rfl, rfl, Nat.le_of_eq add_len, add_WR ok G7.ok⟩)
end
end Rb
namespace Rb
open PySem PySem.Spec PyProof.Rows L2
theorem cut_mid {xs : List V} {i j : Nat} (h : i ≤ j) (hj : j ≤ xs.length) : cutV xs (some (i : Int)) (some (j : Int)) = (xs.drop i).take (j - i) := by
  unfold cutV
  rw [HT.sIx_nat, HT.sIx_nat, Nat.min_eq_left (Nat.le_trans h hj), Nat.min_eq_left hj]
theorem ansP_up (es : List Ev) : Up ((ansP es).map fun n : Nat => (n : Int)) := by
  refine List.pairwise_map.mpr ?_
  have h : (ansP es).Pairwise (· ≤ ·) := by
    unfold ansP outs
    refine List.Pairwise.filterMap _ (fun a a' hne b hb b' hb' => ?_) (List.pairwise_le_range (n := es.length))
    have e1 : b = a := by
      cases h : es[a]? with
      | none => rw [h] at hb; cases hb
      | some v => rw [h] at hb; simp at hb; exact hb.2.symm
    have e2 : b' = a' := by
      cases h : es[a']? with
      | none => rw [h] at hb'; cases hb'
      | some v => rw [h] at hb'; simp at hb'; exact hb'.2.symm
    rw [e1, e2]
    exact hne
  exact List.Pairwise.imp (fun h => Int.ofNat_le.mpr h) h
theorem eqv_self {α : Type} {f : α → PyData} : ∀ {xs : List α}, (∀ x ∈ xs, PyData.eqv (f x) (f x) = true) → PyData.eqvAll (xs.map f) (xs.map f) = true
  | [], _ => by simp [PyData.eqvAll]
  | x :: xs, h => by
    simp only [List.map_cons, PyData.eqvAll, h x (List.mem_cons_self ..), eqv_self fun y hy => h y (List.mem_cons_of_mem _ hy), Bool.and_self]
theorem eqv_list {α : Type} {f : α → PyData} {xs : List α} (h : ∀ x ∈ xs, PyData.eqv (f x) (f x) = true) : PyData.eqv (.list (xs.map f)) (.list (xs.map f)) = true := by
  simp only [PyData.eqv]
  exact eqv_self h
theorem evD_lay {e : Ev} (h : EvNames e) : (evD e).canLay0 = true ∧ (evD e).depth ≤ 10 := by
  have h2 := evD_shaped h
  have h3 : (evD e).depth ≤ 10 := by cases e <;> simp [evD, PyData.depth, PyData.depthAll]
  exact ⟨SeqAt.canLay_of_shaped h2, h3⟩
theorem evs_shaped {L : LogD} (ok : LogOk L) : SeqAt.shaped (.list (L.events.map evD)) = true := shaped_list fun d hd => by
  obtain ⟨e, he, rfl⟩ := List.mem_map.mp hd
  exact evD_lay (ok.evNames he)
theorem prs_none {items : List Str} : prs items (fun _ _ => false) = [] := by
  unfold prs
  simp
theorem nats_cut {xs : List Nat} {i j : Nat} (h : i ≤ j) (hj : j ≤ xs.length) : cutV (nats xs) (some (i : Int)) (some (j : Int)) = nats ((xs.drop i).take (j - i)) := by
  rw [cut_mid h (by unfold nats; rw [List.length_map]; exact hj)]
  unfold nats
  rw [List.map_take, List.map_drop]
section
variable {P : Program} {w : World} {K : Frg} {mg : Str → Option Value} {base : Heap}
def spLaw (K : Frg) : Sp := fun vs H Q _ => ∃ (a : Addr) (ns : List Int), vs = [.ref a] ∧ SqL K H a (ns.map V.int) ∧ ∀ H', Q (.bl true) H'
def LawInv (K : Frg) (a na o p : Addr) (xs : List Nat) (qa ba ta oq od ob oj oe ot : Addr) (f : Str → Int) (k : Nat) (σ : L2.St) (H' : Hp) : Prop :=
  ∃ (lp : Addr) (L : LogD) (bars : Str → List Int) (told : List (Nat × List Int)) (sl : Addr) (svs : List V) (W : Rl),
    (∃ u5 u6 u7 u8 u10 u14 u15, σ = [some (V.ref a), some (V.ref na), some (V.ref o), some (V.ref p), some (V.ref sl), u5, u6, u7, u8, none, u10, none, none, none, u14, u15, none, none]) ∧
    CSt K H' p lp qa ba ta o oq od ob oj oe ot L f bars told ∧ L.events.length ≤ k ∧ cut [p, ba, ta, ob, oe, ot] H' na = some (.lst (nats xs)) ∧ cut [p, ba, ta, ob, oe, ot] H' sl = some (.lst svs) ∧
    Paired (rT2 rStr rStr (cut [p, ba, ta, ob, oe, ot] H')) svs (prs L.items W) ∧ leR W (WR L)
theorem ok_law (T : TX K mg) : OkF P w K mg base 14 (fA K "law") ["_law_script"] (spLaw K) := by
  refine okD T.D.d_law sc_law (fun vs H Q E h => ?_) (fun _ _ _ _ _ _ us hl => match us, hl with | [_], _ => rfl) (fun cdv A outer s H vs Q X hr h => ?_)
  · obtain ⟨a, ns, rfl, _⟩ := h
    rfl
  · obtain ⟨a, ns, rfl, ha, q⟩ := h
    have nd := sc_law.nd
    have hu := hu_of hr
    have huu := hr.units
    have GNum := (ok_l_numbers (P := P) (w := w) (base := base) T).mono (k := 13) (by decide)
    have GWo := (ok_l_world (P := P) (w := w) (base := base) T).mono (k := 13) (by decide)
    have GMade := (ok_l_world_made (P := P) (w := w) (base := base) T).mono (k := 13) (by decide)
    have GDeed := (ok_l_deed (P := P) (w := w) (base := base) T).mono (k := 13) (by decide)
    have GParts := (ok_l_parts (P := P) (w := w) (base := base) T).mono (k := 13) (by decide)
    have GLog := (ok_log (P := P) (w := w) (base := base) T).mono (k := 13) (by decide)
    have GBars := (ok_bars_at (P := P) (w := w) (base := base) T).mono (k := 13) (by decide)
    have GExpl := (ok_l_is_explained (P := P) (w := w) (base := base) T).mono (k := 13) (by decide)
    have GRing := (ok_ring_of (P := P) (w := w) (base := base) T).mono (k := 13) (by decide)
    have GEx := (ok_explains (P := P) (w := w) (base := base) T).mono (k := 13) (by decide)
    have GPairs := (ok_l_pairs (P := P) (w := w) (base := base) T).mono (k := 13) (by decide)
    have GSure := (ok_sure_pairs (P := P) (w := w) (base := base) T).mono (k := 13) (by decide)
    have GSays := (ok_l_says (P := P) (w := w) (base := base) T).mono (k := 13) (by decide)
    have GOut := ok_outcomes (P := P) (w := w) (base := base) T
    have GE := ok_events (P := P) (w := w) (base := base) T
    refine ⟨_, pss_cons (ps_set (i := 1) nd rfl (Or.inl rfl) (pcall GNum hr rfl T.G.g_l_numbers (pa_cons (pv 0) (pa_cons pe_int pa_nil))))
      (pss_cons (ps_set (i := 2) nd rfl (Or.inr rfl) (pcall GWo hr rfl T.G.g_l_world (pa_cons (pv 1) (pa_cons pe_int pa_nil))))
      (pss_cons (ps_set (i := 3) nd rfl (Or.inl rfl) (pcall GMade hr rfl T.G.g_l_world_made (pa_cons (pv 2) pa_nil)))
      (pss_cons (ps_set (i := 4) nd rfl (Or.inl rfl) (pe_lst pa_nil))
      (pss_cons (ps_for PassesOwn.never rfl (pi_range1 rfl T.B.b_range (pa_cons (pe_op op_mod (pe_callTy call_int1 rfl T.B.b_int PyProof.Rows.boot_int (pa_cons (pe_ix (ixL K) (pv 1) pe_int (fun _ _ => rfl)) pa_nil)) pe_int) pa_nil)) (pg_name (i := 5) nd rfl (Or.inl rfl))
        (pss_cons (ps_if (pt_not (pt_val (pcall GDeed hr rfl T.G.g_l_deed (pa_cons (pv 3) (pa_cons (pv 2) (pa_cons (pe_slice (slL K) (pv 1) (po_some (pe_op op_add pe_int (pe_op op_mul pe_int (pv 5)))) (po_some (pe_op op_add pe_int (pe_op op_mul pe_int (pv 5))))) pa_nil)))))) (pss_one (ps_ret pe_bl)) pss_nil)
        (pss_cons (ps_set (i := 6) nd rfl (Or.inr rfl) (pcall GParts hr rfl T.G.g_l_parts (pa_cons (pv 2) pa_nil)))
        (pss_cons (ps_set (i := 7) nd rfl (Or.inl rfl) (pmeth0 GLog T.T.cl_World T.M.m_World_log hr (pv 3)))
        (pss_cons (ps_set (i := 8) nd rfl (Or.inl rfl) (pmeth0 GBars T.T.cl_World T.M.m_World_bars_at hr (pv 3)))
        (pss_cons (ps_if (pt_cmpR (neK K huu) (pe_callB sortedKI rfl T.B.b_sorted boot_sorted (pa_cons (pv 8) pa_nil)) (pe_lc (own := [("_law_place", 9)]) (g := gName 9) rfl nd (pi_range1 rfl T.B.b_range (pa_cons (pe_callB (lenK K) rfl T.B.b_len boot_len (pa_cons (pe_ix (ixT K) (pv 6) pe_int (fun _ _ => rfl)) pa_nil)) pa_nil)) (blkOk_by (N := N_law) (sc := defScope s_law) (by decide +kernel))
            (fun _ _ _ _ _ => pg_name (i := 9) nd rfl (Or.inl rfl)) (fun _ _ _ _ _ => pts_one (pt_cmpR op_eq (pe_ix (ixT K) (pe_ix (ixL K) (pe_ix (ixT K) (pv 6) pe_int (fun _ _ => rfl)) (pv 9) (fun _ _ => rfl)) pe_int (fun _ _ => rfl)) pe_str (nomark _))) (fun _ _ _ _ _ => pv 9)) (by with_unfolding_all rfl)) (pss_one (ps_ret pe_bl)) pss_nil)
        (pss_cons (ps_if (PW.pt (pw_or (pt_cmpR (neK K huu) (pprop GE T.T.cl_Log (hr.mono (by decide)) (pv 7)) (pe_ix (ixT K) (pv 6) pe_int (fun _ _ => rfl)) (by with_unfolding_all rfl))
            (pw_or1 (pt_not (pt_val (pcall GExpl hr rfl T.G.g_l_is_explained (pa_cons (pv 6) (pa_cons (pe_dget hu (pv 2) pe_str (fun _ _ => rfl)) (pa_cons (pv 8) pa_nil))))))))) (pss_one (ps_ret pe_bl)) pss_nil)
        (pss_cons (ps_if (PW.pt (pw_or (pt_cmpR op_notN (pcall GRing hr rfl T.G.g_ring_of (pa_cons (pv 7) pa_nil)) pe_non (nomark _))
            (pw_or1 (pt_cmpR op_notBl (pcall GEx hr rfl T.G.g_explains (pa_cons (pv 7) (pa_cons (pe_dget hu (pv 2) pe_str (fun _ _ => rfl)) pa_nil))) pe_bl (nomark _))))) (pss_one (ps_ret pe_bl)) pss_nil)
        (pss_cons (ps_set (i := 10) nd rfl (Or.inr rfl) (pcall GPairs hr rfl T.G.g_l_pairs (pa_cons (pv 6) pa_nil)))
        (pss_cons (ps_if (PW.pt (pw_or (pt_cmpR (neK K huu) (pcall GSure hr rfl T.G.g_sure_pairs (pa_cons (pv 7) pa_nil)) (pv 10) (by with_unfolding_all rfl))
            (pw_or1 (pt_val (pe_callB (anyK K) rfl T.B.b_any boot_any (pa_cons (pe_lc (own := [("_law_pair", 11)]) (g := gName 11) (tt := tYes) rfl nd (piL K (pv 4)) (blkOk_by (N := N_law) (sc := defScope s_law) (by decide +kernel))
              (fun _ _ _ _ _ => pg_name (i := 11) nd rfl (Or.inl rfl)) (fun _ _ _ _ _ => pts_nil) (fun _ _ _ _ _ => pe_cmpR (notInDK K (hu65 hr)) (pv 11) (pv 10) (by with_unfolding_all rfl))) pa_nil)))))) (pss_one (ps_ret pe_bl)) pss_nil)
        (pss_cons (ps_if (pt_val (pe_callB (anyK K) rfl T.B.b_any boot_any (pa_cons (pe_lc (own := [("_law_low", 12), ("_law_high", 13)]) (tt := tYes) rfl nd (piL K (pv 10)) (blkOk_by (N := N_law) (sc := defScope s_law) (by decide +kernel))
              (fun _ _ _ _ _ => pgT K (n := 2) (pgs_cons (pg_name (i := 12) nd rfl (Or.inl rfl)) (pgs_cons (pg_name (i := 13) nd rfl (Or.inl rfl)) pgs_nil))) (fun _ _ _ _ _ => pts_nil) (fun _ _ _ _ _ => pe_cmpR op_ge (pe_dget (hu_of hr) (pe_dget (hu_of hr) (pv 2) pe_str (fun _ _ => rfl)) (pv 12) (fun _ _ => rfl)) (pe_dget (hu_of hr) (pe_dget (hu_of hr) (pv 2) pe_str (fun _ _ => rfl)) (pv 13) (fun _ _ => rfl)) (nomark _))) pa_nil))) (pss_one (ps_ret pe_bl)) pss_nil)
        (pss_cons (ps_set (i := 4) nd rfl (Or.inl rfl) (pv 10))
        (pss_cons (ps_set (i := 14) nd rfl (Or.inl rfl) (pe_ix (ixL K) (pe_dget hu (pv 2) pe_str (fun _ _ => rfl)) (pe_op op_mod (pe_callTy call_int1 rfl T.B.b_int PyProof.Rows.boot_int (pa_cons (pe_ix (ixL K) (pv 1) (pe_op op_add pe_int (pe_op op_mul pe_int (pv 5))) (fun _ _ => rfl)) pa_nil)) (pe_callB (lenK K) rfl T.B.b_len boot_len (pa_cons (pe_dget hu (pv 2) pe_str (fun _ _ => rfl)) pa_nil))) (fun _ _ => rfl)))
        (pss_cons (ps_set (i := 15) nd rfl (Or.inl rfl) (pe_ix (ixL K) (pe_ix (ixT K) (pv 6) pe_int (fun _ _ => rfl)) (pe_op op_mod (pe_callTy call_int1 rfl T.B.b_int PyProof.Rows.boot_int (pa_cons (pe_ix (ixL K) (pv 1) (pe_op op_add pe_int (pe_op op_mul pe_int (pv 5))) (fun _ _ => rfl)) pa_nil)) (pe_callB (lenK K) rfl T.B.b_len boot_len (pa_cons (pe_ix (ixT K) (pv 6) pe_int (fun _ _ => rfl)) pa_nil))) (fun _ _ => rfl)))
        (pss_one (ps_if (pt_cmpR (notInK K) (pcall GSays hr rfl T.G.g_l_says (pa_cons (pv 2) (pa_cons (pv 14) (pa_cons (pv 15) pa_nil)))) (pe_lc (own := [("_law_grade", 16), ("_law_made_here", 17)]) (tt := tYes) rfl nd (piL K (pcall GOut hr rfl T.G.g_outcomes (pa_cons (pv 7) (pa_cons (pv 14) (pa_cons (pv 15) pa_nil))))) (blkOk_by (N := N_law) (sc := defScope s_law) (by decide +kernel))
              (fun _ _ _ _ _ => pgT K (n := 2) (pgs_cons (pg_name (i := 16) nd rfl (Or.inl rfl)) (pgs_cons (pg_name (i := 17) nd rfl (Or.inl rfl)) pgs_nil))) (fun _ _ _ _ _ => pts_nil) (fun _ _ _ _ _ => pv 16)) (by with_unfolding_all rfl)) (pss_one (ps_ret pe_bl)) pss_nil))))))))))))))))
      (pss_one (ps_ret pe_bl)))))), ?_⟩
    have k31 : ∀ k : Nat, k < 20 → 37 + 6 * k ≤ 160 := fun k h => by omega
    -- the numbers
    refine ⟨_, rfl, a, ns, 160, rfl, ha, by decide, fun v xs H1 s1 lx sm hv => ?_⟩
    obtain ⟨na, nvs, rfl, nna, hna, pna⟩ := hv
    have hna : H1 na = some (.lst (nats xs)) := by rw [hna, pNat.mp pna]; rfl
    clear pna
    -- the own world, the world
    refine ⟨_, rfl, na, xs, rfl, hna, by omega, sm, fun o oq od ob oj oe ot L0 f bars0 H2 s2 nob noe not os ok0 ee l5 l3 bok g40 => ?_⟩
    refine ⟨_, rfl, o, oq, od, ob, oj, oe, ot, L0, f, bars0, rfl, os, ok0, ee, bok, fun p lp0 qa ba ta H3 s3 np nba nta pba pta ws0 => ?_⟩
    have cs0 : CSt K H3 p lp0 qa ba ta o oq od ob oj oe ot L0 f bars0 [] := by
      obtain ⟨kb, hkb, _⟩ := os.barsOk
      obtain ⟨ve, hve, _⟩ := os.events
      obtain ⟨kt, hkt, _⟩ := os.told
      have o12 : ob ≠ oe := fun e => by subst e; rw [hkb] at hve; cases hve
      have o23 : oe ≠ ot := fun e => by subst e; rw [hkt] at hve; cases hve
      have q1 := (ne_of_none hkb np).symm
      have q2 := (ne_of_none hve np).symm
      have q3 := (ne_of_none hkt np).symm
      have q4 := (ne_of_none hkb nba).symm
      have q5 := (ne_of_none hve nba).symm
      have q6 := (ne_of_none hkt nba).symm
      have q7 := (ne_of_none hkb nta).symm
      have q8 := (ne_of_none hve nta).symm
      have q9 := (ne_of_none hkt nta).symm
      refine ⟨by simp [pba, pta, q1, q2, q3, q4, q5, q6, q7, q8, q9, ws0.ne, o12, os.bt, o23], ws0, os.grow s3 np nba nta, ⟨ok0, by rw [ee]; rfl, bok, ⟨.nil, (fun _ m => nomatch m), (fun _ m => nomatch m)⟩, (fun _ m => nomatch m)⟩, g40⟩
    have cut0 : ∀ {b : Addr} {u : HO}, H1 b = some u → cut [p, ba, ta, ob, oe, ot] H3 b = some u := fun {b u} hb => by
      have hb2 := s2 _ _ hb
      refine (cut_out fun m => ?_).trans (s3 _ _ hb2)
      simp only [List.mem_cons, List.mem_nil_iff, or_false] at m
      rcases m with rfl | rfl | rfl | rfl | rfl | rfl
      · rw [np] at hb2; cases hb2
      · rw [nba] at hb2; cases hb2
      · rw [nta] at hb2; cases hb2
      · rw [nob] at hb; cases hb
      · rw [noe] at hb; cases hb
      · rw [not] at hb; cases hb
    have hna3 := cut0 hna
    -- _law_sure
    refine ⟨by show 0 ≤ sizeLine; decide, fun sl nsl => ?_⟩
    have s4 := sNew (o := .lst []) nsl
    have cs4 := cs0.mono s4
    have hna4 := sCut (F := [p, ba, ta, ob, oe, ot]) s4 _ _ hna3
    have hsl4 : cut [p, ba, ta, ob, oe, ot] (upd H3 sl (.lst [])) sl = some (.lst []) := Same.cutN upd_same cs0.ws.here nsl
    have l0 : L0.events.length = 0 := by rw [ee]; rfl
    generalize upd H3 sl (.lst []) = H4 at cs4 hna4 hsl4
    clear s4 nsl
    refine ⟨_, rfl, na, _, ((30 : Nat) : Int), _, rfl, rfl, SqL.of (cut_le _ _ hna4), atI_nat (get_natD (by omega)), .inl ⟨_, rfl, _, _, rfl, rfl, (by decide : (0 : Int) < 21), _, rfl, by omega, by omega, ?_⟩⟩
    have e21 : (((xs.getD 30 0 : Nat) : Int) % 21).toNat = xs.getD 30 0 % 21 := by omega
    rw [e21]
    have n20 : xs.getD 30 0 % 21 ≤ 20 := by omega
    generalize xs.getD 30 0 % 21 = n at n20
    refine for_it (walk_nat (n := n)) (LawInv K a na o p xs qa ba ta oq od ob oj oe ot f)
      ⟨lp0, L0, bars0, [], sl, [], fun _ _ => false, ⟨_, _, _, _, _, _, _, rfl⟩, cs4, by rw [l0]; exact Nat.le_refl _, hna4, hsl4, by rw [prs_none]; exact .nil, fun _ _ h => nomatch h⟩ (fun _ _ _ _ _ => trivial) ?_ ?_
    · rintro k x σ H5 H6 hk ⟨lp, L, bars, told, sl, svs, W, ⟨u5, u6, u7, u8, u10, u14, u15, rfl⟩, cs, lk, hna, hsl, psl, lW⟩ ⟨rfl, rfl⟩
      have k20 : k < 20 := by omega
      have hna6 := cut_le _ _ hna
      -- the deed
      refine ⟨_, rfl, _, rfl, _, rfl, _, rfl, _, _, rfl, rfl, .inl ⟨by decide, by decide⟩, _, _, rfl, rfl, _, rfl, _, rfl, _, _, rfl, rfl, .inl ⟨by decide, by decide⟩, _, _, rfl, rfl, _, rfl, na, _, rfl, SqL.of hna6, fun da nda => ?_⟩
      have ecut : cutV (nats xs) (some (31 + 6 * (k : Int))) (some (37 + 6 * (k : Int))) = nats ((xs.drop (31 + 6 * k)).take 6) := by
        have e := nats_cut (xs := xs) (i := 31 + 6 * k) (j := 37 + 6 * k) (by omega) (by omega)
        rw [show 37 + 6 * k - (31 + 6 * k) = 6 by omega] at e
        exact e
      rw [ecut]
      have s7 := sNew (o := .lst (nats ((xs.drop (31 + 6 * k)).take 6))) nda
      have hda : cut [p, ba, ta, ob, oe, ot] (upd H6 da (.lst (nats ((xs.drop (31 + 6 * k)).take 6)))) da = some (.lst (nats ((xs.drop (31 + 6 * k)).take 6))) := Same.cutN upd_same cs.ws.here nda
      refine ⟨p, lp, qa, ba, ta, o, oq, od, ob, oj, oe, ot, da, L, f, bars, told, _, rfl, cs.mono s7, hda, by rw [List.length_take, List.length_drop]; omega, by omega, fun lp1 L1 bars1 told1 H8 c8 cs8 gr => ⟨true, rfl, iteF ?_⟩⟩
      obtain ⟨g1, g2, g3, g4', g5⟩ := gr
      have c68 : Same (cut [p, ba, ta, ob, oe, ot] H6) (cut [p, ba, ta, ob, oe, ot] H8) := (sCut s7).trans c8
      have G := cs8.good
      have ok := G.ok
      have ex := G.expl
      have lev : L1.events.length ≤ k + 1 := by omega
      have hna8 := c68 _ _ hna
      have hsl8 := cut_le _ _ (c68 _ _ hsl)
      have psl8 := pMono (cut_le (F := [p, ba, ta, ob, oe, ot]) (H := H8)) (pMono c68 psl)
      have itE : prs L.items W = prs L1.items W := by rw [g1]
      rw [itE] at psl8
      have lW1 : leR W (WR L1) := fun x y h => g5 x y (lW x y h)
      -- parts, log, told
      refine ⟨_, rfl, [p, ba, ta, ob, oe, ot], o, oq, od, ob, oj, oe, ot, L1, f, bars1, rfl, cs8.os, ok, fun t H9 s9 hP => ?_⟩
      have cs9 := cs8.mono s9
      obtain ⟨dx, hp⟩ := cs9.ws.obj
      refine ⟨_, rfl, p, dx, _, rfl, hp, wf_no (by decide +kernel), p, lp1, qa, ba, ta, L1, f, bars1, told1, [p, ba, ta, ob, oe, ot], rfl, cs9.ws, ?_⟩
      have tnd : (told1.map (·.1)).Nodup := G.tok.nd
      have ltold : told1.length ≤ L1.events.length := by
        have e1 := congrArg List.length G.keys
        rw [List.length_map] at e1
        have := outs_len (fun i => (L1.events[i]?).bind fun e => if isAns e then some i else none) L1.events.length
        unfold ansP at e1
        omega
      refine ⟨_, rfl, p, dx, _, rfl, hp, wf_no (by decide +kernel), p, lp1, qa, ba, ta, L1, f, bars1, told1, [p, ba, ta, ob, oe, ot], rfl, cs9.ws, tnd, by omega, fun tl ktl Ha sa ntl htl pkt => ?_⟩
      -- sorted(told) != [..]
      have csa := cs9.mono sa
      have hPa := hP.mono sa
      obtain ⟨si, jl, er, jvs, evs, ht, hsi, hjl, pjl, her, pev⟩ := id hPa
      have le := pLen pev
      refine ⟨_, rfl, tl, ktl, toldI told1, rfl, .inl htl, told_keysI pkt, by unfold toldI; rw [List.length_map]; omega, fun ys y1 pm up ny1 => ?_⟩
      have sb := sNew (o := .lst (ys.map V.int)) ny1
      refine ⟨_, rfl, t, _, _, _, rfl, rfl, SqT.of (sb _ _ ht), rfl, er, _, rfl, .inl (SqL.of (sb _ _ her)), _, rfl, by omega, by omega, fun C hC => ?_⟩
      have ee0 : ((evs.length : Int)).toNat = L1.events.length := by omega
      rw [ee0]
      refine lcP walk_nat rNat hC (Nat.lt_of_le_of_lt ok.few (by decide)) (fun i => (L1.events[i]?).bind fun e => if isAns e then some i else none) (fun _ _ => trivial) ?_ ?_
      · rintro i x Hb Hc KT KF hi e _ ⟨rfl, rfl⟩ kt kf
        have se := sb.trans e
        obtain ⟨ev, hev⟩ : ∃ ev, L1.events[i]? = some ev := ⟨_, List.getElem?_eq_getElem hi⟩
        obtain ⟨v, hv, rv⟩ := pGet' pev hev
        have sn : decide (V.str "reset" = V.str "answer") = false := by decide +kernel
        cases ev with
        | ans j x g =>
          obtain ⟨r, rfl, hr⟩ := rv
          exact ⟨rfl, _, rfl, t, _, _, _, rfl, rfl, SqT.of (se _ _ ht), rfl, _, rfl, er, _, (i : Int), _, rfl, rfl, SqL.of (se _ _ her), atI_nat hv, r, _, _, _, rfl, rfl, SqT.of (se _ _ hr), rfl, rfl, true, congrArg V.bl (decide_eq_true rfl), iteT ⟨_, rfl, kt _ _ i (by rw [hev]; rfl) (Same.refl _) rfl⟩⟩
        | rst j =>
          obtain ⟨r, rfl, hr⟩ := rv
          exact ⟨rfl, _, rfl, t, _, _, _, rfl, rfl, SqT.of (se _ _ ht), rfl, _, rfl, er, _, (i : Int), _, rfl, rfl, SqL.of (se _ _ her), atI_nat hv, r, _, _, _, rfl, rfl, SqT.of (se _ _ hr), rfl, rfl, false, congrArg V.bl sn, iteF (kf _ (by rw [hev]; rfl) (Same.refl _))⟩
      intro Hb mb
      have sC := mb.same
      have hC : Hb C = some (.lst (((ansP L1.events).map fun n : Nat => (n : Int)).map V.int)) := by rw [← nats_ints]; exact mb.nats
      have eys : ys = (ansP L1.events).map fun n : Nat => (n : Int) := by
        refine ints_uniq ?_ up (ansP_up _)
        have e1 : toldI told1 = (ansP L1.events).map fun n : Nat => (n : Int) := by
          rw [← G.keys]
          unfold toldI
          rw [List.map_map]
          rfl
        rw [← e1]
        exact pm
      refine ⟨intsD ys, intsD ((ansP L1.events).map fun n : Nat => (n : Int)), intsD_dp (sC _ _ upd_same), intsD_dp hC, intsD_shaped _, intsD_shaped _, ?_⟩
      rw [intsD_eqv, decide_eq_true eys]
      refine ⟨false, rfl, iteF ?_⟩
      have sab := sb.trans sC
      -- events, is_explained
      have csb := csa.mono sab
      have hPb := hPa.mono sab
      have hLb := csb.ws.log.mono cut_le
      obtain ⟨dx2, pi, pj, pe, vj, ve, hp2, _⟩ := hLb.ex
      refine ⟨_, rfl, lp1, dx2, _, rfl, hp2, lp1, L1, rfl, hLb, fun v Hc sc hv => ?_⟩
      obtain ⟨ea, evs2, rfl, hea, pea⟩ := hv
      have hPc := hPb.mono sc
      obtain ⟨si, jl, er, jvs, evs, ht, hsi, hjl, pjl, her, pev⟩ := id hPc
      refine ⟨_, rfl, t, _, _, _, rfl, rfl, SqT.of ht, rfl, .list (L1.events.map evD), .list (L1.events.map evD), .lst (SqL.of hea) (dp_list (fun v x h => evD_dp h) pea), .lst (SqL.of her) (dp_list (fun v x h => evD_dp h) pev), evs_shaped ok, evs_shaped ok, ?_⟩
      rw [eqv_list fun e _ => by rw [evD_eqv]; exact decide_eq_true rfl]
      refine ⟨false, rfl, iteF ?_⟩
      have csc := csb.mono sc
      have sac := sab.trans sc
      have ho := cut_le _ _ csc.os.own
      obtain ⟨kq, ks, hkq, _, _, _, vals⟩ := csc.os.qual
      have hkq := cut_le _ _ hkq
      refine ⟨_, rfl, _, rfl, o, _, rfl, dgetK (k := .inr "qualities") ho ok_qua, _, rfl, t, oq, tl, L1, f, kq, ktl, told1, rfl, hPc, ok, hkq, vals, sac _ _ htl, ToldRow.mono sac pkt, G.tok, by omega, fun Hd sd => ⟨true, rfl, iteF ?_⟩⟩
      -- ring_of, explains
      have csd := csc.mono sd
      have hLd := csd.ws.log.mono cut_le
      refine ⟨_, rfl, lp1, L1, rfl, hLd, ok, fun v He se hv => ?_⟩
      obtain rfl := hv f ex
      refine ⟨rfl, false, rfl, iteF ?_⟩
      have cse := csd.mono se
      have hLe := hLd.mono se
      have sde := sd.trans se
      refine ⟨_, rfl, _, rfl, o, _, rfl, dgetK (k := .inr "qualities") (sde _ _ ho) ok_qua, lp1, oq, L1, kq, f, rfl, hLe, ok, sde _ _ hkq, vals, ex, fun Hf sf => ⟨_, _, rfl, rfl, false, rfl, iteF ?_⟩⟩
      -- the pairs
      have csf := cse.mono sf
      have sdf := sde.trans sf
      have hPf := hPc.mono sdf
      refine ⟨_, rfl, t, L1, rfl, hPf, ok, fun v Hg sg hv => ?_⟩
      obtain ⟨pl, pvs, rfl, npl, hpl, ppl⟩ := hv
      have csg := csf.mono sg
      have hLg := csg.ws.log.mono cut_le
      refine ⟨_, rfl, lp1, L1, f, rfl, hLg, ok, ex, fun v Hh sh hv => ?_⟩
      obtain ⟨ql, qvs, rfl, _, hql, pql⟩ := hv
      have hplh := sh _ _ hpl
      have pplh := pMono sh ppl
      refine ⟨_, rfl, .list ((prs L1.items (WR L1)).map prD), .list ((prs L1.items (WR L1)).map prD), .lst (SqL.of hql) (dp_list prD_dp pql), .lst (SqL.of hplh) (dp_list prD_dp pplh), prs_shaped ok, prs_shaped ok, ?_⟩
      rw [eqv_list fun e _ => by rw [prD_eqv]; exact decide_eq_true rfl]
      refine ⟨false, rfl, iteF ?_⟩
      -- none goes away
      have s8h : Same H8 Hh := (((s9.trans sa).trans sac).trans sdf).trans (sg.trans sh)
      have hslh := s8h _ _ hsl8
      have pslh := pMono s8h psl8
      have lsv := pLen pslh
      have l400 : svs.length ≤ 400 := by
        rw [lsv]
        have l1 := prs_len (items := L1.items) (xs := L1.items) (W := W)
        exact Nat.le_trans l1 (Nat.mul_le_mul ok.items.le ok.items.le)
      refine ⟨_, rfl, sl, rfl, ⟨_, SqL.of hslh⟩, fun D hD => lcP walk_list rBl hD (Nat.lt_of_le_of_lt l400 (by decide)) (fun _ => some false) (fun _ e => SqL.of (e _ _ hslh)) ?_ ?_⟩
      · rintro i x Hi Hj KT KF hi e _ ⟨rfl, hx⟩ kt kf
        obtain ⟨pr, hpr, h0⟩ := pGet pslh hx
        have hm := List.mem_of_getElem? hpr
        have hm2 : pr ∈ prs L1.items (WR L1) := by
          obtain ⟨x1, y1⟩ := pr
          obtain ⟨h1, h2, h3⟩ := mem_prs.mp hm
          exact mem_prs.mpr ⟨h1, h2, lW1 _ _ h3⟩
        refine ⟨rfl, yes_it ⟨_, rfl, _, rfl, prD pr, (prs L1.items (WR L1)).map prD, prD_dp _ _ (Mono.mono e h0), .lst (SqL.of (e _ _ hplh)) (dp_list prD_dp (pMono e pplh)), prD_shaped (ok.prNames hm2), prs_shaped ok, ?_⟩⟩
        rw [any_eqv prD_eqv]
        exact kt _ _ false rfl (Same.refl _) (by unfold rBl; simp [hm2])
      intro Hi mi
      refine ⟨D, _, rfl, SqL.of mi.bls, ?_⟩
      rw [any_false fun _ _ => rfl]
      refine ⟨false, rfl, iteF ?_⟩
      -- each is so in the world
      have s8i := s8h.trans mi.same
      have hpli := mi.same _ _ hplh
      have ppli := pMono mi.same pplh
      have csi := cs8.mono s8i
      have hoi := cut_le _ _ csi.os.own
      obtain ⟨kq2, ks2, hkq2, _, _, _, vals2⟩ := csi.os.qual
      have hkq2 := cut_le _ _ hkq2
      have lpv : pvs.length ≤ 400 := by
        rw [pLen ppl]
        have l1 := prs_len (items := L1.items) (xs := L1.items) (W := WR L1)
        exact Nat.le_trans l1 (Nat.mul_le_mul ok.items.le ok.items.le)
      refine ⟨_, rfl, pl, rfl, ⟨_, SqL.of hpli⟩, fun D2 hD2 => lcP walk_list rBl hD2 (Nat.lt_of_le_of_lt lpv (by decide)) (fun _ => some false) (fun _ e => SqL.of (e _ _ hpli)) ?_ ?_⟩
      · rintro i x Hj Hk KT KF hi e _ ⟨rfl, hx⟩ kt kf
        obtain ⟨⟨x1, y1⟩, hpr, t2, v1, v2, rfl, ht2, rfl, rfl⟩ := pGet ppli hx
        obtain ⟨h1, h2, h3⟩ := mem_prs.mp (List.mem_of_getElem? hpr)
        have lt := WR_less ex h3
        exact ⟨t2, _, rfl, SqT.of (e _ _ ht2), rfl, _, _, rfl, _, _, rfl, rfl, rfl, yes_it ⟨_, rfl, o, _, rfl, dgetK (k := .inr "qualities") (e _ _ hoi) ok_qua, _, rfl, oq, _, rfl, dgetK (k := .inr x1) (e _ _ hkq2) (vals2 x1 h1), _, rfl, o, _, rfl, dgetK (k := .inr "qualities") (e _ _ hoi) ok_qua, _, rfl, oq, _, rfl, dgetK (k := .inr y1) (e _ _ hkq2) (vals2 y1 h2), _, _, rfl, rfl, kt _ _ false rfl (Same.refl _) (congrArg V.bl (decide_eq_false (by omega)))⟩⟩
      intro Hj mj
      refine ⟨D2, _, rfl, SqL.of mj.bls, ?_⟩
      rw [any_false fun _ _ => rfl]
      refine ⟨false, rfl, iteF ?_⟩
      -- sure = pairs; judge, item
      have s8j := s8i.trans mj.same
      have csj := cs8.mono s8j
      have hplj := mj.same _ _ hpli
      have pplj := pMono mj.same ppli
      have hoj := cut_le _ _ csj.os.own
      have hjj := cut_le _ _ csj.os.judges
      have hnaj := cut_le _ _ (sCut (F := [p, ba, ta, ob, oe, ot]) s8j _ _ hna8)
      have hPj := hP.mono (sa.trans ((sac.trans sdf).trans ((sg.trans sh).trans (mi.same.trans mj.same))))
      obtain ⟨si2, jl2, er2, jvs2, evs3, ht2, hsi2, _⟩ := id hPj
      have lnj : ((L1.judges.map (·.1)).map V.str).length = (L1.judges.map (·.1)).length := List.length_map _
      have pj0 : 0 < (L1.judges.map (·.1)).length := ok.judges.pos
      have pj2 : (0 : Int) < ((((L1.judges.map (·.1)).map V.str).length : Nat) : Int) := by rw [lnj]; exact Int.ofNat_lt.mpr pj0
      obtain ⟨j, hjx⟩ : ∃ j, (L1.judges.map (·.1))[xs.getD (31 + 6 * k) 0 % ((L1.judges.map (·.1)).map V.str).length]? = some j := ⟨_, List.getElem?_eq_getElem (by rw [lnj]; exact Nat.mod_lt _ pj0)⟩
      have hj := List.mem_of_getElem? hjx
      obtain ⟨⟨j0, d⟩, hjd, e0⟩ := List.mem_map.mp hj
      obtain rfl : j0 = j := e0
      have hjv : ((L1.judges.map (·.1)).map V.str)[xs.getD (31 + 6 * k) 0 % ((L1.judges.map (·.1)).map V.str).length]? = some (.str j0) := by rw [List.getElem?_map, hjx]; rfl
      have lni : (L1.items.map V.str).length = L1.items.length := List.length_map _
      have pi2 : (0 : Int) < (((L1.items.map V.str).length : Nat) : Int) := by rw [lni]; exact Int.ofNat_lt.mpr ok.items.pos
      obtain ⟨x, hxi⟩ : ∃ x, L1.items[xs.getD (32 + 6 * k) 0 % (L1.items.map V.str).length]? = some x := ⟨_, List.getElem?_eq_getElem (by rw [lni]; exact Nat.mod_lt _ ok.items.pos)⟩
      have hx := List.mem_of_getElem? hxi
      have hxv : (L1.items.map V.str)[xs.getD (32 + 6 * k) 0 % (L1.items.map V.str).length]? = some (.str x) := by rw [List.getElem?_map, hxi]; rfl
      refine ⟨_, rfl, ?_⟩
      refine ⟨_, rfl, o, _, rfl, dgetK (k := .inr "judges") hoj ok_jud, _, rfl, _, rfl, _, _, rfl, rfl, .inl ⟨by decide, by decide⟩, _, _, rfl, rfl, na, _, ((31 + 6 * k : Nat) : Int), _, rfl, rfl, SqL.of hnaj, atI_nat (get_natD (by omega)), .inl ⟨_, rfl, _, rfl, o, _, rfl, dgetK (k := .inr "judges") hoj ok_jud, oj, _, rfl, .inl (SqL.of hjj), _, _, rfl, rfl, pj2, oj, _, ((xs.getD (31 + 6 * k) 0 % ((L1.judges.map (·.1)).map V.str).length : Nat) : Int), _, rfl, rfl, SqL.of hjj, atI_nat hjv, ?_⟩⟩
      refine ⟨_, rfl, t, _, _, _, rfl, rfl, SqT.of ht2, rfl, _, rfl, _, rfl, _, _, rfl, rfl, .inl ⟨by decide, by decide⟩, _, _, rfl, rfl, na, _, ((32 + 6 * k : Nat) : Int), _, rfl, rfl, SqL.of hnaj, atI_nat (get_natD (by omega)), .inl ⟨_, rfl, _, rfl, t, _, _, _, rfl, rfl, SqT.of ht2, rfl, si2, _, rfl, .inl (SqL.of hsi2), _, _, rfl, rfl, pi2, si2, _, ((xs.getD (32 + 6 * k) 0 % (L1.items.map V.str).length : Nat) : Int), _, rfl, rfl, SqL.of hsi2, atI_nat hxv, ?_⟩⟩
      -- what would be said is an outcome
      obtain ⟨lb, ub⟩ := G.bar j0 hj
      refine ⟨_, rfl, _, rfl, _, rfl, [p, ba, ta, ob, oe, ot], o, oq, od, ob, oj, oe, ot, L1, f, bars1, j0, x, rfl, csj.os, hj, hx, by rw [lb]; exact ok.g9, fun Hl sl2 => ?_⟩
      have csl := csj.mono sl2
      have hLl := csl.ws.log.mono cut_le
      refine ⟨_, rfl, _, rfl, _, rfl, lp1, L1, j0, d, x, f, rfl, hLl, ok, ex, hjd, hx, by omega, fun v gs Hm sm2 hgs lgs hv => ?_⟩
      obtain ⟨ol, ovs, rfl, hol, pol⟩ := hv
      have lov := pLen pol
      refine ⟨ol, rfl, ⟨_, SqL.of hol⟩, fun D3 hD3 => lcP walk_list rNat hD3 (by rw [lov]; exact Nat.lt_of_le_of_lt lgs (by decide)) (fun i : Nat => (gs[i]?).map fun g => g) (fun _ e => SqL.of (e _ _ hol)) ?_ ?_⟩
      · rintro i x Hn Ho KT KF hi e _ ⟨rfl, hx⟩ kt kf
        obtain ⟨g, hg, t3, y, rfl, ht3⟩ := pGet pol hx
        exact ⟨t3, _, rfl, SqT.of (e _ _ ht3), rfl, _, _, rfl, _, _, rfl, rfl, rfl, yes_it ⟨_, rfl, kt _ _ g (by rw [hg]; rfl) (Same.refl _) rfl⟩⟩
      intro Hn mn
      rw [lov, outs_map, List.map_id'] at mn
      have hin : sayN (bars1 j0) (f x) ∈ gs := hgs _ (by rw [← lb]; exact sayN_le) ⟨f, (G.answer hjd hx (by omega)).expl⟩
      refine ⟨D3, _, rfl, .inl (SqL.of mn.nats), rfl, flat_ints gs, ?_⟩
      rw [inV_nat, decide_eq_true hin]
      refine ⟨false, rfl, iteF ?_⟩
      -- the next turn
      have s8n := ((s8j.trans sl2).trans sm2).trans mn.same
      have plF : pl ∉ [p, ba, ta, ob, oe, ot] := fun m => csf.ws.here pl m npl
      have csn := cs8.mono s8n
      have sjn := (sl2.trans sm2).trans mn.same
      refine ⟨lp1, L1, bars1, told1, pl, pvs, WR L1, ⟨_, _, _, _, _, _, _, rfl⟩, csn, lev, sCut s8n _ _ hna8, ?_, Paired.mapP (pMono sjn pplj) fun v x z => ?_, fun _ _ h => h⟩
      · rw [cut_out plF]
        exact sjn _ _ hplj
      · obtain ⟨t4, y4, z4, e4, h4, r4, r5⟩ := z
        exact ⟨t4, y4, z4, e4, by rw [cut_out fun m => csn.ws.flat t4 m _ h4]; exact h4, r4, r5⟩
    · rintro σ H5 ⟨lp, L, bars, told, sl, svs, W, ⟨u5, u6, u7, u8, u10, u14, u15, rfl⟩, _⟩
      exact q _
end
end Rb
/-! the head: what stands behind the top, by an own Hook -/
namespace Rb
open PySem PySem.Spec PyProof.Rows L2
/-- what a dict holds; where a def's code, a class's names, a property's getter stand -/
def valsOf (g : Addr → Option Obj) (a : Addr) : List Addr := match g a with
  | some ⟨_, _, .dict es _, _⟩ => es.toList.flatMap fun e => He.refV e.val
  | _ => []
def codeOf (g : Addr → Option Obj) (a : Addr) : List Addr := match g a with
  | some ⟨_, _, .func fd, _⟩ => He.refV fd.code
  | some ⟨_, _, .cls cd, _⟩ => [cd.ns]
  | some ⟨_, _, .fields vs, _⟩ => vs.toList.flatMap He.refV
  | _ => []
def force {β : Type} : List Addr → List Addr → (List Addr → β) → β
  | [], acc, k => k acc
  | a :: r, acc, k => HandSHeadRun.frNat a fun a => force r (a :: acc) k
theorem force_eq {β : Type} : ∀ (l acc : List Addr) (k : List Addr → β), force l acc k = k (l.reverse ++ acc)
  | [], acc, k => rfl
  | a :: r, acc, k => by
    show HandSHeadRun.frNat a (fun a => force r (a :: acc) k) = _
    rw [HandSHeadRun.frNat_eq, force_eq r, List.reverse_cons, List.append_assoc]
    rfl
def withAs {β : Type} (g : Addr → Option Obj) (k : List Addr → β) : β :=
  force (valsOf g mainGlobals) [] fun l1 => force (l1.flatMap (codeOf g)) [] fun l2 => force (l2.flatMap (valsOf g)) [] fun l3 => force (l3.flatMap (codeOf g)) [] fun l4 => force (l4.flatMap (codeOf g)) [] fun l5 => k (mainGlobals :: (l1 ++ (l2 ++ (l3 ++ (l4 ++ l5)))))
theorem withAs_at {β : Type} (g : Addr → Option Obj) (k : List Addr → β) : ∃ as, withAs g k = k as := ⟨_, by
  unfold withAs
  rw [force_eq, force_eq, force_eq, force_eq, force_eq]⟩
/-! ### properties, defs at addresses -/
def prA (K : Frg) (C f : Str) : Addr := He.ma K (He.ga K C) f
def gtA (K : Frg) (C f : Str) : Addr := match PySem.W.recIn K (prA K C f) "property" with
  | some (.ref g :: _) => g
  | _ => 0
def prpB (K : Frg) (p : Str × Str) : Bool := He.eqO (PySem.W.findIn K (.ref (He.ga K p.1)) p.2) (some (some (.ref (prA K p.1 p.2)))) && (He.eqO (PySem.W.specialIn K (.ref (prA K p.1 p.2)) "__get__") (some (some (.builtin "property.__get__"))) &&
  (decide (PySem.W.takesIn K (.ref (prA K p.1 p.2)) = some true) && (match PySem.W.recIn K (prA K p.1 p.2) "property" with
  | some (.ref _ :: _) => true
  | _ => false)))
theorem prp_ok {K : Frg} {C f : Str} (h : prpB K (C, f) = true) : PropOf K (He.ga K C) f (prA K C f) (gtA K C f) := by
  obtain ⟨h1, h⟩ := He.ba h
  obtain ⟨h2, h⟩ := He.ba h
  obtain ⟨h3, h4⟩ := He.ba h
  refine ⟨He.eqO_ok h1, He.eqO_ok h2, of_decide_eq_true h3, ?_⟩
  have h5 : (match PySem.W.recIn K (prA K C f) "property" with
    | some (.ref _ :: _) => true
    | _ => false) = true := h4
  unfold gtA
  split at h5
  · rename_i g r e
    rw [e]
    exact ⟨r, rfl⟩
  · cases h5
structure DX where
  ad : Frg → Addr
  name : Str
  qual : Str
  st : Stmt
def fnA (K : Frg) (a : Addr) : He.FnW := match K.lookup a with
  | some ⟨_, _, .func fd, _⟩ => some (fd.name, fd.qualname, fd.params, fd.body, fd.scope, fd.globals, fd.closure, fd.builtins)
  | _ => none
def DX.val (d : DX) : He.FnW := some (d.name, d.qual, defArgs d.st, .stmts (defBody d.st), defScope d.st, mainGlobals, [], builtinsNs)
def DX.ok (K : Frg) (d : DX) : Bool := PySem.W.keepIn K (.ref (d.ad K)) && (match K.lookup (d.ad K) with
  | some ⟨_, _, .func fd, _⟩ => PySem.W.codeIn K fd.code d.qual && He.dflB K fd.defaults []
  | _ => false)
theorem DX.def_ {K : Frg} {d : DX} (e : fnA K (d.ad K) = d.val) (c : d.ok K = true) : DefAt K d.name d.qual d.st (d.ad K) := by
  obtain ⟨kp, c2⟩ := He.ba c
  unfold fnA at e
  cases q : K.lookup (d.ad K) with
  | none => rw [q] at c2; cases c2
  | some o =>
    obtain ⟨oc, od, dt, osl⟩ := o
    rw [q] at c2 e
    cases dt with
    | func fd =>
      obtain ⟨n1, n2, n3, n4, n5, n6, n7, n8, n9, n10, n11, n12, n13, n14, n15⟩ := fd
      have e2 : (some (n1, n2, n3, n4, n5, n6, n7, n15) : He.FnW) = some (d.name, d.qual, defArgs d.st, .stmts (defBody d.st), defScope d.st, mainGlobals, [], builtinsNs) := e
      simp only [Option.some.injEq, Prod.mk.injEq] at e2
      obtain ⟨h1, h2, h3, h4, h5, h6, h7, h8⟩ := e2
      subst h1 h2 h3 h4 h5 h6 h7 h8
      have c3 : (PySem.W.codeIn K n13 d.qual && He.dflB K n8 []) = true := c2
      obtain ⟨k1, k2⟩ := He.ba c3
      exact ⟨_, ⟨oc, od, n8, n9, n10, n11, n12, n13, n14, osl, rfl, q, k1, He.dflB_ok k2, .inl rfl⟩, kp⟩
    | _ => cases c2
/-! ### the Hook -/
abbrev AlX : Type := Bool × List He.FnW
def obsX (fa : List He.Fa) (pr : List (Str × Str)) (ds : List DX) (K : Frg) : AlX := ((fa.all fun f => f.ok K) && ((pr.all fun p => prpB K p) && ds.all fun d => d.ok K), ds.map fun d => fnA K (d.ad K))
def valX (ds : List DX) : AlX := (true, ds.map DX.val)
def SaysX (fa : List He.Fa) (pr : List (Str × Str)) (ds : List DX) (K : Frg) : Prop := obsX fa pr ds K = valX ds
def obX (fa : List He.Fa) (pr : List (Str × Str)) (ds : List DX) (g : Addr → Option Obj) : AlX := withAs g fun as => obsX fa pr ds (He.frG g as)
def hookX (fa : List He.Fa) (pr : List (Str × Str)) (ds : List DX) : PySem.W.Hook where
  α := AlX
  obs := fun s => obX fa pr ds s.heap.get?
  val := fun _ => valX ds
  says := fun _ h => ∃ K : PySem.W.Frag, K.In h ∧ SaysX fa pr ds K
  of := fun _ s e => by
    obtain ⟨as, h⟩ := withAs_at s.heap.get? fun as => obsX fa pr ds (He.frG s.heap.get? as)
    exact ⟨_, He.frG_in, h.symm.trans e⟩
  keeps := fun _ _ _ ⟨K, hK, c⟩ k => ⟨K, PySem.W.Frag.In.keeps hK k, c⟩
theorem obX_eq {fa : List He.Fa} {pr : List (Str × Str)} {ds : List DX} {g : Addr → Option Obj} {s : Shared} (h : ∀ a, g a = s.heap.get? a) : obX fa pr ds g = (hookX fa pr ds).obs s := by
  have e : g = s.heap.get? := funext h
  rw [e] <;> rfl
section
variable {fa : List He.Fa} {pr : List (Str × Str)} {ds : List DX} {K : Frg}
theorem SaysX.fact (c : SaysX fa pr ds K) (i : Nat) {f : He.Fa} (h : fa[i]? = some f := by rfl) : f.ok K = true := by
  have c1 := (He.ba (show ((fa.all fun f => f.ok K) && ((pr.all fun p => prpB K p) && ds.all fun d => d.ok K)) = true from congrArg (fun z : AlX => z.1) c)).1
  exact List.all_eq_true.mp c1 f (List.mem_of_getElem? h)
theorem SaysX.prop (c : SaysX fa pr ds K) (i : Nat) {p : Str × Str} (h : pr[i]? = some p := by rfl) : prpB K p = true := by
  have c1 := (He.ba (show ((fa.all fun f => f.ok K) && ((pr.all fun p => prpB K p) && ds.all fun d => d.ok K)) = true from congrArg (fun z : AlX => z.1) c)).2
  exact List.all_eq_true.mp (He.ba c1).1 p (List.mem_of_getElem? h)
theorem SaysX.def_ (c : SaysX fa pr ds K) (i : Nat) {d : DX} (h : ds[i]? = some d := by rfl) : DefAt K d.name d.qual d.st (d.ad K) := by
  have c1 := (He.ba (show ((fa.all fun f => f.ok K) && ((pr.all fun p => prpB K p) && ds.all fun d => d.ok K)) = true from congrArg (fun z : AlX => z.1) c)).2
  have e : ds.map (fun d => fnA K (d.ad K)) = ds.map DX.val := congrArg (fun z : AlX => z.2) c
  have e2 : (ds.map fun d => fnA K (d.ad K))[i]? = (ds.map DX.val)[i]? := by rw [e]
  rw [List.getElem?_map, List.getElem?_map, h] at e2
  exact DX.def_ (Option.some.inj e2) (List.all_eq_true.mp (He.ba c1).2 d (List.mem_of_getElem? h))
end
abbrev R0 : PySem.W.OpenRow := PySem.W.OpenLaw.row PySem.Challenge.rw_risingbars_k56_whole_worlds_are_explaine
def loose1 : List PySem.Str := ["_wall", "BarError", "InvalidLog", "InvalidDrift", "InvalidBars", "Unexplained", "TooLarge", "UnknownItem", "UnknownJudge", "InvalidPlace", "InvalidGrade",
 "LETTERS", "RISES", "FALLS", "STAYS", "ANSWER", "RESET", "MOST_ITEMS", "MOST_JUDGES", "MOST_EVENTS", "MOST_GRADE", "is_name", "is_drift", "are_names", "is_event", "Log", "check_bars", "is_move", "World"]
def loose2 : List PySem.Str := ["links_in", "links_of", "ends_of", "lengths_to", "first_way", "reached", "better_by", "worse_than", "ring_of", "explains", "check_explained", "check_item", "check_ask", "check_room", "pairs_of", "made_sure", "outcomes", "worse_in", "sure_pairs"]
def loose3 : List PySem.Str := ["_law_row", "_law_numbers", "_law_names", "_law_in_order", "_law_links", "_law_pairs", "_law_has_ring", "_law_with", "_law_made", "_law_explains", "_law_bars", "_law_moved", "_law_given", "_law_log", "_law_world", "_law_world_made", "_law_says", "_law_parts", "_law_deed", "_law_same", "_law_is_explained"]
def loose : List PySem.Str := loose1 ++ loose2 ++ loose3

end Rb
namespace Rb
open PySem PySem.Spec PyProof.Rows L2
def dx_0 : DX := ⟨fun K => fA K "is_name", "is_name", "is_name", s_is_name⟩
def dx_1 : DX := ⟨fun K => fA K "is_drift", "is_drift", "is_drift", s_is_drift⟩
def dx_2 : DX := ⟨fun K => fA K "are_names", "are_names", "are_names", s_are_names⟩
def dx_3 : DX := ⟨fun K => fA K "is_event", "is_event", "is_event", s_is_event⟩
def dx_4 : DX := ⟨fun K => fA K "check_bars", "check_bars", "check_bars", s_check_bars⟩
def dx_5 : DX := ⟨fun K => fA K "is_move", "is_move", "is_move", s_is_move⟩
def dx_6 : DX := ⟨fun K => fA K "links_in", "links_in", "links_in", s_links_in⟩
def dx_7 : DX := ⟨fun K => fA K "links_of", "links_of", "links_of", s_links_of⟩
def dx_8 : DX := ⟨fun K => fA K "ends_of", "ends_of", "ends_of", s_ends_of⟩
def dx_9 : DX := ⟨fun K => fA K "lengths_to", "lengths_to", "lengths_to", s_lengths_to⟩
def dx_10 : DX := ⟨fun K => fA K "first_way", "first_way", "first_way", s_first_way⟩
def dx_11 : DX := ⟨fun K => fA K "reached", "reached", "reached", s_reached⟩
def dx_12 : DX := ⟨fun K => fA K "better_by", "better_by", "better_by", s_better_by⟩
def dx_13 : DX := ⟨fun K => fA K "worse_than", "worse_than", "worse_than", s_worse_than⟩
def dx_14 : DX := ⟨fun K => fA K "ring_of", "ring_of", "ring_of", s_ring_of⟩
def dx_15 : DX := ⟨fun K => fA K "explains", "explains", "explains", s_explains⟩
def dx_16 : DX := ⟨fun K => fA K "check_explained", "check_explained", "check_explained", s_check_explained⟩
def dx_17 : DX := ⟨fun K => fA K "check_item", "check_item", "check_item", s_check_item⟩
def dx_18 : DX := ⟨fun K => fA K "check_ask", "check_ask", "check_ask", s_check_ask⟩
def dx_19 : DX := ⟨fun K => fA K "check_room", "check_room", "check_room", s_check_room⟩
def dx_20 : DX := ⟨fun K => fA K "pairs_of", "pairs_of", "pairs_of", s_pairs_of⟩
def dx_21 : DX := ⟨fun K => fA K "made_sure", "made_sure", "made_sure", s_made_sure⟩
def dx_22 : DX := ⟨fun K => fA K "outcomes", "outcomes", "outcomes", s_outcomes⟩
def dx_23 : DX := ⟨fun K => fA K "worse_in", "worse_in", "worse_in", s_worse_in⟩
def dx_24 : DX := ⟨fun K => fA K "sure_pairs", "sure_pairs", "sure_pairs", s_sure_pairs⟩
def dx_25 : DX := ⟨fun K => fA K "_law_row", "_law_row", "_law_row", s_l_row⟩
def dx_26 : DX := ⟨fun K => fA K "_law_numbers", "_law_numbers", "_law_numbers", s_l_numbers⟩
def dx_27 : DX := ⟨fun K => fA K "_law_names", "_law_names", "_law_names", s_l_names⟩
def dx_28 : DX := ⟨fun K => fA K "_law_in_order", "_law_in_order", "_law_in_order", s_l_in_order⟩
def dx_29 : DX := ⟨fun K => fA K "_law_links", "_law_links", "_law_links", s_l_links⟩
def dx_30 : DX := ⟨fun K => fA K "_law_pairs", "_law_pairs", "_law_pairs", s_l_pairs⟩
def dx_31 : DX := ⟨fun K => fA K "_law_bars", "_law_bars", "_law_bars", s_l_bars⟩
def dx_32 : DX := ⟨fun K => fA K "_law_moved", "_law_moved", "_law_moved", s_l_moved⟩
def dx_33 : DX := ⟨fun K => fA K "_law_world", "_law_world", "_law_world", s_l_world⟩
def dx_34 : DX := ⟨fun K => fA K "_law_world_made", "_law_world_made", "_law_world_made", s_l_world_made⟩
def dx_35 : DX := ⟨fun K => fA K "_law_says", "_law_says", "_law_says", s_l_says⟩
def dx_36 : DX := ⟨fun K => fA K "_law_parts", "_law_parts", "_law_parts", s_l_parts⟩
def dx_37 : DX := ⟨fun K => fA K "_law_deed", "_law_deed", "_law_deed", s_l_deed⟩
def dx_38 : DX := ⟨fun K => fA K "_law_is_explained", "_law_is_explained", "_law_is_explained", s_l_is_explained⟩
def dx_39 : DX := ⟨fun K => fA K "law", "law", "law", s_law⟩
def dx_40 : DX := ⟨fun K => mA K "Log" "__init__", "__init__", "Log.__init__", s_Log_init⟩
def dx_41 : DX := ⟨fun K => gtA K "Log" "item_names", "item_names", "Log.item_names", s_Log_item_names⟩
def dx_42 : DX := ⟨fun K => gtA K "Log" "grades", "grades", "Log.grades", s_Log_grades⟩
def dx_43 : DX := ⟨fun K => gtA K "Log" "judges", "judges", "Log.judges", s_Log_judges⟩
def dx_44 : DX := ⟨fun K => gtA K "Log" "events", "events", "Log.events", s_Log_events⟩
def dx_45 : DX := ⟨fun K => mA K "Log" "drift_of", "drift_of", "Log.drift_of", s_Log_drift_of⟩
def dx_46 : DX := ⟨fun K => mA K "Log" "is_answer", "is_answer", "Log.is_answer", s_Log_is_answer⟩
def dx_47 : DX := ⟨fun K => mA K "Log" "answers", "answers", "Log.answers", s_Log_answers⟩
def dx_48 : DX := ⟨fun K => mA K "Log" "answers_of", "answers_of", "Log.answers_of", s_Log_answers_of⟩
def dx_49 : DX := ⟨fun K => mA K "Log" "answer_at", "answer_at", "Log.answer_at", s_Log_answer_at⟩
def dx_50 : DX := ⟨fun K => mA K "Log" "judge_at", "judge_at", "Log.judge_at", s_Log_judge_at⟩
def dx_51 : DX := ⟨fun K => mA K "Log" "item_at", "item_at", "Log.item_at", s_Log_item_at⟩
def dx_52 : DX := ⟨fun K => mA K "Log" "grade_at", "grade_at", "Log.grade_at", s_Log_grade_at⟩
def dx_53 : DX := ⟨fun K => mA K "Log" "span_at", "span_at", "Log.span_at", s_Log_span_at⟩
def dx_54 : DX := ⟨fun K => mA K "Log" "stretch_at", "stretch_at", "Log.stretch_at", s_Log_stretch_at⟩
def dx_55 : DX := ⟨fun K => mA K "Log" "stretch_of", "stretch_of", "Log.stretch_of", s_Log_stretch_of⟩
def dx_56 : DX := ⟨fun K => mA K "Log" "stretches", "stretches", "Log.stretches", s_Log_stretches⟩
def dx_57 : DX := ⟨fun K => mA K "Log" "with_events", "with_events", "Log.with_events", s_Log_with_events⟩
def dx_58 : DX := ⟨fun K => mA K "Log" "check_event", "check_event", "Log.check_event", s_Log_check_event⟩
def dx_59 : DX := ⟨fun K => mA K "Log" "with_event_at", "with_event_at", "Log.with_event_at", s_Log_with_event_at⟩
def dx_60 : DX := ⟨fun K => mA K "Log" "with_event", "with_event", "Log.with_event", s_Log_with_event⟩
def dx_61 : DX := ⟨fun K => mA K "World" "__init__", "__init__", "World.__init__", s_World_init⟩
def dx_62 : DX := ⟨fun K => mA K "World" "quality_of", "quality_of", "World.quality_of", s_World_quality_of⟩
def dx_63 : DX := ⟨fun K => mA K "World" "bars_of", "bars_of", "World.bars_of", s_World_bars_of⟩
def dx_64 : DX := ⟨fun K => mA K "World" "move", "move", "World.move", s_World_move⟩
def dx_65 : DX := ⟨fun K => mA K "World" "check_room", "check_room", "World.check_room", s_World_check_room⟩
def dx_66 : DX := ⟨fun K => mA K "World" "set_anew", "set_anew", "World.set_anew", s_World_set_anew⟩
def dx_67 : DX := ⟨fun K => mA K "World" "would_say", "would_say", "World.would_say", s_World_would_say⟩
def dx_68 : DX := ⟨fun K => mA K "World" "answer", "answer", "World.answer", s_World_answer⟩
def dx_69 : DX := ⟨fun K => mA K "World" "log", "log", "World.log", s_World_log⟩
def dx_70 : DX := ⟨fun K => mA K "World" "bars_at", "bars_at", "World.bars_at", s_World_bars_at⟩
def faX : List He.Fa := [.free "len", .free "all", .free "any", .free "set", .free "max", .free "min", .free "sorted", .free "range", .free "list", .free "dict", .free "zip", .free "enumerate", .free "abs", .free "int", .str "LETTERS" "abcdefghijklmnopqrstuvwxyz0123456789", .str "RISES" "rises", .str "FALLS" "falls", .str "STAYS" "stays", .str "ANSWER" "answer", .str "RESET" "reset", .int "MOST_ITEMS" 20, .int "MOST_JUDGES" 8, .int "MOST_EVENTS" 120, .int "MOST_GRADE" 9, .glo "is_name", .glo "is_drift", .glo "are_names", .glo "is_event", .glo "check_bars", .glo "is_move", .glo "links_in", .glo "links_of", .glo "ends_of", .glo "lengths_to", .glo "first_way", .glo "reached", .glo "better_by", .glo "worse_than", .glo "ring_of", .glo "explains", .glo "check_explained", .glo "check_item", .glo "check_ask", .glo "check_room", .glo "pairs_of", .glo "made_sure", .glo "outcomes", .glo "worse_in", .glo "sure_pairs", .glo "_law_row", .glo "_law_numbers", .glo "_law_names", .glo "_law_in_order", .glo "_law_links", .glo "_law_pairs", .glo "_law_bars", .glo "_law_moved", .glo "_law_world", .glo "_law_world_made", .glo "_law_says", .glo "_law_parts", .glo "_law_deed", .glo "_law_is_explained", .glo "law", .glo "Log", .glo "World", .cls "Log", .mkr "Log", .noat "Log" "_items", .noat "Log" "_grades", .noat "Log" "_judges", .noat "Log" "_events", .cls "World", .mkr "World", .noat "World" "_log", .noat "World" "_qualities", .noat "World" "_bars", .noat "World" "_told", .meth "Log" "drift_of", .meth "Log" "is_answer", .meth "Log" "answers", .meth "Log" "answers_of", .meth "Log" "answer_at", .meth "Log" "judge_at", .meth "Log" "item_at", .meth "Log" "grade_at", .meth "Log" "span_at", .meth "Log" "stretch_at", .meth "Log" "stretch_of", .meth "Log" "stretches", .meth "Log" "with_events", .meth "Log" "check_event", .meth "Log" "with_event_at", .meth "Log" "with_event", .meth "World" "quality_of", .meth "World" "bars_of", .meth "World" "move", .meth "World" "check_room", .meth "World" "set_anew", .meth "World" "would_say", .meth "World" "answer", .meth "World" "log", .meth "World" "bars_at"]
def prX : List (Str × Str) := [("Log", "item_names"), ("Log", "grades"), ("Log", "judges"), ("Log", "events")]
def dsX : List DX := [dx_0, dx_1, dx_2, dx_3, dx_4, dx_5, dx_6, dx_7, dx_8, dx_9, dx_10, dx_11, dx_12, dx_13, dx_14, dx_15, dx_16, dx_17, dx_18, dx_19, dx_20, dx_21, dx_22, dx_23, dx_24, dx_25, dx_26, dx_27, dx_28, dx_29, dx_30, dx_31, dx_32, dx_33, dx_34, dx_35, dx_36, dx_37, dx_38, dx_39, dx_40, dx_41, dx_42, dx_43, dx_44, dx_45, dx_46, dx_47, dx_48, dx_49, dx_50, dx_51, dx_52, dx_53, dx_54, dx_55, dx_56, dx_57, dx_58, dx_59, dx_60, dx_61, dx_62, dx_63, dx_64, dx_65, dx_66, dx_67, dx_68, dx_69, dx_70]
theorem tx {K : Frg} {h : Heap} {mg : Str → Option Value} (X : K.In h) (G : h.Ns mainGlobals mg) (c : SaysX faX prX dsX K) : TX K mg where
  B := {
    b_len := He.free_ok X G (c.fact 0 (f := .free "len") rfl)
    b_all := He.free_ok X G (c.fact 1 (f := .free "all") rfl)
    b_any := He.free_ok X G (c.fact 2 (f := .free "any") rfl)
    b_set := He.free_ok X G (c.fact 3 (f := .free "set") rfl)
    b_max := He.free_ok X G (c.fact 4 (f := .free "max") rfl)
    b_min := He.free_ok X G (c.fact 5 (f := .free "min") rfl)
    b_sorted := He.free_ok X G (c.fact 6 (f := .free "sorted") rfl)
    b_range := He.free_ok X G (c.fact 7 (f := .free "range") rfl)
    b_list := He.free_ok X G (c.fact 8 (f := .free "list") rfl)
    b_dict := He.free_ok X G (c.fact 9 (f := .free "dict") rfl)
    b_zip := He.free_ok X G (c.fact 10 (f := .free "zip") rfl)
    b_enumerate := He.free_ok X G (c.fact 11 (f := .free "enumerate") rfl)
    b_abs := He.free_ok X G (c.fact 12 (f := .free "abs") rfl)
    b_int := He.free_ok X G (c.fact 13 (f := .free "int") rfl)
  }
  C := {
    c_LETTERS := He.str_ok X G (c.fact 14 (f := .str "LETTERS" "abcdefghijklmnopqrstuvwxyz0123456789") rfl)
    c_RISES := He.str_ok X G (c.fact 15 (f := .str "RISES" "rises") rfl)
    c_FALLS := He.str_ok X G (c.fact 16 (f := .str "FALLS" "falls") rfl)
    c_STAYS := He.str_ok X G (c.fact 17 (f := .str "STAYS" "stays") rfl)
    c_ANSWER := He.str_ok X G (c.fact 18 (f := .str "ANSWER" "answer") rfl)
    c_RESET := He.str_ok X G (c.fact 19 (f := .str "RESET" "reset") rfl)
    c_MOST_ITEMS := He.int_ok X G (c.fact 20 (f := .int "MOST_ITEMS" 20) rfl)
    c_MOST_JUDGES := He.int_ok X G (c.fact 21 (f := .int "MOST_JUDGES" 8) rfl)
    c_MOST_EVENTS := He.int_ok X G (c.fact 22 (f := .int "MOST_EVENTS" 120) rfl)
    c_MOST_GRADE := He.int_ok X G (c.fact 23 (f := .int "MOST_GRADE" 9) rfl)
  }
  G := {
    g_is_name := He.glo_ok X G (c.fact 24 (f := .glo "is_name") rfl)
    g_is_drift := He.glo_ok X G (c.fact 25 (f := .glo "is_drift") rfl)
    g_are_names := He.glo_ok X G (c.fact 26 (f := .glo "are_names") rfl)
    g_is_event := He.glo_ok X G (c.fact 27 (f := .glo "is_event") rfl)
    g_check_bars := He.glo_ok X G (c.fact 28 (f := .glo "check_bars") rfl)
    g_is_move := He.glo_ok X G (c.fact 29 (f := .glo "is_move") rfl)
    g_links_in := He.glo_ok X G (c.fact 30 (f := .glo "links_in") rfl)
    g_links_of := He.glo_ok X G (c.fact 31 (f := .glo "links_of") rfl)
    g_ends_of := He.glo_ok X G (c.fact 32 (f := .glo "ends_of") rfl)
    g_lengths_to := He.glo_ok X G (c.fact 33 (f := .glo "lengths_to") rfl)
    g_first_way := He.glo_ok X G (c.fact 34 (f := .glo "first_way") rfl)
    g_reached := He.glo_ok X G (c.fact 35 (f := .glo "reached") rfl)
    g_better_by := He.glo_ok X G (c.fact 36 (f := .glo "better_by") rfl)
    g_worse_than := He.glo_ok X G (c.fact 37 (f := .glo "worse_than") rfl)
    g_ring_of := He.glo_ok X G (c.fact 38 (f := .glo "ring_of") rfl)
    g_explains := He.glo_ok X G (c.fact 39 (f := .glo "explains") rfl)
    g_check_explained := He.glo_ok X G (c.fact 40 (f := .glo "check_explained") rfl)
    g_check_item := He.glo_ok X G (c.fact 41 (f := .glo "check_item") rfl)
    g_check_ask := He.glo_ok X G (c.fact 42 (f := .glo "check_ask") rfl)
    g_check_room := He.glo_ok X G (c.fact 43 (f := .glo "check_room") rfl)
    g_pairs_of := He.glo_ok X G (c.fact 44 (f := .glo "pairs_of") rfl)
    g_made_sure := He.glo_ok X G (c.fact 45 (f := .glo "made_sure") rfl)
    g_outcomes := He.glo_ok X G (c.fact 46 (f := .glo "outcomes") rfl)
    g_worse_in := He.glo_ok X G (c.fact 47 (f := .glo "worse_in") rfl)
    g_sure_pairs := He.glo_ok X G (c.fact 48 (f := .glo "sure_pairs") rfl)
    g_l_row := He.glo_ok X G (c.fact 49 (f := .glo "_law_row") rfl)
    g_l_numbers := He.glo_ok X G (c.fact 50 (f := .glo "_law_numbers") rfl)
    g_l_names := He.glo_ok X G (c.fact 51 (f := .glo "_law_names") rfl)
    g_l_in_order := He.glo_ok X G (c.fact 52 (f := .glo "_law_in_order") rfl)
    g_l_links := He.glo_ok X G (c.fact 53 (f := .glo "_law_links") rfl)
    g_l_pairs := He.glo_ok X G (c.fact 54 (f := .glo "_law_pairs") rfl)
    g_l_bars := He.glo_ok X G (c.fact 55 (f := .glo "_law_bars") rfl)
    g_l_moved := He.glo_ok X G (c.fact 56 (f := .glo "_law_moved") rfl)
    g_l_world := He.glo_ok X G (c.fact 57 (f := .glo "_law_world") rfl)
    g_l_world_made := He.glo_ok X G (c.fact 58 (f := .glo "_law_world_made") rfl)
    g_l_says := He.glo_ok X G (c.fact 59 (f := .glo "_law_says") rfl)
    g_l_parts := He.glo_ok X G (c.fact 60 (f := .glo "_law_parts") rfl)
    g_l_deed := He.glo_ok X G (c.fact 61 (f := .glo "_law_deed") rfl)
    g_l_is_explained := He.glo_ok X G (c.fact 62 (f := .glo "_law_is_explained") rfl)
    g_law := He.glo_ok X G (c.fact 63 (f := .glo "law") rfl)
    g_Log := He.glo_ok X G (c.fact 64 (f := .glo "Log") rfl)
    g_World := He.glo_ok X G (c.fact 65 (f := .glo "World") rfl)
  }
  D := {
    d_is_name := c.def_ 0 (d := dx_0) rfl
    d_is_drift := c.def_ 1 (d := dx_1) rfl
    d_are_names := c.def_ 2 (d := dx_2) rfl
    d_is_event := c.def_ 3 (d := dx_3) rfl
    d_check_bars := c.def_ 4 (d := dx_4) rfl
    d_is_move := c.def_ 5 (d := dx_5) rfl
    d_links_in := c.def_ 6 (d := dx_6) rfl
    d_links_of := c.def_ 7 (d := dx_7) rfl
    d_ends_of := c.def_ 8 (d := dx_8) rfl
    d_lengths_to := c.def_ 9 (d := dx_9) rfl
    d_first_way := c.def_ 10 (d := dx_10) rfl
    d_reached := c.def_ 11 (d := dx_11) rfl
    d_better_by := c.def_ 12 (d := dx_12) rfl
    d_worse_than := c.def_ 13 (d := dx_13) rfl
    d_ring_of := c.def_ 14 (d := dx_14) rfl
    d_explains := c.def_ 15 (d := dx_15) rfl
    d_check_explained := c.def_ 16 (d := dx_16) rfl
    d_check_item := c.def_ 17 (d := dx_17) rfl
    d_check_ask := c.def_ 18 (d := dx_18) rfl
    d_check_room := c.def_ 19 (d := dx_19) rfl
    d_pairs_of := c.def_ 20 (d := dx_20) rfl
    d_made_sure := c.def_ 21 (d := dx_21) rfl
    d_outcomes := c.def_ 22 (d := dx_22) rfl
    d_worse_in := c.def_ 23 (d := dx_23) rfl
    d_sure_pairs := c.def_ 24 (d := dx_24) rfl
    d_l_row := c.def_ 25 (d := dx_25) rfl
    d_l_numbers := c.def_ 26 (d := dx_26) rfl
    d_l_names := c.def_ 27 (d := dx_27) rfl
    d_l_in_order := c.def_ 28 (d := dx_28) rfl
    d_l_links := c.def_ 29 (d := dx_29) rfl
    d_l_pairs := c.def_ 30 (d := dx_30) rfl
    d_l_bars := c.def_ 31 (d := dx_31) rfl
    d_l_moved := c.def_ 32 (d := dx_32) rfl
    d_l_world := c.def_ 33 (d := dx_33) rfl
    d_l_world_made := c.def_ 34 (d := dx_34) rfl
    d_l_says := c.def_ 35 (d := dx_35) rfl
    d_l_parts := c.def_ 36 (d := dx_36) rfl
    d_l_deed := c.def_ 37 (d := dx_37) rfl
    d_l_is_explained := c.def_ 38 (d := dx_38) rfl
    d_law := c.def_ 39 (d := dx_39) rfl
  }
  M := {
    d_Log_init := c.def_ 40 (d := dx_40) rfl
    d_Log_item_names := ⟨_, _, prp_ok (c.prop 0 (p := ("Log", "item_names")) rfl), c.def_ 41 (d := dx_41) rfl⟩
    d_Log_grades := ⟨_, _, prp_ok (c.prop 1 (p := ("Log", "grades")) rfl), c.def_ 42 (d := dx_42) rfl⟩
    d_Log_judges := ⟨_, _, prp_ok (c.prop 2 (p := ("Log", "judges")) rfl), c.def_ 43 (d := dx_43) rfl⟩
    d_Log_events := ⟨_, _, prp_ok (c.prop 3 (p := ("Log", "events")) rfl), c.def_ 44 (d := dx_44) rfl⟩
    d_Log_drift_of := c.def_ 45 (d := dx_45) rfl
    m_Log_drift_of := He.meth_ok (c.fact 78 (f := .meth "Log" "drift_of") rfl)
    d_Log_is_answer := c.def_ 46 (d := dx_46) rfl
    m_Log_is_answer := He.meth_ok (c.fact 79 (f := .meth "Log" "is_answer") rfl)
    d_Log_answers := c.def_ 47 (d := dx_47) rfl
    m_Log_answers := He.meth_ok (c.fact 80 (f := .meth "Log" "answers") rfl)
    d_Log_answers_of := c.def_ 48 (d := dx_48) rfl
    m_Log_answers_of := He.meth_ok (c.fact 81 (f := .meth "Log" "answers_of") rfl)
    d_Log_answer_at := c.def_ 49 (d := dx_49) rfl
    m_Log_answer_at := He.meth_ok (c.fact 82 (f := .meth "Log" "answer_at") rfl)
    d_Log_judge_at := c.def_ 50 (d := dx_50) rfl
    m_Log_judge_at := He.meth_ok (c.fact 83 (f := .meth "Log" "judge_at") rfl)
    d_Log_item_at := c.def_ 51 (d := dx_51) rfl
    m_Log_item_at := He.meth_ok (c.fact 84 (f := .meth "Log" "item_at") rfl)
    d_Log_grade_at := c.def_ 52 (d := dx_52) rfl
    m_Log_grade_at := He.meth_ok (c.fact 85 (f := .meth "Log" "grade_at") rfl)
    d_Log_span_at := c.def_ 53 (d := dx_53) rfl
    m_Log_span_at := He.meth_ok (c.fact 86 (f := .meth "Log" "span_at") rfl)
    d_Log_stretch_at := c.def_ 54 (d := dx_54) rfl
    m_Log_stretch_at := He.meth_ok (c.fact 87 (f := .meth "Log" "stretch_at") rfl)
    d_Log_stretch_of := c.def_ 55 (d := dx_55) rfl
    m_Log_stretch_of := He.meth_ok (c.fact 88 (f := .meth "Log" "stretch_of") rfl)
    d_Log_stretches := c.def_ 56 (d := dx_56) rfl
    m_Log_stretches := He.meth_ok (c.fact 89 (f := .meth "Log" "stretches") rfl)
    d_Log_with_events := c.def_ 57 (d := dx_57) rfl
    m_Log_with_events := He.meth_ok (c.fact 90 (f := .meth "Log" "with_events") rfl)
    d_Log_check_event := c.def_ 58 (d := dx_58) rfl
    m_Log_check_event := He.meth_ok (c.fact 91 (f := .meth "Log" "check_event") rfl)
    d_Log_with_event_at := c.def_ 59 (d := dx_59) rfl
    m_Log_with_event_at := He.meth_ok (c.fact 92 (f := .meth "Log" "with_event_at") rfl)
    d_Log_with_event := c.def_ 60 (d := dx_60) rfl
    m_Log_with_event := He.meth_ok (c.fact 93 (f := .meth "Log" "with_event") rfl)
    d_World_init := c.def_ 61 (d := dx_61) rfl
    d_World_quality_of := c.def_ 62 (d := dx_62) rfl
    m_World_quality_of := He.meth_ok (c.fact 94 (f := .meth "World" "quality_of") rfl)
    d_World_bars_of := c.def_ 63 (d := dx_63) rfl
    m_World_bars_of := He.meth_ok (c.fact 95 (f := .meth "World" "bars_of") rfl)
    d_World_move := c.def_ 64 (d := dx_64) rfl
    m_World_move := He.meth_ok (c.fact 96 (f := .meth "World" "move") rfl)
    d_World_check_room := c.def_ 65 (d := dx_65) rfl
    m_World_check_room := He.meth_ok (c.fact 97 (f := .meth "World" "check_room") rfl)
    d_World_set_anew := c.def_ 66 (d := dx_66) rfl
    m_World_set_anew := He.meth_ok (c.fact 98 (f := .meth "World" "set_anew") rfl)
    d_World_would_say := c.def_ 67 (d := dx_67) rfl
    m_World_would_say := He.meth_ok (c.fact 99 (f := .meth "World" "would_say") rfl)
    d_World_answer := c.def_ 68 (d := dx_68) rfl
    m_World_answer := He.meth_ok (c.fact 100 (f := .meth "World" "answer") rfl)
    d_World_log := c.def_ 69 (d := dx_69) rfl
    m_World_log := He.meth_ok (c.fact 101 (f := .meth "World" "log") rfl)
    d_World_bars_at := c.def_ 70 (d := dx_70) rfl
    m_World_bars_at := He.meth_ok (c.fact 102 (f := .meth "World" "bars_at") rfl)
  }
  T := {
    cl_Log := He.cls_ok (c.fact 66 (f := .cls "Log") rfl)
    mk_Log := He.mkr_ok (c.fact 67 (f := .mkr "Log") rfl)
    n_Log_items := He.noat_ok (c.fact 68 (f := .noat "Log" "_items") rfl)
    n_Log_grades := He.noat_ok (c.fact 69 (f := .noat "Log" "_grades") rfl)
    n_Log_judges := He.noat_ok (c.fact 70 (f := .noat "Log" "_judges") rfl)
    n_Log_events := He.noat_ok (c.fact 71 (f := .noat "Log" "_events") rfl)
    cl_World := He.cls_ok (c.fact 72 (f := .cls "World") rfl)
    mk_World := He.mkr_ok (c.fact 73 (f := .mkr "World") rfl)
    n_World_log := He.noat_ok (c.fact 74 (f := .noat "World" "_log") rfl)
    n_World_qualities := He.noat_ok (c.fact 75 (f := .noat "World" "_qualities") rfl)
    n_World_bars := He.noat_ok (c.fact 76 (f := .noat "World" "_bars") rfl)
    n_World_told := He.noat_ok (c.fact 77 (f := .noat "World" "_told") rfl)
  }
end Rb
namespace Rb
open PySem PySem.Spec PyProof.Rows L2
def ob (s : PySem.W.SharedT) : AlX := obX faX prX dsX (HandSHeadRun.getT s)
theorem run (w : World) : HandSHeadRun.RunEq R0 (PySem.W.view R0.prog [77]) (hookX faX prX dsX) ob 6000 loose w := by
  intro os
  kernel_rfl
end Rb
namespace Rb
open PySem PySem.Spec PyProof.Rows L2
theorem ob_eq (s : PySem.W.SharedT) : ob s = (hookX faX prX dsX).obs s.abs := obX_eq (HandSHeadRun.getT_eq s)
theorem facts {P : Program} {w : World} {K : Frg} {h : Heap} {mg : Str → Option Value} {f : Addr} (X : K.In h) (G : h.Ns mainGlobals mg) (hfa : mg ("law" : Str) = some (.ref f)) (c : SaysX faX prX dsX K) :
    ∃ fd : FuncData, (∀ (s : Shared) (v : Value), BindsTo s fd ⟨[v], []⟩ [("_law_script", v)]) ∧ ∀ base : Heap, K.In base → base.Ns mainGlobals mg → FnOk P w K mg base CX0 14 f fd ["_law_script"] (spLaw K) := by
  have T := tx X G c
  have e := hfa.symm.trans T.G.g_law
  cases e
  obtain ⟨fd, FF⟩ := T.D.d_law
  have b := FunD.bindsA (ps := ["_law_script"]) FF fun _ _ _ _ _ _ us hl => match us, hl with | [_], _ => rfl
  refine ⟨fd, fun s v => b s [v] rfl, fun base _ _ => ?_⟩
  obtain ⟨fd', G', _, _, oc, od, osl, lk⟩ := (ok_law (P := P) (w := w) (base := base) T).ex
  obtain ⟨_, _, _, _, _, _, _, _, _, _, _, lk2, _⟩ := FF.ex
  rw [lk] at lk2
  cases lk2
  exact G'
end Rb
open PySem PySem.W PySem.Calls PyProof.Rows
theorem PySem.Challenge.cw_risingbars_k56_whole_worlds_are_explaine_holds : PySem.Challenge.rw_risingbars_k56_whole_worlds_are_explaine.Holds := by
  w_on; o_law
  refine HandSHeadRun.head_any (r := OpenLaw.row PySem.Challenge.rw_risingbars_k56_whole_worlds_are_explaine) (q := view (OpenLaw.row PySem.Challenge.rw_risingbars_k56_whole_worlds_are_explaine).prog [77]) (H := Rb.hookX Rb.faX Rb.prX Rb.dsX) (ob := Rb.ob) (M := 6000) (loose := Rb.loose) (d := HandSHeadRun.topDef (OpenLaw.row PySem.Challenge.rw_risingbars_k56_whole_worlds_are_explaine).prog 77) (kwd := []) Rb.ob_eq
    (by kernel_rfl) (fun s => by kernel_rfl) Rb.run (by kernel_rfl) (by kernel_rfl) (by kernel_rfl) (by rfl) (by first | assumption | decide +kernel) (by decide +kernel) ⟨rfl, rfl, rfl, rfl, rfl, by decide +kernel⟩ ?hw ?hc
  case hw => w_witness2
  case hc =>
    refine L2.walk_ofE (l := PySem.Challenge.rw_risingbars_k56_whole_worlds_are_explaine) (n := 63) (k := 14) (x := "_law_script") (CX := L2.CX0) rfl (by decide) (by kernel_rfl) ⟨rfl, by decide, by decide⟩ ?F (fun _ _ _ _ z => z)
    intro w mg fa h Y G hmg0
    obtain ⟨K, KX, c⟩ := Y
    have hmg : mg ("law" : PySem.Str) = some (.ref fa) := by
      have e : (HandSHeadRun.topDef (OpenLaw.row PySem.Challenge.rw_risingbars_k56_whole_worlds_are_explaine).prog 77).name = ("law" : PySem.Str) := by kernel_rfl
      rw [← e]
      exact hmg0
    obtain ⟨fd, hb, hF⟩ := Rb.facts (P := (PySem.Challenge.rw_risingbars_k56_whole_worlds_are_explaine).prog) (w := w) KX G hmg c
    exact ⟨K, fd, Rb.spLaw K, KX, hb, fun H a ns hl _ hS => ⟨a, ns, rfl, hS, fun _ => rfl⟩, hF⟩
