import PyProof.Rows.All
import HandS.ForMost
import HandS.Defaults
import HandS.HeadHook2
import PySem.Challenge.RW_withindays_k36_whole_room_is_enough
import KE.KStateDown
import HandS.Head0
import HandS.Head1
import HandS.Head2
import HandS.HeadEnd
import HandS.HeadHook1
import HandS.Evl
import HandS.Deep
import HandS.IsInst
import HandS.Style
import HandS.TupLe
import HandS.Small
import KE.DataCmp
import KE.SortData
import KE.GoesMore
import KE.GoesEnum
import HandS.TupAny
import HandS.Dict
import HandS.Conv
import HandS.TupLen
import KE.KeyNested
import KE.KDictKeyed
import KE.KDictSum
import KE.KDictCopyH
import KE.KDictDisplayH
import HandS.Sort
import HandS.SortInts
import PyProof.SumAny
import PyProof.ListOps
import HandS.SetFor
import HandS.Strs
section
set_option Elab.async false
set_option linter.all false
set_option maxRecDepth 100000
namespace W36
open PySem L2
def top (i : Nat) : Stmt := PySem.Challenge.pw_withindays_k36_whole_room_is_enough.main.body.getD i (.Pass ⟨0, 0, 0, 0⟩)
abbrev s_is_whole : Stmt := top 7
abbrev N_is_whole : List Str := ["thing", "least", "most"]
theorem sc_is_whole : FnScope N_is_whole ["thing", "least", "most"] (defScope s_is_whole) := ⟨rfl, rfl, rfl, by decide +kernel, rfl, by decide +kernel, by decide +kernel⟩
abbrev s_is_row : Stmt := top 8
abbrev N_is_row : List Str := ["thing"]
theorem sc_is_row : FnScope N_is_row ["thing"] (defScope s_is_row) := ⟨rfl, rfl, rfl, by decide +kernel, rfl, by decide +kernel, by decide +kernel⟩
abbrev s_is_rising : Stmt := top 9
abbrev N_is_rising : List Str := ["thing", "least", "most", "last", "one"]
theorem sc_is_rising : FnScope N_is_rising ["thing", "least", "most"] (defScope s_is_rising) := ⟨rfl, rfl, rfl, by decide +kernel, rfl, by decide +kernel, by decide +kernel⟩
abbrev s_told_rows : Stmt := top 10
abbrev N_told_rows : List Str := ["thing", "one"]
theorem sc_told_rows : FnScope N_told_rows ["thing"] (defScope s_told_rows) := ⟨rfl, rfl, rfl, by decide +kernel, rfl, by decide +kernel, by decide +kernel⟩
abbrev s_is_numbers : Stmt := top 14
abbrev N_is_numbers : List Str := ["thing", "one"]
theorem sc_is_numbers : FnScope N_is_numbers ["thing"] (defScope s_is_numbers) := ⟨rfl, rfl, rfl, by decide +kernel, rfl, by decide +kernel, by decide +kernel⟩
abbrev s_asked_numbers : Stmt := top 15
abbrev N_asked_numbers : List Str := ["thing"]
theorem sc_asked_numbers : FnScope N_asked_numbers ["thing"] (defScope s_asked_numbers) := ⟨rfl, rfl, rfl, by decide +kernel, rfl, by decide +kernel, by decide +kernel⟩
abbrev s_divisor : Stmt := top 16
abbrev N_divisor : List Str := ["one", "other"]
theorem sc_divisor : FnScope N_divisor ["one", "other"] (defScope s_divisor) := ⟨rfl, rfl, rfl, by decide +kernel, rfl, by decide +kernel, by decide +kernel⟩
abbrev s_common_of : Stmt := top 17
abbrev N_common_of : List Str := ["numbers", "found", "number"]
theorem sc_common_of : FnScope N_common_of ["numbers"] (defScope s_common_of) := ⟨rfl, rfl, rfl, by decide +kernel, rfl, by decide +kernel, by decide +kernel⟩
abbrev s_common : Stmt := top 18
abbrev N_common : List Str := ["numbers"]
theorem sc_common : FnScope N_common ["numbers"] (defScope s_common) := ⟨rfl, rfl, rfl, by decide +kernel, rfl, by decide +kernel, by decide +kernel⟩
abbrev s_is_off : Stmt := top 23
abbrev N_is_off : List Str := ["thing", "one"]
theorem sc_is_off : FnScope N_is_off ["thing"] (defScope s_is_off) := ⟨rfl, rfl, rfl, by decide +kernel, rfl, by decide +kernel, by decide +kernel⟩
abbrev s_is_pair : Stmt := top 24
abbrev N_is_pair : List Str := ["thing", "many"]
theorem sc_is_pair : FnScope N_is_pair ["thing", "many"] (defScope s_is_pair) := ⟨rfl, rfl, rfl, by decide +kernel, rfl, by decide +kernel, by decide +kernel⟩
abbrev s_are_pairs : Stmt := top 25
abbrev N_are_pairs : List Str := ["thing", "many", "pairs", "one", "k"]
theorem sc_are_pairs : FnScope N_are_pairs ["thing", "many"] (defScope s_are_pairs) := ⟨rfl, rfl, rfl, by decide +kernel, rfl, by decide +kernel, by decide +kernel⟩
abbrev s_is_task : Stmt := top 26
abbrev N_is_task : List Str := ["thing", "numbers", "hands", "off", "long", "tied"]
theorem sc_is_task : FnScope N_is_task ["thing"] (defScope s_is_task) := ⟨rfl, rfl, rfl, by decide +kernel, rfl, by decide +kernel, by decide +kernel⟩
abbrev s_asked_task : Stmt := top 27
abbrev N_asked_task : List Str := ["thing"]
theorem sc_asked_task : FnScope N_asked_task ["thing"] (defScope s_asked_task) := ⟨rfl, rfl, rfl, by decide +kernel, rfl, by decide +kernel, by decide +kernel⟩
abbrev s_need_of : Stmt := top 30
abbrev N_need_of : List Str := ["task", "days", "found", "i", "number", "often"]
theorem sc_need_of : FnScope N_need_of ["task", "days"] (defScope s_need_of) := ⟨rfl, rfl, rfl, by decide +kernel, rfl, by decide +kernel, by decide +kernel⟩
abbrev s_room_of : Stmt := top 31
abbrev N_room_of : List Str := ["task", "days", "phase", "off", "found", "k", "place"]
theorem sc_room_of : FnScope N_room_of ["task", "days", "phase"] (defScope s_room_of) := ⟨rfl, rfl, rfl, by decide +kernel, rfl, by decide +kernel, by decide +kernel⟩
abbrev s_many_busy : Stmt := top 34
abbrev N_many_busy : List Str := ["many", "hands"]
theorem sc_many_busy : FnScope N_many_busy ["many", "hands"] (defScope s_many_busy) := ⟨rfl, rfl, rfl, by decide +kernel, rfl, by decide +kernel, by decide +kernel⟩
abbrev s_stands_room : Stmt := top 35
abbrev N_stands_room : List Str := ["task", "numbers", "hands", "off", "long", "tied", "found", "number"]
theorem sc_stands_room : FnScope N_stands_room ["task"] (defScope s_stands_room) := ⟨rfl, rfl, rfl, by decide +kernel, rfl, by decide +kernel, by decide +kernel⟩
abbrev s_room : Stmt := top 36
abbrev N_room : List Str := ["task"]
theorem sc_room : FnScope N_room ["task"] (defScope s_room) := ⟨rfl, rfl, rfl, by decide +kernel, rfl, by decide +kernel, by decide +kernel⟩
abbrev s_asked_room : Stmt := top 37
abbrev N_asked_room : List Str := ["task"]
theorem sc_asked_room : FnScope N_asked_room ["task"] (defScope s_asked_room) := ⟨rfl, rfl, rfl, by decide +kernel, rfl, by decide +kernel, by decide +kernel⟩
abbrev s_days_together : Stmt := top 38
abbrev N_days_together : List Str := ["one", "other", "first", "second"]
theorem sc_days_together : FnScope N_days_together ["one", "other"] (defScope s_days_together) := ⟨rfl, rfl, rfl, by decide +kernel, rfl, by decide +kernel, by decide +kernel⟩
abbrev s_least_crowd : Stmt := top 39
abbrev N_least_crowd : List Str := ["task", "numbers", "hands", "off", "long", "tied", "reach", "days", "need", "phase"]
theorem sc_least_crowd : FnScope N_least_crowd ["task"] (defScope s_least_crowd) := ⟨rfl, rfl, rfl, by decide +kernel, rfl, by decide +kernel, by decide +kernel⟩
abbrev s_is_day : Stmt := top 43
abbrev N_is_day : List Str := ["many", "thing"]
theorem sc_is_day : FnScope N_is_day ["many", "thing"] (defScope s_is_day) := ⟨rfl, rfl, rfl, by decide +kernel, rfl, by decide +kernel, by decide +kernel⟩
abbrev s_are_days : Stmt := top 44
abbrev N_are_days : List Str := ["many", "thing", "day"]
theorem sc_are_days : FnScope N_are_days ["many", "thing"] (defScope s_are_days) := ⟨rfl, rfl, rfl, by decide +kernel, rfl, by decide +kernel, by decide +kernel⟩
abbrev s_is_ring : Stmt := top 45
abbrev N_is_ring : List Str := ["many", "thing"]
theorem sc_is_ring : FnScope N_is_ring ["many", "thing"] (defScope s_is_ring) := ⟨rfl, rfl, rfl, by decide +kernel, rfl, by decide +kernel, by decide +kernel⟩
abbrev s_in_ties : Stmt := top 47
abbrev N_in_ties : List Str := ["task", "found", "pair", "i"]
theorem sc_in_ties : FnScope N_in_ties ["task"] (defScope s_in_ties) := ⟨rfl, rfl, rfl, by decide +kernel, rfl, by decide +kernel, by decide +kernel⟩
abbrev s_are_waits : Stmt := top 48
abbrev N_are_waits : List Str := ["numbers", "waits", "i"]
theorem sc_are_waits : FnScope N_are_waits ["numbers", "waits"] (defScope s_are_waits) := ⟨rfl, rfl, rfl, by decide +kernel, rfl, by decide +kernel, by decide +kernel⟩
abbrev s_is_some_of : Stmt := top 49
abbrev N_is_some_of : List Str := ["things", "row", "most", "i"]
theorem sc_is_some_of : FnScope N_is_some_of ["things", "row", "most"] (defScope s_is_some_of) := ⟨rfl, rfl, rfl, by decide +kernel, rfl, by decide +kernel, by decide +kernel⟩
abbrev s_is_stand_of : Stmt := top 50
abbrev N_is_stand_of : List Str := ["task", "thing", "phase", "waits", "busy", "last", "ends", "i"]
theorem sc_is_stand_of : FnScope N_is_stand_of ["task", "thing"] (defScope s_is_stand_of) := ⟨rfl, rfl, rfl, by decide +kernel, rfl, by decide +kernel, by decide +kernel⟩
abbrev s_asked_stand : Stmt := top 51
abbrev N_asked_stand : List Str := ["task", "thing"]
theorem sc_asked_stand : FnScope N_asked_stand ["task", "thing"] (defScope s_asked_stand) := ⟨rfl, rfl, rfl, by decide +kernel, rfl, by decide +kernel, by decide +kernel⟩
abbrev s_lies_under : Stmt := top 52
abbrev N_lies_under : List Str := ["one", "other", "i"]
theorem sc_lies_under : FnScope N_lies_under ["one", "other"] (defScope s_lies_under) := ⟨rfl, rfl, rfl, by decide +kernel, rfl, by decide +kernel, by decide +kernel⟩
abbrev s_is_lead : Stmt := top 56
abbrev N_is_lead : List Str := ["many", "thing", "day"]
theorem sc_is_lead : FnScope N_is_lead ["many", "thing"] (defScope s_is_lead) := ⟨rfl, rfl, rfl, by decide +kernel, rfl, by decide +kernel, by decide +kernel⟩
abbrev s_is_on : Stmt := top 57
abbrev N_is_on : List Str := ["task", "thing", "many"]
theorem sc_is_on : FnScope N_is_on ["task", "thing"] (defScope s_is_on) := ⟨rfl, rfl, rfl, by decide +kernel, rfl, by decide +kernel, by decide +kernel⟩
abbrev s_is_count : Stmt := top 58
abbrev N_is_count : List Str := ["task", "thing"]
theorem sc_is_count : FnScope N_is_count ["task", "thing"] (defScope s_is_count) := ⟨rfl, rfl, rfl, by decide +kernel, rfl, by decide +kernel, by decide +kernel⟩
abbrev s_is_walk : Stmt := top 59
abbrev N_is_walk : List Str := ["task", "thing", "stand"]
theorem sc_is_walk : FnScope N_is_walk ["task", "thing"] (defScope s_is_walk) := ⟨rfl, rfl, rfl, by decide +kernel, rfl, by decide +kernel, by decide +kernel⟩
abbrev s_is_answer_of : Stmt := top 60
abbrev N_is_answer_of : List Str := ["task", "thing"]
theorem sc_is_answer_of : FnScope N_is_answer_of ["task", "thing"] (defScope s_is_answer_of) := ⟨rfl, rfl, rfl, by decide +kernel, rfl, by decide +kernel, by decide +kernel⟩
abbrev s_asked_answer : Stmt := top 61
abbrev N_asked_answer : List Str := ["task", "thing"]
theorem sc_asked_answer : FnScope N_asked_answer ["task", "thing"] (defScope s_asked_answer) := ⟨rfl, rfl, rfl, by decide +kernel, rfl, by decide +kernel, by decide +kernel⟩
abbrev s_is_answer : Stmt := top 62
abbrev N_is_answer : List Str := ["task", "thing"]
theorem sc_is_answer : FnScope N_is_answer ["task", "thing"] (defScope s_is_answer) := ⟨rfl, rfl, rfl, by decide +kernel, rfl, by decide +kernel, by decide +kernel⟩
abbrev s_all_days : Stmt := top 64
abbrev N_all_days : List Str := ["many", "hands", "found", "i", "j"]
theorem sc_all_days : FnScope N_all_days ["many", "hands"] (defScope s_all_days) := ⟨rfl, rfl, rfl, by decide +kernel, rfl, by decide +kernel, by decide +kernel⟩
abbrev s_is_tied : Stmt := top 65
abbrev N_is_tied : List Str := ["task", "day", "last", "i", "j"]
theorem sc_is_tied : FnScope N_is_tied ["task", "day", "last"] (defScope s_is_tied) := ⟨rfl, rfl, rfl, by decide +kernel, rfl, by decide +kernel, by decide +kernel⟩
abbrev s_can_be_done : Stmt := top 66
abbrev N_can_be_done : List Str := ["task", "stand", "day", "phase", "waits", "busy", "last", "i"]
theorem sc_can_be_done : FnScope N_can_be_done ["task", "stand", "day"] (defScope s_can_be_done) := ⟨rfl, rfl, rfl, by decide +kernel, rfl, by decide +kernel, by decide +kernel⟩
abbrev s_later_days : Stmt := top 67
abbrev N_later_days : List Str := ["task", "stand", "day"]
theorem sc_later_days : FnScope N_later_days ["task", "stand"] (defScope s_later_days) := ⟨rfl, rfl, rfl, by decide +kernel, rfl, by decide +kernel, by decide +kernel⟩
abbrev s_wait_behind : Stmt := top 68
abbrev N_wait_behind : List Str := ["task", "stand", "day", "i"]
theorem sc_wait_behind : FnScope N_wait_behind ["task", "stand", "day", "i"] (defScope s_wait_behind) := ⟨rfl, rfl, rfl, by decide +kernel, rfl, by decide +kernel, by decide +kernel⟩
abbrev s_later_stand : Stmt := top 69
abbrev N_later_stand : List Str := ["task", "stand", "day", "waits", "busy", "ends", "i"]
theorem sc_later_stand : FnScope N_later_stand ["task", "stand", "day"] (defScope s_later_stand) := ⟨rfl, rfl, rfl, by decide +kernel, rfl, by decide +kernel, by decide +kernel⟩
abbrev s_led : Stmt := top 71
abbrev N_led : List Str := ["task", "stand", "days", "day"]
theorem sc_led : FnScope N_led ["task", "stand", "days"] (defScope s_led) := ⟨rfl, rfl, rfl, by decide +kernel, rfl, by decide +kernel, by decide +kernel⟩
abbrev s_on_holds : Stmt := top 72
abbrev N_on_holds : List Str := ["task", "stand", "lead", "ring", "one", "two"]
theorem sc_on_holds : FnScope N_on_holds ["task", "stand", "lead", "ring"] (defScope s_on_holds) := ⟨rfl, rfl, rfl, by decide +kernel, rfl, by decide +kernel, by decide +kernel⟩
abbrev s_count_holds : Stmt := top 73
abbrev N_count_holds : List Str := ["task", "days", "phase"]
theorem sc_count_holds : FnScope N_count_holds ["task", "days", "phase"] (defScope s_count_holds) := ⟨rfl, rfl, rfl, by decide +kernel, rfl, by decide +kernel, by decide +kernel⟩
abbrev s_Heights_init : Stmt := inClass (top 74) 0
abbrev N_Heights_init : List Str := ["self"]
theorem sc_Heights_init : FnScope N_Heights_init ["self"] (defScope s_Heights_init) := ⟨rfl, rfl, rfl, by decide +kernel, rfl, by decide +kernel, by decide +kernel⟩
abbrev s_Heights_alike : Stmt := inClass (top 74) 1
abbrev N_Heights_alike : List Str := ["self", "stand"]
theorem sc_Heights_alike : FnScope N_Heights_alike ["self", "stand"] (defScope s_Heights_alike) := ⟨rfl, rfl, rfl, by decide +kernel, rfl, by decide +kernel, by decide +kernel⟩
abbrev s_Heights_covers : Stmt := inClass (top 74) 2
abbrev N_Heights_covers : List Str := ["self", "stand", "some", "other"]
theorem sc_Heights_covers : FnScope N_Heights_covers ["self", "stand"] (defScope s_Heights_covers) := ⟨rfl, rfl, rfl, by decide +kernel, rfl, by decide +kernel, by decide +kernel⟩
abbrev s_Heights_add : Stmt := inClass (top 74) 3
abbrev N_Heights_add : List Str := ["self", "stand", "some", "other"]
theorem sc_Heights_add : FnScope N_Heights_add ["self", "stand"] (defScope s_Heights_add) := ⟨rfl, rfl, rfl, by decide +kernel, rfl, by decide +kernel, by decide +kernel⟩
abbrev s_runs_out : Stmt := top 75
abbrev N_runs_out : List Str := ["task", "stand", "heights", "day", "later"]
theorem sc_runs_out : FnScope N_runs_out ["task", "stand", "heights"] (defScope s_runs_out) := ⟨rfl, rfl, rfl, by decide +kernel, rfl, by decide +kernel, by decide +kernel⟩
abbrev s_walk_holds : Stmt := top 76
abbrev N_walk_holds : List Str := ["task", "stand", "stands", "heights", "one"]
theorem sc_walk_holds : FnScope N_walk_holds ["task", "stand", "stands"] (defScope s_walk_holds) := ⟨rfl, rfl, rfl, by decide +kernel, rfl, by decide +kernel, by decide +kernel⟩
abbrev s_answer_holds : Stmt := top 77
abbrev N_answer_holds : List Str := ["task", "stand", "answer"]
theorem sc_answer_holds : FnScope N_answer_holds ["task", "stand", "answer"] (defScope s_answer_holds) := ⟨rfl, rfl, rfl, by decide +kernel, rfl, by decide +kernel, by decide +kernel⟩
abbrev s_holds : Stmt := top 78
abbrev N_holds : List Str := ["task", "stand", "answer", "told"]
theorem sc_holds : FnScope N_holds ["task", "stand", "answer"] (defScope s_holds) := ⟨rfl, rfl, rfl, by decide +kernel, rfl, by decide +kernel, by decide +kernel⟩
abbrev s_Walk_init : Stmt := inClass (top 80) 0
abbrev N_Walk_init : List Str := ["self", "task", "stand"]
theorem sc_Walk_init : FnScope N_Walk_init ["self", "task", "stand"] (defScope s_Walk_init) := ⟨rfl, rfl, rfl, by decide +kernel, rfl, by decide +kernel, by decide +kernel⟩
abbrev s_Walk_go_on : Stmt := inClass (top 80) 1
abbrev N_Walk_go_on : List Str := ["self", "day", "stand"]
theorem sc_Walk_go_on : FnScope N_Walk_go_on ["self", "day", "stand"] (defScope s_Walk_go_on) := ⟨rfl, rfl, rfl, by decide +kernel, rfl, by decide +kernel, by decide +kernel⟩
abbrev s_Walk_go_back : Stmt := inClass (top 80) 2
abbrev N_Walk_go_back : List Str := ["self", "stand"]
theorem sc_Walk_go_back : FnScope N_Walk_go_back ["self"] (defScope s_Walk_go_back) := ⟨rfl, rfl, rfl, by decide +kernel, rfl, by decide +kernel, by decide +kernel⟩
abbrev s_Walk_ring : Stmt := inClass (top 80) 3
abbrev N_Walk_ring : List Str := ["self", "day", "stand", "at"]
theorem sc_Walk_ring : FnScope N_Walk_ring ["self", "day", "stand"] (defScope s_Walk_ring) := ⟨rfl, rfl, rfl, by decide +kernel, rfl, by decide +kernel, by decide +kernel⟩
abbrev s_Walk_step : Stmt := inClass (top 80) 4
abbrev N_Walk_step : List Str := ["self", "last", "day", "stand"]
theorem sc_Walk_step : FnScope N_Walk_step ["self"] (defScope s_Walk_step) := ⟨rfl, rfl, rfl, by decide +kernel, rfl, by decide +kernel, by decide +kernel⟩
abbrev s_walked : Stmt := top 81
abbrev N_walked : List Str := ["task", "stand", "walk", "found"]
theorem sc_walked : FnScope N_walked ["task", "stand"] (defScope s_walked) := ⟨rfl, rfl, rfl, by decide +kernel, rfl, by decide +kernel, by decide +kernel⟩
abbrev s_answer_of : Stmt := top 82
abbrev N_answer_of : List Str := ["task", "stand", "found"]
theorem sc_answer_of : FnScope N_answer_of ["task", "stand"] (defScope s_answer_of) := ⟨rfl, rfl, rfl, by decide +kernel, rfl, by decide +kernel, by decide +kernel⟩
abbrev s_answer : Stmt := top 83
abbrev N_answer : List Str := ["task", "stand"]
theorem sc_answer : FnScope N_answer ["task", "stand"] (defScope s_answer) := ⟨rfl, rfl, rfl, by decide +kernel, rfl, by decide +kernel, by decide +kernel⟩
abbrev s_law_cell : Stmt := top 85
abbrev N_law_cell : List Str := ["_law_script", "_law_k", "_law_spare"]
theorem sc_law_cell : FnScope N_law_cell ["_law_script", "_law_k"] (defScope s_law_cell) := ⟨rfl, rfl, rfl, by decide +kernel, rfl, by decide +kernel, by decide +kernel⟩
abbrev s_law_draws : Stmt := top 86
abbrev N_law_draws : List Str := ["_law_script", "_law_at", "_law_many", "_law_found", "_law_left", "_law_k", "_law_draw"]
theorem sc_law_draws : FnScope N_law_draws ["_law_script", "_law_at", "_law_many"] (defScope s_law_draws) := ⟨rfl, rfl, rfl, by decide +kernel, rfl, by decide +kernel, by decide +kernel⟩
abbrev s_law_next : Stmt := top 87
abbrev N_law_next : List Str := ["_law_draws_here"]
theorem sc_law_next : FnScope N_law_next ["_law_draws_here"] (defScope s_law_next) := ⟨rfl, rfl, rfl, by decide +kernel, rfl, by decide +kernel, by decide +kernel⟩
abbrev s_law_long : Stmt := top 88
abbrev N_law_long : List Str := ["_law_draws_here", "_law_many", "_law_draw", "_law_i"]
theorem sc_law_long : FnScope N_law_long ["_law_draws_here", "_law_many"] (defScope s_law_long) := ⟨rfl, rfl, rfl, by decide +kernel, rfl, by decide +kernel, by decide +kernel⟩
abbrev s_law_tied : Stmt := top 89
abbrev N_law_tied : List Str := ["_law_draws_here", "_law_many", "_law_draw", "_law_found", "_law_j", "_law_i"]
theorem sc_law_tied : FnScope N_law_tied ["_law_draws_here", "_law_many"] (defScope s_law_tied) := ⟨rfl, rfl, rfl, by decide +kernel, rfl, by decide +kernel, by decide +kernel⟩
abbrev s_law_off : Stmt := top 90
abbrev N_law_off : List Str := ["_law_draws_here", "_law_left", "_law_draw", "_law_size", "_law_k"]
theorem sc_law_off : FnScope N_law_off ["_law_draws_here", "_law_left"] (defScope s_law_off) := ⟨rfl, rfl, rfl, by decide +kernel, rfl, by decide +kernel, by decide +kernel⟩
abbrev s_law_task : Stmt := top 91
abbrev N_law_task : List Str := ["_law_draws_here", "_law_most", "_law_numbers", "_law_left", "_law_k", "_law_draw", "_law_some", "_law_number", "_law_hands", "_law_off_here", "_law_long_here", "_law_rows"]
theorem sc_law_task : FnScope N_law_task ["_law_draws_here", "_law_most"] (defScope s_law_task) := ⟨rfl, rfl, rfl, by decide +kernel, rfl, by decide +kernel, by decide +kernel⟩
abbrev s_law_days : Stmt := top 92
abbrev N_law_days : List Str := ["_law_task_here", "_law_stand", "_law_numbers", "_law_hands", "_law_off_here", "_law_long_here", "_law_tied_here", "_law_phase", "_law_waits", "_law_busy", "_law_last", "_law_days_here", "_law_j", "_law_found", "_law_day", "_law_barred", "_law_i", "_law_one"]
theorem sc_law_days : FnScope N_law_days ["_law_task_here", "_law_stand"] (defScope s_law_days) := ⟨rfl, rfl, rfl, by decide +kernel, rfl, by decide +kernel, by decide +kernel⟩
abbrev s_law_next_stand : Stmt := top 93
abbrev N_law_next_stand : List Str := ["_law_task_here", "_law_stand", "_law_day", "_law_numbers", "_law_hands", "_law_off_here", "_law_long_here", "_law_tied_here", "_law_phase", "_law_waits", "_law_busy", "_law_last", "_law_later", "_law_i", "_law_done", "_law_ends", "_law_started", "_law_pair"]
theorem sc_law_next_stand : FnScope N_law_next_stand ["_law_task_here", "_law_stand", "_law_day"] (defScope s_law_next_stand) := ⟨rfl, rfl, rfl, by decide +kernel, rfl, by decide +kernel, by decide +kernel⟩
abbrev s_law_made_up : Stmt := top 95
abbrev N_law_made_up : List Str := ["_law_draws_here", "_law_task_here", "_law_numbers", "_law_hands", "_law_off_here", "_law_long_here", "_law_tied_here", "_law_phase", "_law_waits", "_law_number", "_law_draw", "_law_ends", "_law_busy", "_law_last", "_law_others", "_law_pair", "_law_i"]
theorem sc_law_made_up : FnScope N_law_made_up ["_law_draws_here", "_law_task_here"] (defScope s_law_made_up) := ⟨rfl, rfl, rfl, by decide +kernel, rfl, by decide +kernel, by decide +kernel⟩
abbrev s_law_behind_it : Stmt := top 96
abbrev N_law_behind_it : List Str := ["_law_task_here", "_law_stand", "_law_found", "_law_waiting", "_law_one", "_law_day", "_law_other"]
theorem sc_law_behind_it : FnScope N_law_behind_it ["_law_task_here", "_law_stand"] (defScope s_law_behind_it) := ⟨rfl, rfl, rfl, by decide +kernel, rfl, by decide +kernel, by decide +kernel⟩
abbrev s_law_right : Stmt := top 97
abbrev N_law_right : List Str := ["_law_task_here", "_law_stand", "_law_most", "_law_found"]
theorem sc_law_right : FnScope N_law_right ["_law_task_here", "_law_stand"] (defScope s_law_right) := ⟨rfl, rfl, rfl, by decide +kernel, rfl, by decide +kernel, by decide +kernel⟩
abbrev s_law : Stmt := top 98
abbrev N_law : List Str := ["_law_script", "_law_k", "_law_draws_here", "_law_task_here", "_law_stand"]
theorem sc_law : FnScope N_law ["_law_script"] (defScope s_law) := ⟨rfl, rfl, rfl, by decide +kernel, rfl, by decide +kernel, by decide +kernel⟩
end W36
end
section
set_option Elab.async false
set_option linter.all false
set_option maxRecDepth 100000
set_option maxHeartbeats 0
namespace W36H
open W36
open PySem PySem.Spec PyProof.Rows L2
def d_is_whole : He.DefD := ⟨("is_whole", none), "is_whole", "is_whole", defArgs s_is_whole, defBody s_is_whole, defScope s_is_whole, [], []⟩
def d_is_row : He.DefD := ⟨("is_row", none), "is_row", "is_row", defArgs s_is_row, defBody s_is_row, defScope s_is_row, [], []⟩
def d_is_rising : He.DefD := ⟨("is_rising", none), "is_rising", "is_rising", defArgs s_is_rising, defBody s_is_rising, defScope s_is_rising, [], []⟩
def d_told_rows : He.DefD := ⟨("told_rows", none), "told_rows", "told_rows", defArgs s_told_rows, defBody s_told_rows, defScope s_told_rows, [], []⟩
def d_is_numbers : He.DefD := ⟨("is_numbers", none), "is_numbers", "is_numbers", defArgs s_is_numbers, defBody s_is_numbers, defScope s_is_numbers, [], []⟩
def d_asked_numbers : He.DefD := ⟨("asked_numbers", none), "asked_numbers", "asked_numbers", defArgs s_asked_numbers, defBody s_asked_numbers, defScope s_asked_numbers, [], []⟩
def d_divisor : He.DefD := ⟨("divisor", none), "divisor", "divisor", defArgs s_divisor, defBody s_divisor, defScope s_divisor, [], []⟩
def d_common_of : He.DefD := ⟨("common_of", none), "common_of", "common_of", defArgs s_common_of, defBody s_common_of, defScope s_common_of, [], []⟩
def d_common : He.DefD := ⟨("common", none), "common", "common", defArgs s_common, defBody s_common, defScope s_common, [], []⟩
def d_is_off : He.DefD := ⟨("is_off", none), "is_off", "is_off", defArgs s_is_off, defBody s_is_off, defScope s_is_off, [], []⟩
def d_is_pair : He.DefD := ⟨("is_pair", none), "is_pair", "is_pair", defArgs s_is_pair, defBody s_is_pair, defScope s_is_pair, [], []⟩
def d_are_pairs : He.DefD := ⟨("are_pairs", none), "are_pairs", "are_pairs", defArgs s_are_pairs, defBody s_are_pairs, defScope s_are_pairs, [], []⟩
def d_is_task : He.DefD := ⟨("is_task", none), "is_task", "is_task", defArgs s_is_task, defBody s_is_task, defScope s_is_task, [], []⟩
def d_asked_task : He.DefD := ⟨("asked_task", none), "asked_task", "asked_task", defArgs s_asked_task, defBody s_asked_task, defScope s_asked_task, [], []⟩
def d_need_of : He.DefD := ⟨("need_of", none), "need_of", "need_of", defArgs s_need_of, defBody s_need_of, defScope s_need_of, [], []⟩
def d_room_of : He.DefD := ⟨("room_of", none), "room_of", "room_of", defArgs s_room_of, defBody s_room_of, defScope s_room_of, [], []⟩
def d_many_busy : He.DefD := ⟨("many_busy", none), "many_busy", "many_busy", defArgs s_many_busy, defBody s_many_busy, defScope s_many_busy, [], []⟩
def d_stands_room : He.DefD := ⟨("stands_room", none), "stands_room", "stands_room", defArgs s_stands_room, defBody s_stands_room, defScope s_stands_room, [], []⟩
def d_room : He.DefD := ⟨("room", none), "room", "room", defArgs s_room, defBody s_room, defScope s_room, [], []⟩
def d_asked_room : He.DefD := ⟨("asked_room", none), "asked_room", "asked_room", defArgs s_asked_room, defBody s_asked_room, defScope s_asked_room, [], []⟩
def d_days_together : He.DefD := ⟨("days_together", none), "days_together", "days_together", defArgs s_days_together, defBody s_days_together, defScope s_days_together, [], []⟩
def d_least_crowd : He.DefD := ⟨("least_crowd", none), "least_crowd", "least_crowd", defArgs s_least_crowd, defBody s_least_crowd, defScope s_least_crowd, [], []⟩
def d_is_day : He.DefD := ⟨("is_day", none), "is_day", "is_day", defArgs s_is_day, defBody s_is_day, defScope s_is_day, [], []⟩
def d_are_days : He.DefD := ⟨("are_days", none), "are_days", "are_days", defArgs s_are_days, defBody s_are_days, defScope s_are_days, [], []⟩
def d_is_ring : He.DefD := ⟨("is_ring", none), "is_ring", "is_ring", defArgs s_is_ring, defBody s_is_ring, defScope s_is_ring, [], []⟩
def d_in_ties : He.DefD := ⟨("in_ties", none), "in_ties", "in_ties", defArgs s_in_ties, defBody s_in_ties, defScope s_in_ties, [], []⟩
def d_are_waits : He.DefD := ⟨("are_waits", none), "are_waits", "are_waits", defArgs s_are_waits, defBody s_are_waits, defScope s_are_waits, [], []⟩
def d_is_some_of : He.DefD := ⟨("is_some_of", none), "is_some_of", "is_some_of", defArgs s_is_some_of, defBody s_is_some_of, defScope s_is_some_of, [], []⟩
def d_is_stand_of : He.DefD := ⟨("is_stand_of", none), "is_stand_of", "is_stand_of", defArgs s_is_stand_of, defBody s_is_stand_of, defScope s_is_stand_of, [], []⟩
def d_asked_stand : He.DefD := ⟨("asked_stand", none), "asked_stand", "asked_stand", defArgs s_asked_stand, defBody s_asked_stand, defScope s_asked_stand, [], []⟩
def d_lies_under : He.DefD := ⟨("lies_under", none), "lies_under", "lies_under", defArgs s_lies_under, defBody s_lies_under, defScope s_lies_under, [], []⟩
def d_is_lead : He.DefD := ⟨("is_lead", none), "is_lead", "is_lead", defArgs s_is_lead, defBody s_is_lead, defScope s_is_lead, [], []⟩
def d_is_on : He.DefD := ⟨("is_on", none), "is_on", "is_on", defArgs s_is_on, defBody s_is_on, defScope s_is_on, [], []⟩
def d_is_count : He.DefD := ⟨("is_count", none), "is_count", "is_count", defArgs s_is_count, defBody s_is_count, defScope s_is_count, [], []⟩
def d_is_walk : He.DefD := ⟨("is_walk", none), "is_walk", "is_walk", defArgs s_is_walk, defBody s_is_walk, defScope s_is_walk, [], []⟩
def d_is_answer_of : He.DefD := ⟨("is_answer_of", none), "is_answer_of", "is_answer_of", defArgs s_is_answer_of, defBody s_is_answer_of, defScope s_is_answer_of, [], []⟩
def d_asked_answer : He.DefD := ⟨("asked_answer", none), "asked_answer", "asked_answer", defArgs s_asked_answer, defBody s_asked_answer, defScope s_asked_answer, [], []⟩
def d_is_answer : He.DefD := ⟨("is_answer", none), "is_answer", "is_answer", defArgs s_is_answer, defBody s_is_answer, defScope s_is_answer, [], []⟩
def d_all_days : He.DefD := ⟨("all_days", none), "all_days", "all_days", defArgs s_all_days, defBody s_all_days, defScope s_all_days, [], []⟩
def d_is_tied : He.DefD := ⟨("is_tied", none), "is_tied", "is_tied", defArgs s_is_tied, defBody s_is_tied, defScope s_is_tied, [], []⟩
def d_can_be_done : He.DefD := ⟨("can_be_done", none), "can_be_done", "can_be_done", defArgs s_can_be_done, defBody s_can_be_done, defScope s_can_be_done, [], []⟩
def d_later_days : He.DefD := ⟨("later_days", none), "later_days", "later_days", defArgs s_later_days, defBody s_later_days, defScope s_later_days, [], []⟩
def d_wait_behind : He.DefD := ⟨("wait_behind", none), "wait_behind", "wait_behind", defArgs s_wait_behind, defBody s_wait_behind, defScope s_wait_behind, [], []⟩
def d_later_stand : He.DefD := ⟨("later_stand", none), "later_stand", "later_stand", defArgs s_later_stand, defBody s_later_stand, defScope s_later_stand, [], []⟩
def d_led : He.DefD := ⟨("led", none), "led", "led", defArgs s_led, defBody s_led, defScope s_led, [], []⟩
def d_on_holds : He.DefD := ⟨("on_holds", none), "on_holds", "on_holds", defArgs s_on_holds, defBody s_on_holds, defScope s_on_holds, [], []⟩
def d_count_holds : He.DefD := ⟨("count_holds", none), "count_holds", "count_holds", defArgs s_count_holds, defBody s_count_holds, defScope s_count_holds, [], []⟩
def d_Heights_init : He.DefD := ⟨("Heights", some "__init__"), "__init__", "Heights.__init__", defArgs s_Heights_init, defBody s_Heights_init, defScope s_Heights_init, [], []⟩
def d_Heights_alike : He.DefD := ⟨("Heights", some "alike"), "alike", "Heights.alike", defArgs s_Heights_alike, defBody s_Heights_alike, defScope s_Heights_alike, [], []⟩
def d_Heights_covers : He.DefD := ⟨("Heights", some "covers"), "covers", "Heights.covers", defArgs s_Heights_covers, defBody s_Heights_covers, defScope s_Heights_covers, [], []⟩
def d_Heights_add : He.DefD := ⟨("Heights", some "add"), "add", "Heights.add", defArgs s_Heights_add, defBody s_Heights_add, defScope s_Heights_add, [], []⟩
def d_runs_out : He.DefD := ⟨("runs_out", none), "runs_out", "runs_out", defArgs s_runs_out, defBody s_runs_out, defScope s_runs_out, [], []⟩
def d_walk_holds : He.DefD := ⟨("walk_holds", none), "walk_holds", "walk_holds", defArgs s_walk_holds, defBody s_walk_holds, defScope s_walk_holds, [], []⟩
def d_answer_holds : He.DefD := ⟨("answer_holds", none), "answer_holds", "answer_holds", defArgs s_answer_holds, defBody s_answer_holds, defScope s_answer_holds, [], []⟩
def d_holds : He.DefD := ⟨("holds", none), "holds", "holds", defArgs s_holds, defBody s_holds, defScope s_holds, [], []⟩
def d_Walk_init : He.DefD := ⟨("Walk", some "__init__"), "__init__", "Walk.__init__", defArgs s_Walk_init, defBody s_Walk_init, defScope s_Walk_init, [], []⟩
def d_Walk_go_on : He.DefD := ⟨("Walk", some "go_on"), "go_on", "Walk.go_on", defArgs s_Walk_go_on, defBody s_Walk_go_on, defScope s_Walk_go_on, [], []⟩
def d_Walk_go_back : He.DefD := ⟨("Walk", some "go_back"), "go_back", "Walk.go_back", defArgs s_Walk_go_back, defBody s_Walk_go_back, defScope s_Walk_go_back, [], []⟩
def d_Walk_ring : He.DefD := ⟨("Walk", some "ring"), "ring", "Walk.ring", defArgs s_Walk_ring, defBody s_Walk_ring, defScope s_Walk_ring, [], []⟩
def d_Walk_step : He.DefD := ⟨("Walk", some "step"), "step", "Walk.step", defArgs s_Walk_step, defBody s_Walk_step, defScope s_Walk_step, [], []⟩
def d_walked : He.DefD := ⟨("walked", none), "walked", "walked", defArgs s_walked, defBody s_walked, defScope s_walked, [], []⟩
def d_answer_of : He.DefD := ⟨("answer_of", none), "answer_of", "answer_of", defArgs s_answer_of, defBody s_answer_of, defScope s_answer_of, [], []⟩
def d_answer : He.DefD := ⟨("answer", none), "answer", "answer", defArgs s_answer, defBody s_answer, defScope s_answer, [], []⟩
def d_law_cell : He.DefD := ⟨("_law_cell", none), "_law_cell", "_law_cell", defArgs s_law_cell, defBody s_law_cell, defScope s_law_cell, [], []⟩
def d_law_draws : He.DefD := ⟨("_law_draws", none), "_law_draws", "_law_draws", defArgs s_law_draws, defBody s_law_draws, defScope s_law_draws, [], []⟩
def d_law_next : He.DefD := ⟨("_law_next", none), "_law_next", "_law_next", defArgs s_law_next, defBody s_law_next, defScope s_law_next, [], []⟩
def d_law_long : He.DefD := ⟨("_law_long", none), "_law_long", "_law_long", defArgs s_law_long, defBody s_law_long, defScope s_law_long, [], []⟩
def d_law_tied : He.DefD := ⟨("_law_tied", none), "_law_tied", "_law_tied", defArgs s_law_tied, defBody s_law_tied, defScope s_law_tied, [], []⟩
def d_law_off : He.DefD := ⟨("_law_off", none), "_law_off", "_law_off", defArgs s_law_off, defBody s_law_off, defScope s_law_off, [], []⟩
def d_law_task : He.DefD := ⟨("_law_task", none), "_law_task", "_law_task", defArgs s_law_task, defBody s_law_task, defScope s_law_task, [], []⟩
def d_law_days : He.DefD := ⟨("_law_days", none), "_law_days", "_law_days", defArgs s_law_days, defBody s_law_days, defScope s_law_days, [], []⟩
def d_law_next_stand : He.DefD := ⟨("_law_next_stand", none), "_law_next_stand", "_law_next_stand", defArgs s_law_next_stand, defBody s_law_next_stand, defScope s_law_next_stand, [], []⟩
def d_law_made_up : He.DefD := ⟨("_law_made_up", none), "_law_made_up", "_law_made_up", defArgs s_law_made_up, defBody s_law_made_up, defScope s_law_made_up, [], []⟩
def d_law_behind_it : He.DefD := ⟨("_law_behind_it", none), "_law_behind_it", "_law_behind_it", defArgs s_law_behind_it, defBody s_law_behind_it, defScope s_law_behind_it, [], []⟩
def d_law_right : He.DefD := ⟨("_law_right", none), "_law_right", "_law_right", defArgs s_law_right, defBody s_law_right, defScope s_law_right, [], []⟩
def d_law : He.DefD := ⟨("law", none), "law", "law", defArgs s_law, defBody s_law, defScope s_law, [], []⟩
def fn0 : List He.DefD := [d_is_whole, d_is_row, d_is_rising, d_told_rows, d_is_numbers, d_asked_numbers, d_divisor, d_common_of, d_common, d_is_off, d_is_pair, d_are_pairs, d_is_task, d_asked_task, d_need_of, d_room_of]
def fn1 : List He.DefD := [d_many_busy, d_stands_room, d_room, d_asked_room, d_days_together, d_least_crowd, d_is_day, d_are_days, d_is_ring, d_in_ties, d_are_waits, d_is_some_of, d_is_stand_of, d_asked_stand, d_lies_under, d_is_lead]
def fn2 : List He.DefD := [d_is_on, d_is_count, d_is_walk, d_is_answer_of, d_asked_answer, d_is_answer, d_all_days, d_is_tied, d_can_be_done, d_later_days, d_wait_behind, d_later_stand, d_led, d_on_holds, d_count_holds, d_Heights_init]
def fn3 : List He.DefD := [d_Heights_alike, d_Heights_covers, d_Heights_add, d_runs_out, d_walk_holds, d_answer_holds, d_holds, d_Walk_init, d_Walk_go_on, d_Walk_go_back, d_Walk_ring, d_Walk_step, d_walked, d_answer_of, d_answer, d_law_cell]
def fn4 : List He.DefD := [d_law_draws, d_law_next, d_law_long, d_law_tied, d_law_off, d_law_task, d_law_days, d_law_next_stand, d_law_made_up, d_law_behind_it, d_law_right, d_law]
def fn : List He.DefD := fn0 ++ fn1 ++ fn2 ++ fn3 ++ fn4
def fa0 : List He.Fa := [.glo "is_whole", .glo "is_row", .glo "is_rising", .glo "told_rows", .glo "is_numbers", .glo "asked_numbers", .glo "divisor", .glo "common_of", .glo "common", .glo "is_off", .glo "is_pair", .glo "are_pairs", .glo "is_task", .glo "asked_task", .glo "need_of", .glo "room_of"]
def fa1 : List He.Fa := [.glo "many_busy", .glo "stands_room", .glo "room", .glo "asked_room", .glo "days_together", .glo "least_crowd", .glo "is_day", .glo "are_days", .glo "is_ring", .glo "in_ties", .glo "are_waits", .glo "is_some_of", .glo "is_stand_of", .glo "asked_stand", .glo "lies_under", .glo "is_lead"]
def fa2 : List He.Fa := [.glo "is_on", .glo "is_count", .glo "is_walk", .glo "is_answer_of", .glo "asked_answer", .glo "is_answer", .glo "all_days", .glo "is_tied", .glo "can_be_done", .glo "later_days", .glo "wait_behind", .glo "later_stand", .glo "led", .glo "on_holds", .glo "count_holds", .glo "runs_out"]
def fa3 : List He.Fa := [.glo "walk_holds", .glo "answer_holds", .glo "holds", .glo "walked", .glo "answer_of", .glo "answer", .glo "_law_cell", .glo "_law_draws", .glo "_law_next", .glo "_law_long", .glo "_law_tied", .glo "_law_off", .glo "_law_task", .glo "_law_days", .glo "_law_next_stand", .glo "_law_made_up"]
def fa4 : List He.Fa := [.glo "_law_behind_it", .glo "_law_right", .glo "law", .free "isinstance", .free "int", .free "bool", .free "list", .free "tuple", .free "len", .free "enumerate", .free "range", .free "all", .free "any", .free "sorted", .free "set", .free "max"]
def fa5 : List He.Fa := [.free "str", .free "sum", .int "MOST_THINGS" 8, .int "GREATEST" 40, .int "MOST_OFF" 7, .int "MOST_HANDS" 2, .int "PARTS" 5, .int "MOST_DAYS" 1000000, .int "MOST" 3000, .int "MOST_ON_A_DAY" 2, .int "LONGEST" 4000, .int "MOST_LEAD" 4000, .int "MOST_STANDS" 4000, .glo "Heights", .cls "Heights", .mkr "Heights"]
def fa6 : List He.Fa := [.noat "Heights" "rows", .meth "Heights" "alike", .meth "Heights" "covers", .meth "Heights" "add", .glo "Walk", .cls "Walk", .mkr "Walk", .noat "Walk" "of", .noat "Walk" "way", .noat "Walk" "choices", .noat "Walk" "taken", .noat "Walk" "places", .noat "Walk" "over", .meth "Walk" "go_on", .meth "Walk" "go_back", .meth "Walk" "ring"]
def fa7 : List He.Fa := [.meth "Walk" "step"]
def fa : List He.Fa := fa0 ++ fa1 ++ fa2 ++ fa3 ++ fa4 ++ fa5 ++ fa6 ++ fa7
abbrev lo0 : List Str := ["__name__", "DaysError", "NoNumbers", "NoTask", "NoStand", "TooMany", "is_whole", "is_row", "is_rising", "told_rows", "MOST_THINGS", "GREATEST", "is_numbers", "asked_numbers", "divisor", "common_of"]
abbrev lo1 : List Str := ["common", "MOST_OFF", "MOST_HANDS", "PARTS", "is_off", "is_pair", "are_pairs", "is_task", "asked_task", "MOST_DAYS", "need_of", "room_of", "MOST", "many_busy", "stands_room", "room"]
abbrev lo2 : List Str := ["asked_room", "days_together", "least_crowd", "MOST_ON_A_DAY", "LONGEST", "is_day", "are_days", "is_ring", "in_ties", "are_waits", "is_some_of", "is_stand_of", "asked_stand", "lies_under", "MOST_LEAD", "MOST_STANDS"]
abbrev lo3 : List Str := ["is_lead", "is_on", "is_count", "is_walk", "is_answer_of", "asked_answer", "is_answer", "all_days", "is_tied", "can_be_done", "later_days", "wait_behind", "later_stand", "led", "on_holds", "count_holds"]
abbrev lo4 : List Str := ["Heights", "runs_out", "walk_holds", "answer_holds", "holds", "Walk", "walked", "answer_of", "answer", "_law_cell", "_law_draws", "_law_next", "_law_long", "_law_tied", "_law_off", "_law_task"]
abbrev lo5 : List Str := ["_law_days", "_law_next_stand", "_law_ways", "_law_made_up", "_law_behind_it", "_law_right"]
abbrev loose : List Str := lo0 ++ lo1 ++ lo2 ++ lo3 ++ lo4 ++ lo5
abbrev R : PySem.W.OpenRow := PySem.W.OpenLaw.row PySem.Challenge.rw_withindays_k36_whole_room_is_enough
abbrev hk : PySem.W.Hook := He.hookD 6 fa fn
def ob (s : PySem.W.SharedT) : He.AlD := He.obsDG 6 fa fn (HandSHeadRun.getT s)
theorem ob_eq (s : PySem.W.SharedT) : ob s = hk.obs s.abs := He.obsDG_eq (HandSHeadRun.getT_eq s)
theorem run (w : World) : HandSHeadRun.RunEq R (PySem.W.view R.prog [98]) hk ob 20000 loose w := by
  intro os
  kernel_rfl
end W36H
end
section
set_option Elab.async false
set_option linter.all false
set_option maxRecDepth 100000
set_option maxHeartbeats 4000000
/-! The data layer: what a value is in a visible heap G below the heap H; what an expression, a test, a statement gives over an environment of data. -/
namespace W36
open PySem L2 Evl
/-! ### data in a heap -/
mutual
inductive Dt (G : Hp) : V → PyData → Prop
  | non : Dt G .non .none
  | bl (b : Bool) : Dt G (.bl b) (.bool b)
  | int (i : Int) : Dt G (.int i) (.int i)
  | str (x : Str) : Dt G (.str x) (.str x)
  | lst {a : Addr} {xs : List V} {ds : List PyData} : G a = some (.lst xs) → DtAll G xs ds → Dt G (.ref a) (.list ds)
  | tup {a : Addr} {xs : List V} {ds : List PyData} : G a = some (.tup xs) → DtAll G xs ds → Dt G (.ref a) (.tuple ds)
inductive DtAll (G : Hp) : List V → List PyData → Prop
  | nil : DtAll G [] []
  | cons {v : V} {vs : List V} {d : PyData} {ds : List PyData} : Dt G v d → DtAll G vs ds → DtAll G (v :: vs) (d :: ds)
end
mutual
theorem Dt.mono {G G' : Hp} (e : Ex G G') : ∀ (d : PyData) (v : V), Dt G v d → Dt G' v d
  | .none, _, h => by cases h; exact .non
  | .bool b, _, h => by cases h; exact .bl b
  | .int i, _, h => by cases h; exact .int i
  | .str x, _, h => by cases h; exact .str x
  | .list ds, _, h => by cases h with | lst h1 h2 => exact .lst (e _ _ h1) (DtAll.mono e ds _ h2)
  | .tuple ds, _, h => by cases h with | tup h1 h2 => exact .tup (e _ _ h1) (DtAll.mono e ds _ h2)
  | .dict _, _, h => by cases h
theorem DtAll.mono {G G' : Hp} (e : Ex G G') : ∀ (ds : List PyData) (vs : List V), DtAll G vs ds → DtAll G' vs ds
  | [], _, h => by cases h; exact .nil
  | d :: ds, _, h => by cases h with | cons h1 h2 => exact .cons (Dt.mono e d _ h1) (DtAll.mono e ds _ h2)
end
theorem Dt.up {G G' : Hp} {v : V} {d : PyData} (h : Dt G v d) (e : Ex G G') : Dt G' v d := Dt.mono e d v h
theorem DtAll.up {G G' : Hp} {vs : List V} {ds : List PyData} (h : DtAll G vs ds) (e : Ex G G') : DtAll G' vs ds := DtAll.mono e ds vs h
mutual
theorem Dt.dp' {K : PySem.W.Frag} {G : Hp} : ∀ (d : PyData) (v : V), Dt G v d → Dp K G v d
  | .none, _, h => by cases h; exact .non
  | .bool b, _, h => by cases h; exact .bl b
  | .int i, _, h => by cases h; exact .int i
  | .str x, _, h => by cases h; exact .str x
  | .list ds, _, h => by cases h with | lst h1 h2 => exact .lst (sq_of h1) (DtAll.dp' ds _ h2)
  | .tuple ds, _, h => by cases h with | tup h1 h2 => exact .tup (st_of h1) (DtAll.dp' ds _ h2)
  | .dict _, _, h => by cases h
theorem DtAll.dp' {K : PySem.W.Frag} {G : Hp} : ∀ (ds : List PyData) (vs : List V), DtAll G vs ds → DpAll K G vs ds
  | [], _, h => by cases h; exact .nil
  | d :: ds, _, h => by cases h with | cons h1 h2 => exact .cons (Dt.dp' d _ h1) (DtAll.dp' ds _ h2)
end
theorem Dt.dp {K : PySem.W.Frag} {G : Hp} {v : V} {d : PyData} (h : Dt G v d) : Dp K G v d := Dt.dp' d v h
theorem DtAll.dp {K : PySem.W.Frag} {G : Hp} {vs : List V} {ds : List PyData} (h : DtAll G vs ds) : DpAll K G vs ds := DtAll.dp' ds vs h
section
variable {G : Hp} {v : V} {vs ws : List V} {d : PyData} {ds es : List PyData}
theorem DtAll.length : ∀ {vs : List V} {ds : List PyData}, DtAll G vs ds → vs.length = ds.length
  | _, [], h => by cases h; rfl
  | _, d :: ds, h => by cases h with | cons h1 h2 => rw [List.length_cons, List.length_cons, DtAll.length h2]
theorem DtAll.get : ∀ {vs : List V} {ds : List PyData} {i : Nat} {d : PyData}, DtAll G vs ds → ds[i]? = some d → ∃ v, vs[i]? = some v ∧ Dt G v d
  | _, [], _, _, h, e => by simp at e
  | _, d :: ds, 0, x, h, e => by cases h with | cons h1 h2 => simp at e; subst e; exact ⟨_, rfl, h1⟩
  | _, d :: ds, i + 1, x, h, e => by cases h with | cons h1 h2 => exact DtAll.get (i := i) h2 (by simpa using e)
theorem DtAll.back : ∀ {vs : List V} {ds : List PyData} {i : Nat} {v : V}, DtAll G vs ds → vs[i]? = some v → ∃ d, ds[i]? = some d ∧ Dt G v d
  | _, [], _, _, h, e => by cases h; simp at e
  | _, d :: ds, 0, x, h, e => by cases h with | cons h1 h2 => simp at e; subst e; exact ⟨_, rfl, h1⟩
  | _, d :: ds, i + 1, x, h, e => by cases h with | cons h1 h2 => exact DtAll.back (i := i) h2 (by simpa using e)
theorem DtAll.app : ∀ {vs ws : List V} {ds es : List PyData}, DtAll G vs ds → DtAll G ws es → DtAll G (vs ++ ws) (ds ++ es)
  | _, _, [], _, h, k => by cases h; exact k
  | _, _, d :: ds, _, h, k => by cases h with | cons h1 h2 => exact .cons h1 (DtAll.app h2 k)
theorem DtAll.snoc (h : DtAll G vs ds) (k : Dt G v d) : DtAll G (vs ++ [v]) (ds ++ [d]) := h.app (.cons k .nil)
theorem DtAll.take : ∀ {vs : List V} {ds : List PyData} (n : Nat), DtAll G vs ds → DtAll G (vs.take n) (ds.take n)
  | _, _, 0, h => by simp; exact .nil
  | _, [], n + 1, h => by cases h; exact .nil
  | _, d :: ds, n + 1, h => by cases h with | cons h1 h2 => exact .cons h1 (DtAll.take n h2)
theorem DtAll.drop : ∀ {vs : List V} {ds : List PyData} (n : Nat), DtAll G vs ds → DtAll G (vs.drop n) (ds.drop n)
  | _, _, 0, h => h
  | _, [], n + 1, h => by cases h; exact .nil
  | _, d :: ds, n + 1, h => by cases h with | cons h1 h2 => exact DtAll.drop n h2
theorem DtAll.ints : ∀ {ns : List Int} {vs : List V}, DtAll G vs (ns.map PyData.int) → vs = ns.map V.int
  | [], _, h => by cases h; rfl
  | n :: ns, _, h => by
    cases h with
    | cons h1 h2 =>
      cases h1
      rw [DtAll.ints h2] <;> rfl
theorem DtAll.of_ints : ∀ (ns : List Int), DtAll G (ns.map V.int) (ns.map PyData.int)
  | [] => .nil
  | n :: ns => .cons (.int n) (DtAll.of_ints ns)
theorem DtAll.bools : ∀ {ns : List Bool} {vs : List V}, DtAll G vs (ns.map PyData.bool) → vs = ns.map V.bl
  | [], _, h => by cases h; rfl
  | n :: ns, _, h => by
    cases h with
    | cons h1 h2 =>
      cases h1
      rw [DtAll.bools h2] <;> rfl
end
/-! ### environments -/
inductive Ent where
  | no
  | dat (d : PyData)
  | own (ds : List PyData)
  | drw
  | spc (v : V) (F : Addr → Prop) (R : Hp → Hp → Prop)
def Ent.mine : Ent → Bool
  | .own _ => true
  | .drw => true
  | .spc _ _ _ => true
  | _ => false
def Ent.owns : Ent → Option (Option V) → Addr → Prop
  | .own _, x, l => x = some (some (.ref l))
  | .drw, x, l => x = some (some (.ref l))
  | .spc _ F _, _, l => F l
  | .no, _, _ => False
  | .dat _, _, _ => False
theorem Ent.owns_mine : ∀ {e : Ent} {x : Option (Option V)} {l : Addr}, e.owns x l → e.mine = true
  | .own _, _, _, _ => rfl
  | .drw, _, _, _ => rfl
  | .spc _ _ _, _, _, _ => rfl
  | .no, _, _, h => h.elim
  | .dat _, _, _, h => h.elim
/-- what is said of a thing of one's own stands while the objects in F stand -/
def Stab (F : Addr → Prop) (R : Hp → Hp → Prop) : Prop := ∀ G H G' H', R G H → Ex G G' → Ex G' H' → (∀ l o, F l → H l = some o → H' l = some o) → R G' H'
/-- the slot i holds a list of one's own at l -/
def Ow (ρ : List Ent) (σ : L2.St) (i : Nat) (l : Addr) : Prop := ∃ e : Ent, ρ[i]? = some e ∧ e.owns σ[i]? l
def Own (ρ : List Ent) (σ : L2.St) (l : Addr) : Prop := ∃ i, Ow ρ σ i l
def Sdr (ρ : List Ent) (σ : L2.St) (l : Addr) : Prop := ∃ i : Nat, ρ[i]? = some Ent.drw ∧ σ[i]? = some (some (.ref l))
theorem Sdr.own {ρ : List Ent} {σ : L2.St} {l : Addr} (h : Sdr ρ σ l) : Own ρ σ l := let ⟨i, h1, h2⟩ := h; ⟨i, _, h1, h2⟩
structure Env (G H : Hp) (σ : L2.St) (ρ : List Ent) : Prop where
  ex : Ex G H
  len : σ.length = ρ.length
  dat : ∀ (i : Nat) (d : PyData), ρ[i]? = some (.dat d) → ∃ v, σ[i]? = some (some v) ∧ Dt G v d
  own : ∀ (i : Nat) (ds : List PyData), ρ[i]? = some (.own ds) → ∃ (l : Addr) (xs : List V), σ[i]? = some (some (.ref l)) ∧ H l = some (.lst xs) ∧ G l = none ∧ DtAll G xs ds
  drw : ∀ i : Nat, ρ[i]? = some .drw → ∃ (l : Addr) (ns : List Int), σ[i]? = some (some (.ref l)) ∧ H l = some (.lst (ns.map V.int)) ∧ G l = none
  spc : ∀ (i : Nat) (v : V) (F : Addr → Prop) (R : Hp → Hp → Prop), ρ[i]? = some (.spc v F R) → σ[i]? = some (some v) ∧ R G H ∧ (∀ l, F l → G l = none ∧ H l ≠ none) ∧ Stab F R
  sep : ∀ (i j : Nat) (l : Addr), i ≠ j → Ow ρ σ i l → Ow ρ σ j l → False
/-- how the heaps grow: but for S all stands, the visible heap grows by new addresses alone -/
structure Gw (S : Addr → Prop) (G H G' H' : Hp) : Prop where
  h : ∀ a o, ¬ S a → H a = some o → H' a = some o
  d : ∀ a, H a ≠ none → H' a ≠ none
  g : Ex G G'
  v : Ex G' H'
  n : ∀ a, G a = none → H a ≠ none → G' a = none
theorem ex_none {G H : Hp} {a : Addr} (e : Ex G H) (h : H a = none) : G a = none := fresh_back e h
theorem ex_not {G : Hp} {a : Addr} {o : HO} (h : G a = some o) : G a ≠ none := fun z => by rw [h] at z; cases z
section
variable {S S' : Addr → Prop} {G H G' H' G2 H2 : Hp}
theorem Gw.refl (e : Ex G H) : Gw S G H G H := ⟨fun _ _ _ h => h, fun _ h => h, Ex.refl G, e, fun _ h _ => h⟩
theorem Gw.tr (a : Gw S G H G' H') (b : Gw S' G' H' G2 H2) (hs : ∀ l, S' l → S l ∨ H l = none) : Gw S G H G2 H2 :=
  ⟨fun x o n e => b.h x o (fun z => (hs x z).elim n fun q => by rw [e] at q; cases q) (a.h x o n e), fun x e => b.d x (a.d x e), a.g.trans b.g, b.v, fun x g e => b.n x (a.n x g e) (a.d x e)⟩
theorem Gw.trans (a : Gw S G H G' H') (b : Gw S G' H' G2 H2) : Gw S G H G2 H2 := a.tr b fun _ z => .inl z
theorem Gw.wide (a : Gw S G H G' H') (hs : ∀ l, S l → S' l) : Gw S' G H G' H' := ⟨fun x o n e => a.h x o (fun z => n (hs x z)) e, a.d, a.g, a.v, a.n⟩
theorem ex_upd {p : Addr} {o : HO} (e : Ex G H) (hp : G p = none) : Ex G (upd H p o) := fun a u ha => by
  rw [upd_ne (ne_of_none ha hp)]
  exact e a u ha
theorem ex_both {p : Addr} {o : HO} (e : Ex G H) : Ex (upd G p o) (upd H p o) := fun a u ha => by
  by_cases q : a = p
  · subst q; rw [upd_same] at ha ⊢; exact ha
  · rw [upd_ne q] at ha ⊢; exact e a u ha
/-- a new visible object; a new one that is not visible -/
theorem Gw.new {p : Addr} {o : HO} (e : Ex G H) (hp : H p = none) : Gw S G H (upd G p o) (upd H p o) where
  h := fun a u _ ha => by rw [upd_ne (ne_of_none ha hp)]; exact ha
  d := fun a ha => by
    by_cases q : a = p
    · subst q; exact absurd hp ha
    · rw [upd_ne q]; exact ha
  g := Ex.new (ex_none e hp)
  v := ex_both e
  n := fun a ga ha => by
    by_cases q : a = p
    · subst q; exact absurd hp ha
    · rw [upd_ne q]; exact ga
theorem Gw.newH {p : Addr} {o : HO} (e : Ex G H) (hp : H p = none) : Gw S G H G (upd H p o) where
  h := fun a u _ ha => by rw [upd_ne (ne_of_none ha hp)]; exact ha
  d := fun a ha => by
    by_cases q : a = p
    · subst q; exact absurd hp ha
    · rw [upd_ne q]; exact ha
  g := Ex.refl G
  v := ex_upd e (ex_none e hp)
  n := fun _ g _ => g
/-- one's own object changes -/
theorem Gw.put {p : Addr} {o : HO} (e : Ex G H) (hp : G p = none) (hs : S p) : Gw S G H G (upd H p o) where
  h := fun a u n ha => by
    rw [upd_ne (fun z => n (by rw [z]; exact hs))]; exact ha
  d := fun a ha => by
    by_cases q : a = p
    · subst q; rw [upd_same]; exact fun z => by cases z
    · rw [upd_ne q]; exact ha
  g := Ex.refl G
  v := ex_upd e hp
  n := fun _ g _ => g
end
section
variable {σ : L2.St} {ρ ρ' : List Ent} {G H G' H' G2 H2 : Hp} {i : Nat} {d : PyData} {v : V}
theorem Env.grow (E : Env G H σ ρ) (h : Ex H H') (g : Ex G G') (x : Ex G' H') (n : ∀ a, G a = none → H a ≠ none → G' a = none) : Env G' H' σ ρ where
  ex := x
  len := E.len
  dat := fun i d e => let ⟨v, h1, h2⟩ := E.dat i d e; ⟨v, h1, h2.up g⟩
  own := fun i ds e => let ⟨l, xs, h1, h2, h3, h4⟩ := E.own i ds e; ⟨l, xs, h1, h _ _ h2, n l h3 (ex_not h2), h4.up g⟩
  drw := fun i e => let ⟨l, ns, h1, h2, h3⟩ := E.drw i e; ⟨l, ns, h1, h _ _ h2, n l h3 (ex_not h2)⟩
  spc := fun i v F R e => let ⟨h1, h2, h3, h4⟩ := E.spc i v F R e; ⟨h1, h4 G H G' H' h2 g x fun l o _ z => h l o z, fun l z => ⟨n l (h3 l z).1 (h3 l z).2, by
    cases q : H l with
    | none => exact absurd q (h3 l z).2
    | some o => exact ex_not (h _ _ q)⟩, h4⟩
  sep := E.sep
theorem Env.not_own (E : Env G H σ ρ) {l : Addr} (h : Own ρ σ l) : G l = none ∧ H l ≠ none := by
  obtain ⟨i, e, h1, h3⟩ := h
  cases e with
  | no => exact h3.elim
  | dat d => exact h3.elim
  | spc v F R => exact (E.spc i v F R h1).2.2.1 l h3
  | own ds =>
    obtain ⟨l', xs, q1, q2, q3, _⟩ := E.own i ds h1
    rw [show σ[i]? = some (some (.ref l)) from h3] at q1
    cases q1
    exact ⟨q3, ex_not q2⟩
  | drw =>
    obtain ⟨l', xs, q1, q2, q3⟩ := E.drw i h1
    rw [show σ[i]? = some (some (.ref l)) from h3] at q1
    cases q1
    exact ⟨q3, ex_not q2⟩
theorem Env.not_sdr (E : Env G H σ ρ) {l : Addr} (h : Sdr ρ σ l) : G l = none ∧ H l ≠ none := E.not_own h.own
/-- from here on: an expression has been evaluated -/
structure Nx (σ : L2.St) (ρ : List Ent) (G H G' H' : Hp) : Prop where
  w : Gw (Sdr ρ σ) G H G' H'
  e : Env G' H' σ ρ
theorem Nx.refl (E : Env G H σ ρ) : Nx σ ρ G H G H := ⟨Gw.refl E.ex, E⟩
theorem Nx.trans (a : Nx σ ρ G H G' H') (b : Nx σ ρ G' H' G2 H2) : Nx σ ρ G H G2 H2 := ⟨a.w.trans b.w, b.e⟩
theorem Nx.new {p : Addr} {o : HO} (E : Env G H σ ρ) (hp : H p = none) : Nx σ ρ G H (upd G p o) (upd H p o) :=
  have w := Gw.new (S := Sdr ρ σ) (o := o) E.ex hp
  ⟨w, E.grow (Ex.new hp) w.g w.v w.n⟩
theorem Nx.newH {p : Addr} {o : HO} (E : Env G H σ ρ) (hp : H p = none) : Nx σ ρ G H G (upd H p o) :=
  have w := Gw.newH (S := Sdr ρ σ) (o := o) E.ex hp
  ⟨w, E.grow (Ex.new hp) w.g w.v w.n⟩
/-- what is no drawn list of one's own stands -/
theorem Nx.at (a : Nx σ ρ G H G' H') {l : Addr} {o : HO} (hl : ¬ Sdr ρ σ l) (h : H l = some o) : H' l = some o := a.w.h l o hl h
end
/-! ### what is said of readings -/
def IsP (te : TE) (ρ : List Ent) (P : PyData → Prop) : Prop := ∀ σ G H, Env G H σ ρ → ∀ Q : VK, (∀ v d G' H', P d → Nx σ ρ G H G' H' → Dt G' v d → Q v H') → te σ H Q
abbrev Is (te : TE) (ρ : List Ent) (d : PyData) : Prop := IsP te ρ fun x => x = d
/-- a list that can be read, whosever it is -/
def IsL (te : TE) (ρ : List Ent) (ds : List PyData) : Prop := ∀ σ G H, Env G H σ ρ → ∀ Q : VK, (∀ l xs G' H', Nx σ ρ G H G' H' → ¬ Sdr ρ σ l → H' l = some (.lst xs) → DtAll G' xs ds → Q (.ref l) H') → te σ H Q
/-- a new list -/
def IsNP (te : TE) (ρ : List Ent) (P : List PyData → Prop) : Prop := ∀ σ G H, Env G H σ ρ → ∀ Q : VK, (∀ p xs ds G' H', P ds → Nx σ ρ G H G' H' → H p = none → G' p = none → H' p = some (.lst xs) → DtAll G' xs ds → Q (.ref p) H') → te σ H Q
abbrev IsN (te : TE) (ρ : List Ent) (ds : List PyData) : Prop := IsNP te ρ fun x => x = ds
def IsA (ta : TA) (ρ : List Ent) (ds : List PyData) : Prop := ∀ σ G H, Env G H σ ρ → ∀ Q : List V → Hp → Prop, (∀ vs G' H', Nx σ ρ G H G' H' → DtAll G' vs ds → Q vs H') → ta σ H Q
def IsT (tt : TT) (ρ : List Ent) (P : Bool → Prop) : Prop := ∀ σ G H, Env G H σ ρ → ∀ Q : Bool → Hp → Prop, (∀ b G' H', P b → Nx σ ρ G H G' H' → Q b H') → tt σ H Q
abbrev IsB (tt : TT) (ρ : List Ent) (b : Bool) : Prop := IsT tt ρ fun x => x = b
section
variable {K : PySem.W.Frag} {ρ : List Ent} {ta tb tc te : TE} {tx ty : TA} {tt tu : TT} {d e z : PyData} {ds es : List PyData} {a b c : Int} {P P' : PyData → Prop}
theorem IsP.mono (h : IsP te ρ P) (k : ∀ d, P d → P' d) : IsP te ρ P' := fun σ G H E Q q => h σ G H E Q fun v d G' H' p => q v d G' H' (k d p)
theorem IsT.mono {P P' : Bool → Prop} (h : IsT tt ρ P) (k : ∀ d, P d → P' d) : IsT tt ρ P' := fun σ G H E Q q => h σ G H E Q fun v G' H' p => q v G' H' (k v p)
theorem IsNP.mono {P P' : List PyData → Prop} (h : IsNP te ρ P) (k : ∀ d, P d → P' d) : IsNP te ρ P' := fun σ G H E Q q => h σ G H E Q fun p xs ds G' H' y => q p xs ds G' H' (k ds y)
theorem Is.to (h : Is te ρ d) (k : d = e) : Is te ρ e := k ▸ h
theorem IsB.to {b c : Bool} (h : IsB tt ρ b) (k : b = c) : IsB tt ρ c := k ▸ h
theorem IsN.to (h : IsN te ρ ds) (k : ds = es) : IsN te ρ es := k ▸ h
theorem IsL.to (h : IsL te ρ ds) (k : ds = es) : IsL te ρ es := k ▸ h
theorem is_var {i : Nat} (h : ρ[i]? = some (.dat d)) : Is (tVar i) ρ d := fun σ G H E Q q => by
  obtain ⟨v, h1, h2⟩ := E.dat i d h
  exact ⟨v, h1, q v d G H rfl (Nx.refl E) h2⟩
theorem is_int {i : Int} : Is (tC (.int i)) ρ (.int i) := fun σ G H E Q q => q _ _ G H rfl (Nx.refl E) (.int i)
theorem is_bl {i : Bool} : Is (tC (.bl i)) ρ (.bool i) := fun σ G H E Q q => q _ _ G H rfl (Nx.refl E) (.bl i)
theorem is_str {i : Str} : Is (tC (.str i)) ρ (.str i) := fun σ G H E Q q => q _ _ G H rfl (Nx.refl E) (.str i)
theorem is_non : Is (tC .non) ρ .none := fun σ G H E Q q => q _ _ G H rfl (Nx.refl E) .non
theorem isL_own {i : Nat} (h : ρ[i]? = some (.own ds)) : IsL (tVar i) ρ ds := fun σ G H E Q q => by
  obtain ⟨l, xs, h1, h2, h3, h4⟩ := E.own i ds h
  refine ⟨_, h1, q l xs G H (Nx.refl E) (fun ⟨j, j1, j2⟩ => ?_) h2 h4⟩
  by_cases ij : i = j
  · subst ij; rw [h] at j1; cases j1
  · exact E.sep i j l ij ⟨_, h, h1⟩ ⟨_, j1, j2⟩
theorem isL_dat (h : Is te ρ (.list ds)) : IsL te ρ ds := fun σ G H E Q q => h σ G H E Q fun v d G' H' hd n hv => by
  subst hd
  cases hv with
  | lst h1 h2 => exact q _ _ G' H' n (fun z => by have := (n.e.not_sdr z).1; rw [h1] at this; cases this) (n.w.v _ _ h1) h2
theorem isL_new (h : IsN te ρ ds) : IsL te ρ ds := fun σ G H E Q q => h σ G H E Q fun p xs es G' H' hd n hp gp h1 h2 => by
  subst hd
  exact q p xs G' H' n (fun z => (E.not_sdr z).2 hp) h1 h2
theorem isP_new {P : List PyData → Prop} (h : IsNP te ρ P) : IsP te ρ (fun d => ∃ ds, P ds ∧ d = .list ds) := fun σ G H E Q q => h σ G H E Q fun p xs es G' H' hd n hp gp h1 h2 => by
  have w : Gw (Sdr ρ σ) G H (upd G' p (.lst xs)) H' := by
    refine ⟨n.w.h, n.w.d, fun a o e => ?_, fun a o e => ?_, fun a g e => ?_⟩
    · rw [upd_ne (ne_of_none (n.w.g a o e) gp)]; exact n.w.g a o e
    · by_cases q : a = p
      · subst q; rw [upd_same] at e; cases e; exact h1
      · rw [upd_ne q] at e; exact n.w.v a o e
    · by_cases q : a = p
      · subst q; exact absurd hp e
      · rw [upd_ne q]; exact n.w.n a g e
  have gg : Ex G' (upd G' p (.lst xs)) := Ex.new gp
  refine q _ _ _ H' ⟨es, hd, rfl⟩ ⟨w, ?_⟩ (.lst upd_same (h2.up gg))
  refine ⟨w.v, n.e.len, fun i d e => let ⟨v, h1, h2⟩ := n.e.dat i d e; ⟨v, h1, h2.up gg⟩, fun i ds e => ?_, fun i e => ?_, fun i v F R e => ?_, n.e.sep⟩
  · obtain ⟨l, ys, q1, q2, q3, q4⟩ := n.e.own i ds e
    have lp : l ≠ p := fun z => by
      have := (E.not_own ⟨i, _, e, q1⟩).2
      rw [z] at this
      exact this hp
    exact ⟨l, ys, q1, q2, by rw [upd_ne lp]; exact q3, q4.up gg⟩
  · obtain ⟨l, ys, q1, q2, q3⟩ := n.e.drw i e
    have lp : l ≠ p := fun z => by
      have := (E.not_own ⟨i, _, e, q1⟩).2
      rw [z] at this
      exact this hp
    exact ⟨l, ys, q1, q2, by rw [upd_ne lp]; exact q3⟩
  · obtain ⟨q1, q2, q3, q4⟩ := n.e.spc i v F R e
    have lp : ∀ l, F l → l ≠ p := fun l fl z => by
      have := (E.not_own ⟨i, _, e, fl⟩).2
      rw [z] at this
      exact this hp
    exact ⟨q1, q4 G' H' _ H' q2 gg w.v fun l o _ z => z, fun l fl => ⟨by rw [upd_ne (lp l fl)]; exact (q3 l fl).1, (q3 l fl).2⟩, q4⟩
theorem is_new (h : IsN te ρ ds) : Is te ρ (.list ds) := (isP_new h).mono fun d ⟨es, h1, h2⟩ => by rw [h2, h1]

/-! operators -/
theorem is_op {r : R2} (ha : Is ta ρ d) (hb : Is tb ρ e)
    (hr : ∀ (H : Hp) (x y : V) (Q : VK), Dt H x d → Dt H y e → (∀ v, Dt H v z → Q v H) → r x y H Q) (hz : ∀ xs, z ≠ .list xs) (hz2 : ∀ xs, z ≠ .tuple xs) : Is (tOp r ta tb) ρ z := fun σ G H E Q q =>
  ha σ G H E _ fun x d' G1 H1 hd n1 hx => hb σ G1 H1 n1.e _ fun y e' G2 H2 he n2 hy => by
    subst hd he
    refine hr H2 x y Q ((hx.up n2.w.g).up n2.w.v) (hy.up n2.w.v) fun v hv => q v z G2 H2 rfl (n1.trans n2) ?_
    cases hv with
    | non => exact .non
    | bl b => exact .bl b
    | int i => exact .int i
    | str x => exact .str x
    | lst h1 h2 => exact (hz _ rfl).elim
    | tup h1 h2 => exact (hz2 _ rfl).elim
theorem is_iI {g : Int → Int → Int} (ha : Is ta ρ (.int a)) (hb : Is tb ρ (.int b)) : Is (tOp (rI0 fun i j => .int (g i j)) ta tb) ρ (.int (g a b)) :=
  is_op ha hb (fun H x y Q hx hy q => by cases hx; cases hy; exact ⟨a, b, rfl, rfl, q _ (.int _)⟩) (fun _ z => by cases z) fun _ z => by cases z
theorem is_cI {C : Int → Int → Prop} {g : Int → Int → Int} (ha : Is ta ρ (.int a)) (hb : Is tb ρ (.int b)) (hc : C a b) : Is (tOp (rI C fun i j => .int (g i j)) ta tb) ρ (.int (g a b)) :=
  is_op ha hb (fun H x y Q hx hy q => by cases hx; cases hy; exact ⟨a, b, rfl, rfl, hc, q _ (.int _)⟩) (fun _ z => by cases z) fun _ z => by cases z
theorem is_bI {g : Int → Int → Bool} (ha : Is ta ρ (.int a)) (hb : Is tb ρ (.int b)) : Is (tOp (rI0 fun i j => .bl (g i j)) ta tb) ρ (.bool (g a b)) :=
  is_op ha hb (fun H x y Q hx hy q => by cases hx; cases hy; exact ⟨a, b, rfl, rfl, q _ (.bl _)⟩) (fun _ z => by cases z) fun _ z => by cases z
theorem is_eqI (ha : Is ta ρ (.int a)) (hb : Is tb ρ (.int b)) : Is (tOp rEq ta tb) ρ (.bool (decide (a = b))) :=
  is_op ha hb (fun H x y Q hx hy q => by
    cases hx; cases hy
    have e : decide (V.int a = V.int b) = decide (a = b) := by
      by_cases h : a = b
      · subst h; simp
      · rw [decide_eq_false h, decide_eq_false (fun z => h (V.int.inj z))]
    exact ⟨rfl, by rw [e]; exact q _ (.bl _)⟩) (fun _ z => by cases z) fun _ z => by cases z
theorem is_neI (ha : Is ta ρ (.int a)) (hb : Is tb ρ (.int b)) : Is (tOp rNe ta tb) ρ (.bool (!decide (a = b))) :=
  is_op ha hb (fun H x y Q hx hy q => by
    cases hx; cases hy
    have e : decide (V.int a = V.int b) = decide (a = b) := by
      by_cases h : a = b
      · subst h; simp
      · rw [decide_eq_false h, decide_eq_false (fun z => h (V.int.inj z))]
    exact ⟨rfl, by rw [e]; exact q _ (.bl _)⟩) (fun _ z => by cases z) fun _ z => by cases z
theorem is_eqS {x y : Str} (ha : Is ta ρ (.str x)) (hb : Is tb ρ (.str y)) : Is (tOp rEq ta tb) ρ (.bool (decide (x = y))) :=
  is_op ha hb (fun H u v Q hx hy q => by
    cases hx; cases hy
    have e : decide (V.str x = V.str y) = decide (x = y) := by
      by_cases h : x = y
      · subst h; simp
      · rw [decide_eq_false h, decide_eq_false (fun z => h (V.str.inj z))]
    exact ⟨rfl, by rw [e]; exact q _ (.bl _)⟩) (fun _ z => by cases z) fun _ z => by cases z
theorem is_eqD (ha : Is ta ρ d) (hb : Is tb ρ e) (sd : SeqAt.shaped d = true) (se : SeqAt.shaped e = true) : Is (tOp (rEqD K) ta tb) ρ (.bool (PyData.eqv d e)) :=
  is_op ha hb (fun H x y Q hx hy q => ⟨d, e, hx.dp, hy.dp, sd, se, q _ (.bl _)⟩) (fun _ z => by cases z) fun _ z => by cases z
theorem is_neD (ha : Is ta ρ d) (hb : Is tb ρ e) (sd : SeqAt.shaped d = true) (se : SeqAt.shaped e = true) : Is (tOp (rNeD K) ta tb) ρ (.bool (!PyData.eqv d e)) :=
  is_op ha hb (fun H x y Q hx hy q => ⟨d, e, hx.dp, hy.dp, sd, se, q _ (.bl _)⟩) (fun _ z => by cases z) fun _ z => by cases z
theorem is_isN (ha : Is ta ρ d) : Is (tIsN ta) ρ (.bool (match d with | .none => true | _ => false)) := fun σ G H E Q q => ha σ G H E _ fun v d' G' H' hd n hv => by
  subst hd
  cases hv <;> exact q _ _ G' H' rfl n (.bl _)
theorem is_notN (ha : Is ta ρ d) : Is (tNotN ta) ρ (.bool (match d with | .none => false | _ => true)) := fun σ G H E Q q => ha σ G H E _ fun v d' G' H' hd n hv => by
  subst hd
  cases hv <;> exact q _ _ G' H' rfl n (.bl _)
theorem is_isBl {x y : Bool} (ha : Is ta ρ (.bool x)) (hb : Is tb ρ (.bool y)) : Is (tOp rIsB ta tb) ρ (.bool (decide (x = y))) :=
  is_op ha hb (fun H u v Q hx hy q => by cases hx; cases hy; exact ⟨x, y, rfl, rfl, q _ (.bl _)⟩) (fun _ z => by cases z) fun _ z => by cases z
/-- an operator whose second operand is a list -/
theorem is_opL {r : R2} (ha : Is ta ρ d) (hb : IsL tb ρ es)
    (hr : ∀ (H : Hp) (x : V) (l : Addr) (xs : List V) (Q : VK), Dt H x d → H l = some (.lst xs) → DtAll H xs es → (∀ v, Dt H v z → Q v H) → r x (.ref l) H Q) (hz : ∀ xs, z ≠ .list xs) (hz2 : ∀ xs, z ≠ .tuple xs) : Is (tOp r ta tb) ρ z := fun σ G H E Q q =>
  ha σ G H E _ fun x d' G1 H1 hd n1 hx => hb σ G1 H1 n1.e _ fun l xs G2 H2 n2 _ h1 h2 => by
    subst hd
    refine hr H2 x l xs Q ((hx.up n2.w.g).up n2.w.v) h1 (h2.up n2.w.v) fun v hv => q v z G2 H2 rfl (n1.trans n2) ?_
    cases hv with
    | non => exact .non
    | bl b => exact .bl b
    | int i => exact .int i
    | str x => exact .str x
    | lst h1 h2 => exact (hz _ rfl).elim
    | tup h1 h2 => exact (hz2 _ rfl).elim
/-- an operator whose first operand is a list, the second some data -/
theorem is_opL1 {r : R2} (ha : IsL ta ρ ds) (hb : Is tb ρ e)
    (hr : ∀ (H : Hp) (l : Addr) (xs : List V) (y : V) (Q : VK), H l = some (.lst xs) → DtAll H xs ds → Dt H y e → (∀ v, Dt H v z → Q v H) → r (.ref l) y H Q) (hz : ∀ xs, z ≠ .list xs) (hz2 : ∀ xs, z ≠ .tuple xs) : Is (tOp r ta tb) ρ z := fun σ G H E Q q =>
  ha σ G H E _ fun l xs G1 H1 n1 nl h1 h2 => hb σ G1 H1 n1.e _ fun y e' G2 H2 he n2 hy => by
    subst he
    refine hr H2 l xs y Q (n2.at nl h1) ((h2.up n2.w.g).up n2.w.v) (hy.up n2.w.v) fun v hv => q v z G2 H2 rfl (n1.trans n2) ?_
    cases hv with
    | non => exact .non
    | bl b => exact .bl b
    | int i => exact .int i
    | str x => exact .str x
    | lst h1 h2 => exact (hz _ rfl).elim
    | tup h1 h2 => exact (hz2 _ rfl).elim
/-- xs == ys, xs != ys of lists -/
theorem is_eqL (ha : IsL ta ρ ds) (hb : Is tb ρ e) (sd : SeqAt.shaped (.list ds) = true) (se : SeqAt.shaped e = true) : Is (tOp (rEqD K) ta tb) ρ (.bool (PyData.eqv (.list ds) e)) :=
  is_opL1 ha hb (fun H l xs y Q h1 h2 hy q => ⟨.list ds, e, .lst (sq_of h1) h2.dp, hy.dp, sd, se, q _ (.bl _)⟩) (fun _ z => by cases z) fun _ z => by cases z
theorem is_neL (ha : IsL ta ρ ds) (hb : Is tb ρ e) (sd : SeqAt.shaped (.list ds) = true) (se : SeqAt.shaped e = true) : Is (tOp (rNeD K) ta tb) ρ (.bool (!PyData.eqv (.list ds) e)) :=
  is_opL1 ha hb (fun H l xs y Q h1 h2 hy q => ⟨.list ds, e, .lst (sq_of h1) h2.dp, hy.dp, sd, se, q _ (.bl _)⟩) (fun _ z => by cases z) fun _ z => by cases z
theorem inV_ints (x : Int) : ∀ ns : List Int, inV (.int x) (ns.map V.int) = decide (x ∈ ns)
  | [] => rfl
  | n :: ns => by
    have ih := inV_ints x ns
    unfold inV at ih ⊢
    rw [List.map_cons, List.any_cons, ih]
    by_cases h : n = x
    · subst h; simp [eqV]
    · have h' : ¬ x = n := fun z => h z.symm
      simp [eqV, h, h']
theorem flat_ints (ns : List Int) : (ns.map V.int).all flatV = true := by simp [flatV]
theorem is_inT {x : Int} {ns : List Int} (ha : Is ta ρ (.int x)) (hb : Is tb ρ (.tuple (ns.map .int))) : Is (tOp (rIn K false) ta tb) ρ (.bool (decide (x ∈ ns))) :=
  is_op ha hb (fun H u v Q hx hy q => by
    cases hx
    cases hy with
    | tup h1 h2 =>
      rw [h2.ints] at h1
      exact ⟨_, _, rfl, .inr (st_of h1), rfl, flat_ints ns, by rw [if_neg (by decide), inV_ints]; exact q _ (.bl _)⟩) (fun _ z => by cases z) fun _ z => by cases z
theorem is_ninT {x : Int} {ns : List Int} (ha : Is ta ρ (.int x)) (hb : Is tb ρ (.tuple (ns.map .int))) : Is (tOp (rIn K true) ta tb) ρ (.bool (!decide (x ∈ ns))) :=
  is_op ha hb (fun H u v Q hx hy q => by
    cases hx
    cases hy with
    | tup h1 h2 =>
      rw [h2.ints] at h1
      exact ⟨_, _, rfl, .inr (st_of h1), rfl, flat_ints ns, by rw [if_pos rfl, inV_ints]; exact q _ (.bl _)⟩) (fun _ z => by cases z) fun _ z => by cases z
theorem is_inL {x : Int} {ns : List Int} (ha : Is ta ρ (.int x)) (hb : IsL tb ρ (ns.map .int)) : Is (tOp (rIn K false) ta tb) ρ (.bool (decide (x ∈ ns))) :=
  is_opL ha hb (fun H u l xs Q hx h1 h2 q => by
    cases hx
    rw [h2.ints] at h1
    exact ⟨_, _, rfl, .inl (sq_of h1), rfl, flat_ints ns, by rw [if_neg (by decide), inV_ints]; exact q _ (.bl _)⟩) (fun _ z => by cases z) fun _ z => by cases z
theorem is_ninL {x : Int} {ns : List Int} (ha : Is ta ρ (.int x)) (hb : IsL tb ρ (ns.map .int)) : Is (tOp (rIn K true) ta tb) ρ (.bool (!decide (x ∈ ns))) :=
  is_opL ha hb (fun H u l xs Q hx h1 h2 q => by
    cases hx
    rw [h2.ints] at h1
    exact ⟨_, _, rfl, .inl (sq_of h1), rfl, flat_ints ns, by rw [if_pos rfl, inV_ints]; exact q _ (.bl _)⟩) (fun _ z => by cases z) fun _ z => by cases z
/-- x in l, l a list of data of any depth -/
theorem is_inD (ha : Is ta ρ d) (hb : IsL tb ρ es) (sd : SeqAt.shaped d = true) (se : SeqAt.shaped (.list es) = true) : Is (tOp (rInD K) ta tb) ρ (.bool (es.any fun z => PyData.eqv z d)) :=
  is_opL ha hb (fun H u l xs Q hx h1 h2 q => ⟨d, es, hx.dp, .lst (sq_of h1) h2.dp, sd, se, q _ (.bl _)⟩) (fun _ z => by cases z) fun _ z => by cases z
/-! items -/
theorem is_ixT {n : Nat} (ha : Is ta ρ (.tuple ds)) (hb : Is tb ρ (.int b)) (hi : b = (n : Int)) (h : ds[n]? = some d) : Is (tOp (rIxT K) ta tb) ρ d := fun σ G H E Q q =>
  ha σ G H E _ fun x d' G1 H1 hd n1 hx => hb σ G1 H1 n1.e _ fun y e' G2 H2 he n2 hy => by
    subst hd he
    cases hy
    cases hx with
    | tup h1 h2 =>
      obtain ⟨v, hv, dv⟩ := h2.get h
      subst hi
      exact ⟨_, _, _, v, rfl, rfl, st_of (n2.w.v _ _ (n2.w.g _ _ h1)), atI_nat hv, q v d G2 H2 rfl (n1.trans n2) (dv.up n2.w.g)⟩
theorem is_ixL {n : Nat} (ha : IsL ta ρ ds) (hb : Is tb ρ (.int b)) (hi : b = (n : Int)) (h : ds[n]? = some d) : Is (tOp (rIxL K) ta tb) ρ d := fun σ G H E Q q =>
  ha σ G H E _ fun l xs G1 H1 n1 nl h1 h2 => hb σ G1 H1 n1.e _ fun y e' G2 H2 he n2 hy => by
    subst he
    cases hy
    obtain ⟨v, hv, dv⟩ := h2.get h
    subst hi
    exact ⟨_, _, _, v, rfl, rfl, sq_of (n2.at nl h1), atI_nat hv, q v d G2 H2 rfl (n1.trans n2) (dv.up n2.w.g)⟩
/-! arguments, displays -/
theorem isA_nil : IsA tNil ρ [] := fun σ G H E Q q => q [] G H (Nx.refl E) .nil
theorem isA_cons (ha : Is ta ρ d) (hr : IsA tx ρ ds) : IsA (tCons ta tx) ρ (d :: ds) := fun σ G H E Q q =>
  ha σ G H E _ fun x d' G1 H1 hd n1 hx => hr σ G1 H1 n1.e _ fun xs G2 H2 n2 hxs => by
    subst hd
    exact q (x :: xs) G2 H2 (n1.trans n2) (.cons (hx.up n2.w.g) hxs)
theorem is_tup (ha : IsA tx ρ ds) (hl : ds.length ≤ 100000 := by exact Nat.le_of_ble_eq_true rfl) : Is (tTup tx) ρ (.tuple ds) := fun σ G H E Q q =>
  ha σ G H E _ fun xs G1 H1 n1 hxs => ⟨by rw [hxs.length]; exact sz_of hl, fun p hp =>
    have m := Nx.new (o := .tup xs) n1.e hp
    q _ _ _ _ rfl (n1.trans m) (.tup upd_same (hxs.up m.w.g))⟩
theorem isN_lst (ha : IsA tx ρ ds) (hl : ds.length ≤ 100000 := by exact Nat.le_of_ble_eq_true rfl) : IsN (tLst tx) ρ ds := fun σ G H E Q q =>
  ha σ G H E _ fun xs G1 H1 n1 hxs => ⟨by rw [hxs.length]; exact sz_of hl, fun p hp =>
    have m := Nx.newH (o := .lst xs) n1.e hp
    q _ _ _ _ _ rfl (n1.trans m) (by
      cases z : H p with
      | none => rfl
      | some o => exact absurd hp (n1.w.d p (ex_not z))) (ex_none n1.w.v hp) upd_same hxs⟩
/-! len, tuple, all, any, calls by value -/
def rLn (K : PySem.W.Frag) : List V → Hp → VK → Prop := fun xs H Q => ∃ p ys, xs = [.ref p] ∧ (SqL K H p ys ∨ SqT K H p ys) ∧ Q (.int ys.length) H
theorem is_lenT (ha : Is ta ρ (.tuple ds)) : Is (tCB (rLn K) (tCons ta tNil)) ρ (.int ds.length) := fun σ G H E Q q =>
  ha σ G H E _ fun x d' G1 H1 hd n1 hx => by
    subst hd
    cases hx with
    | tup h1 h2 => exact ⟨_, _, rfl, .inr (st_of (n1.w.v _ _ h1)), by rw [h2.length]; exact q _ _ G1 H1 rfl n1 (.int _)⟩
theorem is_lenL (ha : IsL ta ρ ds) : Is (tCB (rLn K) (tCons ta tNil)) ρ (.int ds.length) := fun σ G H E Q q =>
  ha σ G H E _ fun l xs G1 H1 n1 nl h1 h2 => ⟨_, _, rfl, .inl (sq_of h1), by rw [h2.length]; exact q _ _ G1 H1 rfl n1 (.int _)⟩
def rTp (K : PySem.W.Frag) : List V → Hp → VK → Prop := fun xs H Q => ∃ p ys, xs = [.ref p] ∧ ((SqL K H p ys ∧ ∀ l, H l = none → Q (.ref l) (upd H l (.tup ys))) ∨ (SqT K H p ys ∧ Q (.ref p) H))
theorem is_tupL (ha : IsL ta ρ ds) : Is (tCB (rTp K) (tCons ta tNil)) ρ (.tuple ds) := fun σ G H E Q q =>
  ha σ G H E _ fun l xs G1 H1 n1 nl h1 h2 => ⟨_, _, rfl, .inl ⟨sq_of h1, fun p hp =>
    have m := Nx.new (o := .tup xs) n1.e hp
    q _ _ _ _ rfl (n1.trans m) (.tup upd_same (h2.up m.w.g))⟩⟩
theorem isP_tupL {P : List PyData → Prop} (ha : IsNP ta ρ P) : IsP (tCB (rTp K) (tCons ta tNil)) ρ (fun d => ∃ ds, P ds ∧ d = .tuple ds) := fun σ G H E Q q =>
  ha σ G H E _ fun l xs ds G1 H1 hd n1 hp gp h1 h2 => ⟨_, _, rfl, .inl ⟨sq_of h1, fun p hp =>
    have m := Nx.new (o := .tup xs) n1.e hp
    q _ _ _ _ ⟨ds, hd, rfl⟩ (n1.trans m) (.tup upd_same (h2.up m.w.g))⟩⟩
theorem is_tupT (ha : Is ta ρ (.tuple ds)) : Is (tCB (rTp K) (tCons ta tNil)) ρ (.tuple ds) := fun σ G H E Q q =>
  ha σ G H E _ fun x d' G1 H1 hd n1 hx => by
    subst hd
    cases hx with
    | tup h1 h2 => exact ⟨_, _, rfl, .inr ⟨st_of (n1.w.v _ _ h1), q _ _ G1 H1 rfl n1 (.tup h1 h2)⟩⟩
def rLi (K : PySem.W.Frag) : List V → Hp → VK → Prop := fun xs H Q => ∃ p ys, xs = [.ref p] ∧ (SqL K H p ys ∨ SqT K H p ys) ∧ ∀ l, H l = none → Q (.ref l) (upd H l (.lst ys))
theorem isN_liT (ha : Is ta ρ (.tuple ds)) : IsN (tCB (rLi K) (tCons ta tNil)) ρ ds := fun σ G H E Q q =>
  ha σ G H E _ fun x d' G1 H1 hd n1 hx => by
    subst hd
    cases hx with
    | tup h1 h2 =>
      exact ⟨_, _, rfl, .inr (st_of (n1.w.v _ _ h1)), fun p hp =>
        have m := Nx.newH (o := .lst _) n1.e hp
        q _ _ _ _ _ rfl (n1.trans m) (by
          cases z : H p with
          | none => rfl
          | some o => exact absurd hp (n1.w.d p (ex_not z))) (ex_none n1.w.v hp) upd_same h2⟩
theorem is_all {bs : List Bool} (ha : IsL ta ρ (bs.map .bool)) : Is (tCB (rAll K) (tCons ta tNil)) ρ (.bool (bs.all id)) := fun σ G H E Q q =>
  ha σ G H E _ fun l xs G1 H1 n1 nl h1 h2 => by
    rw [h2.bools] at h1
    exact ⟨_, bs, rfl, sq_of h1, q _ _ G1 H1 rfl n1 (.bl _)⟩
theorem is_any {bs : List Bool} (ha : IsL ta ρ (bs.map .bool)) : Is (tCB (rAny K) (tCons ta tNil)) ρ (.bool (bs.any id)) := fun σ G H E Q q =>
  ha σ G H E _ fun l xs G1 H1 n1 nl h1 h2 => by
    rw [h2.bools] at h1
    exact ⟨_, bs, rfl, sq_of h1, q _ _ G1 H1 rfl n1 (.bl _)⟩
/-- a function of data by values (max, int ..) -/
theorem is_cb {r : List V → Hp → VK → Prop} (ha : IsA tx ρ ds) (hr : ∀ (H : Hp) (vs : List V) (Q : VK), DtAll H vs ds → (∀ v, Dt H v z → Q v H) → r vs H Q) (hz : ∀ xs, z ≠ .list xs) (hz2 : ∀ xs, z ≠ .tuple xs) : Is (tCB r tx) ρ z := fun σ G H E Q q =>
  ha σ G H E _ fun vs G1 H1 n1 hvs => hr H1 vs Q (hvs.up n1.w.v) fun v hv => q v z G1 H1 rfl n1 (by
    cases hv with
    | non => exact .non
    | bl b => exact .bl b
    | int i => exact .int i
    | str x => exact .str x
    | lst h1 h2 => exact (hz _ rfl).elim
    | tup h1 h2 => exact (hz2 _ rfl).elim)
/-! lists made of lists -/
theorem isN_cat (ha : IsL ta ρ ds) (hb : IsL tb ρ es) (hz : ds.length + es.length ≤ 100000) : IsN (tOp rCat ta tb) ρ (ds ++ es) := fun σ G H E Q q =>
  ha σ G H E _ fun l xs G1 H1 n1 nl h1 h2 => hb σ G1 H1 n1.e _ fun m ys G2 H2 n2 nm k1 k2 =>
    ⟨l, m, xs, ys, rfl, rfl, n2.at nl h1, k1, by rw [h2.length, k2.length]; exact sz_of hz, fun p hp =>
      have w := Nx.newH (o := .lst (xs ++ ys)) n2.e hp
      q _ _ _ _ _ rfl ((n1.trans n2).trans w) (by
        cases z : H p with
        | none => rfl
        | some o => exact absurd hp ((n1.trans n2).w.d p (ex_not z))) (ex_none n2.w.v hp) upd_same ((h2.up n2.w.g).app k2)⟩
theorem cut_to (xs : List V) (n : Nat) : cutV xs none (some (n : Int)) = xs.take n := by
  unfold cutV
  have h1 : HT.sIx xs.length 0 none = 0 := rfl
  have h2 : HT.sIx xs.length xs.length (some (n : Int)) = min n xs.length := by
    show (if (n : Int) < 0 then ((n : Int) + (xs.length : Int)).toNat else min (n : Int).toNat xs.length) = _
    rw [if_neg (by omega)]; simp
  rw [h1, h2, List.drop_zero, Nat.sub_zero]
  by_cases h : n ≤ xs.length
  · rw [Nat.min_eq_left h]
  · rw [Nat.min_eq_right (by omega), List.take_of_length_le (Nat.le_refl _), List.take_of_length_le (by omega)]
theorem cut_from (xs : List V) (n : Nat) : cutV xs (some (n : Int)) none = xs.drop n := by
  unfold cutV
  have h1 : HT.sIx xs.length 0 (some (n : Int)) = min n xs.length := by
    show (if (n : Int) < 0 then ((n : Int) + (xs.length : Int)).toNat else min (n : Int).toNat xs.length) = _
    rw [if_neg (by omega)]; simp
  have h2 : HT.sIx xs.length xs.length none = xs.length := rfl
  rw [h1, h2]
  by_cases h : n ≤ xs.length
  · rw [Nat.min_eq_left h, List.take_of_length_le (by rw [List.length_drop]; exact Nat.le_refl _)]
  · rw [Nat.min_eq_right (by omega), Nat.sub_self, List.take_zero, List.drop_eq_nil_of_le (by omega)]
theorem isN_to {n : Nat} (ha : IsL ta ρ ds) (hb : Is tb ρ (.int (n : Int))) : IsN (tSl (rSlL K) ta tNoPart (tPart tb)) ρ (ds.take n) := fun σ G H E Q q =>
  ha σ G H E _ fun l xs G1 H1 n1 nl h1 h2 => hb σ G1 H1 n1.e _ fun y e' G2 H2 he n2 hy => by
    subst he
    cases hy
    refine ⟨_, rfl, l, xs, rfl, sq_of (n2.at nl h1), fun p hp => ?_⟩
    have w := Nx.newH (o := .lst (cutV xs none (some (n : Int)))) n2.e hp
    refine q _ (xs.take n) _ _ _ rfl ((n1.trans n2).trans w) (by
        cases z : H p with
        | none => rfl
        | some o => exact absurd hp ((n1.trans n2).w.d p (ex_not z))) (ex_none n2.w.v hp) (by rw [upd_same, cut_to]) ((h2.up n2.w.g).take n)
theorem isN_from {n : Nat} (ha : IsL ta ρ ds) (hb : Is tb ρ (.int (n : Int))) : IsN (tSl (rSlL K) ta (tPart tb) tNoPart) ρ (ds.drop n) := fun σ G H E Q q =>
  ha σ G H E _ fun l xs G1 H1 n1 nl h1 h2 => hb σ G1 H1 n1.e _ fun y e' G2 H2 he n2 hy => by
    subst he
    cases hy
    refine ⟨_, rfl, l, xs, rfl, sq_of (n2.at nl h1), fun p hp => ?_⟩
    have w := Nx.newH (o := .lst (cutV xs (some (n : Int)) none)) n2.e hp
    refine q _ (xs.drop n) _ _ _ rfl ((n1.trans n2).trans w) (by
        cases z : H p with
        | none => rfl
        | some o => exact absurd hp ((n1.trans n2).w.d p (ex_not z))) (ex_none n2.w.v hp) (by rw [upd_same, cut_from]) ((h2.up n2.w.g).drop n)
/-! tests -/
theorem ist_test {x : Bool} (h : Is te ρ (.bool x)) : IsB (tTest te) ρ x := fun σ G H E Q q => h σ G H E _ fun v d G' H' hd n hv => by
  subst hd; cases hv; exact ⟨x, rfl, q x G' H' rfl n⟩
theorem ist_B {x : Bool} (h : Is te ρ (.bool x)) : IsB (tB te) ρ x := fun σ G H E Q q => h σ G H E _ fun v d G' H' hd n hv => by
  subst hd; cases hv; exact ⟨x, rfl, q x G' H' rfl n⟩
theorem istP_B {P : Bool → Prop} (h : IsP te ρ (fun d => ∃ x, P x ∧ d = .bool x)) : IsT (tB te) ρ P := fun σ G H E Q q => h σ G H E _ fun v d G' H' ⟨x, hx, hd⟩ n hv => by
  subst hd; cases hv; exact ⟨x, rfl, q x G' H' hx n⟩
theorem ist_not {x : Bool} (h : IsB tt ρ x) : IsB (tNot tt) ρ (!x) := fun σ G H E Q q => h σ G H E _ fun b G' H' hb n => q (!b) G' H' (by rw [hb]) n
theorem ist_and {x y : Bool} (h : IsB tt ρ x) (k : x = true → IsB tu ρ y) : IsB (tAnd tt tu) ρ (x && y) := fun σ G H E Q q => h σ G H E _ fun b G' H' hb n => by
  subst hb
  cases b with
  | true => exact iteT (k rfl σ G' H' n.e _ fun c G2 H2 hc m => q c G2 H2 (by rw [hc]; rfl) (n.trans m))
  | false => exact iteF (q false G' H' rfl n)
theorem ist_or {x y : Bool} (h : IsB tt ρ x) (k : x = false → IsB tu ρ y) : IsB (tOr tt tu) ρ (x || y) := fun σ G H E Q q => h σ G H E _ fun b G' H' hb n => by
  subst hb
  cases b with
  | true => exact iteT (q true G' H' rfl n)
  | false => exact iteF (k rfl σ G' H' n.e _ fun c G2 H2 hc m => q c G2 H2 (by rw [hc]; rfl) (n.trans m))
theorem is_andV {x y : Bool} (h : Is ta ρ (.bool x)) (k : x = true → Is tb ρ (.bool y)) : Is (tAndV ta tb) ρ (.bool (x && y)) := fun σ G H E Q q => h σ G H E _ fun v d G' H' hd n hv => by
  subst hd; cases hv
  refine ⟨x, rfl, ?_⟩
  cases x with
  | true => exact iteT (k rfl σ G' H' n.e _ fun v d G2 H2 hd m hv => q v d G2 H2 (by rw [hd]; rfl) (n.trans m) hv)
  | false => exact iteF (q _ _ G' H' rfl n (.bl _))
theorem is_orV {x y : Bool} (h : Is ta ρ (.bool x)) (k : x = false → Is tb ρ (.bool y)) : Is (tOrV ta tb) ρ (.bool (x || y)) := fun σ G H E Q q => h σ G H E _ fun v d G' H' hd n hv => by
  subst hd; cases hv
  refine ⟨x, rfl, ?_⟩
  cases x with
  | true => exact iteT (q _ _ G' H' rfl n (.bl _))
  | false => exact iteF (k rfl σ G' H' n.e _ fun v d G2 H2 hd m hv => q v d G2 H2 (by rw [hd]; rfl) (n.trans m) hv)
theorem is_notV {x : Bool} (h : Is ta ρ (.bool x)) : Is (tNotV ta) ρ (.bool (!x)) := fun σ G H E Q q => h σ G H E _ fun v d G' H' hd n hv => by
  subst hd; cases hv
  exact ⟨x, rfl, q _ _ G' H' rfl n (.bl _)⟩
/-- a <= b <= c -/
theorem is_chain {f g : Int → Int → Bool} (ha : Is ta ρ (.int a)) (hb : Is tb ρ (.int b)) (hc : Is tc ρ (.int c)) : Is (tChain (rI0 fun i j => .bl (f i j)) (rI0 fun i j => .bl (g i j)) ta tb tc) ρ (.bool (f a b && g b c)) := fun σ G H E Q q =>
  ha σ G H E _ fun x d1 G1 H1 hd n1 hx => hb σ G1 H1 n1.e _ fun y d2 G2 H2 he n2 hy => by
    subst hd he
    cases hx; cases hy
    refine ⟨a, b, rfl, rfl, f a b, rfl, ?_⟩
    cases hf : f a b with
    | true => exact iteT (hc σ G2 H2 n2.e _ fun z d3 G3 H3 hz n3 hv => by
        subst hz; cases hv
        exact ⟨b, c, rfl, rfl, q (.bl (g b c)) (.bool (g b c)) G3 H3 (show PyData.bool (g b c) = PyData.bool (f a b && g b c) by rw [hf, Bool.true_and]) ((n1.trans n2).trans n3) (.bl _)⟩)
    | false => exact iteF (q (.bl false) (.bool false) G2 H2 (show PyData.bool false = PyData.bool (f a b && g b c) by rw [hf, Bool.false_and]) (n1.trans n2) (.bl _))
end
end W36
end
section
set_option Elab.async false
set_option linter.all false
set_option maxRecDepth 100000
set_option maxHeartbeats 4000000
/-! Comprehensions, statements, loops, calls, over the data layer. -/
namespace W36
open PySem L2 Evl
section
variable {σ : L2.St} {ρ ρ' : List Ent} {G H G' H' G2 H2 : Hp} {i j : Nat} {d : PyData} {v : V}
/-! ### environments again -/
theorem get_set {α : Type} (l : List α) (j i : Nat) (x : α) : (l.set j x)[i]? = if j = i then (if i < l.length then some x else none) else l[i]? := by
  by_cases h : j = i
  · subst h
    by_cases q : j < l.length
    · rw [if_pos rfl, if_pos q, List.getElem?_set_self q]
    · rw [if_pos rfl, if_neg q, List.getElem?_eq_none (by rw [List.length_set]; omega)]
  · rw [if_neg h, List.getElem?_set_ne h]
theorem ow_set {x : Option V} {e : Ent} (hx : e.mine = false) {k : Nat} {l : Addr} (h : Ow (ρ.set j e) (σ.set j x) k l) : k ≠ j ∧ Ow ρ σ k l := by
  obtain ⟨e', h1, h3⟩ := h
  rw [get_set] at h1 h3
  by_cases q : j = k
  · rw [if_pos q] at h1
    split at h1
    · cases h1; have := Ent.owns_mine h3; rw [hx] at this; cases this
    · cases h1
  · rw [if_neg q] at h1 h3
    exact ⟨fun z => q z.symm, _, h1, h3⟩
theorem own_set {x : Option V} {e : Ent} (hx : e.mine = false) {l : Addr} (h : Own (ρ.set j e) (σ.set j x) l) : Own ρ σ l := let ⟨k, q⟩ := h; ⟨k, (ow_set hx q).2⟩
theorem sdr_set {x : Option V} {e : Ent} (hx : e.mine = false) {l : Addr} (h : Sdr (ρ.set j e) (σ.set j x) l) : Sdr ρ σ l := by
  obtain ⟨k, h1, h2⟩ := h
  rw [get_set] at h1 h2
  by_cases q : j = k
  · rw [if_pos q] at h1
    split at h1
    · cases h1; cases hx
    · cases h1
  · rw [if_neg q] at h1 h2
    exact ⟨k, h1, h2⟩
/-- a slot gets data -/
theorem Env.setD (E : Env G H σ ρ) (hv : Dt G v d) : Env G H (σ.set j (some v)) (ρ.set j (.dat d)) where
  ex := E.ex
  len := by rw [List.length_set, List.length_set]; exact E.len
  dat := fun i d' e => by
    rw [get_set] at e
    rw [get_set]
    by_cases q : j = i
    · rw [if_pos q] at e ⊢
      split at e
      · rename_i hl
        cases e
        rw [if_pos (by rw [E.len]; exact hl)]
        exact ⟨v, rfl, hv⟩
      · cases e
    · rw [if_neg q] at e ⊢; exact E.dat i d' e
  own := fun i ds e => by
    rw [get_set] at e
    by_cases q : j = i
    · rw [if_pos q] at e
      split at e <;> cases e
    · rw [if_neg q] at e
      obtain ⟨l, xs, h1, h2⟩ := E.own i ds e
      exact ⟨l, xs, by rw [get_set, if_neg q]; exact h1, h2⟩
  drw := fun i e => by
    rw [get_set] at e
    by_cases q : j = i
    · rw [if_pos q] at e
      split at e <;> cases e
    · rw [if_neg q] at e
      obtain ⟨l, xs, h1, h2⟩ := E.drw i e
      exact ⟨l, xs, by rw [get_set, if_neg q]; exact h1, h2⟩
  spc := fun i v' F R e => by
    rw [get_set] at e
    by_cases q : j = i
    · rw [if_pos q] at e
      split at e <;> cases e
    · rw [if_neg q] at e
      obtain ⟨h1, h2⟩ := E.spc i v' F R e
      exact ⟨by rw [get_set, if_neg q]; exact h1, h2⟩
  sep := fun i k l n a b => E.sep i k l n (ow_set rfl a).2 (ow_set rfl b).2
/-- a slot is forgotten, whatever it holds -/
theorem Env.setN (E : Env G H σ ρ) {x : Option V} : Env G H (σ.set j x) (ρ.set j .no) where
  ex := E.ex
  len := by rw [List.length_set, List.length_set]; exact E.len
  dat := fun i d' e => by
    rw [get_set] at e
    rw [get_set]
    by_cases q : j = i
    · rw [if_pos q] at e
      split at e <;> cases e
    · rw [if_neg q] at e ⊢; exact E.dat i d' e
  own := fun i ds e => by
    rw [get_set] at e
    by_cases q : j = i
    · rw [if_pos q] at e
      split at e <;> cases e
    · rw [if_neg q] at e
      obtain ⟨l, xs, h1, h2⟩ := E.own i ds e
      exact ⟨l, xs, by rw [get_set, if_neg q]; exact h1, h2⟩
  drw := fun i e => by
    rw [get_set] at e
    by_cases q : j = i
    · rw [if_pos q] at e
      split at e <;> cases e
    · rw [if_neg q] at e
      obtain ⟨l, xs, h1, h2⟩ := E.drw i e
      exact ⟨l, xs, by rw [get_set, if_neg q]; exact h1, h2⟩
  spc := fun i v' F R e => by
    rw [get_set] at e
    by_cases q : j = i
    · rw [if_pos q] at e
      split at e <;> cases e
    · rw [if_neg q] at e
      obtain ⟨h1, h2⟩ := E.spc i v' F R e
      exact ⟨by rw [get_set, if_neg q]; exact h1, h2⟩
  sep := fun i k l n a b => E.sep i k l n (ow_set rfl a).2 (ow_set rfl b).2
/-- another object, of no own slot and not visible, changes -/
theorem Env.put {D : Addr} {o : HO} (E : Env G H σ ρ) (hg : G D = none) (ho : ¬ Own ρ σ D) : Env G (upd H D o) σ ρ where
  ex := ex_upd E.ex hg
  len := E.len
  dat := E.dat
  own := fun i ds e => by
    obtain ⟨l, xs, h1, h2, h3⟩ := E.own i ds e
    exact ⟨l, xs, h1, by rw [upd_ne (by intro z; subst z; exact ho ⟨i, _, e, h1⟩)]; exact h2, h3⟩
  drw := fun i e => by
    obtain ⟨l, xs, h1, h2, h3⟩ := E.drw i e
    exact ⟨l, xs, h1, by rw [upd_ne (by intro z; subst z; exact ho ⟨i, _, e, h1⟩)]; exact h2, h3⟩
  spc := fun i v F R e => by
    obtain ⟨h1, h2, h3, h4⟩ := E.spc i v F R e
    have nD : ∀ l, F l → l ≠ D := fun l fl z => by subst z; exact ho ⟨i, _, e, fl⟩
    exact ⟨h1, h4 G H G _ h2 (Ex.refl G) (ex_upd E.ex hg) (fun l o fl z => by rw [upd_ne (nD l fl)]; exact z), fun l fl => ⟨(h3 l fl).1, by rw [upd_ne (nD l fl)]; exact (h3 l fl).2⟩, h4⟩
  sep := E.sep
theorem Gw.put2 {S : Addr → Prop} {D : Addr} {o : HO} (w : Gw S G H G' H') (hd : H D = none) (hg : G' D = none) : Gw S G H G' (upd H' D o) where
  h := fun a u n e => by rw [upd_ne (ne_of_none e hd)]; exact w.h a u n e
  d := fun a e => by
    by_cases q : a = D
    · subst q; exact absurd hd e
    · rw [upd_ne q]; exact w.d a e
  g := w.g
  v := ex_upd w.v hg
  n := w.n
/-- the slots as they were -/
theorem Env.back (E : Env G H σ ρ) (w : Gw (Sdr ρ σ) G H G' H') (hd : ∀ i : Nat, ρ[i]? = some .drw → ∃ (l : Addr) (ns : List Int), σ[i]? = some (some (.ref l)) ∧ H' l = some (.lst (ns.map V.int))) : Env G' H' σ ρ where
  ex := w.v
  len := E.len
  dat := fun i d e => let ⟨v, h1, h2⟩ := E.dat i d e; ⟨v, h1, h2.up w.g⟩
  own := fun i ds e => by
    obtain ⟨l, xs, h1, h2, h3, h4⟩ := E.own i ds e
    refine ⟨l, xs, h1, w.h l _ (fun ⟨k, k1, k2⟩ => ?_) h2, w.n l h3 (ex_not h2), h4.up w.g⟩
    by_cases q : i = k
    · subst q; rw [e] at k1; cases k1
    · exact E.sep i k l q ⟨_, e, h1⟩ ⟨_, k1, k2⟩
  drw := fun i e => by
    obtain ⟨l, ns, h1, h2⟩ := hd i e
    obtain ⟨l', ns', q1, q2, q3⟩ := E.drw i e
    rw [h1] at q1
    cases q1
    exact ⟨l, ns, h1, h2, w.n l q3 (ex_not q2)⟩
  spc := fun i v F R e => by
    obtain ⟨h1, h2, h3, h4⟩ := E.spc i v F R e
    have nS : ∀ l, F l → ¬ Sdr ρ σ l := fun l fl ⟨k, k1, k2⟩ => by
      by_cases q : i = k
      · subst q; rw [e] at k1; cases k1
      · exact E.sep i k l q ⟨_, e, fl⟩ ⟨_, k1, k2⟩
    exact ⟨h1, h4 G H G' H' h2 w.g w.v fun l o fl z => w.h l o (nS l fl) z, fun l fl => ⟨w.n l (h3 l fl).1 (h3 l fl).2, w.d l (h3 l fl).2⟩, h4⟩
  sep := E.sep
end
/-! ### comprehensions -/
section
variable {K : PySem.W.Frag} {ρ : List Ent} {tl te : TE} {tt : TT} {j : Nat} {α : Type} {xs : List α} {enc : α → PyData} {p : α → Bool} {f : α → PyData}
/-- the word of a comprehension's loop -/
def Lw (ρ : List Ent) (σ : L2.St) (G H : Hp) (D : Addr) (j : Nat) (R : List PyData → Prop) (H' : Hp) : Prop :=
  ∃ (G' : Hp) (acc : List V) (ds : List PyData), Gw (Sdr ρ σ) G H G' H' ∧ Env G' H' (σ.set j none) (ρ.set j .no) ∧ H' D = some (.lst acc) ∧ G' D = none ∧ DtAll G' acc ds ∧ R ds
theorem lw_start {σ : L2.St} {G H : Hp} {D : Addr} {R : List PyData → Prop} (E : Env G H σ ρ) (hD : H D = none) (h : R []) : Lw ρ σ G H D j R (upd H D (.lst [])) := by
  have n := Nx.newH (o := .lst []) E hD
  exact ⟨G, [], [], n.w, n.e.setN, upd_same, ex_none E.ex hD, .nil, h⟩
theorem lw_turn {σ : L2.St} {G H : Hp} {D : Addr} {H1 : Hp} {R R' : List PyData → Prop} {x : PyData} {v : V} {B : Bool → Prop} {Y : PyData → Prop} (E : Env G H σ ρ) (hD : H D = none) (w : Lw ρ σ G H D j R H1) (hl : ∀ ds, R ds → ds.length < 100000)
    (hv : ∀ G', Ex G G' → Dt G' v x) (ht : IsT tt ((ρ.set j .no).set j (.dat x)) B) (he : B true → IsP te ((ρ.set j .no).set j (.dat x)) Y) (h1 : B true → ∀ ds y, R ds → Y y → R' (ds ++ [y])) (h0 : B false → ∀ ds, R ds → R' ds) :
    tt ((wipe σ [j]).set j (some v)) H1 fun b H3 => if b = true then te ((wipe σ [j]).set j (some v)) H3 fun y H4 => ∃ acc, H4 D = some (.lst acc) ∧ acc.length < sizeLine ∧ Lw ρ σ G H D j R' (upd H4 D (.lst (acc ++ [y]))) else Lw ρ σ G H D j R' H3 := by
  obtain ⟨G', acc, ds, w1, w2, w3, w4, w5, w6⟩ := w
  have E1 : Env G' H1 ((wipe σ [j]).set j (some v)) ((ρ.set j .no).set j (.dat x)) := w2.setD (hv G' w1.g)
  have sd : ∀ l, Sdr ((ρ.set j .no).set j (.dat x)) ((wipe σ [j]).set j (some v)) l → Sdr ρ σ l := fun l z => sdr_set (x := none) (e := .no) rfl (sdr_set rfl z)
  have nD : ¬ Sdr ρ σ D := fun z => (E.not_sdr z).2 hD
  have nO : ¬ Own (ρ.set j .no) (σ.set j none) D := fun z => (E.not_own (own_set rfl z)).2 hD
  have bk : ∀ {G5 H5 : Hp}, Env G5 H5 ((wipe σ [j]).set j (some v)) ((ρ.set j .no).set j (.dat x)) → Env G5 H5 (σ.set j none) (ρ.set j .no) := fun {G5 H5} z => by
    have q := z.setN (j := j) (x := none)
    have q : Env G5 H5 ((((σ.set j none).set j (some v))).set j none) ((((ρ.set j .no).set j (.dat x))).set j .no) := q
    simp only [List.set_set] at q
    exact q
  refine ht _ G' H1 E1 _ fun b G3 H3 hb n => ?_
  have d3 : H3 D = some (.lst acc) := n.at (fun z => nD (sd _ z)) w3
  have g3 : G3 D = none := n.w.n D w4 (ex_not w3)
  have w13 : Gw (Sdr ρ σ) G H G3 H3 := w1.tr n.w fun l z => .inl (sd l z)
  cases b with
  | true =>
    refine iteT (he hb _ G3 H3 n.e _ fun y d G4 H4 hy m hyv => ?_)
    have d4 : H4 D = some (.lst acc) := m.at (fun z => nD (sd _ z)) d3
    have g4 : G4 D = none := m.w.n D g3 (ex_not d3)
    have w14 : Gw (Sdr ρ σ) G H G4 H4 := w13.tr m.w fun l z => .inl (sd l z)
    refine ⟨acc, d4, ?_, G4, acc ++ [y], ds ++ [d], w14.put2 hD g4, (bk m.e).put g4 nO, upd_same, g4, ((w5.up n.w.g).up m.w.g).snoc hyv, h1 hb ds d w6 hy⟩
    rw [w5.length]
    exact sz_lt (hl ds w6)
  | false =>
    exact iteF ⟨G3, acc, ds, w13, bk n.e, d3, g3, w5.up n.w.g, h0 hb ds w6⟩
theorem lw_end {σ : L2.St} {G H : Hp} {D : Addr} {R : List PyData → Prop} {H1 : Hp} {Q : VK} (E : Env G H σ ρ) (hD : H D = none) (hj : ∀ e, ρ[j]? = some e → e ≠ .drw) (w : Lw ρ σ G H D j R H1)
    (q : ∀ p xs ds G' H', R ds → Nx σ ρ G H G' H' → H p = none → G' p = none → H' p = some (.lst xs) → DtAll G' xs ds → Q (.ref p) H') : Q (.ref D) H1 := by
  obtain ⟨G', acc, ds, w1, w2, w3, w4, w5, w6⟩ := w
  refine q D acc ds G' H1 w6 ⟨w1, E.back w1 fun i hi => ?_⟩ hD w4 w3 w5
  have ij : ¬ j = i := fun z => hj _ (z ▸ hi) rfl
  have e1 : (ρ.set j .no)[i]? = some .drw := by rw [get_set, if_neg ij]; exact hi
  obtain ⟨l, ns, q1, q2, _⟩ := w2.drw i e1
  rw [get_set, if_neg ij] at q1
  exact ⟨l, ns, q1, q2⟩
theorem wipe_ok (σ : L2.St) (j : Nat) (x : V) : wipe ((wipe σ [j]).set j (some x)) [j] = wipe σ [j] := by
  show (((σ.set j none).set j (some x)).set j none) = σ.set j none
  rw [List.set_set, List.set_set]
abbrev notDrw (ρ : List Ent) (j : Nat) : Prop := ∀ e, ρ[j]? = some e → e ≠ Ent.drw
theorem notDrw_of {ρ : List Ent} {j : Nat} {e : Ent} (h : ρ[j]? = some e) (k : e ≠ .drw) : notDrw ρ j := fun e' h' => by rw [h] at h'; cases h'; exact k
/-- over a tuple -/
theorem isNP_lcT {ds : List PyData} {B : Nat → Bool → Prop} {Y : Nat → PyData → Prop} {R : Nat → List PyData → Prop} (hs : Is tl ρ (.tuple ds)) (hz : ds.length ≤ 50000) (hj : notDrw ρ j) (hR : ∀ i es, R i es → es.length ≤ i) (r0 : R 0 [])
    (ht : ∀ i x, ds[i]? = some x → IsT tt ((ρ.set j .no).set j (.dat x)) (B i)) (he : ∀ i x, ds[i]? = some x → B i true → IsP te ((ρ.set j .no).set j (.dat x)) (Y i))
    (h1 : ∀ i x, ds[i]? = some x → B i true → ∀ es y, R i es → Y i y → R (i + 1) (es ++ [y])) (h0 : ∀ i x, ds[i]? = some x → B i false → ∀ es, R i es → R (i + 1) es) :
    IsNP (tLc (iTup K tl) (gName j) tt te [j]) ρ (R ds.length) := fun σ G H E Q q => hs σ G H E _ fun v d G1 H1 hd n hv => by
  subst hd
  cases hv with
  | @tup a vs _ g1 g2 =>
    refine ⟨a, rfl, ⟨vs, st_of (n.w.v _ _ g1)⟩, fun D hD => lc_tup (xs := vs) (fun i H' => Lw ρ σ G1 H1 D j (R i) H') (lw_start n.e hD r0) (fun i H' _ ⟨G', _, _, w1, _⟩ => st_of (w1.v _ _ (w1.g _ _ g1))) (fun i x H' hi w => ?_) (fun H' w => ?_)⟩
    · obtain ⟨d, hd, dx⟩ := g2.back hi
      have hil : i < ds.length := (List.getElem?_eq_some_iff.mp hd).1
      exact ⟨wipe_ok σ j x, lw_turn n.e hD w (fun es r => by have := hR i es r; omega) (fun G' e => dx.up e) (ht i d hd) (he i d hd) (h1 i d hd) (h0 i d hd)⟩
    · rw [g2.length] at w
      refine lw_end n.e hD hj w fun p xs es G' H' r m hp => q p xs es G' H' r (n.trans m) ?_
      cases z : H p with
      | none => rfl
      | some o => exact absurd hp (n.w.d p (ex_not z))
theorem isNP_lcL {ds : List PyData} {B : Nat → Bool → Prop} {Y : Nat → PyData → Prop} {R : Nat → List PyData → Prop} (hs : IsL tl ρ ds) (hz : ds.length ≤ 50000) (hj : notDrw ρ j) (hR : ∀ i es, R i es → es.length ≤ i) (r0 : R 0 [])
    (ht : ∀ i x, ds[i]? = some x → IsT tt ((ρ.set j .no).set j (.dat x)) (B i)) (he : ∀ i x, ds[i]? = some x → B i true → IsP te ((ρ.set j .no).set j (.dat x)) (Y i))
    (h1 : ∀ i x, ds[i]? = some x → B i true → ∀ es y, R i es → Y i y → R (i + 1) (es ++ [y])) (h0 : ∀ i x, ds[i]? = some x → B i false → ∀ es, R i es → R (i + 1) es) :
    IsNP (tLc (iList K tl) (gName j) tt te [j]) ρ (R ds.length) := fun σ G H E Q q => hs σ G H E _ fun a vs G1 H1 n na g1 g2 => by
  refine ⟨a, rfl, ⟨vs, sq_of g1⟩, fun D hD => lc_list (xs := vs) (fun i H' => Lw ρ σ G1 H1 D j (R i) H') (lw_start n.e hD r0) (fun i H' _ ⟨G', _, _, w1, _⟩ => sq_of (w1.h _ _ na g1)) (fun i x H' hi w => ?_) (fun H' w => ?_)⟩
  · obtain ⟨d, hd, dx⟩ := g2.back hi
    have hil : i < ds.length := (List.getElem?_eq_some_iff.mp hd).1
    exact ⟨wipe_ok σ j x, lw_turn n.e hD w (fun es r => by have := hR i es r; omega) (fun G' e => dx.up e) (ht i d hd) (he i d hd) (h1 i d hd) (h0 i d hd)⟩
  · rw [g2.length] at w
    refine lw_end n.e hD hj w fun p xs es G' H' r m hp => q p xs es G' H' r (n.trans m) ?_
    cases z : H p with
    | none => rfl
    | some o => exact absurd hp (n.w.d p (ex_not z))
/-- over range(lo, lo + n) -/
theorem lcR_core {lo : Int} {n : Nat} {B : Nat → Bool → Prop} {Y : Nat → PyData → Prop} {R : Nat → List PyData → Prop} {σ : L2.St} {G H : Hp} {Q : VK} (E : Env G H σ ρ) (hz : n ≤ 50000) (hj : notDrw ρ j) (hR : ∀ i es, R i es → es.length ≤ i) (r0 : R 0 [])
    (ht : ∀ i, i < n → IsT tt ((ρ.set j .no).set j (.dat (.int (lo + (i : Int))))) (B i)) (he : ∀ i, i < n → B i true → IsP te ((ρ.set j .no).set j (.dat (.int (lo + (i : Int))))) (Y i))
    (h1 : ∀ i, i < n → B i true → ∀ es y, R i es → Y i y → R (i + 1) (es ++ [y])) (h0 : ∀ i, i < n → B i false → ∀ es, R i es → R (i + 1) es)
    (q : ∀ p xs ds G' H', R n ds → Nx σ ρ G H G' H' → H p = none → G' p = none → H' p = some (.lst xs) → DtAll G' xs ds → Q (.ref p) H') : ∀ D, H D = none → ∃ W : Nat → Nat → Hp → Prop, (∃ m, W 0 m (upd H D (.lst []))) ∧ ∀ i m H, W i m H →
      ((Itr lo n).stop i H ∧ Q (.ref D) H) ∨ ((Itr lo n).go i H ∧ ∃ Nx : Hp → Prop, (∀ H', Nx H' → ∃ m', m' < m ∧ W (i + 1) m' H') ∧ ∀ x H', (Itr lo n).yld i H x H' → gName j x (wipe σ [j]) H' fun σ2 H2 => wipe σ2 [j] = wipe σ [j] ∧ tt σ2 H2 fun b H3 =>
        if b = true then te σ2 H3 fun y H4 => ∃ acc, H4 D = some (.lst acc) ∧ acc.length < sizeLine ∧ Nx (upd H4 D (.lst (acc ++ [y]))) else Nx H3) := fun D hD =>
  lc_range (fun i H' => Lw ρ σ G H D j (R i) H') (lw_start E hD r0) (fun i H' hi w => ⟨wipe_ok σ j _, lw_turn E hD w (fun es r => by have := hR i es r; omega) (fun G' e => .int _) (ht i hi) (he i hi) (h1 i hi) (h0 i hi)⟩)
    (fun H' w => lw_end E hD hj w q)
theorem isNP_lcR1 {tx : TA} {m : Int} {n : Nat} {B : Nat → Bool → Prop} {Y : Nat → PyData → Prop} {R : Nat → List PyData → Prop} (hs : IsA tx ρ [.int m]) (hm : m.toNat = n) (hz : m ≤ 50000 ∧ -50000 ≤ m) (hj : notDrw ρ j) (hR : ∀ i es, R i es → es.length ≤ i) (r0 : R 0 [])
    (ht : ∀ i, i < n → IsT tt ((ρ.set j .no).set j (.dat (.int (i : Int)))) (B i)) (he : ∀ i, i < n → B i true → IsP te ((ρ.set j .no).set j (.dat (.int (i : Int)))) (Y i))
    (h1 : ∀ i, i < n → B i true → ∀ es y, R i es → Y i y → R (i + 1) (es ++ [y])) (h0 : ∀ i, i < n → B i false → ∀ es, R i es → R (i + 1) es) :
    IsNP (tLc (iRng1 tx) (gName j) tt te [j]) ρ (R n) := fun σ G H E Q q => hs σ G H E _ fun vs G1 H1 k hv => by
  cases hv with
  | cons hv1 hv2 =>
    cases hv1; cases hv2
    subst hm
    refine ⟨m, rfl, by omega, by omega, lcR_core k.e (by omega) hj hR r0 (fun i hi => ?_) (fun i hi => ?_) h1 h0 fun p xs es G' H' r mm hp => q p xs es G' H' r (k.trans mm) ?_⟩
    · rw [Int.zero_add]; exact ht i hi
    · rw [Int.zero_add]; exact he i hi
    · cases z : H p with
      | none => rfl
      | some o => exact absurd hp (k.w.d p (ex_not z))
theorem isNP_lcR2 {tx : TA} {lo hi : Int} {n : Nat} {B : Nat → Bool → Prop} {Y : Nat → PyData → Prop} {R : Nat → List PyData → Prop} (hs : IsA tx ρ [.int lo, .int hi]) (hm : (hi - lo).toNat = n) (hz : hi ≤ 50000 ∧ -50000 ≤ hi ∧ 0 ≤ lo ∧ lo ≤ 50000) (hj : notDrw ρ j) (hR : ∀ i es, R i es → es.length ≤ i) (r0 : R 0 [])
    (ht : ∀ i, i < n → IsT tt ((ρ.set j .no).set j (.dat (.int (lo + (i : Int))))) (B i)) (he : ∀ i, i < n → B i true → IsP te ((ρ.set j .no).set j (.dat (.int (lo + (i : Int))))) (Y i))
    (h1 : ∀ i, i < n → B i true → ∀ es y, R i es → Y i y → R (i + 1) (es ++ [y])) (h0 : ∀ i, i < n → B i false → ∀ es, R i es → R (i + 1) es) :
    IsNP (tLc (iRng2 tx) (gName j) tt te [j]) ρ (R n) := fun σ G H E Q q => hs σ G H E _ fun vs G1 H1 k hv => by
  cases hv with
  | cons hv1 hv2 =>
    cases hv2 with
    | cons hv2 hv3 =>
      cases hv1; cases hv2; cases hv3
      subst hm
      refine ⟨lo, hi, rfl, ⟨by omega, by omega, by omega, by omega⟩, lcR_core k.e (by omega) hj hR r0 ht he h1 h0 fun p xs es G' H' r mm hp => q p xs es G' H' r (k.trans mm) ?_⟩
      cases z : H p with
      | none => rfl
      | some o => exact absurd hp (k.w.d p (ex_not z))
/-! the plain forms: filter and map -/
theorem take_succ_of {xs : List α} {i : Nat} {x : α} (h : xs[i]? = some x) : xs.take (i + 1) = xs.take i ++ [x] := by
  rw [List.take_succ, h]; rfl
def Rm (xs : List α) (p : α → Bool) (f : α → PyData) (i : Nat) (es : List PyData) : Prop := es = ((xs.take i).filter p).map f
theorem rm_len {i : Nat} {es : List PyData} (h : Rm xs p f i es) : es.length ≤ i := by
  rw [h, List.length_map]
  refine Nat.le_trans (List.length_filter_le _ _) ?_
  rw [List.length_take]
  exact Nat.min_le_left _ _
theorem rm_yes {i : Nat} {x : α} (hx : xs[i]? = some x) (hp : p x = true) {es : List PyData} (h : Rm xs p f i es) : Rm xs p f (i + 1) (es ++ [f x]) := by
  unfold Rm at h ⊢
  rw [take_succ_of hx, List.filter_append, List.map_append, ← h]
  simp [hp]
theorem rm_no {i : Nat} {x : α} (hx : xs[i]? = some x) (hp : p x = false) {es : List PyData} (h : Rm xs p f i es) : Rm xs p f (i + 1) es := by
  unfold Rm at h ⊢
  rw [take_succ_of hx, List.filter_append, List.map_append, ← h]
  simp [hp]
theorem map_get {xs : List α} {i : Nat} {d : PyData} (h : (xs.map enc)[i]? = some d) : ∃ x, xs[i]? = some x ∧ x ∈ xs ∧ d = enc x := by
  rw [List.getElem?_map] at h
  cases e : xs[i]? with
  | none => rw [e] at h; cases h
  | some x => rw [e] at h; cases h; exact ⟨x, rfl, List.mem_of_getElem? e, rfl⟩
theorem isN_lcT (hs : Is tl ρ (.tuple (xs.map enc))) (hz : xs.length ≤ 50000) (hj : notDrw ρ j) (ht : ∀ x, x ∈ xs → IsB tt ((ρ.set j .no).set j (.dat (enc x))) (p x))
    (he : ∀ x, x ∈ xs → p x = true → Is te ((ρ.set j .no).set j (.dat (enc x))) (f x)) : IsN (tLc (iTup K tl) (gName j) tt te [j]) ρ ((xs.filter p).map f) := by
  have h := isNP_lcT (K := K) (tt := tt) (te := te) (j := j) (B := fun i b => ∀ x, xs[i]? = some x → b = p x) (Y := fun i y => ∀ x, xs[i]? = some x → y = f x) (R := Rm xs p f) hs (by rw [List.length_map]; exact hz) hj (fun i es r => rm_len r) (by simp [Rm])
    (fun i d hd => by obtain ⟨x, hx, hm, rfl⟩ := map_get hd; exact (ht x hm).mono fun b hb y hy => by rw [hx] at hy; cases hy; exact hb)
    (fun i d hd hB => by obtain ⟨x, hx, hm, rfl⟩ := map_get hd; exact (he x hm (hB x hx).symm).mono fun b hb y hy => by rw [hx] at hy; cases hy; exact hb)
    (fun i d hd hB es y r hy => by obtain ⟨x, hx, hm, rfl⟩ := map_get hd; rw [hy x hx]; exact rm_yes hx (hB x hx).symm r)
    (fun i d hd hB es r => by obtain ⟨x, hx, hm, rfl⟩ := map_get hd; exact rm_no hx (hB x hx).symm r)
  refine h.mono fun es r => ?_
  rw [List.length_map] at r
  unfold Rm at r
  rw [List.take_length] at r
  exact r
theorem isN_lcL (hs : IsL tl ρ (xs.map enc)) (hz : xs.length ≤ 50000) (hj : notDrw ρ j) (ht : ∀ x, x ∈ xs → IsB tt ((ρ.set j .no).set j (.dat (enc x))) (p x))
    (he : ∀ x, x ∈ xs → p x = true → Is te ((ρ.set j .no).set j (.dat (enc x))) (f x)) : IsN (tLc (iList K tl) (gName j) tt te [j]) ρ ((xs.filter p).map f) := by
  have h := isNP_lcL (K := K) (tt := tt) (te := te) (j := j) (B := fun i b => ∀ x, xs[i]? = some x → b = p x) (Y := fun i y => ∀ x, xs[i]? = some x → y = f x) (R := Rm xs p f) hs (by rw [List.length_map]; exact hz) hj (fun i es r => rm_len r) (by simp [Rm])
    (fun i d hd => by obtain ⟨x, hx, hm, rfl⟩ := map_get hd; exact (ht x hm).mono fun b hb y hy => by rw [hx] at hy; cases hy; exact hb)
    (fun i d hd hB => by obtain ⟨x, hx, hm, rfl⟩ := map_get hd; exact (he x hm (hB x hx).symm).mono fun b hb y hy => by rw [hx] at hy; cases hy; exact hb)
    (fun i d hd hB es y r hy => by obtain ⟨x, hx, hm, rfl⟩ := map_get hd; rw [hy x hx]; exact rm_yes hx (hB x hx).symm r)
    (fun i d hd hB es r => by obtain ⟨x, hx, hm, rfl⟩ := map_get hd; exact rm_no hx (hB x hx).symm r)
  refine h.mono fun es r => ?_
  rw [List.length_map] at r
  unfold Rm at r
  rw [List.take_length] at r
  exact r
theorem isN_lcR1 {tx : TA} {m : Int} {n : Nat} {p : Nat → Bool} {f : Nat → PyData} (hs : IsA tx ρ [.int m]) (hm : m.toNat = n) (hz : m ≤ 50000 ∧ -50000 ≤ m) (hj : notDrw ρ j) (ht : ∀ i, i < n → IsB tt ((ρ.set j .no).set j (.dat (.int (i : Int)))) (p i))
    (he : ∀ i, i < n → p i = true → Is te ((ρ.set j .no).set j (.dat (.int (i : Int)))) (f i)) : IsN (tLc (iRng1 tx) (gName j) tt te [j]) ρ (((List.range n).filter p).map f) := by
  have gr : ∀ i, i < n → (List.range n)[i]? = some i := fun i hi => by rw [List.getElem?_range hi]
  have h := isNP_lcR1 (tt := tt) (te := te) (j := j) (B := fun i b => b = p i) (Y := fun i y => y = f i) (R := Rm (List.range n) p f) hs hm hz hj (fun i es r => rm_len r) (by simp [Rm])
    ht (fun i hi hB => he i hi hB.symm)
    (fun i hi hB es y r hy => by rw [hy]; exact rm_yes (gr i hi) hB.symm r)
    (fun i hi hB es r => rm_no (gr i hi) hB.symm r)
  refine h.mono fun es r => ?_
  unfold Rm at r
  rw [List.take_of_length_le (by simp)] at r
  exact r
theorem isN_lcR2 {tx : TA} {lo hi : Int} {n : Nat} {p : Nat → Bool} {f : Nat → PyData} (hs : IsA tx ρ [.int lo, .int hi]) (hm : (hi - lo).toNat = n) (hz : hi ≤ 50000 ∧ -50000 ≤ hi ∧ 0 ≤ lo ∧ lo ≤ 50000) (hj : notDrw ρ j) (ht : ∀ i, i < n → IsB tt ((ρ.set j .no).set j (.dat (.int (lo + (i : Int))))) (p i))
    (he : ∀ i, i < n → p i = true → Is te ((ρ.set j .no).set j (.dat (.int (lo + (i : Int))))) (f i)) : IsN (tLc (iRng2 tx) (gName j) tt te [j]) ρ (((List.range n).filter p).map f) := by
  have gr : ∀ i, i < n → (List.range n)[i]? = some i := fun i hi => by rw [List.getElem?_range hi]
  have h := isNP_lcR2 (tt := tt) (te := te) (j := j) (B := fun i b => b = p i) (Y := fun i y => y = f i) (R := Rm (List.range n) p f) hs hm hz hj (fun i es r => rm_len r) (by simp [Rm])
    ht (fun i hi hB => he i hi hB.symm)
    (fun i hi hB es y r hy => by rw [hy]; exact rm_yes (gr i hi) hB.symm r)
    (fun i hi hB es r => rm_no (gr i hi) hB.symm r)
  refine h.mono fun es r => ?_
  unfold Rm at r
  rw [List.take_of_length_le (by simp)] at r
  exact r
theorem ist_yes : IsB tYes ρ true := fun σ G H E Q q => q true G H rfl (Nx.refl E)
end
end W36
end
section
set_option Elab.async false
set_option linter.all false
set_option maxRecDepth 100000
set_option maxHeartbeats 4000000
/-! Statements, loops, calls, promises over the data layer. -/
namespace W36
open PySem L2 Evl
inductive Out where
  | nx (ρ : List Ent)
  | rt (d : PyData)
  | rtN (ds : List PyData)
  | rtS (d : PyData) (ρ : List Ent)
  | bk (ρ : List Ent)
  | ct (ρ : List Ent)
/-- a statement has been done -/
structure Sx (σ : L2.St) (ρ : List Ent) (G H : Hp) (σ' : L2.St) (ρ' : List Ent) (G' H' : Hp) : Prop where
  w : Gw (Own ρ σ) G H G' H'
  e : Env G' H' σ' ρ'
  o : ∀ l, Own ρ' σ' l → Own ρ σ l ∨ H l = none
def Post (D : Ends) (σ : L2.St) (ρ : List Ent) (G H : Hp) : Out → Prop
  | .nx ρ' => ∀ σ' G' H', Sx σ ρ G H σ' ρ' G' H' → D.nx σ' H'
  | .bk ρ' => ∀ σ' G' H', Sx σ ρ G H σ' ρ' G' H' → D.bk σ' H'
  | .ct ρ' => ∀ σ' G' H', Sx σ ρ G H σ' ρ' G' H' → D.ct σ' H'
  | .rt d => ∀ v G' H', Gw (Own ρ σ) G H G' H' → Dt G' v d → D.rt v H'
  | .rtS d ρ' => ∀ v σ' G' H', Sx σ ρ G H σ' ρ' G' H' → Dt G' v d → D.rt v H'
  | .rtN ds => ∀ p xs G' H', Gw (Own ρ σ) G H G' H' → (Own ρ σ p ∨ H p = none) → G' p = none → H' p = some (.lst xs) → DtAll G' xs ds → D.rt (.ref p) H'
def Do (ts : TS) (ρ : List Ent) (P : Out → Prop) : Prop := ∀ D σ G H, Env G H σ ρ → (∀ o, P o → Post D σ ρ G H o) → ts D σ H
section
variable {σ σ' : L2.St} {ρ ρ' ρ1 : List Ent} {G H G' H' : Hp} {D : Ends} {o : Out} {t u tb : TS} {P P' : Out → Prop} {te tl : TE} {tt : TT} {tx : TA} {d e : PyData} {ds es : List PyData} {i j : Nat} {K : PySem.W.Frag} {g : TG}
theorem Sx.of (n : Nx σ ρ G H G' H') : Sx σ ρ G H σ ρ G' H' := ⟨n.w.wide fun l z => z.own, n.e, fun l z => .inl z⟩
theorem Sx.trans {σ2 : L2.St} {ρ2 : List Ent} {G2 H2 : Hp} (a : Sx σ ρ G H σ' ρ' G' H') (b : Sx σ' ρ' G' H' σ2 ρ2 G2 H2) : Sx σ ρ G H σ2 ρ2 G2 H2 := by
  refine ⟨a.w.tr b.w a.o, b.e, fun l z => ?_⟩
  rcases b.o l z with q | q
  · exact a.o l q
  · cases y : H l with
    | none => exact .inr rfl
    | some u => exact absurd q (a.w.d l (ex_not y))
theorem Post.after (s : Sx σ ρ G H σ' ρ' G' H') (h : Post D σ ρ G H o) : Post D σ' ρ' G' H' o := by
  cases o with
  | nx ρ2 => exact fun σ2 G2 H2 z => h σ2 G2 H2 (s.trans z)
  | bk ρ2 => exact fun σ2 G2 H2 z => h σ2 G2 H2 (s.trans z)
  | ct ρ2 => exact fun σ2 G2 H2 z => h σ2 G2 H2 (s.trans z)
  | rt d => exact fun v G2 H2 w => h v G2 H2 (s.w.tr w s.o)
  | rtS d ρ2 => exact fun v σ2 G2 H2 z => h v σ2 G2 H2 (s.trans z)
  | rtN ds =>
    refine fun p xs G2 H2 w f => h p xs G2 H2 (s.w.tr w s.o) ?_
    rcases f with q | q
    · exact s.o p q
    · cases y : H p with
      | none => exact .inr rfl
      | some u => exact absurd q (s.w.d p (ex_not y))
theorem Do.mono (h : Do t ρ P) (k : ∀ o, P o → P' o) : Do t ρ P' := fun D σ G H E q => h D σ G H E fun o p => q o (k o p)
theorem do_seq (h : Do t ρ (fun o => match o with | .nx ρ' => Do u ρ' P | o => P o)) : Do (tSeq t u) ρ P := fun D σ G H E q => by
  refine h { D with nx := u D } σ G H E fun o ho => ?_
  cases o with
  | nx ρ' => exact fun σ' G' H' s => ho D σ' G' H' s.e fun o p => (q o p).after s
  | bk ρ' => exact q _ ho
  | ct ρ' => exact q _ ho
  | rt d => exact q _ ho
  | rtS d ρ2 => exact q _ ho
  | rtN ds => exact q _ ho
/-- a statement that always goes on to ρ1, then the rest -/
theorem do_then (h : Do t ρ (fun o => o = .nx ρ1)) (k : Do u ρ1 P) : Do (tSeq t u) ρ P := do_seq (h.mono fun o e => by subst e; exact k)
theorem do_next (h : P (.nx ρ)) : Do tNext ρ P := fun D σ G H E q => q _ h σ G H (Sx.of (Nx.refl E))
theorem do_if {b : Bool} (h : IsB tt ρ b) (h1 : b = true → Do t ρ P) (h0 : b = false → Do u ρ P) : Do (tIfS tt t u) ρ P := fun D σ G H E q => h σ G H E _ fun c G' H' hc n => by
  subst hc
  cases c with
  | true => exact iteT (h1 rfl D σ G' H' n.e fun o p => (q o p).after (Sx.of n))
  | false => exact iteF (h0 rfl D σ G' H' n.e fun o p => (q o p).after (Sx.of n))
theorem do_ifP {B : Bool → Prop} (h : IsT tt ρ B) (h1 : B true → Do t ρ P) (h0 : B false → Do u ρ P) : Do (tIfS tt t u) ρ P := fun D σ G H E q => h σ G H E _ fun c G' H' hc n => by
  cases c with
  | true => exact iteT (h1 hc D σ G' H' n.e fun o p => (q o p).after (Sx.of n))
  | false => exact iteF (h0 hc D σ G' H' n.e fun o p => (q o p).after (Sx.of n))
/-- if c: suite, then the rest -/
theorem do_when {b : Bool} (h : IsB tt ρ b) (h1 : b = true → Do t ρ (fun o => match o with | .nx ρ' => Do u ρ' P | o => P o)) (h0 : b = false → Do u ρ P) : Do (tSeq (tIfS tt t tNext) u) ρ P :=
  do_seq (do_if h h1 fun e => do_next (h0 e))
theorem do_ret {Y : PyData → Prop} (h : IsP te ρ Y) (k : ∀ d, Y d → P (.rt d)) : Do (tRet te) ρ P := fun D σ G H E q => h σ G H E _ fun v d G' H' y n hv => q _ (k d y) v G' H' (Sx.of n).w hv
theorem do_retD (h : Is te ρ d) (k : P (.rt d)) : Do (tRet te) ρ P := do_ret h fun x e => by rw [e]; exact k
theorem do_retN {Y : List PyData → Prop} (h : IsNP te ρ Y) (k : ∀ d, Y d → P (.rtN d)) : Do (tRet te) ρ P := fun D σ G H E q => h σ G H E _ fun p xs ds G' H' y n hp gp h1 h2 => q _ (k ds y) p xs G' H' (Sx.of n).w (.inr hp) gp h1 h2
theorem do_retO (h : ρ[i]? = some (.own ds)) (k : P (.rtN ds)) : Do (tRet (tVar i)) ρ P := fun D σ G H E q => by
  obtain ⟨l, xs, h1, h2, h3, h4⟩ := E.own i ds h
  exact ⟨_, h1, q _ k l xs G H (Sx.of (Nx.refl E)).w (.inl ⟨i, _, h, h1⟩) h3 h2 h4⟩
theorem do_asgP {Y : PyData → Prop} (h : IsP te ρ Y) (k : ∀ d, Y d → P (.nx (ρ.set j (.dat d)))) : Do (tAsg te (gName j)) ρ P := fun D σ G H E q => h σ G H E _ fun v d G' H' y n hv =>
  q _ (k d y) _ G' H' ⟨(Sx.of n).w, n.e.setD hv, fun l z => .inl (own_set rfl z)⟩
theorem do_asg (h : Is te ρ d) : Do (tAsg te (gName j)) ρ (fun o => o = .nx (ρ.set j (.dat d))) := do_asgP h fun x e => by rw [e]
/-- x = e, then the rest -/
theorem do_let (h : Is te ρ d) (k : Do u (ρ.set j (.dat d)) P) : Do (tSeq (tAsg te (gName j)) u) ρ P := do_then (do_asg h) k
theorem do_letP {Y : PyData → Prop} (h : IsP te ρ Y) (k : ∀ d, Y d → Do u (ρ.set j (.dat d)) P) : Do (tSeq (tAsg te (gName j)) u) ρ P := do_seq (do_asgP h k)
/-- a slot gets a list of one's own -/
theorem Env.setO {p : Addr} {xs : List V} (E : Env G H σ ρ) (hp : H p = some (.lst xs)) (gp : G p = none) (hn : ∀ k, k ≠ j → ¬ Ow ρ σ k p) (hx : DtAll G xs ds) : Env G H (σ.set j (some (.ref p))) (ρ.set j (.own ds)) where
  ex := E.ex
  len := by rw [List.length_set, List.length_set]; exact E.len
  dat := fun i d' e => by
    rw [get_set] at e
    rw [get_set]
    by_cases q : j = i
    · rw [if_pos q] at e
      split at e <;> cases e
    · rw [if_neg q] at e ⊢; exact E.dat i d' e
  own := fun i ds' e => by
    rw [get_set] at e
    rw [get_set]
    by_cases q : j = i
    · rw [if_pos q] at e ⊢
      split at e
      · rename_i hl
        cases e
        rw [if_pos (by rw [E.len]; exact hl)]
        exact ⟨p, xs, rfl, hp, gp, hx⟩
      · cases e
    · rw [if_neg q] at e ⊢
      exact E.own i ds' e
  drw := fun i e => by
    rw [get_set] at e
    by_cases q : j = i
    · rw [if_pos q] at e
      split at e <;> cases e
    · rw [if_neg q] at e
      obtain ⟨l, xs, h1, h2⟩ := E.drw i e
      exact ⟨l, xs, by rw [get_set, if_neg q]; exact h1, h2⟩
  spc := fun i v' F R e => by
    rw [get_set] at e
    by_cases q : j = i
    · rw [if_pos q] at e
      split at e <;> cases e
    · rw [if_neg q] at e
      obtain ⟨h1, h2⟩ := E.spc i v' F R e
      exact ⟨by rw [get_set, if_neg q]; exact h1, h2⟩
  sep := fun i k l n a b => by
    have back : ∀ {m : Nat}, Ow (ρ.set j (.own ds)) (σ.set j (some (.ref p))) m l → (m = j ∧ l = p) ∨ (m ≠ j ∧ Ow ρ σ m l) := by
      rintro m ⟨e', h1, h3⟩
      rw [get_set] at h1
      by_cases q : j = m
      · rw [if_pos q] at h1
        split at h1
        · cases h1
          have h3 : (σ.set j (some (.ref p)))[m]? = some (some (.ref l)) := h3
          rw [get_set, if_pos q] at h3
          split at h3
          · cases h3; exact .inl ⟨q.symm, rfl⟩
          · cases h3
        · cases h1
      · rw [if_neg q] at h1
        rw [get_set, if_neg q] at h3
        exact .inr ⟨fun z => q z.symm, _, h1, h3⟩
    rcases back a with ⟨a1, a2⟩ | ⟨a1, a2⟩ <;> rcases back b with ⟨b1, b2⟩ | ⟨b1, b2⟩
    · exact n (a1.trans b1.symm)
    · exact hn k b1 (a2 ▸ b2)
    · exact hn i a1 (b2 ▸ a2)
    · exact E.sep i k l n a2 b2
theorem own_setO {p : Addr} {l : Addr} (h : Own (ρ.set j (.own ds)) (σ.set j (some (.ref p))) l) : l = p ∨ Own ρ σ l := by
  obtain ⟨m, e', h1, h3⟩ := h
  rw [get_set] at h1
  by_cases q : j = m
  · rw [if_pos q] at h1
    split at h1
    · cases h1
      have h3 : (σ.set j (some (.ref p)))[m]? = some (some (.ref l)) := h3
      rw [get_set, if_pos q] at h3
      split at h3
      · cases h3; exact .inl rfl
      · cases h3
    · cases h1
  · rw [if_neg q] at h1
    rw [get_set, if_neg q] at h3
    exact .inr ⟨m, _, h1, h3⟩
theorem do_asgN {Y : List PyData → Prop} (h : IsNP te ρ Y) (k : ∀ ds, Y ds → P (.nx (ρ.set j (.own ds)))) : Do (tAsg te (gName j)) ρ P := fun D σ G H E q => h σ G H E _ fun p xs ds G' H' y n hp gp h1 h2 =>
  q _ (k ds y) _ G' H' ⟨(Sx.of n).w, n.e.setO h1 gp (fun k _ z => (E.not_own ⟨k, z⟩).2 hp) h2, fun l z => (own_setO z).elim (fun e => .inr (e ▸ hp)) .inl⟩
/-- xs = a new list that will change -/
theorem do_letN (h : IsN te ρ ds) (k : Do u (ρ.set j (.own ds)) P) : Do (tSeq (tAsg te (gName j)) u) ρ P := do_seq (do_asgN h fun es e => by rw [e]; exact k)
theorem do_letNP {Y : List PyData → Prop} (h : IsNP te ρ Y) (k : ∀ ds, Y ds → Do u (ρ.set j (.own ds)) P) : Do (tSeq (tAsg te (gName j)) u) ρ P := do_seq (do_asgN h k)
theorem do_aug {a b : Int} {f : Int → Int → Int} (h : ρ[i]? = some (.dat (.int a))) (hb : Is te ρ (.int b)) (k : P (.nx (ρ.set i (.dat (.int (f a b)))))) : Do (tAug i te (ipI f)) ρ P := fun D σ G H E q => by
  obtain ⟨v, h1, h2⟩ := E.dat i _ h
  cases h2
  refine ⟨_, h1, hb σ G H E _ fun y d' G' H' hd n hy => ?_⟩
  subst hd
  cases hy
  exact ⟨a, b, rfl, rfl, q _ k _ G' H' ⟨(Sx.of n).w, n.e.setD (.int _), fun l z => .inl (own_set rfl z)⟩⟩
theorem do_par (h : IsA tx ρ [d, e]) (k : P (.nx ((ρ.set i (.dat d)).set j (.dat e)))) : Do (tPar i j tx) ρ P := fun D σ G H E q => h σ G H E _ fun vs G' H' n hv => by
  cases hv with
  | cons h1 h2 =>
    cases h2 with
    | cons h2 h3 =>
      cases h3
      exact ⟨_, _, rfl, q _ k _ G' H' ⟨(Sx.of n).w, (n.e.setD h1).setD h2, fun l z => .inl (own_set rfl (own_set rfl z))⟩⟩
/-- xs.append(e), xs a list of one's own -/
theorem do_app {Y : PyData → Prop} (h : ρ[i]? = some (.own ds)) (hb : IsP te ρ Y) (hz : ds.length < 100000) (k : ∀ d, Y d → P (.nx (ρ.set i (.own (ds ++ [d]))))) : Do (tDrop (tBM K "list" rAppend (tVar i) (tCons te tNil))) ρ P := fun D σ G H E q => by
  obtain ⟨l, xs, h1, h2, h3, h4⟩ := E.own i ds h
  refine ⟨_, h1, .inl ⟨rfl, xs, sq_of h2⟩, hb σ G H E _ fun v d G' H' y n hv => ?_⟩
  have ow : Ow ρ σ i l := ⟨_, h, h1⟩
  obtain ⟨l', xs', k1, k2, k3, k4⟩ := n.e.own i ds h
  rw [h1] at k1
  cases k1
  refine ⟨l, xs', v, rfl, rfl, k2, by rw [k4.length]; exact sz_lt hz, ?_⟩
  have w : Gw (Own ρ σ) G H G' (upd H' l (.lst (xs' ++ [v]))) := by
    have w1 : Gw (Own ρ σ) G H G' H' := (Sx.of n).w
    exact w1.trans (Gw.put n.w.v k3 ⟨i, ow⟩)
  have e2 : σ.set i (some (.ref l)) = σ := by
    refine List.ext_getElem? fun m => ?_
    rw [get_set]
    by_cases c : i = m
    · subst c
      rw [if_pos rfl, h1]
      have : i < σ.length := (List.getElem?_eq_some_iff.mp h1).1
      rw [if_pos this]
    · rw [if_neg c]
  have E2 : Env G' (upd H' l (.lst (xs' ++ [v]))) (σ.set i (some (.ref l))) (ρ.set i .no) := by
    rw [e2]
    have z := (n.e.setN (j := i) (x := some (.ref l)))
    rw [e2] at z
    refine z.put k3 fun ⟨m, y⟩ => ?_
    have z2 : Ow (ρ.set i .no) (σ.set i (some (.ref l))) m l := by rw [e2]; exact y
    obtain ⟨mi, om⟩ := ow_set (x := some (.ref l)) rfl z2
    exact E.sep m i l mi om ow
  have E3 : Env G' (upd H' l (.lst (xs' ++ [v]))) σ (ρ.set i (.own (ds ++ [d]))) := by
    have z := E2.setO (j := i) (p := l) (ds := ds ++ [d]) (xs := xs' ++ [v]) upd_same k3 (fun m hm y => by
      obtain ⟨mi, om⟩ := ow_set (x := some (.ref l)) rfl y
      exact E.sep m i l mi om ow) (k4.snoc hv)
    simp only [List.set_set] at z
    rw [e2] at z
    exact z
  refine q _ (k d y) σ G' _ ⟨w, E3, fun m z => ?_⟩
  have z2 : Own (ρ.set i (.own (ds ++ [d]))) (σ.set i (some (.ref l))) m := by rw [e2]; exact z
  rcases own_setO z2 with c | c
  · exact .inl (c ▸ ⟨i, ow⟩)
  · exact .inl c
/-! ### targets -/
/-- assigning d by the target g turns an environment by f -/
def Tg (g : TG) (d : PyData) (f : List Ent → List Ent) : Prop := ∀ (ρ : List Ent) (σ : L2.St) (G H : Hp) (v : V), Env G H σ ρ → Dt G v d → ∀ Q : L2.St → Hp → Prop, (∀ σ', Env G H σ' (f ρ) → (∀ l, Own (f ρ) σ' l → Own ρ σ l) → Q σ' H) → g v σ H Q
theorem tg_name : Tg (gName j) d (fun ρ => ρ.set j (.dat d)) := fun ρ σ G H v E hv Q q => q _ (E.setD hv) fun l z => own_set rfl z
def Tgs (g : TGs) (ds : List PyData) (f : List Ent → List Ent) : Prop := ∀ (ρ : List Ent) (σ : L2.St) (G H : Hp) (vs : List V), Env G H σ ρ → DtAll G vs ds → ∀ Q : L2.St → Hp → Prop, (∀ σ', Env G H σ' (f ρ) → (∀ l, Own (f ρ) σ' l → Own ρ σ l) → Q σ' H) → g vs σ H Q
theorem tgs_nil : Tgs gNil [] (fun ρ => ρ) := fun ρ σ G H vs E hv Q q => by cases hv; exact ⟨rfl, q σ E fun l z => z⟩
theorem tgs_cons {f : List Ent → List Ent} {gs : TGs} (h : Tgs gs ds f) : Tgs (gCons (gName j) gs) (d :: ds) (fun ρ => f (ρ.set j (.dat d))) := fun ρ σ G H vs E hv Q q => by
  cases hv with
  | cons h1 h2 => exact ⟨_, _, rfl, h _ _ G H _ (E.setD h1) h2 Q fun σ' E' o' => q σ' E' fun l z => own_set rfl (o' l z)⟩
theorem tg_tup {f : List Ent → List Ent} {gs : TGs} {n : Nat} (h : Tgs gs ds f) (hn : ds.length = n := by rfl) : Tg (gTup K n gs) (.tuple ds) f := fun ρ σ G H v E hv Q q => by
  cases hv with
  | tup h1 h2 => exact ⟨_, _, rfl, st_of (E.ex _ _ h1), by rw [h2.length]; exact hn, h ρ σ G H _ E h2 Q q⟩
theorem do_asgT {f : List Ent → List Ent} (h : Is te ρ d) (hg : Tg g d f) : Do (tAsg te g) ρ (fun o => o = .nx (f ρ)) := fun D σ G H E q => h σ G H E _ fun v d' G' H' hd n hv => by
  subst hd
  exact hg ρ σ G' H' v n.e hv _ fun σ' E' o' => q _ rfl σ' G' H' ⟨(Sx.of n).w, E', fun l z => .inl (o' l z)⟩
/-- a, b, .. = e, then the rest -/
theorem do_letT {f : List Ent → List Ent} (h : Is te ρ d) (hg : Tg g d f) (k : Do u (f ρ) P) : Do (tSeq (tAsg te g) u) ρ P := do_then (do_asgT h hg) k
/-! ### forgetting -/
def Le : List Ent → List Ent → Prop
  | [], [] => True
  | .no :: r, _ :: r' => Le r r'
  | e :: r, e' :: r' => e = e' ∧ Le r r'
  | _, _ => False
theorem Le.get : ∀ {ρ ρ' : List Ent} {i : Nat} {e : Ent}, Le ρ ρ' → ρ[i]? = some e → e ≠ .no → ρ'[i]? = some e
  | [], [], _, _, _, h, _ => by simp at h
  | .no :: r, _ :: r', 0, e, _, h, n => by simp at h; exact absurd h.symm n
  | .no :: r, _ :: r', i + 1, e, l, h, n => by
    have l' : Le r r' := l
    simpa using Le.get l' (by simpa using h) n
  | .dat d :: r, e' :: r', 0, e, l, h, _ => by
    have l' : Ent.dat d = e' ∧ Le r r' := l
    simp at h; subst h; simp [l'.1]
  | .dat d :: r, e' :: r', i + 1, e, l, h, n => by
    have l' : Ent.dat d = e' ∧ Le r r' := l
    simpa using Le.get l'.2 (by simpa using h) n
  | .own d :: r, e' :: r', 0, e, l, h, _ => by
    have l' : Ent.own d = e' ∧ Le r r' := l
    simp at h; subst h; simp [l'.1]
  | .own d :: r, e' :: r', i + 1, e, l, h, n => by
    have l' : Ent.own d = e' ∧ Le r r' := l
    simpa using Le.get l'.2 (by simpa using h) n
  | .drw :: r, e' :: r', 0, e, l, h, _ => by
    have l' : Ent.drw = e' ∧ Le r r' := l
    simp at h; subst h; simp [l'.1]
  | .drw :: r, e' :: r', i + 1, e, l, h, n => by
    have l' : Ent.drw = e' ∧ Le r r' := l
    simpa using Le.get l'.2 (by simpa using h) n
  | .spc v F R :: r, e' :: r', 0, e, l, h, _ => by
    have l' : Ent.spc v F R = e' ∧ Le r r' := l
    simp at h; subst h; simp [l'.1]
  | .spc v F R :: r, e' :: r', i + 1, e, l, h, n => by
    have l' : Ent.spc v F R = e' ∧ Le r r' := l
    simpa using Le.get l'.2 (by simpa using h) n
  | .spc _ _ _ :: _, [], _, _, l, _, _ => (show False from l).elim
  | .no :: _, [], _, _, l, _, _ => (show False from l).elim
  | .dat _ :: _, [], _, _, l, _, _ => (show False from l).elim
  | .own _ :: _, [], _, _, l, _, _ => (show False from l).elim
  | .drw :: _, [], _, _, l, _, _ => (show False from l).elim
  | [], _ :: _, _, _, l, _, _ => (show False from l).elim
theorem Le.length : ∀ {ρ ρ' : List Ent}, Le ρ ρ' → ρ.length = ρ'.length
  | [], [], _ => rfl
  | .no :: r, _ :: r', l => by
    have l' : Le r r' := l
    rw [List.length_cons, List.length_cons, Le.length l']
  | .dat d :: r, e' :: r', l => by
    have l' : Ent.dat d = e' ∧ Le r r' := l
    rw [List.length_cons, List.length_cons, Le.length l'.2]
  | .own d :: r, e' :: r', l => by
    have l' : Ent.own d = e' ∧ Le r r' := l
    rw [List.length_cons, List.length_cons, Le.length l'.2]
  | .drw :: r, e' :: r', l => by
    have l' : Ent.drw = e' ∧ Le r r' := l
    rw [List.length_cons, List.length_cons, Le.length l'.2]
  | .spc v F R :: r, e' :: r', l => by
    have l' : Ent.spc v F R = e' ∧ Le r r' := l
    rw [List.length_cons, List.length_cons, Le.length l'.2]
  | .spc _ _ _ :: _, [], l => (show False from l).elim
  | .no :: _, [], l => (show False from l).elim
  | .dat _ :: _, [], l => (show False from l).elim
  | .own _ :: _, [], l => (show False from l).elim
  | .drw :: _, [], l => (show False from l).elim
  | [], _ :: _, l => (show False from l).elim
theorem Le.refl : ∀ ρ : List Ent, Le ρ ρ
  | [] => True.intro
  | .no :: r => Le.refl r
  | .dat d :: r => ⟨rfl, Le.refl r⟩
  | .own d :: r => ⟨rfl, Le.refl r⟩
  | .drw :: r => ⟨rfl, Le.refl r⟩
  | .spc _ _ _ :: r => ⟨rfl, Le.refl r⟩
theorem Le.ow {k : Nat} {l : Addr} (h : Le ρ ρ') (o : Ow ρ σ k l) : Ow ρ' σ k l := by
  obtain ⟨e, h1, h3⟩ := o
  exact ⟨e, h.get h1 (fun z => by subst z; exact h3), h3⟩
theorem Env.le (E : Env G H σ ρ') (h : Le ρ ρ') : Env G H σ ρ where
  ex := E.ex
  len := E.len.trans h.length.symm
  dat := fun i d e => E.dat i d (h.get e fun z => by cases z)
  own := fun i ds e => E.own i ds (h.get e fun z => by cases z)
  drw := fun i e => E.drw i (h.get e fun z => by cases z)
  spc := fun i v F R e => E.spc i v F R (h.get e fun z => by cases z)
  sep := fun i k l n a b => E.sep i k l n (h.ow a) (h.ow b)
theorem Sx.le {ρ2 : List Ent} (s : Sx σ ρ G H σ' ρ' G' H') (h : Le ρ2 ρ') : Sx σ ρ G H σ' ρ2 G' H' := ⟨s.w, s.e.le h, fun l ⟨k, o⟩ => s.o l ⟨k, h.ow o⟩⟩
theorem Do.le (h : Do t ρ P) (k : Le ρ ρ') : Do t ρ' P := fun D σ G H E q => by
  have s : Sx σ ρ' G H σ ρ G H := (Sx.of (Nx.refl E)).le k
  exact h D σ G H s.e fun o p => (q o p).after s
/-! ### loops -/
/-- what a loop's body comes to: the next turn's word, or out -/
def Lp (P : Out → Prop) (I : List Ent → Prop) : Out → Prop
  | .nx ρ' => ∃ ρ2, I ρ2 ∧ Le ρ2 ρ'
  | .ct ρ' => ∃ ρ2, I ρ2 ∧ Le ρ2 ρ'
  | .bk ρ' => P (.nx ρ')
  | .rt d => P (.rt d)
  | .rtS d ρ' => P (.rtS d ρ')
  | .rtN ds => P (.rtN ds)
/-- the word of a loop -/
def Wd (σ : L2.St) (ρ : List Ent) (G H : Hp) (I : List Ent → Prop) (σ' : L2.St) (H' : Hp) : Prop := ∃ ρ' G', I ρ' ∧ Sx σ ρ G H σ' ρ' G' H'
theorem lp_post {I : List Ent → Prop} {D : Ends} {N : L2.St → Hp → Prop} (q : ∀ o, P o → Post D σ ρ G H o) (s : Sx σ ρ G H σ' ρ' G' H') (hN : ∀ σ2 H2, Wd σ ρ G H I σ2 H2 → N σ2 H2) :
    ∀ o, Lp P I o → Post { D with nx := N, ct := N, bk := D.nx } σ' ρ' G' H' o := by
  intro o h
  cases o with
  | nx ρ2 =>
    obtain ⟨ρ3, i3, l3⟩ := h
    exact fun σ2 G2 H2 z => hN σ2 H2 ⟨ρ3, G2, i3, (s.trans z).le l3⟩
  | ct ρ2 =>
    obtain ⟨ρ3, i3, l3⟩ := h
    exact fun σ2 G2 H2 z => hN σ2 H2 ⟨ρ3, G2, i3, (s.trans z).le l3⟩
  | bk ρ2 => exact (q (.nx ρ2) h).after s
  | rt d => exact (q (.rt d) h).after s
  | rtS d ρ2 => exact (q (.rtS d ρ2) h).after s
  | rtN ds => exact (q (.rtN ds) h).after s
theorem do_forT {I : Nat → List Ent → Prop} {f : Nat → List Ent → List Ent} (hs : Is tl ρ (.tuple ds)) (hg : ∀ i d, ds[i]? = some d → Tg g d (f i)) (h0 : ∃ ρ0, I 0 ρ0 ∧ Le ρ0 ρ)
    (ht : ∀ i d ρ1, ds[i]? = some d → I i ρ1 → Do tb (f i ρ1) (Lp P (I (i + 1)))) (hd : ∀ ρ1, I ds.length ρ1 → P (.nx ρ1)) : Do (tFor (iTup K tl) g tb) ρ P := fun D σ G H E q => hs σ G H E _ fun v d G1 H1 hd' n hv => by
  subst hd'
  cases hv with
  | @tup a vs _ g1 g2 =>
    obtain ⟨ρ0, i0, l0⟩ := h0
    have n' : Sx σ ρ G H σ ρ G1 H1 := Sx.of n
    have vis : ∀ {G' H' σ' ρ'}, Sx σ ρ G1 H1 σ' ρ' G' H' → H' a = some (.tup vs) := fun s => s.w.v _ _ (s.w.g _ _ g1)
    refine ⟨a, rfl, ⟨vs, st_of (n.w.v _ _ g1)⟩, for_tup (xs := vs) (fun i σ' H' => Wd σ ρ G1 H1 (I i) σ' H') ⟨ρ0, G1, i0, (Sx.of (Nx.refl n.e)).le l0⟩ (fun i σ' H' _ ⟨_, _, _, s⟩ => st_of (vis s)) (fun i x σ' H' hi ⟨ρ1, G', i1, s⟩ => ?_) (fun σ' H' ⟨ρ1, G', i1, s⟩ => ?_)⟩
    · obtain ⟨d, hdd, dx⟩ := g2.back hi
      refine hg i d hdd ρ1 σ' G' H' x s.e (dx.up s.w.g) _ fun σ2 E2 o2 => ?_
      have s2 : Sx σ ρ G1 H1 σ2 (f i ρ1) G' H' := ⟨s.w, E2, fun l z => s.o l (o2 l z)⟩
      exact ht i d ρ1 hdd i1 _ σ2 G' H' E2 (lp_post (fun o p => (q o p).after n') s2 fun σ3 H3 w => w)
    · rw [g2.length] at i1
      exact q _ (hd ρ1 i1) σ' G' H' (n'.trans s)
theorem do_forL {I : Nat → List Ent → Prop} {f : Nat → List Ent → List Ent} (hs : Is tl ρ (.list ds)) (hg : ∀ i d, ds[i]? = some d → Tg g d (f i)) (h0 : ∃ ρ0, I 0 ρ0 ∧ Le ρ0 ρ)
    (ht : ∀ i d ρ1, ds[i]? = some d → I i ρ1 → Do tb (f i ρ1) (Lp P (I (i + 1)))) (hd : ∀ ρ1, I ds.length ρ1 → P (.nx ρ1)) : Do (tFor (iList K tl) g tb) ρ P := fun D σ G H E q => hs σ G H E _ fun v d G1 H1 hd' n hv => by
  subst hd'
  cases hv with
  | @lst a vs _ g1 g2 =>
    obtain ⟨ρ0, i0, l0⟩ := h0
    have n' : Sx σ ρ G H σ ρ G1 H1 := Sx.of n
    have vis : ∀ {G' H' σ' ρ'}, Sx σ ρ G1 H1 σ' ρ' G' H' → H' a = some (.lst vs) := fun s => s.w.v _ _ (s.w.g _ _ g1)
    refine ⟨a, rfl, ⟨vs, sq_of (n.w.v _ _ g1)⟩, for_list (xs := vs) (fun i σ' H' => Wd σ ρ G1 H1 (I i) σ' H') ⟨ρ0, G1, i0, (Sx.of (Nx.refl n.e)).le l0⟩ (fun i σ' H' _ ⟨_, _, _, s⟩ => sq_of (vis s)) (fun i x σ' H' hi ⟨ρ1, G', i1, s⟩ => ?_) (fun σ' H' ⟨ρ1, G', i1, s⟩ => ?_)⟩
    · obtain ⟨d, hdd, dx⟩ := g2.back hi
      refine hg i d hdd ρ1 σ' G' H' x s.e (dx.up s.w.g) _ fun σ2 E2 o2 => ?_
      have s2 : Sx σ ρ G1 H1 σ2 (f i ρ1) G' H' := ⟨s.w, E2, fun l z => s.o l (o2 l z)⟩
      exact ht i d ρ1 hdd i1 _ σ2 G' H' E2 (lp_post (fun o p => (q o p).after n') s2 fun σ3 H3 w => w)
    · rw [g2.length] at i1
      exact q _ (hd ρ1 i1) σ' G' H' (n'.trans s)
theorem do_forTm {α : Type} {xs : List α} {enc : α → PyData} {I : Nat → List Ent → Prop} {f : α → List Ent → List Ent} (hs : Is tl ρ (.tuple (xs.map enc))) (hg : ∀ x, Tg g (enc x) (f x)) (h0 : ∃ ρ0, I 0 ρ0 ∧ Le ρ0 ρ)
    (ht : ∀ i x ρ1, xs[i]? = some x → I i ρ1 → Do tb (f x ρ1) (Lp P (I (i + 1)))) (hd : ∀ ρ1, I xs.length ρ1 → P (.nx ρ1)) : Do (tFor (iTup K tl) g tb) ρ P :=
  do_forT (I := I) (f := fun i => match xs[i]? with | some x => f x | none => fun ρ => ρ) hs (fun i d hd => by obtain ⟨x, hx, _, rfl⟩ := map_get hd; simp only [hx]; exact hg x) h0
    (fun i d ρ1 hd i1 => by obtain ⟨x, hx, _, rfl⟩ := map_get hd; simp only [hx]; exact ht i x ρ1 hx i1) (fun ρ1 i1 => hd ρ1 (by rw [List.length_map] at i1; exact i1))
theorem do_forLm {α : Type} {xs : List α} {enc : α → PyData} {I : Nat → List Ent → Prop} {f : α → List Ent → List Ent} (hs : Is tl ρ (.list (xs.map enc))) (hg : ∀ x, Tg g (enc x) (f x)) (h0 : ∃ ρ0, I 0 ρ0 ∧ Le ρ0 ρ)
    (ht : ∀ i x ρ1, xs[i]? = some x → I i ρ1 → Do tb (f x ρ1) (Lp P (I (i + 1)))) (hd : ∀ ρ1, I xs.length ρ1 → P (.nx ρ1)) : Do (tFor (iList K tl) g tb) ρ P :=
  do_forL (I := I) (f := fun i => match xs[i]? with | some x => f x | none => fun ρ => ρ) hs (fun i d hd => by obtain ⟨x, hx, _, rfl⟩ := map_get hd; simp only [hx]; exact hg x) h0
    (fun i d ρ1 hd i1 => by obtain ⟨x, hx, _, rfl⟩ := map_get hd; simp only [hx]; exact ht i x ρ1 hx i1) (fun ρ1 i1 => hd ρ1 (by rw [List.length_map] at i1; exact i1))
theorem forR_core {lo : Int} {n : Nat} {I : Nat → List Ent → Prop} {D : Ends} (E : Env G H σ ρ) (h0 : ∃ ρ0, I 0 ρ0 ∧ Le ρ0 ρ) (ht : ∀ i ρ1, i < n → I i ρ1 → Do tb (ρ1.set j (.dat (.int (lo + (i : Int))))) (Lp P (I (i + 1)))) (hd : ∀ ρ1, I n ρ1 → P (.nx ρ1))
    (q : ∀ o, P o → Post D σ ρ G H o) : ∃ W : Nat → Nat → L2.St → Hp → Prop, (∃ m, W 0 m σ H) ∧ ∀ i m σ H, W i m σ H →
      ((Itr lo n).stop i H ∧ D.nx σ H) ∨ ((Itr lo n).go i H ∧ ∃ N : L2.St → Hp → Prop, (∀ σ' H', N σ' H' → ∃ m', m' < m ∧ W (i + 1) m' σ' H') ∧ ∀ x H', (Itr lo n).yld i H x H' → gName j x σ H' fun σ2 H2 => tb { D with nx := N, ct := N, bk := D.nx } σ2 H2) := by
  obtain ⟨ρ0, i0, l0⟩ := h0
  refine for_range (fun i σ' H' => Wd σ ρ G H (I i) σ' H') ⟨ρ0, G, i0, (Sx.of (Nx.refl E)).le l0⟩ (fun i σ' H' hi ⟨ρ1, G', i1, s⟩ => ?_) (fun σ' H' ⟨ρ1, G', i1, s⟩ => ?_)
  · have s2 : Sx σ ρ G H (σ'.set j (some (.int (lo + i)))) (ρ1.set j (.dat (.int (lo + (i : Int))))) G' H' := ⟨s.w, s.e.setD (.int _), fun l z => s.o l (own_set rfl z)⟩
    exact ht i ρ1 hi i1 _ _ G' H' s2.e (lp_post q s2 fun σ3 H3 w => w)
  · exact q _ (hd ρ1 i1) σ' G' H' s
theorem do_forR1 {m : Int} {n : Nat} {I : Nat → List Ent → Prop} (hs : IsA tx ρ [.int m]) (hm : m.toNat = n) (hz : m ≤ 1000000 ∧ -1000000 ≤ m) (h0 : ∃ ρ0, I 0 ρ0 ∧ Le ρ0 ρ)
    (ht : ∀ i ρ1, i < n → I i ρ1 → Do tb (ρ1.set j (.dat (.int (i : Int)))) (Lp P (I (i + 1)))) (hd : ∀ ρ1, I n ρ1 → P (.nx ρ1)) : Do (tFor (iRng1 tx) (gName j) tb) ρ P := fun D σ G H E q => hs σ G H E _ fun vs G1 H1 n1 hv => by
  cases hv with
  | cons h1 h2 =>
    cases h1; cases h2
    subst hm
    refine ⟨m, rfl, by omega, by omega, forR_core n1.e h0 (fun i ρ1 hi i1 => ?_) hd fun o p => (q o p).after (Sx.of n1)⟩
    rw [Int.zero_add]
    exact ht i ρ1 hi i1
theorem do_forR2 {lo hi : Int} {n : Nat} {I : Nat → List Ent → Prop} (hs : IsA tx ρ [.int lo, .int hi]) (hm : (hi - lo).toNat = n) (hz : hi ≤ 1000000 ∧ -1000000 ≤ hi ∧ 0 ≤ lo ∧ lo ≤ 1000000) (h0 : ∃ ρ0, I 0 ρ0 ∧ Le ρ0 ρ)
    (ht : ∀ i ρ1, i < n → I i ρ1 → Do tb (ρ1.set j (.dat (.int (lo + (i : Int))))) (Lp P (I (i + 1)))) (hd : ∀ ρ1, I n ρ1 → P (.nx ρ1)) : Do (tFor (iRng2 tx) (gName j) tb) ρ P := fun D σ G H E q => hs σ G H E _ fun vs G1 H1 n1 hv => by
  cases hv with
  | cons h1 h2 =>
    cases h2 with
    | cons h2 h3 =>
      cases h1; cases h2; cases h3
      subst hm
      exact ⟨lo, hi, rfl, ⟨by omega, by omega, by omega, by omega⟩, forR_core n1.e h0 ht hd fun o p => (q o p).after (Sx.of n1)⟩
theorem do_while {I : List Ent → Prop} {μ : List Ent → Nat} (h0 : ∃ ρ0, I ρ0 ∧ Le ρ0 ρ)
    (ht : ∀ ρ1, I ρ1 → ∃ b, IsB tt ρ1 b ∧ (b = true → Do tb ρ1 (Lp P (fun ρ2 => I ρ2 ∧ μ ρ2 < μ ρ1))) ∧ (b = false → P (.nx ρ1))) : Do (tWhile tt tb) ρ P := fun D σ G H E q => by
  obtain ⟨ρ0, i0, l0⟩ := h0
  refine ⟨fun m σ' H' => Wd σ ρ G H (fun ρ1 => I ρ1 ∧ μ ρ1 = m) σ' H', ⟨μ ρ0, ρ0, G, ⟨i0, rfl⟩, (Sx.of (Nx.refl E)).le l0⟩, ?_⟩
  rintro m σ' H' ⟨ρ1, G', ⟨i1, rfl⟩, s⟩
  obtain ⟨b, hb, h1, h2⟩ := ht ρ1 i1
  refine hb σ' G' H' s.e _ fun c G2 H2 hc n => ?_
  subst hc
  have s2 := s.trans (Sx.of n)
  cases c with
  | true =>
    refine iteT ⟨fun σ3 H3 => Wd σ ρ G H (fun ρ2 => I ρ2 ∧ μ ρ2 < μ ρ1) σ3 H3, fun σ3 H3 ⟨ρ2, G3, ⟨i2, m2⟩, s3⟩ => ⟨μ ρ2, m2, ρ2, G3, ⟨i2, rfl⟩, s3⟩, ?_⟩
    exact h1 rfl _ σ' G2 H2 n.e (lp_post q s2 fun σ3 H3 w => w)
  | false => exact iteF (q _ (h2 rfl) σ' G2 H2 s2)
theorem do_whileM {I : Nat → List Ent → Prop} (h0 : ∃ m ρ0, I m ρ0 ∧ Le ρ0 ρ)
    (ht : ∀ m ρ1, I m ρ1 → ∃ b, IsB tt ρ1 b ∧ (b = true → Do tb ρ1 (Lp P (fun ρ2 => ∃ m', m' < m ∧ I m' ρ2))) ∧ (b = false → P (.nx ρ1))) : Do (tWhile tt tb) ρ P := fun D σ G H E q => by
  obtain ⟨m0, ρ0, i0, l0⟩ := h0
  refine ⟨fun m σ' H' => Wd σ ρ G H (I m) σ' H', ⟨m0, ρ0, G, i0, (Sx.of (Nx.refl E)).le l0⟩, ?_⟩
  rintro m σ' H' ⟨ρ1, G', i1, s⟩
  obtain ⟨b, hb, h1, h2⟩ := ht m ρ1 i1
  refine hb σ' G' H' s.e _ fun c G2 H2 hc n => ?_
  subst hc
  have s2 := s.trans (Sx.of n)
  cases c with
  | true =>
    refine iteT ⟨fun σ3 H3 => Wd σ ρ G H (fun ρ2 => ∃ m', m' < m ∧ I m' ρ2) σ3 H3, fun σ3 H3 ⟨ρ2, G3, ⟨m', i2, m2⟩, s3⟩ => ⟨m', i2, ρ2, G3, m2, s3⟩, ?_⟩
    exact h1 rfl _ σ' G2 H2 n.e (lp_post q s2 fun σ3 H3 w => w)
  | false => exact iteF (q _ (h2 rfl) σ' G2 H2 s2)
end
/-! ### promises -/
abbrev S0 : Addr → Prop := fun _ => False
/-- data in, data out: A ds R: for the arguments ds the result is in R -/
def spD (A : List PyData → (PyData → Prop) → Prop) : Sp := fun vs H Q _ => ∃ G ds R, Ex G H ∧ DtAll G vs ds ∧ A ds R ∧ ∀ v d G' H', R d → Gw S0 G H G' H' → Dt G' v d → Q v H'
/-- .., a new list out -/
def spN (A : List PyData → (List PyData → Prop) → Prop) : Sp := fun vs H Q _ => ∃ G ds R, Ex G H ∧ DtAll G vs ds ∧ A ds R ∧ ∀ p xs es G' H', R es → Gw S0 G H G' H' → H p = none → G' p = none → H' p = some (.lst xs) → DtAll G' xs es → Q (.ref p) H'
section
variable {ρ : List Ent} {tx : TA} {ds : List PyData} {σ : L2.St} {G H G' H' : Hp} {E : XK}
theorem Nx.of0 (E : Env G H σ ρ) (w : Gw S0 G H G' H') : Nx σ ρ G H G' H' := ⟨w.wide fun _ z => z.elim, E.grow (fun a o h => w.h a o (fun z => z) h) w.g w.v w.n⟩
theorem isP_call {A : List PyData → (PyData → Prop) → Prop} {R : PyData → Prop} (ha : IsA tx ρ ds) (h : A ds R) : IsP (tCall (spD A) [] E tx) ρ R := fun σ G H En Q q => ha σ G H En _ fun vs G1 H1 n hv => by
  rw [List.append_nil]
  exact ⟨G1, ds, R, n.e.ex, hv, h, fun v d G2 H2 r w hv => q v d G2 H2 r (n.trans (Nx.of0 n.e w)) hv⟩
theorem isNP_call {A : List PyData → (List PyData → Prop) → Prop} {R : List PyData → Prop} (ha : IsA tx ρ ds) (h : A ds R) : IsNP (tCall (spN A) [] E tx) ρ R := fun σ G H En Q q => ha σ G H En _ fun vs G1 H1 n hv => by
  rw [List.append_nil]
  exact ⟨G1, ds, R, n.e.ex, hv, h, fun p xs es G2 H2 r w hp gp h1 h2 => q p xs es G2 H2 r (n.trans (Nx.of0 n.e w)) (by
    cases z : H p with
    | none => rfl
    | some o => exact absurd hp (n.w.d p (ex_not z))) gp h1 h2⟩
/-- the slots at a def's entry -/
def pars (n : Nat) (ds : List PyData) : List Ent := ds.map .dat ++ List.replicate (n - ds.length) .no
theorem pars_env {N : List Str} {vs : List V} (e : Ex G H) (h : DtAll G vs ds) : Env G H (start N vs) (pars N.length ds) := by
  have hl := h.length
  have noown : ∀ {i : Nat} {x : Ent}, (pars N.length ds)[i]? = some x → x = .no ∨ ∃ d, x = .dat d ∧ ds[i]? = some d := by
    intro i x hx
    unfold pars at hx
    by_cases q : i < (ds.map Ent.dat).length
    · rw [List.getElem?_append_left q, List.getElem?_map] at hx
      cases y : ds[i]? with
      | none => rw [y] at hx; cases hx
      | some d => rw [y] at hx; cases hx; exact .inr ⟨d, rfl, rfl⟩
    · rw [List.getElem?_append_right (by omega), List.getElem?_replicate] at hx
      split at hx <;> cases hx
      exact .inl rfl
  refine ⟨e, ?_, fun i d hd => ?_, fun i es he => ?_, fun i he => ?_, fun i v F R he => ?_, fun i k l n ⟨x, h1, h2⟩ _ => ?_⟩
  · unfold L2.start pars
    simp only [List.length_append, List.length_map, List.length_replicate]
    omega
  · rcases noown hd with z | ⟨d', z, hd'⟩
    · cases z
    · cases z
      obtain ⟨v, hv, dv⟩ := h.get hd'
      refine ⟨v, ?_, dv⟩
      unfold L2.start
      have q : i < (vs.map some).length := by rw [List.length_map]; exact (List.getElem?_eq_some_iff.mp hv).1
      rw [List.getElem?_append_left q, List.getElem?_map, hv]
      rfl
  · rcases noown he with z | ⟨d', z, _⟩ <;> cases z
  · rcases noown he with z | ⟨d', z, _⟩ <;> cases z
  · rcases noown he with z | ⟨d', z, _⟩ <;> cases z
  · rcases noown h1 with z | ⟨d', z, _⟩ <;> (subst z; exact h2)
theorem pars_own {N : List Str} {vs : List V} (e : Ex G H) (h : DtAll G vs ds) {l : Addr} (o : Own (pars N.length ds) (start N vs) l) : False := by
  obtain ⟨i, x, h1, h2⟩ := o
  unfold pars at h1
  by_cases q : i < (ds.map Ent.dat).length
  · rw [List.getElem?_append_left q, List.getElem?_map] at h1
    cases y : ds[i]? with
    | none => rw [y] at h1; cases h1
    | some d => rw [y] at h1; cases h1; exact h2
  · rw [List.getElem?_append_right (by omega), List.getElem?_replicate] at h1
    split at h1 <;> cases h1
    exact h2
/-- what a def's body comes to -/
def Rts (R : PyData → Prop) : Out → Prop
  | .rt d => R d
  | .nx _ => R .none
  | .rtN ds => R (.list ds)
  | _ => False
def RtsN (R : List PyData → Prop) : Out → Prop
  | .rtN ds => R ds
  | _ => False
theorem run_D {A : List PyData → (PyData → Prop) → Prop} {t : TS} {N : List Str} {vs : List V} {Q : VK} (h : spD A vs H Q E) (k : ∀ ds R, A ds R → Do t (pars N.length ds) (Rts R)) : t { nx := fun _ H' => Q .non H', rt := Q } (start N vs) H := by
  obtain ⟨G, ds, R, e, hv, a, q⟩ := h
  refine k ds R a _ _ G H (pars_env e hv) fun o p => ?_
  have w0 : ∀ {G' H'}, Gw (Own (pars N.length ds) (start N vs)) G H G' H' → Gw S0 G H G' H' := fun w => w.wide fun l z => pars_own e hv z
  cases o with
  | nx ρ' => exact fun σ' G' H' s => q _ _ G' H' p (w0 s.w) .non
  | rt d => exact fun v G' H' w dv => q v d G' H' p (w0 w) dv
  | rtS d ρ' => exact (show False from p).elim
  | bk ρ' => exact (show False from p).elim
  | ct ρ' => exact (show False from p).elim
  | rtN es =>
    intro l xs G' H' w f gl h1 h2
    have hl : H l = none := f.elim (fun z => (pars_own e hv z).elim) id
    refine q (.ref l) (.list es) (upd G' l (.lst xs)) H' p ?_ (.lst upd_same (h2.up (Ex.new gl)))
    have w := w0 w
    refine ⟨w.h, w.d, w.g.trans (Ex.new gl), fun a o z => ?_, fun a z1 z2 => ?_⟩
    · by_cases c : a = l
      · subst c; rw [upd_same] at z; cases z; exact h1
      · rw [upd_ne c] at z; exact w.v a o z
    · by_cases c : a = l
      · subst c; exact absurd hl z2
      · rw [upd_ne c]; exact w.n a z1 z2
theorem run_N {A : List PyData → (List PyData → Prop) → Prop} {t : TS} {N : List Str} {vs : List V} {Q : VK} (h : spN A vs H Q E) (k : ∀ ds R, A ds R → Do t (pars N.length ds) (RtsN R)) : t { nx := fun _ H' => Q .non H', rt := Q } (start N vs) H := by
  obtain ⟨G, ds, R, e, hv, a, q⟩ := h
  refine k ds R a _ _ G H (pars_env e hv) fun o p => ?_
  have w0 : ∀ {G' H'}, Gw (Own (pars N.length ds) (start N vs)) G H G' H' → Gw S0 G H G' H' := fun w => w.wide fun l z => pars_own e hv z
  cases o with
  | nx ρ' => exact (show False from p).elim
  | rt d => exact (show False from p).elim
  | rtS d ρ' => exact (show False from p).elim
  | bk ρ' => exact (show False from p).elim
  | ct ρ' => exact (show False from p).elim
  | rtN es => exact fun l xs G' H' w f gl h1 h2 => q l xs es G' H' p (w0 w) (f.elim (fun z => (pars_own e hv z).elim) id) gl h1 h2
theorem len_D {A : List PyData → (PyData → Prop) → Prop} {n : Nat} (hA : ∀ ds R, A ds R → ds.length = n) {vs : List V} {Q : VK} (h : spD A vs H Q E) : vs.length = n := by
  obtain ⟨G, ds, R, e, hv, a, _⟩ := h
  rw [hv.length]
  exact hA ds R a
theorem len_N {A : List PyData → (List PyData → Prop) → Prop} {n : Nat} (hA : ∀ ds R, A ds R → ds.length = n) {vs : List V} {Q : VK} (h : spN A vs H Q E) : vs.length = n := by
  obtain ⟨G, ds, R, e, hv, a, _⟩ := h
  rw [hv.length]
  exact hA ds R a
end
/-- a def of the text stands at f and keeps its promise -/
structure Has (P : Program) (w : World) (K : PySem.W.Frag) (mg : Str → Option Value) (base : Heap) (k : Nat) (x : Str) (ps : List Str) (sp : Sp) (f : Addr) (fd : FuncData) : Prop where
  ok : FnOk P w K mg base CX0 k f fd ps sp
  g : mg x = some (.ref f)
  kp : PySem.W.keepIn K (.ref f) = true
  b : Binds K fd ps []
/-- a def of the text as the head says it -/
abbrev FnP (K : PySem.W.Frag) (x qual : Str) (st : Stmt) (f : Addr) (fd : FuncData) : Prop := FunD K x qual (defArgs st) (defBody st) (defScope st) [] [] f fd
end W36
end
section
set_option Elab.async false
set_option linter.all false
set_option maxRecDepth 100000
set_option maxHeartbeats 4000000
/-! Rules beside HandS's: data compared by order, isinstance of data, the module's facts. -/
namespace W36
open PySem L2 Evl
/-- what the module's names hold -/
structure Md (mg : Str → Option Value) : Prop where
  isinstance : mg "isinstance" = none
  int : mg "int" = none
  bool : mg "bool" = none
  list : mg "list" = none
  tuple : mg "tuple" = none
  len : mg "len" = none
  enumerate : mg "enumerate" = none
  range : mg "range" = none
  all : mg "all" = none
  any : mg "any" = none
  sorted : mg "sorted" = none
  set : mg "set" = none
  max : mg "max" = none
  str : mg "str" = none
  sum : mg "sum" = none
  MOST_THINGS : ∃ t, mg "MOST_THINGS" = some (.int 8 t)
  GREATEST : ∃ t, mg "GREATEST" = some (.int 40 t)
  MOST_OFF : ∃ t, mg "MOST_OFF" = some (.int 7 t)
  MOST_HANDS : ∃ t, mg "MOST_HANDS" = some (.int 2 t)
  PARTS : ∃ t, mg "PARTS" = some (.int 5 t)
  MOST_DAYS : ∃ t, mg "MOST_DAYS" = some (.int 1000000 t)
  MOST : ∃ t, mg "MOST" = some (.int 3000 t)
  MOST_ON_A_DAY : ∃ t, mg "MOST_ON_A_DAY" = some (.int 2 t)
  LONGEST : ∃ t, mg "LONGEST" = some (.int 4000 t)
  MOST_LEAD : ∃ t, mg "MOST_LEAD" = some (.int 4000 t)
  MOST_STANDS : ∃ t, mg "MOST_STANDS" = some (.int 4000 t)
theorem hu65 {A : Around} {k : Nat} (hr : Room k A) : A.units + 65 < cLine := by have := hr.un; omega
section
variable {X : Cx}
def rGeD (K : PySem.W.Frag) : R2 := fun x y H Q => ∃ d e, Dp K H x d ∧ Dp K H y e ∧ PySem.W.alike d e = true ∧ d ≠ .none ∧ d.depth ≤ 32 ∧ Q (.bl (!PySem.W.dataLt d e)) H
theorem op_geD (hu : X.A.units + 64 < cLine) : OpR X (compareOp .GtE) (rGeD X.K) := by
  intro pins s σ H x y v u Q I rx ry h
  obtain ⟨d, e, hd, he, al, hn, hz, q⟩ := h
  obtain ⟨as, r1⟩ := Dp.reads I d x v hd rx
  obtain ⟨bs, r2⟩ := Dp.reads I e y u he ry
  exact PySem.W.ge_data r1 r2 al hn (by omega) ⟨.bl _, H, I, rfl, q⟩
end
/-! the rules that hang on the written part, with it said -/
section
variable (K : PySem.W.Frag) {X : Cx} {tg a b l o e : Expr} {es : List Expr} {ta tb tl : TE} {t : TA} {pos : Pos}
theorem kx_T (h : X.K = K := by rfl) : IxR X (rIxT K) := h ▸ ix_tup
theorem kx_L (h : X.K = K := by rfl) : IxR X (rIxL K) := h ▸ ix_list
theorem k_in (h : X.K = K := by rfl) : OpR X (compareOp .In) (rIn K false) := h ▸ op_in_seq
theorem k_nin (h : X.K = K := by rfl) : OpR X (compareOp .NotIn) (rIn K true) := h ▸ op_notIn_seq
theorem k_eqD (hu : X.A.units + 64 < cLine) (h : X.K = K := by rfl) : OpR X (compareOp .Eq) (rEqD K) := h ▸ op_eqD hu
theorem k_neD (hu : X.A.units + 64 < cLine) (h : X.K = K := by rfl) : OpR X (compareOp .NotEq) (rNeD K) := h ▸ op_neD hu
theorem k_geD (hu : X.A.units + 64 < cLine) (h : X.K = K := by rfl) : OpR X (compareOp .GtE) (rGeD K) := h ▸ op_geD hu
theorem k_inD (hu : X.A.units + 65 < cLine) (h : X.K = K := by rfl) : OpR X (compareOp .In) (rInD K) := h ▸ op_inD hu
theorem k_ninD (hu : X.A.units + 65 < cLine) (h : X.K = K := by rfl) : OpR X (compareOp .NotIn) (rNotInD K) := h ▸ op_notInD hu
theorem k_len (h : X.K = K := by rfl) : CallR X (.builtin "len") (rLn K) := h ▸ call_len_seq
theorem k_tuple (h : X.K = K := by rfl) : CallR X (.type "tuple") (rTp K) := h ▸ call_tuple_of
theorem k_list (h : X.K = K := by rfl) : CallR X (.type "list") (rLi K) := h ▸ call_list_of
theorem k_all (hc : X.calm = true) (h : X.K = K := by rfl) : CallR X (.builtin "all") (rAll K) := h ▸ cr_all hc
theorem k_any (hc : X.calm = true) (h : X.K = K := by rfl) : CallR X (.builtin "any") (rAny K) := h ▸ cr_any hc
theorem k_isi (h : X.K = K := by rfl) : CallR X (.builtin "isinstance") (rIsi K) := h ▸ call_isi
theorem k_isiT (h : X.K = K := by rfl) : CallR X (.builtin "isinstance") (rIsiT K) := h ▸ call_isiT
theorem k_sl (h : X.K = K := by rfl) : SlR X (rSlL K) := h ▸ sl_list
theorem k_pl (hl : PE X l tl) (h : X.K = K := by rfl) : PI X tg l (iList K tl) := h ▸ pi_list hl
theorem k_pt (hl : PE X l tl) (h : X.K = K := by rfl) : PI X tg l (iTup K tl) := h ▸ pi_tup hl
end
/-- a datum's type -/
def tyN : PyData → String
  | .none => "NoneType"
  | .bool _ => "bool"
  | .int _ => "int"
  | .str _ => "str"
  | .list _ => "list"
  | .tuple _ => "tuple"
  | .dict _ => "dict"
section
variable {K : PySem.W.Frag} {ρ : List Ent} {ta tb tc te : TE} {d e : PyData} {i : Nat}
theorem Dt.ty {H : Hp} {v : V} (h : Dt H v d) : TyX K H v (.type (tyN d)) := by
  cases h with
  | non => exact .base .non
  | bl b => exact .base (.bl b)
  | int i => exact .base (.int i)
  | str x => exact .base (.str x)
  | lst h1 h2 => exact .base (.lst h1)
  | tup h1 h2 => exact .base (.tup h1)
theorem is_isi {T : String} {r : Bool} (ha : Is ta ρ d) (hk : kitB (tyN d) T = some r) : Is (tCB (rIsi K) (tCons ta (tCons (tC (.ty T)) tNil))) ρ (.bool r) := fun σ G H E Q q =>
  ha σ G H E _ fun v d' G' H' hd n hv => by
    subst hd
    exact ⟨v, .ty T, .type (tyN d'), .type T, r, rfl, .ty T, (hv.up n.w.v).ty, kit_ty hk, q _ _ G' H' rfl n (.bl _)⟩
theorem is_isiT {T U : String} {r s : Bool} (ha : Is ta ρ d) (hk : kitB (tyN d) T = some r) (hk2 : kitB (tyN d) U = some s) : Is (tCB (rIsiT K) (tCons ta (tCons (tTup (tCons (tC (.ty T)) (tCons (tC (.ty U)) tNil))) tNil))) ρ (.bool (r || s)) := fun σ G H E Q q =>
  ha σ G H E _ fun v d' G' H' hd n hv => by
    subst hd
    refine ⟨by show 2 ≤ sizeLine; decide, fun p hp => ?_⟩
    have m := Nx.newH (o := .tup [.ty T, .ty U]) n.e hp
    refine ⟨v, p, [.ty T, .ty U], .type (tyN d'), [.type T, .type U], r || s, rfl, upd_same, .cons (.ty T) (.cons (.ty U) .nil), ((hv.up n.w.v).up (Ex.new hp)).ty, ?_, q _ _ _ _ rfl (n.trans m) (.bl _)⟩
    refine kitAny_cons (kit_ty hk) (fun e => ?_) (fun e => by rw [e]; rfl)
    refine kitAny_cons (kit_ty hk2) (fun e2 => ?_) (fun e2 => by rw [e, e2]; rfl)
    rw [e, e2]
    exact kitAny_nil
theorem is_geD (ha : Is ta ρ d) (hb : Is tb ρ e) (al : PySem.W.alike d e = true) (hn : d ≠ .none) (hz : d.depth ≤ 32) : Is (tOp (rGeD K) ta tb) ρ (.bool (!PySem.W.dataLt d e)) :=
  is_op ha hb (fun H x y Q hx hy q => ⟨d, e, hx.dp, hy.dp, al, hn, hz, q _ (.bl _)⟩) (fun _ z => by cases z) fun _ z => by cases z
end
/-! ### data of ints -/
/-- a tuple of ints -/
abbrev tI (ns : List Int) : PyData := .tuple (ns.map .int)
theorem depthAll_ints : ∀ ns : List Int, PyData.depthAll (ns.map .int) = 0
  | [] => by simp [PyData.depthAll]
  | n :: ns => by simp only [List.map_cons, PyData.depthAll, PyData.depth, depthAll_ints ns]; rfl
theorem layAll_ints : ∀ ns : List Int, PyData.canLayAll0 (ns.map .int) = true
  | [] => by simp [PyData.canLayAll0]
  | n :: ns => by simp [PyData.canLayAll0, PyData.canLay0, layAll_ints ns]
theorem shaped_of {d : PyData} (h1 : d.canLay0 = true) (h2 : d.depth ≤ 64) : SeqAt.shaped d = true := by
  show (d.canLay0 && decide (d.depth ≤ 64)) = true
  rw [h1, decide_eq_true h2]; rfl
theorem shaped_int (i : Int) : SeqAt.shaped (.int i) = true := shaped_of (by simp [PyData.canLay0]) (by simp [PyData.depth])
theorem shaped_tI (ns : List Int) : SeqAt.shaped (tI ns) = true := shaped_of (by simp [PyData.canLay0, layAll_ints]) (by simp [PyData.depth, depthAll_ints])
theorem shaped_lI (ns : List Int) : SeqAt.shaped (.list (ns.map .int)) = true := shaped_of (by simp [PyData.canLay0, layAll_ints]) (by simp [PyData.depth, depthAll_ints])
theorem shaped_nil : SeqAt.shaped (.list []) = true := shaped_lI []
theorem eqvAll_ints : ∀ ns ms : List Int, PyData.eqvAll (ns.map .int) (ms.map .int) = decide (ns = ms)
  | [], [] => by simp [PyData.eqvAll]
  | [], m :: ms => by simp [PyData.eqvAll]
  | n :: ns, [] => by simp [PyData.eqvAll]
  | n :: ns, m :: ms => by
    simp only [List.map_cons, PyData.eqvAll, PyData.eqv, eqvAll_ints ns ms]
    by_cases h : n = m
    · subst h; simp
    · simp [h]
theorem eqv_tI (ns ms : List Int) : PyData.eqv (tI ns) (tI ms) = decide (ns = ms) := by
  show PyData.eqv (.tuple (ns.map .int)) (.tuple (ms.map .int)) = _
  rw [PyData.eqv, eqvAll_ints]
theorem eqv_nil (ds : List PyData) : PyData.eqv (.list ds) (.list []) = ds.isEmpty := by
  cases ds <;> simp [PyData.eqv, PyData.eqvAll]
end W36
end
section
set_option Elab.async false
set_option linter.all false
set_option maxRecDepth 100000
set_option maxHeartbeats 4000000
/-! Tasks, stands, days as plain data, and what holds of those that the law makes. -/
namespace W36
open PySem L2 Evl
theorem nt {b : Bool} (h : (!b) = true) : b = false := by cases b <;> simp_all
theorem nf {b : Bool} (h : (!b) = false) : b = true := by cases b <;> simp_all
structure Tk where
  nums : List Int
  hands : Int
  off : List Int
  long : List Int
  tied : List (Int × Int)
structure Sd where
  phase : Int
  waits : List Int
  busy : List Int
  last : List Int
  deriving DecidableEq
abbrev dPr (p : Int × Int) : PyData := .tuple [.int p.1, .int p.2]
abbrev dT (t : Tk) : PyData := .tuple [tI t.nums, .int t.hands, tI t.off, tI t.long, .tuple (t.tied.map dPr)]
abbrev dS (s : Sd) : PyData := .tuple [.int s.phase, tI s.waits, tI s.busy, tI s.last]
def rising : List Int → Int → Int → Bool
  | [], _, _ => true
  | n :: ns, lo, hi => (decide (lo ≤ n) && decide (n ≤ hi)) && rising ns (n + 1) hi
def prod : List Int → Int
  | [] => 1
  | n :: ns => n * prod ns
def manyBusy (m h : Int) : Int := if h = 1 then 1 + m else 1 + m + m * (m - 1) / 2
def roomI (t : Tk) : Int := t.off.length * manyBusy t.long.length t.hands * prod t.nums
structure NumsOk (ns : List Int) : Prop where
  len : ns.length ≤ 8
  mem : ∀ n ∈ ns, 1 ≤ n ∧ n ≤ 40
  pr : prod ns ≤ 300
structure TaskOk (t : Tk) : Prop where
  nums : NumsOk t.nums
  hands : t.hands = 1 ∨ t.hands = 2
  offl : 1 ≤ t.off.length ∧ t.off.length ≤ 7
  off : ∀ o ∈ t.off, o = 0 ∨ o = 1
  long : rising t.long 0 ((t.nums.length : Int) - 1) = true
  tied : ∀ p ∈ t.tied, 0 ≤ p.1 ∧ p.1 < p.2 ∧ p.2 ≤ (t.nums.length : Int) - 1
  srt : t.tied.Pairwise fun p q => p.1 < q.1 ∨ (p.1 = q.1 ∧ p.2 < q.2)
  tl : t.tied.length ≤ 100
  room : roomI t ≤ 300
theorem prod_app : ∀ (a b : List Int), prod (a ++ b) = prod a * prod b
  | [], b => by simp [prod]
  | x :: a, b => by rw [List.cons_append, prod, prod, prod_app a b, Int.mul_assoc]
theorem prod_pos : ∀ {ns : List Int}, (∀ n ∈ ns, 1 ≤ n ∧ n ≤ 40) → 1 ≤ prod ns
  | [], _ => by simp [prod]
  | n :: ns, h => by
    have h1 := (h n List.mem_cons_self).1
    have h2 := prod_pos fun m hm => h m (List.mem_cons_of_mem _ hm)
    rw [prod]
    have := Int.mul_le_mul h1 h2 (by omega) (by omega)
    omega
theorem prod_take {ns : List Int} (h : ∀ n ∈ ns, 1 ≤ n ∧ n ≤ 40) (i : Nat) : 1 ≤ prod (ns.take i) ∧ prod (ns.take i) ≤ prod ns := by
  have h1 := prod_pos (ns := ns.take i) fun n hn => h n (List.mem_of_mem_take hn)
  have h2 := prod_pos (ns := ns.drop i) fun n hn => h n (List.mem_of_mem_drop hn)
  have e : prod ns = prod (ns.take i) * prod (ns.drop i) := by rw [← prod_app, List.take_append_drop]
  refine ⟨h1, ?_⟩
  rw [e]
  have := Int.mul_le_mul (Int.le_refl (prod (ns.take i))) h2 (by omega) (by omega)
  omega
theorem prod_succ {ns : List Int} {i : Nat} {x : Int} (h : ns[i]? = some x) : prod (ns.take (i + 1)) = prod (ns.take i) * x := by
  rw [take_succ_of h, prod_app]; simp [prod]
theorem drop_at {α : Type} {xs : List α} {i : Nat} {x : α} (h : xs[i]? = some x) : xs.drop i = x :: xs.drop (i + 1) := by
  obtain ⟨h1, h2⟩ := List.getElem?_eq_some_iff.mp h
  rw [List.drop_eq_getElem_cons h1, h2]
theorem rising_mem : ∀ {ns : List Int} {a b : Int}, rising ns a b = true → ∀ n ∈ ns, a ≤ n ∧ n ≤ b
  | [], _, _, _, _, hn => by simp at hn
  | x :: ns, a, b, h, n, hn => by
    simp only [rising, Bool.and_eq_true, decide_eq_true_eq] at h
    rcases List.mem_cons.mp hn with rfl | hn
    · exact h.1
    · have := rising_mem h.2 n hn
      omega
theorem rising_pair : ∀ {ns : List Int} {a b : Int}, rising ns a b = true → ns.Pairwise (· < ·)
  | [], _, _, _ => List.Pairwise.nil
  | x :: ns, a, b, h => by
    simp only [rising, Bool.and_eq_true, decide_eq_true_eq] at h
    refine List.Pairwise.cons (fun n hn => ?_) (rising_pair h.2)
    have := rising_mem h.2 n hn
    omega
theorem rising_of : ∀ {ns : List Int} {a b : Int}, ns.Pairwise (· < ·) → (∀ n ∈ ns, a ≤ n ∧ n ≤ b) → rising ns a b = true
  | [], _, _, _, _ => rfl
  | x :: ns, a, b, h, k => by
    have k1 := k x List.mem_cons_self
    simp only [rising, Bool.and_eq_true, decide_eq_true_eq]
    cases h with
    | cons h1 h2 => exact ⟨k1, rising_of h2 fun n hn => ⟨by have := h1 n hn; omega, (k n (List.mem_cons_of_mem _ hn)).2⟩⟩
theorem rising_nodup {ns : List Int} {a b : Int} (h : rising ns a b = true) : ns.Nodup := (rising_pair h).imp fun q => by omega
theorem TaskOk.longl {t : Tk} (T : TaskOk t) : t.long.length ≤ t.nums.length := by
  have key : ∀ (ns : List Int) (a : Int), rising ns a ((t.nums.length : Int) - 1) = true → (ns.length : Int) + a ≤ t.nums.length ∨ ns = [] := by
    intro ns
    induction ns with
    | nil => intro a _; exact .inr rfl
    | cons x ns ih =>
      intro a h
      simp only [rising, Bool.and_eq_true, decide_eq_true_eq] at h
      rcases ih _ h.2 with q | q
      · left; simp only [List.length_cons]; omega
      · left; subst q; simp; omega
  rcases key _ _ T.long with q | q
  · omega
  · rw [q]; simp
section
variable {K : PySem.W.Frag} {ρ : List Ent} {ta tb : TE} {ds : List PyData}
theorem is_eqNil (h : IsL ta ρ ds) (sd : SeqAt.shaped (.list ds) = true) : Is (tOp (rEqD K) ta (tLst tNil)) ρ (.bool ds.isEmpty) := (is_eqL h (is_new (isN_lst isA_nil)) sd shaped_nil).to (by rw [eqv_nil])
theorem is_neNil (h : IsL ta ρ ds) (sd : SeqAt.shaped (.list ds) = true) : Is (tOp (rNeD K) ta (tLst tNil)) ρ (.bool (!ds.isEmpty)) := (is_neL h (is_new (isN_lst isA_nil)) sd shaped_nil).to (by rw [eqv_nil])
theorem is_eqNilI {ns : List Int} (h : IsL ta ρ (ns.map .int)) : Is (tOp (rEqD K) ta (tLst tNil)) ρ (.bool ns.isEmpty) := (is_eqNil h (shaped_lI ns)).to (by cases ns <;> rfl)
theorem is_neNilI {ns : List Int} (h : IsL ta ρ (ns.map .int)) : Is (tOp (rNeD K) ta (tLst tNil)) ρ (.bool (!ns.isEmpty)) := (is_neNil h (shaped_lI ns)).to (by cases ns <;> rfl)
end
section
variable {ρ : List Ent} {ta tb : TE}
/-- an operator over what is known of two ints by a word -/
theorem isP_op2 {r : R2} {P1 P2 P : PyData → Prop} (ha : IsP ta ρ P1) (hb : IsP tb ρ P2)
    (hr : ∀ (H : Hp) (x y : V) (d e : PyData) (Q : VK), P1 d → P2 e → Dt H x d → Dt H y e → (∀ v z, P z → Dt (fun _ => none) v z → Q v H) → r x y H Q) : IsP (tOp r ta tb) ρ P := fun σ G H E Q q =>
  ha σ G H E _ fun x d G1 H1 hd n1 hx => hb σ G1 H1 n1.e _ fun y e G2 H2 he n2 hy =>
    hr H2 x y d e Q hd he ((hx.up n2.w.g).up n2.w.v) (hy.up n2.w.v) fun v z hz hv => q v z G2 H2 hz (n1.trans n2) (hv.up fun _ _ h => by cases h)
end
theorem depth_tI (ns : List Int) : (tI ns).depth = 1 := by simp [PyData.depth, depthAll_ints]
theorem depthAll_tIs : ∀ xs : List (List Int), PyData.depthAll (xs.map tI) ≤ 1
  | [] => by simp [PyData.depthAll]
  | n :: ns => by
    have := depthAll_tIs ns
    have := depth_tI n
    simp only [List.map_cons, PyData.depthAll]; omega
theorem layAll_tIs : ∀ xs : List (List Int), PyData.canLayAll0 (xs.map tI) = true
  | [] => by simp [PyData.canLayAll0]
  | n :: ns => by simp [PyData.canLayAll0, PyData.canLay0, layAll_ints, layAll_tIs ns]
theorem shaped_lT (xs : List (List Int)) : SeqAt.shaped (.list (xs.map tI)) = true := shaped_of (by simp [PyData.canLay0, layAll_tIs]) (by have := depthAll_tIs xs; simp only [PyData.depth]; omega)
theorem lay_dS (s : Sd) : (dS s).canLay0 = true := by simp [PyData.canLay0, PyData.canLayAll0, layAll_ints]
theorem depth_dS (s : Sd) : (dS s).depth = 2 := by simp [PyData.depth, PyData.depthAll, depthAll_ints]
theorem shaped_dS (s : Sd) : SeqAt.shaped (dS s) = true := shaped_of (lay_dS s) (by rw [depth_dS]; omega)
theorem layAll_dS : ∀ xs : List Sd, PyData.canLayAll0 (xs.map dS) = true
  | [] => by simp [PyData.canLayAll0]
  | n :: ns => by
    have h1 := lay_dS n
    have h2 := layAll_dS ns
    simp only [List.map_cons, PyData.canLayAll0, Bool.and_eq_true]; exact ⟨h1, h2⟩
theorem depthAll_dS : ∀ xs : List Sd, PyData.depthAll (xs.map dS) ≤ 2
  | [] => by simp [PyData.depthAll]
  | n :: ns => by
    have := depthAll_dS ns
    have := depth_dS n
    simp only [List.map_cons, PyData.depthAll]; omega
theorem shaped_lS (xs : List Sd) : SeqAt.shaped (.list (xs.map dS)) = true := shaped_of (by simp only [PyData.canLay0]; exact layAll_dS xs) (by have := depthAll_dS xs; simp only [PyData.depth]; omega)
theorem eqv_dS (s t : Sd) : PyData.eqv (dS s) (dS t) = decide (s = t) := by
  obtain ⟨a, b, c, d⟩ := s
  obtain ⟨a', b', c', d'⟩ := t
  have e : PyData.eqv (dS ⟨a, b, c, d⟩) (dS ⟨a', b', c', d'⟩) = ((a == a') && ((PyData.eqv (tI b) (tI b')) && ((PyData.eqv (tI c) (tI c')) && ((PyData.eqv (tI d) (tI d')) && true)))) := by simp only [PyData.eqv, PyData.eqvAll]
  rw [e, eqv_tI, eqv_tI, eqv_tI]
  by_cases h : (⟨a, b, c, d⟩ : Sd) = ⟨a', b', c', d'⟩
  · cases h; simp
  · rw [decide_eq_false h]
    by_cases h1 : a = a' <;> by_cases h2 : b = b' <;> by_cases h3 : c = c' <;> by_cases h4 : d = d' <;> simp_all
end W36
end
section
set_option Elab.async false
set_option linter.all false
set_option maxRecDepth 100000
set_option maxHeartbeats 4000000
/-! enumerate of a tuple. -/
namespace PySem
open Sem (wp)
open AutoSeq1 (wpAny_loadPart')
theorem meets_enumerate_newT (l : Addr) (items : Array Value) (n : Nat) (dct : Option Addr) (sl : Array (Option Value)) :
    Meets (Builtin.«enumerate.__new__» ⟨[.type "enumerate", .ref l], []⟩) (fun _ R s => s.heap.get? l = some { cls := .type "tuple", dict := dct, data := .seq items n, slots := sl } ∧
      R (.ok (.ret (.ref (s.heap.push { cls := .type "tuple_iterator", data := .fields #[.ref l, .int 0 0] }).objs.size)))
        { s with heap := (s.heap.push { cls := .type "tuple_iterator", data := .fields #[.ref l, .int 0 0] }).push { cls := .type "enumerate", data := .fields #[.none, .bool false, .ref s.heap.objs.size, rawInt 0, .none, .none] } }) :=
  .of_wp fun prog w A R s h => by
    obtain ⟨hp, g, d, tk, os⟩ := s; obtain ⟨hl, h⟩ := h
    have hsub := sub_enumerate
    have hL : Heap.IsTuple (Shared.heap ⟨hp, g, d, tk, os⟩) l items := ⟨_, hl, rfl, n, rfl⟩
    wp_walk using wpAny_loadPart' hl
    refine wpAny_stack_any fun st => wpAny_pure ?_
    split
    · rename_i c _ _ _ _ _
      cases (c == Value.type "enumerate")
      · wp_walk using wpAny_loadPart' hl, wpAny_pyIter_tuple hL
        exact ⟨_, rfl, h⟩
      · wp_walk using wpAny_loadPart' hl, wpAny_pyIter_tuple hL
        exact ⟨_, rfl, h⟩
    · wp_walk using wpAny_loadPart' hl, wpAny_pyIter_tuple hL
      exact ⟨_, rfl, h⟩
section
variable {prog : Program} {w : World} {A : Around} {E : Value → Shared → Prop} {s : Shared}
theorem call_enumerate_tuple {l : Addr} {items : Array Value} {Q : Value → Shared → Prop} (hL : s.heap.IsTuple l items)
    (h : ∀ h', IsEnum h' (s.heap.objs.size + 1) s.heap.objs.size 0 .none → h'.IsTupleIter s.heap.objs.size l 0 → h'.objs.size = s.heap.objs.size + 2 →
      (∀ b o, s.heap.get? b = some o → h'.get? b = some o) → Q (.ref (s.heap.objs.size + 1)) { s with heap := h' }) :
    wpAny (model prog w) A (call (.type "enumerate") [.ref l]) Q E s := by
  obtain ⟨⟨c, dct, dt, sl⟩, hl, hc, n, hd⟩ := hL
  replace hc : c = .type "tuple" := hc
  replace hd : dt = .seq items n := hd
  subst hc hd
  refine callType_new F.called_enumerate (by decide) (F.typeCall_enumerate_1 _) (F.newCall_enumerate_1 _) (fun obj => F.args_object_init_2 obj _) F.entry_enumerate_new
    (meets_enumerate_newT l items n dct sl) ⟨hl, ?_⟩
  have hz : (s.heap.push { cls := .type "tuple_iterator", data := .fields #[.ref l, .int 0 0] }).objs.size = s.heap.objs.size + 1 := Heap.size_push ..
  show _ ∧ _
  rw [hz]
  have he : IsEnum ((s.heap.push { cls := .type "tuple_iterator", data := .fields #[.ref l, .int 0 0] }).push
      { cls := .type "enumerate", data := .fields #[.none, .bool false, .ref s.heap.objs.size, rawInt 0, .none, .none] }) (s.heap.objs.size + 1) s.heap.objs.size 0 .none := by
    have := Heap.get?_push_size (s.heap.push { cls := .type "tuple_iterator", data := .fields #[.ref l, .int 0 0] })
      (o := { cls := .type "enumerate", data := .fields #[.none, .bool false, .ref s.heap.objs.size, rawInt 0, .none, .none] }) rfl
    rw [hz] at this; exact this
  refine ⟨⟨_, he, rfl⟩, h _ he ⟨_, Heap.get?_push_of_some _ (Heap.get?_push_size _ rfl), rfl, rfl⟩ (by rw [Heap.size_push, hz]) fun b o x => Heap.get?_push_of_some _ (Heap.get?_push_of_some _ x)⟩
end
end PySem
namespace W36
open PySem PySem.Spec PyProof.Rows L2 Evl
/-- the tuple at a at each turn, each item in a new pair -/
def IteT (K : PySem.W.Frag) (a : Addr) : It :=
  ⟨fun i H => ∃ (xs : List V) (x : V), SqT K H a xs ∧ xs[i]? = some x, fun i H v H' => ∃ T x, v = .ref T ∧ H T = none ∧ H' = upd H T (.tup [.int (i : Nat), x]) ∧ ∀ xs, SqT K H a xs → xs[i]? = some x, fun i H => ∃ xs : List V, SqT K H a xs ∧ xs.length ≤ i⟩
theorem turn_enumT {P : Program} {w : World} {K : PySem.W.Frag} {elts : List Expr} {kk : Nat} {tpos : Pos} (a e it : Addr) :
    Turn P w K (.Tuple elts kk tpos) (IteT K a) [e, it] e (fun i h => (∃ old, IsEnum h e it ((i : Nat) : Int) old) ∧ h.IsTupleIter it a i ∧ e ≠ it) where
  mem := by simp
  obj := fun i h st b hb => by
    obtain ⟨⟨old, he⟩, ⟨o, ho, hc, hd⟩, _⟩ := st
    have e' : b = e ∨ b = it := by simpa using hb
    rcases e' with z | z
    · rw [z]; exact ⟨_, he, fun v q => nomatch q⟩
    · rw [z]; exact ⟨o, ho, fun v q => by rw [hd] at q; cases q⟩
  keep := fun i h h' st k => let ⟨⟨old, he⟩, hi, hne⟩ := st; ⟨⟨old, k e (by simp) _ he⟩, hi.at fun o q => k it (by simp) o q, hne⟩
  item := by
    intro X hP hw hK hc i pins s σ H E I hf st hg
    subst hP hw hK
    obtain ⟨⟨old, he⟩, hit, hne⟩ := st
    obtain ⟨xs, x, hq, hx⟩ := hg
    obtain ⟨its, rv, p, hz⟩ := I.tuple hq
    obtain ⟨u, hu, ru⟩ := rv.get hx
    have hel : e < s.heap.objs.size := Heap.lt_size he
    have hil : it < s.heap.objs.size := by obtain ⟨_, q, _⟩ := hit; exact Heap.lt_size q
    have hai : a ≠ it := by
      intro z
      obtain ⟨o, ho, _, n, hd⟩ := id p
      obtain ⟨o', ho', _, hd'⟩ := id hit
      rw [z, ho'] at ho
      cases ho
      rw [hd'] at hd
      cases hd
    have hae : e ≠ a := by
      intro z
      obtain ⟨o, ho, hcl, n, hd⟩ := id p
      have he' : s.heap.get? e = some _ := he
      rw [z, ho] at he'
      cases he'
      cases hd
    have D := Draws.tuple (prog := X.prog) (w := X.w) (A := X.A.in1) (show X.A.in1.handled = none from I.ok.hd hc) it a hai its.toArray
    have hlt : i < its.toArray.size := by
      have := (List.getElem?_eq_some_iff.mp hu).1
      simpa using this
    refine wpAny_pyNext_enum_itemD D he ⟨hit, p⟩ hlt hne (by simp [hne, hae]) fun x' h' tk hP ho hs' hT hsz hk => ?_
    have ex : x' = u := by
      have h1 : its.toArray[i]? = some x' := hP
      have h2 : its.toArray[i]? = some u := by simpa using hu
      rw [h1] at h2
      exact Option.some.inj h2
    subst ex
    refine ⟨_, rfl, wpAny_letOwnedTupleGo_enum (s := { s with heap := h', toks := tk + 1 }) ho fun h'' he' sb => ?_⟩
    have hT2 : h''.get? s.heap.objs.size = some { cls := .type "tuple", data := .seq #[.int i tk, x'] } := (sb.2 _ (Nat.ne_of_gt hel)).trans hT
    have new : ObjOk X.prog X.w (upd H s.heap.objs.size (.tup [.int (i : Nat), x])) h'' s.heap.objs.size (.tup [.int (i : Nat), x]) :=
      ⟨by show 2 ≤ sizeLine; decide, [.int i tk, x'], .cons ⟨_, rfl⟩ (.cons ru .nil), ⟨_, hT2, rfl, _, rfl⟩⟩
    have I1 : Inv X pins σ (upd H s.heap.objs.size (.tup [.int (i : Nat), x])) { s with heap := h'', toks := tk + 1 } :=
      I.turnedNew (ch := [e, it]) (fun b ob hb q => (sb.2 b (fun z => hb (by simp [z]))).trans (hk b ob (fun z => hb (by simp [z])) (fun z => hb (by simp [z])) q)) hf (Nat.le_refl _) new
    refine ⟨.ref s.heap.objs.size, _, I1, rfl, ⟨_, x, rfl, I.hok.fresh (Nat.le_refl _), rfl, fun ys hy => by rw [I.tuple_inj hy hq]; exact hx⟩, ⟨⟨x', ?_⟩, hs'.1.at fun o q => (sb.2 it (Ne.symm hne)).trans q, hne⟩, fun b hb => ?_⟩
    · have e1 : ((i + 1 : Nat) : Int) = (i : Int) + 1 := by omega
      rw [e1]; exact he'
    · have hb' : b < s.heap.objs.size := by
        have e' : b = e ∨ b = it := by simpa using hb
        rcases e' with z | z
        · rw [z]; exact hel
        · rw [z]; exact hil
      rw [upd_ne (Nat.ne_of_lt hb')]
      exact (hf b hb).1
  done := by
    intro X hP hw hK hc i pins s σ H E I hf st hg
    subst hP hw hK
    obtain ⟨⟨old, he⟩, hit, hne⟩ := st
    obtain ⟨xs, hq, hx⟩ := hg
    obtain ⟨its, rv, p, hz⟩ := I.tuple hq
    obtain ⟨f0, f1, f2, f3, f4, f5⟩ := hf it (by simp)
    have hl := rv.length
    have hT : s.TypeIs (.ref e) "enumerate" := ⟨_, he, rfl⟩
    unfold pyNext
    refine wpAny_bind (wpAny_attempt (wpAny_callSpecial?_slot (name := Str.ofString "__next__") hT F.slot_enumerate_next
      (wpAny_call_entry F.slot_enumerate_next hT F.entry_enumerate_next ?_ (F.args_enumerate_next_1 _))))
    show wpAny _ _ (field (.ref e) 2 >>= _) _ _ _
    refine wpAny_bind (wpAny_field he rfl (x := .ref it) rfl ?_)
    refine wpAny_bind (wpAny_nextOf_tuple_end (show X.A.in1.handled = none from I.ok.hd hc) hit p (by simp; omega) fun h' x he' hx' => ?_)
    obtain ⟨o, ho, hc⟩ := hx'
    refine wpAny_bind (wpAny_isInstance (T := "StopIteration") (b := true) ⟨o, ho, hc⟩ isSubtype_stop ?_)
    exact wpAny_pure ⟨rfl, I.turned (t' := s.toks) (fun b o hb q => he' b o hb q) f0 f1 f3 f4 f5⟩
  self := fun A i s Q E st h => let ⟨⟨_, he⟩, _⟩ := st; wpAny_pyIter_enum he h
def iEnumT (K : PySem.W.Frag) (ta : TA) : TI := fun σ H R => ta σ H fun vs H1 => ∃ a xs, vs = [.ref a] ∧ SqT K H1 a xs ∧ R (IteT K a) H1
theorem pi_enumT0 {X : Cx} {e : Expr} {ta : TA} {p pos tpos : Pos} {elts : List Expr} {kk : Nat} (hg : Gl X "enumerate") (hm : X.mg "enumerate" = none) (ha : PA X [e] ta) (hs : starEach [e] X.env = [(false, eval e X.env)] := by rfl) :
    PI X (.Tuple elts kk tpos) (.Call (.Name "enumerate" p) [e] [] pos) (iEnumT X.K ta) := by
  refine ⟨fun pins s σ H R I h => ?_⟩
  refine Call_ (ld_blt I hg hm boot_enumerate (PyProof.Rows.callWith_type1 (thn (ha.run pos pins s σ H _ I h) fun us s1 ⟨vs, H1, I1, r1, q1⟩ => ?_) hs rfl))
  obtain ⟨a, xs, ex, hq, q⟩ := q1
  subst ex
  cases r1 with
  | cons r rr =>
    cases rr
    cases r
    obtain ⟨its, rv, p', hz⟩ := I1.tuple hq
    refine call_enumerate_tuple p' fun h' he hit hsz hk => wpAny_pyIter_enum he ?_
    have I2 : Inv X pins σ H1 { s1 with heap := h' } := I1.kept (t' := s1.toks) hk
    refine ⟨s1.heap.objs.size + 1, [s1.heap.objs.size + 1, s1.heap.objs.size], _, _, H1, rfl, I2, turn_enumT a (s1.heap.objs.size + 1) s1.heap.objs.size, ⟨⟨.none, he⟩, hit, Nat.succ_ne_self _⟩, fun b hb => ?_, q⟩
    have e' : b = s1.heap.objs.size + 1 ∨ b = s1.heap.objs.size := by simpa using hb
    have hle : s1.heap.objs.size ≤ b := by
      rcases e' with z | z
      · rw [z]; exact Nat.le_add_right _ _
      · rw [z]; exact Nat.le_refl _
    exact I1.fpOk hle (I1.hok.fresh hle)
theorem k_enum (K : PySem.W.Frag) {X : Cx} {e : Expr} {ta : TA} {p pos tpos : Pos} {elts : List Expr} {kk : Nat} (hg : Gl X "enumerate") (hm : X.mg "enumerate" = none) (ha : PA X [e] ta) (h : X.K = K := by rfl) (hs : starEach [e] X.env = [(false, eval e X.env)] := by rfl) :
    PI X (.Tuple elts kk tpos) (.Call (.Name "enumerate" p) [e] [] pos) (iEnumT K ta) := h ▸ pi_enumT0 hg hm ha hs
section
variable {σ : L2.St} {ρ : List Ent} {G H : Hp} {tl : TE} {tb : TS} {P : Out → Prop} {i j : Nat} {K : PySem.W.Frag}
/-- for i, x in enumerate(a tuple) -/
theorem do_enum {α : Type} {xs : List α} {enc : α → PyData} {I : Nat → List Ent → Prop} (hs : Is tl ρ (.tuple (xs.map enc))) (h0 : ∃ ρ0, I 0 ρ0 ∧ Le ρ0 ρ)
    (ht : ∀ k x ρ1, xs[k]? = some x → I k ρ1 → Do tb ((ρ1.set i (.dat (.int (k : Int)))).set j (.dat (enc x))) (Lp P (I (k + 1)))) (hd : ∀ ρ1, I xs.length ρ1 → P (.nx ρ1)) :
    Do (tFor (iEnumT K (tCons tl tNil)) (gTup K 2 (gCons (gName i) (gCons (gName j) gNil))) tb) ρ P := fun D σ G H E q => hs σ G H E _ fun v d G1 H1 hd' n hv => by
  subst hd'
  cases hv with
  | @tup a vs _ g1 g2 =>
    obtain ⟨ρ0, i0, l0⟩ := h0
    have n' : Sx σ ρ G H σ ρ G1 H1 := Sx.of n
    have gl := g2.length
    rw [List.length_map] at gl
    have vis : ∀ {G' H' σ' ρ'}, Sx σ ρ G1 H1 σ' ρ' G' H' → H' a = some (.tup vs) := fun s => s.w.v _ _ (s.w.g _ _ g1)
    refine ⟨a, vs, rfl, st_of (n.w.v _ _ g1), fun k m σ' H' => m = xs.length - k ∧ k ≤ xs.length ∧ Wd σ ρ G1 H1 (I k) σ' H', ⟨xs.length, by simp, Nat.zero_le _, ρ0, G1, i0, (Sx.of (Nx.refl n.e)).le l0⟩, ?_⟩
    rintro k m σ' H' ⟨rfl, hk, ρ1, G', i1, s⟩
    by_cases hlt : k < xs.length
    · refine .inr ⟨⟨vs, vs[k], st_of (vis s), List.getElem?_eq_getElem (by omega)⟩, fun σ2 H2 => Wd σ ρ G1 H1 (I (k + 1)) σ2 H2, fun σ2 H2 w => ⟨xs.length - (k + 1), by omega, rfl, hlt, w⟩, ?_⟩
      rintro x H2 ⟨T, y, rfl, hT, rfl, hy⟩
      have hxk := hy vs (st_of (vis s))
      obtain ⟨d, hdk, dx⟩ := g2.back hxk
      obtain ⟨z, hz, _, rfl⟩ := map_get hdk
      have m1 : Nx σ' ρ1 G' H' (upd G' T (.tup [.int (k : Nat), y])) (upd H' T (.tup [.int (k : Nat), y])) := Nx.new s.e hT
      have s1 := s.trans (Sx.of m1)
      have dv : Dt (upd G' T (.tup [.int (k : Nat), y])) (.ref T) (.tuple [.int (k : Nat), enc z]) := .tup upd_same (.cons (.int _) (.cons (dx.up (s.w.g.trans m1.w.g)) .nil))
      refine tg_tup (tgs_cons (tgs_cons tgs_nil)) rfl ρ1 σ' _ _ _ m1.e dv _ fun σ2 E2 o2 => ?_
      have s2 : Sx σ ρ G1 H1 σ2 _ (upd G' T (.tup [.int (k : Nat), y])) (upd H' T (.tup [.int (k : Nat), y])) := ⟨s1.w, E2, fun l z => s1.o l (o2 l z)⟩
      exact ht k z ρ1 hz i1 _ σ2 _ _ E2 (lp_post (fun o p => (q o p).after n') s2 fun σ3 H3 w => w)
    · have e : k = xs.length := by omega
      subst e
      exact .inl ⟨⟨vs, st_of (vis s), by omega⟩, q _ (hd ρ1 i1) σ' G' H' (n'.trans s)⟩
end
end W36
end
section
set_option Elab.async false
set_option linter.all false
set_option maxRecDepth 100000
set_option maxHeartbeats 4000000
namespace W36
open PySem L2 Evl
def isRow : PyData → Bool
  | .list _ => true
  | .tuple _ => true
  | _ => false
def isLst : PyData → Bool
  | .list _ => true
  | _ => false
def isTpl : PyData → Bool
  | .tuple _ => true
  | _ => false
theorem kb_list : ∀ d : PyData, kitB (tyN d) "list" = some (isLst d)
  | .none => (by decide +kernel : kitB "NoneType" "list" = some false)
  | .bool _ => (by decide +kernel : kitB "bool" "list" = some false)
  | .int _ => (by decide +kernel : kitB "int" "list" = some false)
  | .str _ => (by decide +kernel : kitB "str" "list" = some false)
  | .list _ => (by decide +kernel : kitB "list" "list" = some true)
  | .tuple _ => (by decide +kernel : kitB "tuple" "list" = some false)
  | .dict _ => (by decide +kernel : kitB "dict" "list" = some false)
theorem kb_tuple : ∀ d : PyData, kitB (tyN d) "tuple" = some (isTpl d)
  | .none => (by decide +kernel : kitB "NoneType" "tuple" = some false)
  | .bool _ => (by decide +kernel : kitB "bool" "tuple" = some false)
  | .int _ => (by decide +kernel : kitB "int" "tuple" = some false)
  | .str _ => (by decide +kernel : kitB "str" "tuple" = some false)
  | .list _ => (by decide +kernel : kitB "list" "tuple" = some false)
  | .tuple _ => (by decide +kernel : kitB "tuple" "tuple" = some true)
  | .dict _ => (by decide +kernel : kitB "dict" "tuple" = some false)
def A_is_row (ds : List PyData) (R : PyData → Prop) : Prop := ∃ d, ds = [d] ∧ R = fun x => x = .bool (isRow d)
def sp_is_row : Sp := spD A_is_row
theorem ln_is_row : ∀ ds R, A_is_row ds R → ds.length = 1 := fun ds R ⟨d, h, _⟩ => by rw [h]; rfl
theorem c_is_row {tx : TA} {ρ : List Ent} {d : PyData} (ha : IsA tx ρ [d]) : Is (tCall sp_is_row [] E0 tx) ρ (.bool (isRow d)) := isP_call ha ⟨d, rfl, rfl⟩
theorem ok_is_row {P : Program} {w : World} {K : PySem.W.Frag} {mg : Str → Option Value} {base : Heap} {f : Addr} {fd : FuncData} (F : FnP K "is_row" "is_row" s_is_row f fd) (md : Md mg) : FnOk P w K mg base CX0 1 f fd ["thing"] sp_is_row := by
  refine FunD.ok F sc_is_row (fun vs H Q E h => len_D (fun ds R hA => ?_) h) (fun cdv A outer s H vs Q E hr h => ?_)
  · exact ln_is_row ds R hA
  · have nd := sc_is_row.nd
    refine ⟨_, PSs.nox (pss_one (ps_ret (pe_callB (k_isiT K) (by rfl) md.isinstance (by decide +kernel) (pa_cons (pv 0) (pa_cons (pe_tup (pa_cons (pe_bltn (v := .ty "list") (by rfl) md.list (by decide +kernel) rfl) (pa_cons (pe_bltn (v := .ty "tuple") (by rfl) md.tuple (by decide +kernel) rfl) pa_nil))) pa_nil))))), run_D h fun ds R hA => ?_⟩
    obtain ⟨d, rfl, rfl⟩ := hA
    refine do_retD (is_isiT (is_var rfl) (kb_list d) (kb_tuple d)) ?_
    cases d <;> rfl
def A_is_whole (ds : List PyData) (R : PyData → Prop) : Prop := ∃ i a b : Int, ds = [.int i, .int a, .int b] ∧ R = fun x => x = .bool (decide (a ≤ i) && decide (i ≤ b))
def sp_is_whole : Sp := spD A_is_whole
theorem ln_is_whole : ∀ ds R, A_is_whole ds R → ds.length = 3 := fun ds R ⟨_, _, _, h, _⟩ => by rw [h]; rfl
theorem c_is_whole {tx : TA} {ρ : List Ent} {i a b : Int} (ha : IsA tx ρ [.int i, .int a, .int b]) : Is (tCall sp_is_whole [] E0 tx) ρ (.bool (decide (a ≤ i) && decide (i ≤ b))) := isP_call ha ⟨i, a, b, rfl, rfl⟩
theorem kb_int_int : kitB "int" "int" = some true := by decide +kernel
theorem kb_int_bool : kitB "int" "bool" = some false := by decide +kernel
theorem ok_is_whole {P : Program} {w : World} {K : PySem.W.Frag} {mg : Str → Option Value} {base : Heap} {f : Addr} {fd : FuncData} (F : FnP K "is_whole" "is_whole" s_is_whole f fd) (md : Md mg) : FnOk P w K mg base CX0 1 f fd ["thing", "least", "most"] sp_is_whole := by
  refine FunD.ok F sc_is_whole (fun vs H Q E h => len_D (fun ds R hA => ?_) h) (fun cdv A outer s H vs Q E hr h => ?_)
  · exact ln_is_whole ds R hA
  · have nd := sc_is_whole.nd
    refine ⟨_, PSs.nox (pss_one (ps_ret (pe_and (pe_callB (k_isi K) (by rfl) md.isinstance (by decide +kernel) (pa_cons (pv 0) (pa_cons (pe_bltn (v := .ty "int") (by rfl) md.int (by decide +kernel) rfl) pa_nil))) (pe_and (pe_not (pe_callB (k_isi K) (by rfl) md.isinstance (by decide +kernel) (pa_cons (pv 0) (pa_cons (pe_bltn (v := .ty "bool") (by rfl) md.bool (by decide +kernel) rfl) pa_nil)))) (pe_one (pe_chain op_le op_le (pv 1) (pv 0) (pv 2))))))), run_D h fun ds R hA => ?_⟩
    obtain ⟨i, a, b, rfl, rfl⟩ := hA
    exact do_retD (is_andV (is_isi (d := .int i) (is_var rfl) kb_int_int) fun _ => is_andV (is_notV (is_isi (d := .int i) (is_var rfl) kb_int_bool)) fun _ => is_chain (is_var rfl) (is_var rfl) (is_var rfl)) rfl
def A_is_rising (ds : List PyData) (R : PyData → Prop) : Prop := ∃ (ns : List Int) (a b : Int), ds = [tI ns, .int a, .int b] ∧ R = fun x => x = .bool (rising ns a b)
def sp_is_rising : Sp := spD A_is_rising
theorem ln_is_rising : ∀ ds R, A_is_rising ds R → ds.length = 3 := fun ds R ⟨_, _, _, h, _⟩ => by rw [h]; rfl
theorem c_is_rising {tx : TA} {ρ : List Ent} {ns : List Int} {a b : Int} (ha : IsA tx ρ [tI ns, .int a, .int b]) : Is (tCall sp_is_rising [] E0 tx) ρ (.bool (rising ns a b)) := isP_call ha ⟨ns, a, b, rfl, rfl⟩
theorem ok_is_rising {P : Program} {w : World} {K : PySem.W.Frag} {mg : Str → Option Value} {base : Heap} {f : Addr} {fd : FuncData} (F : FnP K "is_rising" "is_rising" s_is_rising f fd) (md : Md mg) {f_is_row : Addr} {fd_is_row : FuncData} (h_is_row : Has P w K mg base 1 "is_row" ["thing"] sp_is_row f_is_row fd_is_row) {f_is_whole : Addr} {fd_is_whole : FuncData} (h_is_whole : Has P w K mg base 1 "is_whole" ["thing", "least", "most"] sp_is_whole f_is_whole fd_is_whole) : FnOk P w K mg base CX0 2 f fd ["thing", "least", "most"] sp_is_rising := by
  refine FunD.ok F sc_is_rising (fun vs H Q E h => len_D (fun ds R hA => ?_) h) (fun cdv A outer s H vs Q E hr h => ?_)
  · exact ln_is_rising ds R hA
  · have nd := sc_is_rising.nd
    refine ⟨_, PSs.nox (pss_cons (ps_if (pt_not (pt_val (pe_call h_is_row.ok (hr.mono (by decide)) rfl h_is_row.g h_is_row.kp h_is_row.b .nil pass0 (pa_cons (pv 0) pa_nil))))
    (pss_one (ps_ret pe_bl))
    pss_nil)
    (pss_cons (ps_set (i := 3) nd rfl (by first | exact Or.inl rfl | exact Or.inr rfl) (pe_op op_sub (pv 1) pe_int))
    (pss_cons (ps_for PassesOwn.never rfl (k_pt K (pv 0)) (pg_name (i := 4) nd rfl (by first | exact Or.inl rfl | exact Or.inr rfl))
    (pss_cons (ps_if (pt_not (pt_val (pe_call h_is_whole.ok (hr.mono (by decide)) rfl h_is_whole.g h_is_whole.kp h_is_whole.b .nil pass0 (pa_cons (pv 4) (pa_cons (pe_op op_add (pv 3) pe_int) (pa_cons (pv 2) pa_nil))))))
    (pss_one (ps_ret pe_bl))
    pss_nil)
    (pss_one (ps_set (i := 3) nd rfl (by first | exact Or.inl rfl | exact Or.inr rfl) (pv 4)))))
    (pss_one (ps_ret pe_bl))))), run_D h fun ds R hA => ?_⟩
    obtain ⟨ns, a, b, rfl, rfl⟩ := hA
    refine do_when (ist_not (ist_B (c_is_row (isA_cons (is_var rfl) isA_nil)))) (fun e => by cases e) fun _ => ?_
    refine do_let (is_iI (is_var rfl) is_int) ?_
    refine do_seq (do_forTm (I := fun i ρ => ∃ last : Int, ρ = [.dat (tI ns), .dat (.int a), .dat (.int b), .dat (.int last), .no] ∧ rising ns a b = rising (ns.drop i) (last + 1) b) (is_var rfl) (fun x => tg_name) ⟨_, ⟨a - 1, rfl, ?_⟩, ?_⟩ ?_ ?_)
    · rw [List.drop_zero, Int.sub_add_cancel]
    · exact Le.refl _
    · rintro i x ρ1 hx ⟨last, rfl, hr⟩
      rw [drop_at hx] at hr
      have hr2 : rising ns a b = ((decide (last + 1 ≤ x) && decide (x ≤ b)) && rising (ns.drop (i + 1)) (x + 1) b) := hr
      refine do_when (ist_not (ist_B (c_is_whole (isA_cons (is_var rfl) (isA_cons (is_iI (is_var rfl) is_int) (isA_cons (is_var rfl) isA_nil)))))) (fun e => ?_) fun e => ?_
      · refine do_retD is_bl ?_
        have e2 := nt e
        show PyData.bool false = PyData.bool (rising ns a b)
        rw [hr2, e2]; rfl
      · have e2 := nf e
        refine (do_asg (is_var rfl)).mono fun o ho => ?_
        subst ho
        refine ⟨_, ⟨x, rfl, ?_⟩, ?_⟩
        · rw [hr2, e2]; rfl
        · exact ⟨rfl, rfl, rfl, rfl, True.intro⟩
    · rintro ρ1 ⟨last, rfl, hr⟩
      refine do_retD is_bl ?_
      rw [List.drop_length] at hr
      show PyData.bool true = PyData.bool (rising ns a b)
      rw [hr]; rfl
def A_is_numbers (ds : List PyData) (R : PyData → Prop) : Prop := ∃ ns, ds = [tI ns] ∧ NumsOk ns ∧ R = fun x => x = .bool true
def sp_is_numbers : Sp := spD A_is_numbers
theorem ln_is_numbers : ∀ ds R, A_is_numbers ds R → ds.length = 1 := fun ds R ⟨_, h, _⟩ => by rw [h]; rfl
theorem c_is_numbers {tx : TA} {ρ : List Ent} {ns : List Int} (o : NumsOk ns) (ha : IsA tx ρ [tI ns]) : Is (tCall sp_is_numbers [] E0 tx) ρ (.bool true) := isP_call ha ⟨ns, rfl, o, rfl⟩
theorem ok_is_numbers {P : Program} {w : World} {K : PySem.W.Frag} {mg : Str → Option Value} {base : Heap} {f : Addr} {fd : FuncData} (F : FnP K "is_numbers" "is_numbers" s_is_numbers f fd) (md : Md mg) {f_is_row : Addr} {fd_is_row : FuncData} (h_is_row : Has P w K mg base 1 "is_row" ["thing"] sp_is_row f_is_row fd_is_row) {f_is_whole : Addr} {fd_is_whole : FuncData} (h_is_whole : Has P w K mg base 1 "is_whole" ["thing", "least", "most"] sp_is_whole f_is_whole fd_is_whole) : FnOk P w K mg base CX0 2 f fd ["thing"] sp_is_numbers := by
  refine FunD.ok F sc_is_numbers (fun vs H Q E h => len_D (fun ds R hA => ?_) h) (fun cdv A outer s H vs Q E hr h => ?_)
  · exact ln_is_numbers ds R hA
  · obtain ⟨t_MOST_THINGS, g_MOST_THINGS⟩ := md.MOST_THINGS
    obtain ⟨t_GREATEST, g_GREATEST⟩ := md.GREATEST
    have nd := sc_is_numbers.nd
    refine ⟨_, PSs.nox (pss_cons (ps_if (PW.pt (pw_or (pt_not (pt_val (pe_call h_is_row.ok (hr.mono (by decide)) rfl h_is_row.g h_is_row.kp h_is_row.b .nil pass0 (pa_cons (pv 0) pa_nil)))) (pw_or1 (pt_cmpR op_gt (pe_callB (k_len K) (by rfl) md.len PySem.boot_len (pa_cons (pv 0) pa_nil)) (pe_glob (v := .int 8) (by rfl) g_MOST_THINGS ⟨t_MOST_THINGS, rfl⟩) (nomark _)))))
    (pss_one (ps_ret pe_bl))
    pss_nil)
    (pss_one (ps_ret (pe_cmpR (k_eqD K hr.units) (pe_lc (own := [("one", 1)]) (g := gName 1) rfl nd (k_pt K (pv 0)) (blkOk_by (own := [("one", 1)]) (N := N_is_numbers) (sc := defScope s_is_numbers) (by decide +kernel)) (fun _ _ _ _ _ => pg_name (i := 1) nd rfl (Or.inl rfl)) (fun _ _ _ _ _ => (pts_one (pt_not (pt_val (pe_call h_is_whole.ok (hr.mono (by decide)) rfl h_is_whole.g h_is_whole.kp h_is_whole.b .nil pass0 (pa_cons (pv 1) (pa_cons pe_int (pa_cons (pe_glob (v := .int 40) (by rfl) g_GREATEST ⟨t_GREATEST, rfl⟩) pa_nil)))))))) (fun _ _ _ _ _ => (pv 1))) (pe_lst pa_nil) (nomark _))))), run_D h fun ds R hA => ?_⟩
    obtain ⟨ns, rfl, o, rfl⟩ := hA
    refine do_when ((ist_or (ist_not (ist_B (c_is_row (isA_cons (is_var rfl) isA_nil)))) fun _ => ist_test (is_bI (is_lenT (is_var rfl)) is_int)).to (c := false) ?_) (fun e => by cases e) fun _ => ?_
    · have := o.len
      simp [isRow]; omega
    · refine do_retD (is_eqNilI (isL_new ((isN_lcT (xs := ns) (enc := .int) (p := fun x => !(decide (1 ≤ x) && decide (x ≤ 40))) (f := .int) (is_var rfl) (by have := o.len; omega) (notDrw_of rfl (by intro z; cases z)) (fun x hx => ist_not (ist_B (c_is_whole (isA_cons (is_var rfl) (isA_cons is_int (isA_cons is_int isA_nil)))))) fun x hx _ => is_var rfl)))) ?_
      have e : ns.filter (fun x => !(decide (1 ≤ x) && decide (x ≤ 40))) = [] := List.filter_eq_nil_iff.mpr fun x hx => by have := o.mem x hx; simp; omega
      rw [e]; rfl
def A_asked_numbers (ds : List PyData) (R : PyData → Prop) : Prop := ∃ ns, ds = [tI ns] ∧ NumsOk ns ∧ R = fun x => x = tI ns
def sp_asked_numbers : Sp := spD A_asked_numbers
theorem ln_asked_numbers : ∀ ds R, A_asked_numbers ds R → ds.length = 1 := fun ds R ⟨_, h, _⟩ => by rw [h]; rfl
theorem c_asked_numbers {tx : TA} {ρ : List Ent} {ns : List Int} (o : NumsOk ns) (ha : IsA tx ρ [tI ns]) : Is (tCall sp_asked_numbers [] E0 tx) ρ (tI ns) := isP_call ha ⟨ns, rfl, o, rfl⟩
theorem ok_asked_numbers {P : Program} {w : World} {K : PySem.W.Frag} {mg : Str → Option Value} {base : Heap} {f : Addr} {fd : FuncData} (F : FnP K "asked_numbers" "asked_numbers" s_asked_numbers f fd) (md : Md mg) {f_is_numbers : Addr} {fd_is_numbers : FuncData} (h_is_numbers : Has P w K mg base 2 "is_numbers" ["thing"] sp_is_numbers f_is_numbers fd_is_numbers) : FnOk P w K mg base CX0 3 f fd ["thing"] sp_asked_numbers := by
  refine FunD.ok F sc_asked_numbers (fun vs H Q E h => len_D (fun ds R hA => ?_) h) (fun cdv A outer s H vs Q E hr h => ?_)
  · exact ln_asked_numbers ds R hA
  · have nd := sc_asked_numbers.nd
    refine ⟨_, PSs.nox (pss_cons (ps_if (pt_not (pt_val (pe_call h_is_numbers.ok (hr.mono (by decide)) rfl h_is_numbers.g h_is_numbers.kp h_is_numbers.b .nil pass0 (pa_cons (pv 0) pa_nil))))
    (pss_one ps_never)
    pss_nil)
    (pss_one (ps_ret (pe_callTy (k_tuple K) (by rfl) md.tuple (by decide +kernel) (pa_cons (pv 0) pa_nil))))), run_D h fun ds R hA => ?_⟩
    obtain ⟨ns, rfl, o, rfl⟩ := hA
    refine do_when (ist_not (ist_B (c_is_numbers o (isA_cons (is_var rfl) isA_nil)))) (fun e => by cases e) fun _ => ?_
    exact do_retD (is_tupT (is_var rfl)) rfl
def A_divisor (ds : List PyData) (R : PyData → Prop) : Prop := ∃ a b : Int, ds = [.int a, .int b] ∧ 0 ≤ a ∧ 0 ≤ b ∧ 1 ≤ a + b ∧ R = fun x => ∃ g : Int, x = .int g ∧ 1 ≤ g ∧ g ≤ a + b
def sp_divisor : Sp := spD A_divisor
theorem ln_divisor : ∀ ds R, A_divisor ds R → ds.length = 2 := fun ds R ⟨_, _, h, _⟩ => by rw [h]; rfl
theorem c_divisor {tx : TA} {ρ : List Ent} {a b : Int} (h0 : 0 ≤ a) (h1 : 0 ≤ b) (h2 : 1 ≤ a + b) (ha : IsA tx ρ [.int a, .int b]) : IsP (tCall sp_divisor [] E0 tx) ρ (fun x => ∃ g : Int, x = .int g ∧ 1 ≤ g ∧ g ≤ a + b) := isP_call ha ⟨a, b, rfl, h0, h1, h2, rfl⟩
def mu1 : List Ent → Nat
  | [_, .dat (.int b)] => b.toNat
  | _ => 0
theorem ok_divisor {P : Program} {w : World} {K : PySem.W.Frag} {mg : Str → Option Value} {base : Heap} {f : Addr} {fd : FuncData} (F : FnP K "divisor" "divisor" s_divisor f fd) (md : Md mg) : FnOk P w K mg base CX0 1 f fd ["one", "other"] sp_divisor := by
  refine FunD.ok F sc_divisor (fun vs H Q E h => len_D (fun ds R hA => ?_) h) (fun cdv A outer s H vs Q E hr h => ?_)
  · exact ln_divisor ds R hA
  · have nd := sc_divisor.nd
    refine ⟨_, PSs.nox (pss_cons (ps_while PassesOwn.never (pt_cmpR op_gt (pv 1) pe_int (nomark _))
    (pss_one (ps_par (i := 0) (j := 1) rfl nd rfl rfl (by decide) rfl rfl (pa_cons (pv 1) (pa_cons (pe_op op_mod (pv 0) (pv 1)) pa_nil)) (by rfl))))
    (pss_one (ps_ret (pv 0)))), run_D h fun ds R hA => ?_⟩
    obtain ⟨a, b, rfl, h0, h1, h2, rfl⟩ := hA
    refine do_seq (do_while (I := fun ρ => ∃ x y : Int, ρ = [.dat (.int x), .dat (.int y)] ∧ 0 ≤ x ∧ 0 ≤ y ∧ 1 ≤ x + y ∧ x ≤ a + b ∧ y ≤ a + b) (μ := mu1) ⟨_, ⟨a, b, rfl, h0, h1, h2, by omega, by omega⟩, Le.refl _⟩ ?_)
    rintro ρ1 ⟨x, y, rfl, k0, k1, k2, k3, k4⟩
    refine ⟨decide (0 < y), ist_test (is_bI (is_var rfl) is_int), fun e => ?_, fun e => ?_⟩
    · have hy : 0 < y := of_decide_eq_true e
      refine do_par (isA_cons (is_var rfl) (isA_cons (is_cI (is_var rfl) (is_var rfl) hy) isA_nil)) ?_
      have m1 := Int.emod_nonneg x (by omega : y ≠ 0)
      have m2 := Int.emod_lt_of_pos x hy
      refine ⟨_, ⟨⟨y, x % y, rfl, by omega, m1, by omega, by omega, by omega⟩, ?_⟩, Le.refl _⟩
      show (x % y).toNat < y.toNat
      omega
    · have hy : ¬ 0 < y := of_decide_eq_false e
      exact do_retD (is_var rfl) ⟨x, rfl, by omega, by omega⟩
def A_common_of (ds : List PyData) (R : PyData → Prop) : Prop := ∃ ns, ds = [tI ns] ∧ NumsOk ns ∧ R = fun x => ∃ g : Int, x = .int g ∧ 0 ≤ g ∧ g ≤ prod ns
def sp_common_of : Sp := spD A_common_of
theorem ln_common_of : ∀ ds R, A_common_of ds R → ds.length = 1 := fun ds R ⟨_, h, _⟩ => by rw [h]; rfl
theorem c_common_of {tx : TA} {ρ : List Ent} {ns : List Int} (o : NumsOk ns) (ha : IsA tx ρ [tI ns]) : IsP (tCall sp_common_of [] E0 tx) ρ (fun x => ∃ g : Int, x = .int g ∧ 0 ≤ g ∧ g ≤ prod ns) := isP_call ha ⟨ns, rfl, o, rfl⟩
theorem common_step {c g x p : Int} (h0 : 0 ≤ c) (h1 : c ≤ p) (hg : 1 ≤ g) (hx : 1 ≤ x) : 0 ≤ c / g ∧ c / g ≤ c ∧ 0 ≤ c / g * x ∧ c / g * x ≤ p * x := by
  have a := Int.ediv_nonneg h0 (by omega : 0 ≤ g)
  have b := Int.ediv_le_self g h0
  exact ⟨a, b, Int.mul_nonneg a (by omega), Int.mul_le_mul_of_nonneg_right (by omega) (by omega)⟩
theorem ok_common_of {P : Program} {w : World} {K : PySem.W.Frag} {mg : Str → Option Value} {base : Heap} {f : Addr} {fd : FuncData} (F : FnP K "common_of" "common_of" s_common_of f fd) (md : Md mg) {f_divisor : Addr} {fd_divisor : FuncData} (h_divisor : Has P w K mg base 1 "divisor" ["one", "other"] sp_divisor f_divisor fd_divisor) : FnOk P w K mg base CX0 2 f fd ["numbers"] sp_common_of := by
  refine FunD.ok F sc_common_of (fun vs H Q E h => len_D (fun ds R hA => ?_) h) (fun cdv A outer s H vs Q E hr h => ?_)
  · exact ln_common_of ds R hA
  · have nd := sc_common_of.nd
    refine ⟨_, PSs.nox (pss_cons (ps_set (i := 1) nd rfl (by first | exact Or.inl rfl | exact Or.inr rfl) pe_int)
    (pss_cons (ps_for PassesOwn.never rfl (k_pt K (pv 0)) (pg_name (i := 2) nd rfl (by first | exact Or.inl rfl | exact Or.inr rfl))
    (pss_one (ps_set (i := 1) nd rfl (by first | exact Or.inl rfl | exact Or.inr rfl) (pe_op op_mul (pe_op op_fdiv (pv 1) (pe_call h_divisor.ok (hr.mono (by decide)) rfl h_divisor.g h_divisor.kp h_divisor.b .nil pass0 (pa_cons (pv 1) (pa_cons (pv 2) pa_nil)))) (pv 2)))))
    (pss_one (ps_ret (pv 1))))), run_D h fun ds R hA => ?_⟩
    obtain ⟨ns, rfl, o, rfl⟩ := hA
    have pn := o.pr
    refine do_let is_int ?_
    refine do_seq (do_forTm (I := fun i ρ => ∃ c : Int, ρ = [.dat (tI ns), .dat (.int c), .no] ∧ 0 ≤ c ∧ c ≤ prod (ns.take i)) (is_var rfl) (fun x => tg_name) ⟨_, ⟨1, rfl, by omega, by simp [prod]⟩, Le.refl _⟩ ?_ ?_)
    · rintro i x ρ1 hx ⟨c, rfl, h0, h1⟩
      have xm := o.mem x (List.mem_of_getElem? hx)
      have pt := prod_take o.mem i
      refine do_asgP (Y := fun d => ∃ z : Int, d = .int z ∧ 0 ≤ z ∧ z ≤ prod (ns.take i) * x) ?_ fun d ⟨z, hz, z0, z1⟩ => ?_
      · refine isP_op2 (P1 := fun d => ∃ z : Int, d = .int z ∧ 0 ≤ z ∧ z ≤ c ∧ 0 ≤ z * x ∧ z * x ≤ prod (ns.take i) * x) (isP_op2 (P1 := fun d => d = .int c) (P2 := fun d => ∃ g : Int, d = .int g ∧ 1 ≤ g ∧ g ≤ c + x) (is_var rfl) (c_divisor h0 (by omega) (by omega) (isA_cons (is_var rfl) (isA_cons (is_var rfl) isA_nil))) ?_) (P2 := fun d => d = .int x) (is_var rfl) ?_
        · rintro H u v d e Q rfl ⟨g, rfl, g1, g2⟩ hu hv q
          cases hu; cases hv
          obtain ⟨s1, s2, s3, s4⟩ := common_step h0 h1 g1 xm.1
          exact ⟨c, g, rfl, rfl, ⟨by omega, by omega⟩, q (.int (c / g)) (.int (c / g)) ⟨c / g, rfl, s1, s2, s3, s4⟩ (.int _)⟩
        · rintro H u v d e Q ⟨z, rfl, z0, z1, z2, z3⟩ rfl hu hv q
          cases hu; cases hv
          exact ⟨z, x, rfl, rfl, .inr ⟨by omega, by omega⟩, q (.int (z * x)) (.int (z * x)) ⟨z * x, rfl, z2, z3⟩ (.int _)⟩
      · subst hz
        exact ⟨_, ⟨z, rfl, z0, by rw [prod_succ hx]; exact z1⟩, ⟨rfl, rfl, True.intro⟩⟩
    · rintro ρ1 ⟨c, rfl, h0, h1⟩
      rw [List.take_length] at h1
      exact do_retD (is_var rfl) ⟨c, rfl, h0, h1⟩
def A_common (ds : List PyData) (R : PyData → Prop) : Prop := ∃ ns, ds = [tI ns] ∧ NumsOk ns ∧ R = fun x => ∃ g : Int, x = .int g ∧ 0 ≤ g ∧ g ≤ prod ns
def sp_common : Sp := spD A_common
theorem ln_common : ∀ ds R, A_common ds R → ds.length = 1 := fun ds R ⟨_, h, _⟩ => by rw [h]; rfl
theorem c_common {tx : TA} {ρ : List Ent} {ns : List Int} (o : NumsOk ns) (ha : IsA tx ρ [tI ns]) : IsP (tCall sp_common [] E0 tx) ρ (fun x => ∃ g : Int, x = .int g ∧ 0 ≤ g ∧ g ≤ prod ns) := isP_call ha ⟨ns, rfl, o, rfl⟩
theorem ok_common {P : Program} {w : World} {K : PySem.W.Frag} {mg : Str → Option Value} {base : Heap} {f : Addr} {fd : FuncData} (F : FnP K "common" "common" s_common f fd) (md : Md mg) {f_common_of : Addr} {fd_common_of : FuncData} (h_common_of : Has P w K mg base 2 "common_of" ["numbers"] sp_common_of f_common_of fd_common_of) {f_asked_numbers : Addr} {fd_asked_numbers : FuncData} (h_asked_numbers : Has P w K mg base 3 "asked_numbers" ["thing"] sp_asked_numbers f_asked_numbers fd_asked_numbers) : FnOk P w K mg base CX0 4 f fd ["numbers"] sp_common := by
  refine FunD.ok F sc_common (fun vs H Q E h => len_D (fun ds R hA => ?_) h) (fun cdv A outer s H vs Q E hr h => ?_)
  · exact ln_common ds R hA
  · have nd := sc_common.nd
    refine ⟨_, PSs.nox (pss_one (ps_ret (pe_call h_common_of.ok (hr.mono (by decide)) rfl h_common_of.g h_common_of.kp h_common_of.b .nil pass0 (pa_cons (pe_call h_asked_numbers.ok (hr.mono (by decide)) rfl h_asked_numbers.g h_asked_numbers.kp h_asked_numbers.b .nil pass0 (pa_cons (pv 0) pa_nil)) pa_nil)))), run_D h fun ds R hA => ?_⟩
    obtain ⟨ns, rfl, o, rfl⟩ := hA
    exact do_ret (c_common_of o (isA_cons (c_asked_numbers o (isA_cons (is_var rfl) isA_nil)) isA_nil)) fun d h => h
end W36
end
section
set_option Elab.async false
set_option linter.all false
set_option maxRecDepth 100000
set_option maxHeartbeats 4000000
namespace W36
open PySem L2 Evl
/-- rows of ints and texts, less deep than n -/
def rowy : Nat → PyData → Bool
  | 0, _ => false
  | _ + 1, .int _ => true
  | _ + 1, .str _ => true
  | n + 1, .tuple ds => decide (ds.length ≤ 50000) && ds.all (rowy n)
  | _ + 1, _ => false
def A_told (n : Nat) (ds : List PyData) (R : PyData → Prop) : Prop := ∃ d, ds = [d] ∧ rowy n d = true ∧ R = fun x => x = d
def sp_told_rows : Sp := spD (A_told 7)
theorem c_told {n : Nat} {tx : TA} {ρ : List Ent} {d : PyData} (o : rowy n d = true) (ha : IsA tx ρ [d]) : Is (tCall (spD (A_told n)) [] E0 tx) ρ d := isP_call ha ⟨d, rfl, o, rfl⟩
theorem c_told_rows {tx : TA} {ρ : List Ent} {d : PyData} (o : rowy 7 d = true) (ha : IsA tx ρ [d]) : Is (tCall sp_told_rows [] E0 tx) ρ d := isP_call ha ⟨d, rfl, o, rfl⟩
theorem ok_told {P : Program} {w : World} {K : PySem.W.Frag} {mg : Str → Option Value} {base : Heap} {f : Addr} {fd : FuncData} (F : FnP K "told_rows" "told_rows" s_told_rows f fd) (md : Md mg) (gt : mg "told_rows" = some (.ref f)) (bt : Binds K fd ["thing"] [])
    {f_is_row : Addr} {fd_is_row : FuncData} (h_is_row : Has P w K mg base 1 "is_row" ["thing"] sp_is_row f_is_row fd_is_row) : ∀ n : Nat, FnOk P w K mg base CX0 (n + 1) f fd ["thing"] (spD (A_told n))
  | 0 => ⟨fun vs H Q E h => (by obtain ⟨G, ds, R, _, _, ⟨d, _, h, _⟩, _⟩ := h; cases h), fun A outer s H args us vs Q E _ _ _ _ h => (by obtain ⟨G, ds, R, _, _, ⟨d, _, h, _⟩, _⟩ := h; cases h)⟩
  | n + 1 => by
    have h_told_rows : Has P w K mg base (n + 1) "told_rows" ["thing"] (spD (A_told n)) f fd := ⟨ok_told F md gt bt h_is_row n, gt, F.kp, bt⟩
    refine FunD.ok F sc_told_rows (fun vs H Q E h => len_D (fun ds R hA => ?_) h) (fun cdv A outer s H vs Q E hr h => ?_)
    · obtain ⟨d, rfl, _⟩ := hA; rfl
    · have nd := sc_told_rows.nd
      refine ⟨_, PSs.nox (pss_cons (ps_if (pt_val (pe_call h_is_row.ok (hr.mono (by omega)) rfl h_is_row.g h_is_row.kp h_is_row.b .nil pass0 (pa_cons (pv 0) pa_nil)))
    (pss_one (ps_ret (pe_callTy call_tuple_of (by rfl) md.tuple (by decide +kernel) (pa_cons (pe_lc (own := [("one", 1)]) (g := gName 1) rfl nd (pi_tup (pv 0)) (blkOk_by (own := [("one", 1)]) (N := N_told_rows) (sc := defScope s_told_rows) (by decide +kernel)) (fun _ _ _ _ _ => pg_name (i := 1) nd rfl (Or.inl rfl)) (fun _ _ _ _ _ => pts_nil) (fun _ _ _ _ _ => (pe_call h_told_rows.ok hr rfl h_told_rows.g h_told_rows.kp h_told_rows.b .nil pass0 (pa_cons (pv 1) pa_nil)))) pa_nil))))
    pss_nil)
    (pss_one (ps_ret (pv 0)))), run_D h fun ds R hA => ?_⟩
      obtain ⟨d, rfl, o, rfl⟩ := hA
      refine do_when (ist_B (c_is_row (isA_cons (is_var rfl) isA_nil))) (fun e => ?_) fun e => ?_
      · cases d with
        | tuple es =>
          simp only [rowy, Bool.and_eq_true, decide_eq_true_eq, List.all_eq_true] at o
          have hs : Is (tVar 0) (pars N_told_rows.length [.tuple es]) (.tuple (es.map fun d => d)) := (is_var rfl).to (by simp)
          refine do_retD ((is_tupL (isL_new (isN_lcT (xs := es) (enc := fun d => d) (p := fun _ => true) (f := fun d => d) hs o.1 (notDrw_of rfl (by intro z; cases z)) (fun x hx => ist_yes) fun x hx _ => c_told (o.2 x hx) (isA_cons (is_var rfl) isA_nil)))).to (e := .tuple es) ?_) rfl
          simp
        | _ => cases e <;> cases o
      · exact do_retD (is_var rfl) rfl
end W36
end
section
set_option Elab.async false
set_option linter.all false
set_option maxRecDepth 100000
set_option maxHeartbeats 4000000
namespace W36
open PySem L2 Evl
def A_is_off (ds : List PyData) (R : PyData → Prop) : Prop := ∃ ns, ds = [tI ns] ∧ (1 ≤ ns.length ∧ ns.length ≤ 7 ∧ ∀ o ∈ ns, o = 0 ∨ o = 1) ∧ R = fun x => x = .bool true
def sp_is_off : Sp := spD A_is_off
theorem ln_is_off : ∀ ds R, A_is_off ds R → ds.length = 1 := fun ds R ⟨_, h, _⟩ => by rw [h]; rfl
theorem c_is_off {tx : TA} {ρ : List Ent} {ns : List Int} (o : 1 ≤ ns.length ∧ ns.length ≤ 7 ∧ ∀ o ∈ ns, o = 0 ∨ o = 1) (ha : IsA tx ρ [tI ns]) : Is (tCall sp_is_off [] E0 tx) ρ (.bool true) := isP_call ha ⟨ns, rfl, o, rfl⟩
theorem ok_is_off {P : Program} {w : World} {K : PySem.W.Frag} {mg : Str → Option Value} {base : Heap} {f : Addr} {fd : FuncData} (F : FnP K "is_off" "is_off" s_is_off f fd) (md : Md mg) {f_is_row : Addr} {fd_is_row : FuncData} (h_is_row : Has P w K mg base 1 "is_row" ["thing"] sp_is_row f_is_row fd_is_row) {f_is_whole : Addr} {fd_is_whole : FuncData} (h_is_whole : Has P w K mg base 1 "is_whole" ["thing", "least", "most"] sp_is_whole f_is_whole fd_is_whole) : FnOk P w K mg base CX0 2 f fd ["thing"] sp_is_off := by
  refine FunD.ok F sc_is_off (fun vs H Q E h => len_D (fun ds R hA => ?_) h) (fun cdv A outer s H vs Q E hr h => ?_)
  · exact ln_is_off ds R hA
  · obtain ⟨t_MOST_OFF, g_MOST_OFF⟩ := md.MOST_OFF
    have nd := sc_is_off.nd
    refine ⟨_, PSs.nox (pss_cons (ps_if (PW.pt (pw_or (pt_not (pt_val (pe_call h_is_row.ok (hr.mono (by decide)) rfl h_is_row.g h_is_row.kp h_is_row.b .nil pass0 (pa_cons (pv 0) pa_nil)))) (pw_or (pt_cmpR op_lt (pe_callB (k_len K) (by rfl) md.len PySem.boot_len (pa_cons (pv 0) pa_nil)) pe_int (nomark _)) (pw_or1 (pt_cmpR op_gt (pe_callB (k_len K) (by rfl) md.len PySem.boot_len (pa_cons (pv 0) pa_nil)) (pe_glob (v := .int 7) (by rfl) g_MOST_OFF ⟨t_MOST_OFF, rfl⟩) (nomark _))))))
    (pss_one (ps_ret pe_bl))
    pss_nil)
    (pss_one (ps_ret (pe_cmpR (k_eqD K hr.units) (pe_lc (own := [("one", 1)]) (g := gName 1) rfl nd (k_pt K (pv 0)) (blkOk_by (own := [("one", 1)]) (N := N_is_off) (sc := defScope s_is_off) (by decide +kernel)) (fun _ _ _ _ _ => pg_name (i := 1) nd rfl (Or.inl rfl)) (fun _ _ _ _ _ => (pts_one (pt_not (pt_val (pe_call h_is_whole.ok (hr.mono (by decide)) rfl h_is_whole.g h_is_whole.kp h_is_whole.b .nil pass0 (pa_cons (pv 1) (pa_cons pe_int (pa_cons pe_int pa_nil)))))))) (fun _ _ _ _ _ => (pv 1))) (pe_lst pa_nil) (nomark _))))), run_D h fun ds R hA => ?_⟩
    obtain ⟨ns, rfl, ⟨o1, o2, o3⟩, rfl⟩ := hA
    refine do_when ((ist_or (ist_not (ist_B (c_is_row (isA_cons (is_var rfl) isA_nil)))) fun _ => ist_or (ist_test (is_bI (is_lenT (is_var rfl)) is_int)) fun _ => ist_test (is_bI (is_lenT (is_var rfl)) is_int)).to (c := false) ?_) (fun e => by cases e) fun _ => ?_
    · simp [isRow]; omega
    · refine do_retD (is_eqNilI (isL_new ((isN_lcT (xs := ns) (enc := .int) (p := fun x => !(decide (0 ≤ x) && decide (x ≤ 1))) (f := .int) (is_var rfl) (by omega) (notDrw_of rfl (by intro z; cases z)) (fun x hx => ist_not (ist_B (c_is_whole (isA_cons (is_var rfl) (isA_cons is_int (isA_cons is_int isA_nil)))))) fun x hx _ => is_var rfl)))) ?_
      have e : ns.filter (fun x => !(decide (0 ≤ x) && decide (x ≤ 1))) = [] := List.filter_eq_nil_iff.mpr fun x hx => by have := o3 x hx; simp; omega
      rw [e]; rfl
def A_is_pair (ds : List PyData) (R : PyData → Prop) : Prop := ∃ (p : Int × Int) (m : Int), ds = [dPr p, .int m] ∧ (0 ≤ p.1 ∧ p.1 < p.2 ∧ p.2 ≤ m - 1) ∧ R = fun x => x = .bool true
def sp_is_pair : Sp := spD A_is_pair
theorem ln_is_pair : ∀ ds R, A_is_pair ds R → ds.length = 2 := fun ds R ⟨_, _, h, _⟩ => by rw [h]; rfl
theorem c_is_pair {tx : TA} {ρ : List Ent} {p : Int × Int} {m : Int} (o : 0 ≤ p.1 ∧ p.1 < p.2 ∧ p.2 ≤ m - 1) (ha : IsA tx ρ [dPr p, .int m]) : Is (tCall sp_is_pair [] E0 tx) ρ (.bool true) := isP_call ha ⟨p, m, rfl, o, rfl⟩
theorem ok_is_pair {P : Program} {w : World} {K : PySem.W.Frag} {mg : Str → Option Value} {base : Heap} {f : Addr} {fd : FuncData} (F : FnP K "is_pair" "is_pair" s_is_pair f fd) (md : Md mg) {f_is_rising : Addr} {fd_is_rising : FuncData} (h_is_rising : Has P w K mg base 2 "is_rising" ["thing", "least", "most"] sp_is_rising f_is_rising fd_is_rising) : FnOk P w K mg base CX0 3 f fd ["thing", "many"] sp_is_pair := by
  refine FunD.ok F sc_is_pair (fun vs H Q E h => len_D (fun ds R hA => ?_) h) (fun cdv A outer s H vs Q E hr h => ?_)
  · exact ln_is_pair ds R hA
  · have nd := sc_is_pair.nd
    refine ⟨_, PSs.nox (pss_one (ps_ret (pe_and (pe_call h_is_rising.ok (hr.mono (by decide)) rfl h_is_rising.g h_is_rising.kp h_is_rising.b .nil pass0 (pa_cons (pv 0) (pa_cons pe_int (pa_cons (pe_op op_sub (pv 1) pe_int) pa_nil)))) (pe_one (pe_cmpR op_eq (pe_callB (k_len K) (by rfl) md.len PySem.boot_len (pa_cons (pv 0) pa_nil)) pe_int (nomark _)))))), run_D h fun ds R hA => ?_⟩
    obtain ⟨p, m, rfl, o, rfl⟩ := hA
    refine do_retD (is_andV (c_is_rising (ns := [p.1, p.2]) (isA_cons (is_var rfl) (isA_cons is_int (isA_cons (is_iI (is_var rfl) is_int) isA_nil)))) fun _ => is_eqI (is_lenT (ds := [.int p.1, .int p.2]) (is_var rfl)) is_int) ?_
    have h1 : rising [p.1, p.2] 0 (m - 1) = true := by simp [rising]; omega
    rw [h1]; rfl
structure PairsOk (ps : List (Int × Int)) (m : Int) : Prop where
  mem : ∀ p ∈ ps, 0 ≤ p.1 ∧ p.1 < p.2 ∧ p.2 ≤ m - 1
  srt : ps.Pairwise fun p q => p.1 < q.1 ∨ (p.1 = q.1 ∧ p.2 < q.2)
  len : ps.length ≤ 100
def A_are_pairs (ds : List PyData) (R : PyData → Prop) : Prop := ∃ (ps : List (Int × Int)) (m : Int), ds = [.tuple (ps.map dPr), .int m] ∧ PairsOk ps m ∧ R = fun x => x = .bool true
def sp_are_pairs : Sp := spD A_are_pairs
theorem ln_are_pairs : ∀ ds R, A_are_pairs ds R → ds.length = 2 := fun ds R ⟨_, _, h, _⟩ => by rw [h]; rfl
theorem c_are_pairs {tx : TA} {ρ : List Ent} {ps : List (Int × Int)} {m : Int} (o : PairsOk ps m) (ha : IsA tx ρ [.tuple (ps.map dPr), .int m]) : Is (tCall sp_are_pairs [] E0 tx) ρ (.bool true) := isP_call ha ⟨ps, m, rfl, o, rfl⟩
theorem rowy_int (n : Nat) (i : Int) : rowy (n + 1) (.int i) = true := rfl
theorem rowy_tI (n : Nat) (ns : List Int) (h : ns.length ≤ 50000) : rowy (n + 2) (tI ns) = true := by
  simp only [rowy, List.length_map, Bool.and_eq_true, decide_eq_true_eq, List.all_eq_true, List.mem_map]
  exact ⟨h, fun d ⟨x, _, e⟩ => by rw [← e]; rfl⟩
theorem rowy_tup {α : Type} (n : Nat) (xs : List α) (enc : α → PyData) (h : xs.length ≤ 50000) (k : ∀ x ∈ xs, rowy n (enc x) = true) : rowy (n + 1) (.tuple (xs.map enc)) = true := by
  simp only [rowy, List.length_map, Bool.and_eq_true, decide_eq_true_eq, List.all_eq_true, List.mem_map]
  exact ⟨h, fun d ⟨x, m, e⟩ => by rw [← e]; exact k x m⟩
theorem ok_are_pairs {P : Program} {w : World} {K : PySem.W.Frag} {mg : Str → Option Value} {base : Heap} {f : Addr} {fd : FuncData} (F : FnP K "are_pairs" "are_pairs" s_are_pairs f fd) (md : Md mg) {f_is_pair : Addr} {fd_is_pair : FuncData} (h_is_pair : Has P w K mg base 3 "is_pair" ["thing", "many"] sp_is_pair f_is_pair fd_is_pair) {f_is_row : Addr} {fd_is_row : FuncData} (h_is_row : Has P w K mg base 1 "is_row" ["thing"] sp_is_row f_is_row fd_is_row) {f_told_rows : Addr} {fd_told_rows : FuncData} (h_told_rows : Has P w K mg base 8 "told_rows" ["thing"] sp_told_rows f_told_rows fd_told_rows) : FnOk P w K mg base CX0 9 f fd ["thing", "many"] sp_are_pairs := by
  refine FunD.ok F sc_are_pairs (fun vs H Q E h => len_D (fun ds R hA => ?_) h) (fun cdv A outer s H vs Q E hr h => ?_)
  · exact ln_are_pairs ds R hA
  · have nd := sc_are_pairs.nd
    refine ⟨_, PSs.nox (pss_cons (ps_if (PW.pt (pw_or (pt_not (pt_val (pe_call h_is_row.ok (hr.mono (by decide)) rfl h_is_row.g h_is_row.kp h_is_row.b .nil pass0 (pa_cons (pv 0) pa_nil)))) (pw_or1 (pt_cmpR (k_neD K hr.units) (pe_lc (own := [("one", 3)]) (g := gName 3) rfl nd (k_pt K (pv 0)) (blkOk_by (own := [("one", 3)]) (N := N_are_pairs) (sc := defScope s_are_pairs) (by decide +kernel)) (fun _ _ _ _ _ => pg_name (i := 3) nd rfl (Or.inl rfl)) (fun _ _ _ _ _ => (pts_one (pt_not (pt_val (pe_call h_is_pair.ok (hr.mono (by decide)) rfl h_is_pair.g h_is_pair.kp h_is_pair.b .nil pass0 (pa_cons (pv 3) (pa_cons (pv 1) pa_nil))))))) (fun _ _ _ _ _ => (pv 3))) (pe_lst pa_nil) (nomark _)))))
    (pss_one (ps_ret pe_bl))
    pss_nil)
    (pss_cons (ps_set (i := 2) nd rfl (by first | exact Or.inl rfl | exact Or.inr rfl) (pe_call h_told_rows.ok (hr.mono (by decide)) rfl h_told_rows.g h_told_rows.kp h_told_rows.b .nil pass0 (pa_cons (pv 0) pa_nil)))
    (pss_one (ps_ret (pe_cmpR (k_eqD K hr.units) (pe_lc (own := [("k", 4)]) (g := gName 4) rfl nd (pi_range2 (by rfl) md.range (pa_cons pe_int (pa_cons (pe_callB (k_len K) (by rfl) md.len PySem.boot_len (pa_cons (pv 2) pa_nil)) pa_nil))) (blkOk_by (own := [("k", 4)]) (N := N_are_pairs) (sc := defScope s_are_pairs) (by decide +kernel)) (fun _ _ _ _ _ => pg_name (i := 4) nd rfl (Or.inl rfl)) (fun _ _ _ _ _ => (pts_one (pt_cmpR (k_geD K hr.units) (pe_ix (kx_T K) (pv 2) (pe_op op_sub (pv 4) pe_int) (fun _ _ => rfl)) (pe_ix (kx_T K) (pv 2) (pv 4) (fun _ _ => rfl)) (nomark _)))) (fun _ _ _ _ _ => (pv 4))) (pe_lst pa_nil) (nomark _)))))), run_D h fun ds R hA => ?_⟩
    obtain ⟨ps, m, rfl, o, rfl⟩ := hA
    have ol := o.len
    refine do_when (b := false) ((ist_or (ist_not (ist_B (c_is_row (isA_cons (is_var rfl) isA_nil)))) fun _ => ist_test (is_neNil (ds := []) (isL_new ((isN_lcT (xs := ps) (enc := dPr) (p := fun _ => false) (f := dPr) (is_var rfl) (by omega) (notDrw_of rfl (by intro z; cases z)) (fun x hx => ist_not (ist_B (c_is_pair (m := m) (o.mem x hx) (isA_cons (is_var rfl) (isA_cons (is_var rfl) isA_nil))))) fun x hx e => by cases e).to (by simp))) shaped_nil)).to rfl) (fun e => by cases e) fun _ => ?_
    refine do_let (c_told_rows (rowy_tup 6 ps dPr (by omega) fun x _ => rowy_tI 4 [x.1, x.2] (by simp)) (isA_cons (is_var rfl) isA_nil)) ?_
    refine do_retD (is_eqNil (ds := []) (isL_new ((isN_lcR2 (lo := 1) (hi := (ps.length : Int)) (n := ps.length - 1) (p := fun _ => false) (f := fun i => .int (1 + (i : Int))) (isA_cons is_int (isA_cons ((is_lenT (is_var rfl)).to (by rw [List.length_map])) isA_nil)) (by omega) (by omega) (notDrw_of rfl (by intro z; cases z)) (fun i hi => ?_) fun i hi e => by cases e).to (by simp))) shaped_nil) rfl
    have h1 : i < ps.length := by omega
    have h2 : i + 1 < ps.length := by omega
    have e1 : (ps.map dPr)[i]? = some (dPr ps[i]) := by rw [List.getElem?_map, List.getElem?_eq_getElem h1]; rfl
    have e2 : (ps.map dPr)[i + 1]? = some (dPr ps[i + 1]) := by rw [List.getElem?_map, List.getElem?_eq_getElem h2]; rfl
    refine IsB.to (ist_test (is_geD (is_ixT (b := 1 + (i : Int) - 1) (n := i) (is_var rfl) (is_iI (is_var rfl) is_int) (by omega) e1) (is_ixT (b := 1 + (i : Int)) (n := i + 1) (is_var rfl) (is_var rfl) (by omega) e2) (by simp [PySem.W.alike, PySem.W.alikeAll]) (by intro z; cases z) (by simp [PyData.depth, PyData.depthAll]))) ?_
    have lt := List.pairwise_iff_getElem.mp o.srt i (i + 1) h1 h2 (by omega)
    show (!PySem.W.dataLt (.tuple [.int ps[i].1, .int ps[i].2]) (.tuple [.int ps[i + 1].1, .int ps[i + 1].2])) = false
    rw [PySem.W.dataLt_ii, decide_eq_true lt]
    rfl
def A_is_task (ds : List PyData) (R : PyData → Prop) : Prop := ∃ t : Tk, ds = [dT t] ∧ TaskOk t ∧ R = fun x => x = .bool true
def sp_is_task : Sp := spD A_is_task
theorem ln_is_task : ∀ ds R, A_is_task ds R → ds.length = 1 := fun ds R ⟨_, h, _⟩ => by rw [h]; rfl
theorem c_is_task {tx : TA} {ρ : List Ent} {t : Tk} (o : TaskOk t) (ha : IsA tx ρ [dT t]) : Is (tCall sp_is_task [] E0 tx) ρ (.bool true) := isP_call ha ⟨t, rfl, o, rfl⟩
theorem TaskOk.pairs {t : Tk} (o : TaskOk t) : PairsOk t.tied t.nums.length := ⟨o.tied, o.srt, o.tl⟩
theorem ok_is_task {P : Program} {w : World} {K : PySem.W.Frag} {mg : Str → Option Value} {base : Heap} {f : Addr} {fd : FuncData} (F : FnP K "is_task" "is_task" s_is_task f fd) (md : Md mg) {f_is_row : Addr} {fd_is_row : FuncData} (h_is_row : Has P w K mg base 1 "is_row" ["thing"] sp_is_row f_is_row fd_is_row) {f_is_off : Addr} {fd_is_off : FuncData} (h_is_off : Has P w K mg base 2 "is_off" ["thing"] sp_is_off f_is_off fd_is_off) {f_is_whole : Addr} {fd_is_whole : FuncData} (h_is_whole : Has P w K mg base 1 "is_whole" ["thing", "least", "most"] sp_is_whole f_is_whole fd_is_whole) {f_is_numbers : Addr} {fd_is_numbers : FuncData} (h_is_numbers : Has P w K mg base 2 "is_numbers" ["thing"] sp_is_numbers f_is_numbers fd_is_numbers) {f_are_pairs : Addr} {fd_are_pairs : FuncData} (h_are_pairs : Has P w K mg base 9 "are_pairs" ["thing", "many"] sp_are_pairs f_are_pairs fd_are_pairs) {f_is_rising : Addr} {fd_is_rising : FuncData} (h_is_rising : Has P w K mg base 2 "is_rising" ["thing", "least", "most"] sp_is_rising f_is_rising fd_is_rising) : FnOk P w K mg base CX0 10 f fd ["thing"] sp_is_task := by
  refine FunD.ok F sc_is_task (fun vs H Q E h => len_D (fun ds R hA => ?_) h) (fun cdv A outer s H vs Q E hr h => ?_)
  · exact ln_is_task ds R hA
  · obtain ⟨t_PARTS, g_PARTS⟩ := md.PARTS
    obtain ⟨t_MOST_HANDS, g_MOST_HANDS⟩ := md.MOST_HANDS
    have nd := sc_is_task.nd
    refine ⟨_, PSs.nox (pss_cons (ps_if (PW.pt (pw_or (pt_not (pt_val (pe_call h_is_row.ok (hr.mono (by decide)) rfl h_is_row.g h_is_row.kp h_is_row.b .nil pass0 (pa_cons (pv 0) pa_nil)))) (pw_or1 (pt_cmpR op_ne (pe_callB (k_len K) (by rfl) md.len PySem.boot_len (pa_cons (pv 0) pa_nil)) (pe_glob (v := .int 5) (by rfl) g_PARTS ⟨t_PARTS, rfl⟩) (nomark _)))))
    (pss_one (ps_ret pe_bl))
    pss_nil)
    (pss_cons (ps_asg (pv 0) (pg_tup rfl (pgs_cons (pg_name (i := 1) nd rfl (by first | exact Or.inl rfl | exact Or.inr rfl)) (pgs_cons (pg_name (i := 2) nd rfl (by first | exact Or.inl rfl | exact Or.inr rfl)) (pgs_cons (pg_name (i := 3) nd rfl (by first | exact Or.inl rfl | exact Or.inr rfl)) (pgs_cons (pg_name (i := 4) nd rfl (by first | exact Or.inl rfl | exact Or.inr rfl)) (pgs_cons (pg_name (i := 5) nd rfl (by first | exact Or.inl rfl | exact Or.inr rfl)) pgs_nil)))))))
    (pss_cons (ps_if (PW.pt (pw_or (pt_not (pt_val (pe_call h_is_numbers.ok (hr.mono (by decide)) rfl h_is_numbers.g h_is_numbers.kp h_is_numbers.b .nil pass0 (pa_cons (pv 1) pa_nil)))) (pw_or (pt_not (pt_val (pe_call h_is_whole.ok (hr.mono (by decide)) rfl h_is_whole.g h_is_whole.kp h_is_whole.b .nil pass0 (pa_cons (pv 2) (pa_cons pe_int (pa_cons (pe_glob (v := .int 2) (by rfl) g_MOST_HANDS ⟨t_MOST_HANDS, rfl⟩) pa_nil)))))) (pw_or1 (pt_not (pt_val (pe_call h_is_off.ok (hr.mono (by decide)) rfl h_is_off.g h_is_off.kp h_is_off.b .nil pass0 (pa_cons (pv 3) pa_nil))))))))
    (pss_one (ps_ret pe_bl))
    pss_nil)
    (pss_one (ps_ret (pe_and (pe_call h_is_rising.ok (hr.mono (by decide)) rfl h_is_rising.g h_is_rising.kp h_is_rising.b .nil pass0 (pa_cons (pv 4) (pa_cons pe_int (pa_cons (pe_op op_sub (pe_callB (k_len K) (by rfl) md.len PySem.boot_len (pa_cons (pv 1) pa_nil)) pe_int) pa_nil)))) (pe_one (pe_call h_are_pairs.ok (hr.mono (by decide)) rfl h_are_pairs.g h_are_pairs.kp h_are_pairs.b .nil pass0 (pa_cons (pv 5) (pa_cons (pe_callB (k_len K) (by rfl) md.len PySem.boot_len (pa_cons (pv 1) pa_nil)) pa_nil)))))))))), run_D h fun ds R hA => ?_⟩
    obtain ⟨t, rfl, o, rfl⟩ := hA
    refine do_when (b := false) ((ist_or (ist_not (ist_B (c_is_row (isA_cons (is_var rfl) isA_nil)))) fun _ => ist_test (is_neI (is_lenT (is_var rfl)) is_int)).to rfl) (fun e => by cases e) fun _ => ?_
    refine do_letT (is_var rfl) (tg_tup (tgs_cons (tgs_cons (tgs_cons (tgs_cons (tgs_cons tgs_nil)))))) ?_
    refine do_when (b := false) ((ist_or (ist_not (ist_B (c_is_numbers o.nums (isA_cons (is_var rfl) isA_nil)))) fun _ => ist_or (ist_not (ist_B (c_is_whole (isA_cons (is_var rfl) (isA_cons is_int (isA_cons is_int isA_nil)))))) fun _ => ist_not (ist_B (c_is_off ⟨o.offl.1, o.offl.2, o.off⟩ (isA_cons (is_var rfl) isA_nil)))).to ?_) (fun e => by cases e) fun _ => ?_
    · rcases o.hands with h | h <;> rw [h] <;> rfl
    · refine do_retD (is_andV (c_is_rising (isA_cons (is_var rfl) (isA_cons is_int (isA_cons (is_iI (is_lenT (is_var rfl)) is_int) isA_nil)))) fun _ => c_are_pairs o.pairs (isA_cons (is_var rfl) (isA_cons ((is_lenT (is_var rfl)).to (by rw [List.length_map])) isA_nil))) ?_
      rw [List.length_map, o.long]; rfl
def A_asked_task (ds : List PyData) (R : PyData → Prop) : Prop := ∃ t : Tk, ds = [dT t] ∧ TaskOk t ∧ R = fun x => x = dT t
def sp_asked_task : Sp := spD A_asked_task
theorem ln_asked_task : ∀ ds R, A_asked_task ds R → ds.length = 1 := fun ds R ⟨_, h, _⟩ => by rw [h]; rfl
theorem c_asked_task {tx : TA} {ρ : List Ent} {t : Tk} (o : TaskOk t) (ha : IsA tx ρ [dT t]) : Is (tCall sp_asked_task [] E0 tx) ρ (dT t) := isP_call ha ⟨t, rfl, o, rfl⟩
theorem rowy_dT {t : Tk} (o : TaskOk t) : rowy 7 (dT t) = true := by
  have h1 := rowy_tI 4 t.nums (by have := o.nums.len; omega)
  have h2 := rowy_tI 4 t.off (by have := o.offl; omega)
  have h3 := rowy_tI 4 t.long (by have := o.longl; have := o.nums.len; omega)
  have h4 := rowy_tup 5 t.tied dPr (by have := o.tl; omega) fun x _ => rowy_tI 3 [x.1, x.2] (by simp)
  show (decide ([tI t.nums, PyData.int t.hands, tI t.off, tI t.long, PyData.tuple (t.tied.map dPr)].length ≤ 50000) && (rowy 6 (tI t.nums) && (rowy 6 (.int t.hands) && (rowy 6 (tI t.off) && (rowy 6 (tI t.long) && (rowy 6 (.tuple (t.tied.map dPr)) && true)))))) = true
  rw [h1, h2, h3, h4]
  rfl
theorem ok_asked_task {P : Program} {w : World} {K : PySem.W.Frag} {mg : Str → Option Value} {base : Heap} {f : Addr} {fd : FuncData} (F : FnP K "asked_task" "asked_task" s_asked_task f fd) (md : Md mg) {f_is_task : Addr} {fd_is_task : FuncData} (h_is_task : Has P w K mg base 10 "is_task" ["thing"] sp_is_task f_is_task fd_is_task) {f_told_rows : Addr} {fd_told_rows : FuncData} (h_told_rows : Has P w K mg base 8 "told_rows" ["thing"] sp_told_rows f_told_rows fd_told_rows) : FnOk P w K mg base CX0 11 f fd ["thing"] sp_asked_task := by
  refine FunD.ok F sc_asked_task (fun vs H Q E h => len_D (fun ds R hA => ?_) h) (fun cdv A outer s H vs Q E hr h => ?_)
  · exact ln_asked_task ds R hA
  · have nd := sc_asked_task.nd
    refine ⟨_, PSs.nox (pss_cons (ps_if (pt_not (pt_val (pe_call h_is_task.ok (hr.mono (by decide)) rfl h_is_task.g h_is_task.kp h_is_task.b .nil pass0 (pa_cons (pv 0) pa_nil))))
    (pss_one ps_never)
    pss_nil)
    (pss_one (ps_ret (pe_call h_told_rows.ok (hr.mono (by decide)) rfl h_told_rows.g h_told_rows.kp h_told_rows.b .nil pass0 (pa_cons (pv 0) pa_nil))))), run_D h fun ds R hA => ?_⟩
    obtain ⟨t, rfl, o, rfl⟩ := hA
    refine do_when (ist_not (ist_B (c_is_task o (isA_cons (is_var rfl) isA_nil)))) (fun e => by cases e) fun _ => ?_
    exact do_retD (c_told_rows (rowy_dT o) (isA_cons (is_var rfl) isA_nil)) rfl
end W36
end
section
set_option Elab.async false
set_option linter.all false
set_option maxRecDepth 100000
set_option maxHeartbeats 4000000
namespace W36
open PySem L2 Evl
def A_many_busy (ds : List PyData) (R : PyData → Prop) : Prop := ∃ m h : Int, ds = [.int m, .int h] ∧ (0 ≤ m ∧ m ≤ 100) ∧ R = fun x => x = .int (manyBusy m h)
def sp_many_busy : Sp := spD A_many_busy
theorem ln_many_busy : ∀ ds R, A_many_busy ds R → ds.length = 2 := fun ds R ⟨_, _, h, _⟩ => by rw [h]; rfl
theorem c_many_busy {tx : TA} {ρ : List Ent} {m h : Int} (o : 0 ≤ m ∧ m ≤ 100) (ha : IsA tx ρ [.int m, .int h]) : Is (tCall sp_many_busy [] E0 tx) ρ (.int (manyBusy m h)) := isP_call ha ⟨m, h, rfl, o, rfl⟩
theorem ok_many_busy {P : Program} {w : World} {K : PySem.W.Frag} {mg : Str → Option Value} {base : Heap} {f : Addr} {fd : FuncData} (F : FnP K "many_busy" "many_busy" s_many_busy f fd) (md : Md mg) : FnOk P w K mg base CX0 1 f fd ["many", "hands"] sp_many_busy := by
  refine FunD.ok F sc_many_busy (fun vs H Q E h => len_D (fun ds R hA => ?_) h) (fun cdv A outer s H vs Q E hr h => ?_)
  · exact ln_many_busy ds R hA
  · have nd := sc_many_busy.nd
    refine ⟨_, PSs.nox (pss_cons (ps_if (pt_cmpR op_eq (pv 1) pe_int (nomark _))
    (pss_one (ps_ret (pe_op op_add pe_int (pv 0))))
    pss_nil)
    (pss_one (ps_ret (pe_op op_add (pe_op op_add pe_int (pv 0)) (pe_op op_fdiv (pe_op op_mul (pv 0) (pe_op op_sub (pv 0) pe_int)) pe_int))))), run_D h fun ds R hA => ?_⟩
    obtain ⟨m, h, rfl, o, rfl⟩ := hA
    refine do_when (ist_test (is_eqI (is_var rfl) is_int)) (fun e => ?_) fun e => ?_
    · have e := of_decide_eq_true e
      refine do_retD (is_iI is_int (is_var rfl)) ?_
      show PyData.int _ = _
      rw [manyBusy, if_pos e]
    · have e := of_decide_eq_false e
      refine do_retD (is_iI (is_iI is_int (is_var rfl)) (is_cI (is_cI (is_var rfl) (is_iI (is_var rfl) is_int) (.inl ⟨by omega, by omega⟩)) is_int ⟨by decide, by decide⟩)) ?_
      show PyData.int _ = _
      rw [manyBusy, if_neg e]
def A_stands_room (ds : List PyData) (R : PyData → Prop) : Prop := ∃ t : Tk, ds = [dT t] ∧ TaskOk t ∧ R = fun x => x = .int (roomI t)
def sp_stands_room : Sp := spD A_stands_room
theorem ln_stands_room : ∀ ds R, A_stands_room ds R → ds.length = 1 := fun ds R ⟨_, h, _⟩ => by rw [h]; rfl
theorem c_stands_room {tx : TA} {ρ : List Ent} {t : Tk} (o : TaskOk t) (ha : IsA tx ρ [dT t]) : Is (tCall sp_stands_room [] E0 tx) ρ (.int (roomI t)) := isP_call ha ⟨t, rfl, o, rfl⟩
theorem ok_stands_room {P : Program} {w : World} {K : PySem.W.Frag} {mg : Str → Option Value} {base : Heap} {f : Addr} {fd : FuncData} (F : FnP K "stands_room" "stands_room" s_stands_room f fd) (md : Md mg) {f_many_busy : Addr} {fd_many_busy : FuncData} (h_many_busy : Has P w K mg base 1 "many_busy" ["many", "hands"] sp_many_busy f_many_busy fd_many_busy) : FnOk P w K mg base CX0 2 f fd ["task"] sp_stands_room := by
  refine FunD.ok F sc_stands_room (fun vs H Q E h => len_D (fun ds R hA => ?_) h) (fun cdv A outer s H vs Q E hr h => ?_)
  · exact ln_stands_room ds R hA
  · have nd := sc_stands_room.nd
    refine ⟨_, PSs.nox (pss_cons (ps_asg (pv 0) (pg_tup rfl (pgs_cons (pg_name (i := 1) nd rfl (by first | exact Or.inl rfl | exact Or.inr rfl)) (pgs_cons (pg_name (i := 2) nd rfl (by first | exact Or.inl rfl | exact Or.inr rfl)) (pgs_cons (pg_name (i := 3) nd rfl (by first | exact Or.inl rfl | exact Or.inr rfl)) (pgs_cons (pg_name (i := 4) nd rfl (by first | exact Or.inl rfl | exact Or.inr rfl)) (pgs_cons (pg_name (i := 5) nd rfl (by first | exact Or.inl rfl | exact Or.inr rfl)) pgs_nil)))))))
    (pss_cons (ps_set (i := 6) nd rfl (by first | exact Or.inl rfl | exact Or.inr rfl) (pe_op op_mul (pe_callB (k_len K) (by rfl) md.len PySem.boot_len (pa_cons (pv 3) pa_nil)) (pe_call h_many_busy.ok (hr.mono (by decide)) rfl h_many_busy.g h_many_busy.kp h_many_busy.b .nil pass0 (pa_cons (pe_callB (k_len K) (by rfl) md.len PySem.boot_len (pa_cons (pv 4) pa_nil)) (pa_cons (pv 2) pa_nil)))))
    (pss_cons (ps_for PassesOwn.never rfl (k_pt K (pv 1)) (pg_name (i := 7) nd rfl (by first | exact Or.inl rfl | exact Or.inr rfl))
    (pss_one (ps_set (i := 6) nd rfl (by first | exact Or.inl rfl | exact Or.inr rfl) (pe_op op_mul (pv 6) (pv 7)))))
    (pss_one (ps_ret (pv 6)))))), run_D h fun ds R hA => ?_⟩
    obtain ⟨t, rfl, o, rfl⟩ := hA
    have l1 := o.longl
    have l2 := o.nums.len
    refine do_letT (is_var rfl) (tg_tup (tgs_cons (tgs_cons (tgs_cons (tgs_cons (tgs_cons tgs_nil)))))) ?_
    refine do_let (is_cI (is_lenT (is_var rfl)) (c_many_busy (m := ((t.long.map PyData.int).length : Int)) (by rw [List.length_map]; omega) (isA_cons (is_lenT (is_var rfl)) (isA_cons (is_var rfl) isA_nil))) (.inl ?_)) ?_
    · have := o.offl
      rw [List.length_map]; omega
    rw [List.length_map, List.length_map]
    refine do_seq (do_forTm (I := fun i ρ => ρ = [.dat (dT t), .dat (tI t.nums), .dat (.int t.hands), .dat (tI t.off), .dat (tI t.long), .dat (.tuple (t.tied.map dPr)), .dat (.int (t.off.length * manyBusy t.long.length t.hands * prod (t.nums.take i))), .no]) (is_var rfl) (fun x => tg_name) ⟨_, rfl, ?_⟩ ?_ ?_)
    · show Le _ [_, _, _, _, _, _, Ent.dat (.int _), Ent.no]
      simp [Le, prod]
    · rintro i x ρ1 hx rfl
      have xm := o.nums.mem x (List.mem_of_getElem? hx)
      refine (do_asg (is_cI (is_var rfl) (is_var rfl) (.inr ⟨by omega, by omega⟩))).mono fun o ho => ?_
      subst ho
      refine ⟨_, rfl, ?_⟩
      rw [prod_succ hx, ← Int.mul_assoc]
      exact ⟨rfl, rfl, rfl, rfl, rfl, rfl, rfl, True.intro⟩
    · rintro ρ1 rfl
      refine do_retD (is_var rfl) ?_
      rw [List.take_length]; rfl
def A_room (ds : List PyData) (R : PyData → Prop) : Prop := ∃ t : Tk, ds = [dT t] ∧ TaskOk t ∧ R = fun x => x = .int (roomI t)
def sp_room : Sp := spD A_room
theorem ln_room : ∀ ds R, A_room ds R → ds.length = 1 := fun ds R ⟨_, h, _⟩ => by rw [h]; rfl
theorem c_room {tx : TA} {ρ : List Ent} {t : Tk} (o : TaskOk t) (ha : IsA tx ρ [dT t]) : Is (tCall sp_room [] E0 tx) ρ (.int (roomI t)) := isP_call ha ⟨t, rfl, o, rfl⟩
theorem ok_room {P : Program} {w : World} {K : PySem.W.Frag} {mg : Str → Option Value} {base : Heap} {f : Addr} {fd : FuncData} (F : FnP K "room" "room" s_room f fd) (md : Md mg) {f_stands_room : Addr} {fd_stands_room : FuncData} (h_stands_room : Has P w K mg base 2 "stands_room" ["task"] sp_stands_room f_stands_room fd_stands_room) {f_asked_task : Addr} {fd_asked_task : FuncData} (h_asked_task : Has P w K mg base 11 "asked_task" ["thing"] sp_asked_task f_asked_task fd_asked_task) : FnOk P w K mg base CX0 12 f fd ["task"] sp_room := by
  refine FunD.ok F sc_room (fun vs H Q E h => len_D (fun ds R hA => ?_) h) (fun cdv A outer s H vs Q E hr h => ?_)
  · exact ln_room ds R hA
  · have nd := sc_room.nd
    refine ⟨_, PSs.nox (pss_one (ps_ret (pe_call h_stands_room.ok (hr.mono (by decide)) rfl h_stands_room.g h_stands_room.kp h_stands_room.b .nil pass0 (pa_cons (pe_call h_asked_task.ok (hr.mono (by decide)) rfl h_asked_task.g h_asked_task.kp h_asked_task.b .nil pass0 (pa_cons (pv 0) pa_nil)) pa_nil)))), run_D h fun ds R hA => ?_⟩
    obtain ⟨t, rfl, o, rfl⟩ := hA
    exact do_retD (c_stands_room o (isA_cons (c_asked_task o (isA_cons (is_var rfl) isA_nil)) isA_nil)) rfl
def A_asked_room (ds : List PyData) (R : PyData → Prop) : Prop := ∃ t : Tk, ds = [dT t] ∧ TaskOk t ∧ R = fun x => x = .none
def sp_asked_room : Sp := spD A_asked_room
theorem ln_asked_room : ∀ ds R, A_asked_room ds R → ds.length = 1 := fun ds R ⟨_, h, _⟩ => by rw [h]; rfl
theorem c_asked_room {tx : TA} {ρ : List Ent} {t : Tk} (o : TaskOk t) (ha : IsA tx ρ [dT t]) : Is (tCall sp_asked_room [] E0 tx) ρ .none := isP_call ha ⟨t, rfl, o, rfl⟩
theorem ok_asked_room {P : Program} {w : World} {K : PySem.W.Frag} {mg : Str → Option Value} {base : Heap} {f : Addr} {fd : FuncData} (F : FnP K "asked_room" "asked_room" s_asked_room f fd) (md : Md mg) {f_stands_room : Addr} {fd_stands_room : FuncData} (h_stands_room : Has P w K mg base 2 "stands_room" ["task"] sp_stands_room f_stands_room fd_stands_room) : FnOk P w K mg base CX0 3 f fd ["task"] sp_asked_room := by
  refine FunD.ok F sc_asked_room (fun vs H Q E h => len_D (fun ds R hA => ?_) h) (fun cdv A outer s H vs Q E hr h => ?_)
  · exact ln_asked_room ds R hA
  · obtain ⟨t_MOST, g_MOST⟩ := md.MOST
    have nd := sc_asked_room.nd
    refine ⟨_, PSs.nox (pss_one (ps_if (pt_cmpR op_gt (pe_call h_stands_room.ok (hr.mono (by decide)) rfl h_stands_room.g h_stands_room.kp h_stands_room.b .nil pass0 (pa_cons (pv 0) pa_nil)) (pe_glob (v := .int 3000) (by rfl) g_MOST ⟨t_MOST, rfl⟩) (nomark _))
    (pss_one ps_never)
    pss_nil)), run_D h fun ds R hA => ?_⟩
    obtain ⟨t, rfl, o, rfl⟩ := hA
    have r := o.room
    refine do_if (IsB.to (c := false) (ist_test (is_bI (c_stands_room o (isA_cons (is_var rfl) isA_nil)) is_int)) ?_) (fun e => by cases e) fun _ => do_next rfl
    exact decide_eq_false (by omega)
def A_days_together (ds : List PyData) (R : PyData → Prop) : Prop := ∃ a b : Int, ds = [.int a, .int b] ∧ (0 ≤ a ∧ a ≤ 300 ∧ 1 ≤ b ∧ b ≤ 7) ∧ R = fun x => ∃ r : Int, x = .int r ∧ 0 ≤ r ∧ r ≤ 2100
def sp_days_together : Sp := spD A_days_together
theorem ln_days_together : ∀ ds R, A_days_together ds R → ds.length = 2 := fun ds R ⟨_, _, h, _⟩ => by rw [h]; rfl
theorem c_days_together {tx : TA} {ρ : List Ent} {a b : Int} (o : 0 ≤ a ∧ a ≤ 300 ∧ 1 ≤ b ∧ b ≤ 7) (ha : IsA tx ρ [.int a, .int b]) : IsP (tCall sp_days_together [] E0 tx) ρ (fun x => ∃ r : Int, x = .int r ∧ 0 ≤ r ∧ r ≤ 2100) := isP_call ha ⟨a, b, rfl, o, rfl⟩
def mu3 : List Ent → Nat
  | [_, _, _, .dat (.int b)] => b.toNat
  | _ => 0
theorem ok_days_together {P : Program} {w : World} {K : PySem.W.Frag} {mg : Str → Option Value} {base : Heap} {f : Addr} {fd : FuncData} (F : FnP K "days_together" "days_together" s_days_together f fd) (md : Md mg) : FnOk P w K mg base CX0 1 f fd ["one", "other"] sp_days_together := by
  refine FunD.ok F sc_days_together (fun vs H Q E h => len_D (fun ds R hA => ?_) h) (fun cdv A outer s H vs Q E hr h => ?_)
  · exact ln_days_together ds R hA
  · have nd := sc_days_together.nd
    refine ⟨_, PSs.nox (pss_cons (ps_par (i := 2) (j := 3) rfl nd rfl rfl (by decide) rfl rfl (pa_cons (pv 0) (pa_cons (pv 1) pa_nil)) (by rfl))
    (pss_cons (ps_while PassesOwn.never (pt_cmpR op_ne (pv 3) pe_int (nomark _))
    (pss_one (ps_par (i := 2) (j := 3) rfl nd rfl rfl (by decide) rfl rfl (pa_cons (pv 3) (pa_cons (pe_op op_mod (pv 2) (pv 3)) pa_nil)) (by rfl))))
    (pss_one (ps_ret (pe_op op_mul (pe_op op_fdiv (pv 0) (pv 2)) (pv 1)))))), run_D h fun ds R hA => ?_⟩
    obtain ⟨a, b, rfl, ⟨o1, o2, o3, o4⟩, rfl⟩ := hA
    refine do_seq (do_par (isA_cons (is_var rfl) (isA_cons (is_var rfl) isA_nil)) ?_)
    refine do_seq (do_while (I := fun ρ => ∃ x y : Int, ρ = [.dat (.int a), .dat (.int b), .dat (.int x), .dat (.int y)] ∧ 0 ≤ x ∧ 0 ≤ y ∧ 1 ≤ x + y ∧ x ≤ 307 ∧ y ≤ 307) (μ := mu3) ⟨_, ⟨a, b, rfl, by omega, by omega, by omega, by omega, by omega⟩, Le.refl _⟩ ?_)
    rintro ρ1 ⟨x, y, rfl, k0, k1, k2, k3, k4⟩
    refine ⟨!decide (y = 0), ist_test (is_neI (is_var rfl) is_int), fun e => ?_, fun e => ?_⟩
    · have hy : ¬ y = 0 := of_decide_eq_false (nt e)
      refine do_par (isA_cons (is_var rfl) (isA_cons (is_cI (is_var rfl) (is_var rfl) (show 0 < y by omega)) isA_nil)) ?_
      have m1 := Int.emod_nonneg x (by omega : y ≠ 0)
      have m2 := Int.emod_lt_of_pos x (show 0 < y by omega)
      refine ⟨_, ⟨⟨y, x % y, rfl, by omega, m1, by omega, by omega, by omega⟩, ?_⟩, Le.refl _⟩
      show (x % y).toNat < y.toNat
      omega
    · have hy : y = 0 := of_decide_eq_true (nf e)
      have d0 := Int.ediv_nonneg o1 (by omega : 0 ≤ x)
      have d1 := Int.ediv_le_self x o1
      have m0 := Int.mul_nonneg d0 (by omega : 0 ≤ b)
      have m1 : a / x * b ≤ 300 * 7 := Int.mul_le_mul (by omega) o4 (by omega) (by omega)
      exact do_retD (is_cI (is_cI (is_var rfl) (is_var rfl) ⟨by omega, by omega⟩) (is_var rfl) (.inr ⟨by omega, by omega⟩)) ⟨_, rfl, m0, by omega⟩
def needL (long : List Int) (d : Int) : List Int → Int → Int
  | [], _ => 0
  | n :: ns, i => (if i ∈ long ∧ 0 < d / n then 2 * (d / n) - 1 else d / n) + needL long d ns (i + 1)
def needOf (t : Tk) (d : Int) : Int := needL t.long d t.nums 0
def A_need_of (ds : List PyData) (R : PyData → Prop) : Prop := ∃ (t : Tk) (d : Int), ds = [dT t, .int d] ∧ TaskOk t ∧ R = fun x => x = .int (needOf t d)
def sp_need_of : Sp := spD A_need_of
theorem ln_need_of : ∀ ds R, A_need_of ds R → ds.length = 2 := fun ds R ⟨_, _, h, _⟩ => by rw [h]; rfl
theorem c_need_of {tx : TA} {ρ : List Ent} {t : Tk} {d : Int} (o : TaskOk t) (ha : IsA tx ρ [dT t, .int d]) : Is (tCall sp_need_of [] E0 tx) ρ (.int (needOf t d)) := isP_call ha ⟨t, d, rfl, o, rfl⟩
theorem ok_need_of {P : Program} {w : World} {K : PySem.W.Frag} {mg : Str → Option Value} {base : Heap} {f : Addr} {fd : FuncData} (F : FnP K "need_of" "need_of" s_need_of f fd) (md : Md mg) : FnOk P w K mg base CX0 1 f fd ["task", "days"] sp_need_of := by
  refine FunD.ok F sc_need_of (fun vs H Q E h => len_D (fun ds R hA => ?_) h) (fun cdv A outer s H vs Q E hr h => ?_)
  · exact ln_need_of ds R hA
  · have nd := sc_need_of.nd
    refine ⟨_, PSs.nox (pss_cons (ps_set (i := 2) nd rfl (by first | exact Or.inl rfl | exact Or.inr rfl) pe_int)
    (pss_cons (ps_for PassesOwn.never rfl (k_enum K (by rfl) md.enumerate (pa_cons (pe_ix (kx_T K) (pv 0) pe_int (fun _ _ => rfl)) pa_nil)) (pg_tup rfl (pgs_cons (pg_name (i := 3) nd rfl (by first | exact Or.inl rfl | exact Or.inr rfl)) (pgs_cons (pg_name (i := 4) nd rfl (by first | exact Or.inl rfl | exact Or.inr rfl)) pgs_nil)))
    (pss_cons (ps_set (i := 5) nd rfl (by first | exact Or.inl rfl | exact Or.inr rfl) (pe_op op_fdiv (pv 1) (pv 4)))
    (pss_cons (ps_if (PW.pt (pw_and (pt_cmpR (k_in K) (pv 3) (pe_ix (kx_T K) (pv 0) pe_int (fun _ _ => rfl)) (by with_unfolding_all rfl)) (pw_and1 (pt_cmpR op_gt (pv 5) pe_int (nomark _)))))
    (pss_one (ps_set (i := 5) nd rfl (by first | exact Or.inl rfl | exact Or.inr rfl) (pe_op op_sub (pe_op op_mul pe_int (pv 5)) pe_int)))
    pss_nil)
    (pss_one (ps_aug (i := 2) nd rfl (by first | exact Or.inl rfl | exact Or.inr rfl) (pv 5) ip_add)))))
    (pss_one (ps_ret (pv 2))))), run_D h fun ds R hA => ?_⟩
    obtain ⟨t, d, rfl, o, rfl⟩ := hA
    refine do_let is_int ?_
    refine do_seq (do_enum (xs := t.nums) (enc := .int) (I := fun k ρ => ∃ c : Int, ρ = [.dat (dT t), .dat (.int d), .dat (.int c), .no, .no, .no] ∧ c + needL t.long d (t.nums.drop k) k = needOf t d) (is_ixT (n := 0) (is_var rfl) is_int rfl rfl) ⟨_, ⟨0, rfl, by simp [needOf]⟩, Le.refl _⟩ ?_ ?_)
    · rintro k x ρ1 hx ⟨c, rfl, hc⟩
      have xm := o.nums.mem x (List.mem_of_getElem? hx)
      rw [drop_at hx, needL] at hc
      have fin : ∀ v : Int, v = (if (k : Int) ∈ t.long ∧ 0 < d / x then 2 * (d / x) - 1 else d / x) → Do (tAug 2 (tVar 5) (ipI fun i j => i + j)) [.dat (dT t), .dat (.int d), .dat (.int c), .dat (.int k), .dat (.int x), .dat (.int v)] (Lp (fun o => match o with | .nx ρ' => Do (tRet (tVar 2)) ρ' (Rts fun x => x = .int (needOf t d)) | o => Rts (fun x => x = .int (needOf t d)) o) (fun ρ => ∃ c : Int, ρ = [.dat (dT t), .dat (.int d), .dat (.int c), .no, .no, .no] ∧ c + needL t.long d (t.nums.drop (k + 1)) ((k + 1 : Nat) : Int) = needOf t d)) := fun v hv => by
        refine do_aug rfl (is_var rfl) ⟨_, ⟨c + v, rfl, ?_⟩, ⟨rfl, rfl, rfl, True.intro⟩⟩
        rw [← hc, hv]
        have e1 : ((k + 1 : Nat) : Int) = (k : Int) + 1 := by omega
        rw [e1]; omega
      refine do_let (is_cI (is_var rfl) (is_var rfl) ⟨by omega, by omega⟩) ?_
      refine do_when (ist_and (ist_test (is_inT (is_var rfl) (is_ixT (n := 3) (is_var rfl) is_int rfl rfl))) fun _ => ist_test (is_bI (is_var rfl) is_int)) (fun e => ?_) fun e => ?_
      · refine (do_asg (is_iI (is_cI is_int (is_var rfl) (.inl ⟨by omega, by omega⟩)) is_int)).mono fun o ho => ?_
        subst ho
        refine fin _ ?_
        simp only [Bool.and_eq_true, decide_eq_true_eq] at e
        rw [if_pos e]
      · refine fin _ ?_
        have e2 : ¬ ((k : Int) ∈ t.long ∧ 0 < d / x) := fun h => by simp [h.1, h.2] at e
        rw [if_neg e2]
    · rintro ρ1 ⟨c, rfl, hc⟩
      rw [List.drop_length] at hc
      refine do_retD (is_var rfl) ?_
      rw [← hc, needL, Int.add_zero]
      rfl
def offAt (t : Tk) (i : Int) : Int := t.off.getD i.toNat 0
def roomL (t : Tk) (p : Int) : Nat → Int
  | 0 => 0
  | k + 1 => roomL t p k + (1 - offAt t ((p + (k : Int)) % t.off.length))
def roomOf (t : Tk) (d p : Int) : Int := t.hands * (d / t.off.length * ((t.off.filter fun x => decide (x = 0)).length : Int) + roomL t p (d % t.off.length).toNat)
def A_room_of (ds : List PyData) (R : PyData → Prop) : Prop := ∃ (t : Tk) (d p : Int), ds = [dT t, .int d, .int p] ∧ TaskOk t ∧ R = fun x => x = .int (roomOf t d p)
def sp_room_of : Sp := spD A_room_of
theorem ln_room_of : ∀ ds R, A_room_of ds R → ds.length = 3 := fun ds R ⟨_, _, _, h, _⟩ => by rw [h]; rfl
theorem c_room_of {tx : TA} {ρ : List Ent} {t : Tk} {d p : Int} (o : TaskOk t) (ha : IsA tx ρ [dT t, .int d, .int p]) : Is (tCall sp_room_of [] E0 tx) ρ (.int (roomOf t d p)) := isP_call ha ⟨t, d, p, rfl, o, rfl⟩
theorem off_get {t : Tk} (o : TaskOk t) (i : Int) : (t.off.map PyData.int)[(i % (t.off.length : Int)).toNat]? = some (.int (offAt t (i % t.off.length))) := by
  have h := o.offl
  have m1 := Int.emod_nonneg i (by omega : (t.off.length : Int) ≠ 0)
  have m2 := Int.emod_lt_of_pos i (by omega : 0 < (t.off.length : Int))
  have hl : (i % (t.off.length : Int)).toNat < t.off.length := by omega
  rw [List.getElem?_map, List.getElem?_eq_getElem hl, offAt, List.getD_eq_getElem?_getD, List.getElem?_eq_getElem hl]
  rfl
theorem ok_room_of {P : Program} {w : World} {K : PySem.W.Frag} {mg : Str → Option Value} {base : Heap} {f : Addr} {fd : FuncData} (F : FnP K "room_of" "room_of" s_room_of f fd) (md : Md mg) : FnOk P w K mg base CX0 1 f fd ["task", "days", "phase"] sp_room_of := by
  refine FunD.ok F sc_room_of (fun vs H Q E h => len_D (fun ds R hA => ?_) h) (fun cdv A outer s H vs Q E hr h => ?_)
  · exact ln_room_of ds R hA
  · have nd := sc_room_of.nd
    refine ⟨_, PSs.nox (pss_cons (ps_set (i := 3) nd rfl (by first | exact Or.inl rfl | exact Or.inr rfl) (pe_ix (kx_T K) (pv 0) pe_int (fun _ _ => rfl)))
    (pss_cons (ps_set (i := 4) nd rfl (by first | exact Or.inl rfl | exact Or.inr rfl) (pe_op op_mul (pe_op op_fdiv (pv 1) (pe_callB (k_len K) (by rfl) md.len PySem.boot_len (pa_cons (pv 3) pa_nil))) (pe_callB (k_len K) (by rfl) md.len PySem.boot_len (pa_cons (pe_lc (own := [("place", 6)]) (g := gName 6) rfl nd (k_pt K (pv 3)) (blkOk_by (own := [("place", 6)]) (N := N_room_of) (sc := defScope s_room_of) (by decide +kernel)) (fun _ _ _ _ _ => pg_name (i := 6) nd rfl (Or.inl rfl)) (fun _ _ _ _ _ => (pts_one (pt_cmpR op_eq (pv 6) pe_int (nomark _)))) (fun _ _ _ _ _ => (pv 6))) pa_nil))))
    (pss_cons (ps_for PassesOwn.never rfl (pi_range1 (by rfl) md.range (pa_cons (pe_op op_mod (pv 1) (pe_callB (k_len K) (by rfl) md.len PySem.boot_len (pa_cons (pv 3) pa_nil))) pa_nil)) (pg_name (i := 5) nd rfl (by first | exact Or.inl rfl | exact Or.inr rfl))
    (pss_one (ps_aug (i := 4) nd rfl (by first | exact Or.inl rfl | exact Or.inr rfl) (pe_op op_sub pe_int (pe_ix (kx_T K) (pv 3) (pe_op op_mod (pe_op op_add (pv 2) (pv 5)) (pe_callB (k_len K) (by rfl) md.len PySem.boot_len (pa_cons (pv 3) pa_nil))) (fun _ _ => rfl))) ip_add)))
    (pss_one (ps_ret (pe_op op_mul (pe_ix (kx_T K) (pv 0) pe_int (fun _ _ => rfl)) (pv 4))))))), run_D h fun ds R hA => ?_⟩
    obtain ⟨t, d, p, rfl, o, rfl⟩ := hA
    have ol := o.offl
    refine do_let (is_ixT (n := 2) (is_var rfl) is_int rfl rfl) ?_
    refine do_let (is_cI (is_cI (is_var rfl) (is_lenT (is_var rfl)) ?_) (is_lenL (isL_new (isN_lcT (xs := t.off) (enc := .int) (p := fun x => decide (x = 0)) (f := .int) (is_var rfl) (by omega) (notDrw_of rfl (by intro z; cases z)) (fun x hx => ist_test (is_eqI (is_var rfl) is_int)) fun x hx _ => is_var rfl))) ?_) ?_
    · rw [List.length_map]; exact ⟨by omega, by omega⟩
    · simp only [List.length_map]
      have := List.length_filter_le (fun x : Int => decide (x = 0)) t.off
      exact .inr ⟨by omega, by omega⟩
    rw [List.length_map, List.length_map]
    have dm1 := Int.emod_nonneg d (by omega : (t.off.length : Int) ≠ 0)
    have dm2 := Int.emod_lt_of_pos d (by omega : 0 < (t.off.length : Int))
    refine do_seq (do_forR1 (m := d % (t.off.length : Int)) (n := (d % (t.off.length : Int)).toNat) (I := fun k ρ => ρ = [.dat (dT t), .dat (.int d), .dat (.int p), .dat (tI t.off), .dat (.int (d / t.off.length * ((t.off.filter fun x => decide (x = 0)).length : Int) + roomL t p k)), .no, .no]) ?_ rfl (by omega) ⟨_, rfl, ?_⟩ ?_ ?_)
    · refine isA_cons ?_ isA_nil
      have := is_cI (ρ := ((pars N_room_of.length [dT t, .int d, .int p]).set 3 (.dat (tI t.off))).set 4 (.dat (.int (d / (t.off.length : Int) * ((t.off.filter fun x => decide (x = 0)).length : Int))))) (C := fun _ j => 0 < j) (g := fun i j => i % j) (is_var (i := 1) rfl) (is_lenT (K := K) (is_var (i := 3) rfl)) (by rw [List.length_map]; omega)
      rw [List.length_map] at this
      exact this
    · simp [Le, roomL, pars]
    · rintro k ρ1 hk rfl
      refine do_aug rfl (is_iI is_int (is_ixT (n := ((p + (k : Int)) % (t.off.length : Int)).toNat) (is_var rfl) (Is.to (e := .int ((p + (k : Int)) % (t.off.length : Int))) (is_cI (is_iI (is_var rfl) (is_var rfl)) (is_lenT (is_var rfl)) ?_) ?_) ?_ (off_get o _))) ⟨_, rfl, ?_⟩
      · rw [List.length_map]; show 0 < _; omega
      · rw [List.length_map]
      · have m1 := Int.emod_nonneg (p + (k : Int)) (by omega : (t.off.length : Int) ≠ 0)
        omega
      · simp only [roomL, Int.add_assoc]
        exact ⟨rfl, rfl, rfl, rfl, rfl, True.intro⟩
    · rintro ρ1 rfl
      refine do_retD (is_cI (is_ixT (n := 1) (is_var rfl) is_int rfl rfl) (is_var rfl) (.inl ?_)) rfl
      rcases o.hands with h | h <;> rw [h] <;> decide
def CrowdOk (t : Tk) (d p : Int) : Prop := 1 ≤ d ∧ d ≤ 2100 ∧ 0 ≤ p ∧ p < t.off.length ∧ roomOf t d p < needOf t d
def A_least_crowd (ds : List PyData) (R : PyData → Prop) : Prop := ∃ t : Tk, ds = [dT t] ∧ TaskOk t ∧ R = fun x => x = .none ∨ ∃ d p : Int, x = .tuple [.int d, .int p] ∧ CrowdOk t d p
def sp_least_crowd : Sp := spD A_least_crowd
theorem ln_least_crowd : ∀ ds R, A_least_crowd ds R → ds.length = 1 := fun ds R ⟨_, h, _⟩ => by rw [h]; rfl
theorem c_least_crowd {tx : TA} {ρ : List Ent} {t : Tk} (o : TaskOk t) (ha : IsA tx ρ [dT t]) : IsP (tCall sp_least_crowd [] E0 tx) ρ (fun x => x = .none ∨ ∃ d p : Int, x = .tuple [.int d, .int p] ∧ CrowdOk t d p) := isP_call ha ⟨t, rfl, o, rfl⟩
theorem ok_least_crowd {P : Program} {w : World} {K : PySem.W.Frag} {mg : Str → Option Value} {base : Heap} {f : Addr} {fd : FuncData} (F : FnP K "least_crowd" "least_crowd" s_least_crowd f fd) (md : Md mg) {f_days_together : Addr} {fd_days_together : FuncData} (h_days_together : Has P w K mg base 1 "days_together" ["one", "other"] sp_days_together f_days_together fd_days_together) {f_common : Addr} {fd_common : FuncData} (h_common : Has P w K mg base 4 "common" ["numbers"] sp_common f_common fd_common) {f_need_of : Addr} {fd_need_of : FuncData} (h_need_of : Has P w K mg base 1 "need_of" ["task", "days"] sp_need_of f_need_of fd_need_of) {f_room_of : Addr} {fd_room_of : FuncData} (h_room_of : Has P w K mg base 1 "room_of" ["task", "days", "phase"] sp_room_of f_room_of fd_room_of) : FnOk P w K mg base CX0 5 f fd ["task"] sp_least_crowd := by
  refine FunD.ok F sc_least_crowd (fun vs H Q E h => len_D (fun ds R hA => ?_) h) (fun cdv A outer s H vs Q E hr h => ?_)
  · exact ln_least_crowd ds R hA
  · have nd := sc_least_crowd.nd
    refine ⟨_, PSs.nox (pss_cons (ps_asg (pv 0) (pg_tup rfl (pgs_cons (pg_name (i := 1) nd rfl (by first | exact Or.inl rfl | exact Or.inr rfl)) (pgs_cons (pg_name (i := 2) nd rfl (by first | exact Or.inl rfl | exact Or.inr rfl)) (pgs_cons (pg_name (i := 3) nd rfl (by first | exact Or.inl rfl | exact Or.inr rfl)) (pgs_cons (pg_name (i := 4) nd rfl (by first | exact Or.inl rfl | exact Or.inr rfl)) (pgs_cons (pg_name (i := 5) nd rfl (by first | exact Or.inl rfl | exact Or.inr rfl)) pgs_nil)))))))
    (pss_cons (ps_set (i := 6) nd rfl (by first | exact Or.inl rfl | exact Or.inr rfl) (pe_call h_days_together.ok (hr.mono (by decide)) rfl h_days_together.g h_days_together.kp h_days_together.b .nil pass0 (pa_cons (pe_call h_common.ok (hr.mono (by decide)) rfl h_common.g h_common.kp h_common.b .nil pass0 (pa_cons (pv 1) pa_nil)) (pa_cons (pe_callB (k_len K) (by rfl) md.len PySem.boot_len (pa_cons (pv 3) pa_nil)) pa_nil))))
    (pss_cons (ps_for PassesOwn.never rfl (pi_range2 (by rfl) md.range (pa_cons pe_int (pa_cons (pe_op op_add (pv 6) pe_int) pa_nil))) (pg_name (i := 7) nd rfl (by first | exact Or.inl rfl | exact Or.inr rfl))
    (pss_cons (ps_set (i := 8) nd rfl (by first | exact Or.inl rfl | exact Or.inr rfl) (pe_call h_need_of.ok (hr.mono (by decide)) rfl h_need_of.g h_need_of.kp h_need_of.b .nil pass0 (pa_cons (pv 0) (pa_cons (pv 7) pa_nil))))
    (pss_one (ps_for PassesOwn.never rfl (pi_range1 (by rfl) md.range (pa_cons (pe_callB (k_len K) (by rfl) md.len PySem.boot_len (pa_cons (pv 3) pa_nil)) pa_nil)) (pg_name (i := 9) nd rfl (by first | exact Or.inl rfl | exact Or.inr rfl))
    (pss_one (ps_if (pt_cmpR op_gt (pv 8) (pe_call h_room_of.ok (hr.mono (by decide)) rfl h_room_of.g h_room_of.kp h_room_of.b .nil pass0 (pa_cons (pv 0) (pa_cons (pv 7) (pa_cons (pv 9) pa_nil)))) (nomark _))
    (pss_one (ps_ret (pe_tup (pa_cons (pv 7) (pa_cons (pv 9) pa_nil)))))
    pss_nil))))))
    (pss_one (ps_ret pe_non))))), run_D h fun ds R hA => ?_⟩
    obtain ⟨t, rfl, o, rfl⟩ := hA
    have ol := o.offl
    refine do_letT (is_var rfl) (tg_tup (tgs_cons (tgs_cons (tgs_cons (tgs_cons (tgs_cons tgs_nil)))))) ?_
    refine do_letP (Y := fun x => ∃ r : Int, x = .int r ∧ 0 ≤ r ∧ r ≤ 2100) ?_ fun x ⟨r, hx, r0, r1⟩ => ?_
    · intro σ G H En Q q
      refine c_common o.nums (isA_cons (is_var rfl) isA_nil) σ G H En _ fun v x G1 H1 ⟨c, hc, c0, c1⟩ n1 hv => ?_
      subst hc
      have := o.nums.pr
      refine is_lenT (K := K) (is_var rfl) σ G1 H1 n1.e _ fun v2 x2 G2 H2 hx2 n2 hv2 => ?_
      subst hx2
      rw [List.length_map] at hv2
      refine ⟨G2, [.int c, .int (t.off.length : Int)], _, n2.e.ex, .cons (hv.up n2.w.g) (.cons hv2 .nil), ⟨c, t.off.length, rfl, ⟨c0, by omega, by omega, by omega⟩, rfl⟩, fun v d G3 H3 hd w hv => q v d G3 H3 hd ((n1.trans n2).trans (Nx.of0 n2.e w)) hv⟩
    subst hx
    refine do_seq (do_forR2 (lo := 1) (hi := r + 1) (n := r.toNat) (I := fun k ρ => ρ = [.dat (dT t), .dat (tI t.nums), .dat (.int t.hands), .dat (tI t.off), .dat (tI t.long), .dat (.tuple (t.tied.map dPr)), .dat (.int r), .no, .no, .no]) (isA_cons is_int (isA_cons (is_iI (is_var rfl) is_int) isA_nil)) (by omega) (by omega) ⟨_, rfl, Le.refl _⟩ ?_ ?_)
    · rintro k ρ1 hk rfl
      refine do_let (c_need_of o (isA_cons (is_var rfl) (isA_cons (is_var rfl) isA_nil))) ?_
      refine do_forR1 (m := (t.off.length : Int)) (n := t.off.length) (I := fun j ρ => ρ = [.dat (dT t), .dat (tI t.nums), .dat (.int t.hands), .dat (tI t.off), .dat (tI t.long), .dat (.tuple (t.tied.map dPr)), .dat (.int r), .dat (.int (1 + (k : Int))), .dat (.int (needOf t (1 + (k : Int)))), .no]) (isA_cons (Is.to (is_lenT (is_var rfl)) (by rw [List.length_map])) isA_nil) (by omega) (by omega) ⟨_, rfl, Le.refl _⟩ ?_ ?_
      · rintro j ρ1 hj rfl
        refine do_if (ist_test (is_bI (is_var rfl) (c_room_of o (isA_cons (is_var rfl) (isA_cons (is_var rfl) (isA_cons (is_var rfl) isA_nil)))))) (fun e => ?_) fun e => do_next ⟨_, rfl, ⟨rfl, rfl, rfl, rfl, rfl, rfl, rfl, rfl, rfl, True.intro⟩⟩
        have e := of_decide_eq_true e
        exact do_retD (is_tup (isA_cons (is_var rfl) (isA_cons (is_var rfl) isA_nil))) (.inr ⟨_, _, rfl, by omega, by omega, by omega, by omega, e⟩)
      · rintro ρ1 rfl
        exact ⟨_, rfl, ⟨rfl, rfl, rfl, rfl, rfl, rfl, rfl, True.intro⟩⟩
    · rintro ρ1 rfl
      exact do_retD is_non (.inl rfl)
end W36
end
section
set_option Elab.async false
set_option linter.all false
set_option maxRecDepth 100000
set_option maxHeartbeats 4000000
namespace W36
open PySem L2 Evl
structure DayR (m : Int) (day : List Int) : Prop where
  r : rising day 0 (m - 1) = true
  l : day.length ≤ 2
def A_is_day (ds : List PyData) (R : PyData → Prop) : Prop := ∃ (m : Int) (day : List Int), ds = [.int m, tI day] ∧ DayR m day ∧ R = fun x => x = .bool true
def sp_is_day : Sp := spD A_is_day
theorem ln_is_day : ∀ ds R, A_is_day ds R → ds.length = 2 := fun ds R ⟨_, _, h, _⟩ => by rw [h]; rfl
theorem c_is_day {tx : TA} {ρ : List Ent} {m : Int} {day : List Int} (o : DayR m day) (ha : IsA tx ρ [.int m, tI day]) : Is (tCall sp_is_day [] E0 tx) ρ (.bool true) := isP_call ha ⟨m, day, rfl, o, rfl⟩
theorem ok_is_day {P : Program} {w : World} {K : PySem.W.Frag} {mg : Str → Option Value} {base : Heap} {f : Addr} {fd : FuncData} (F : FnP K "is_day" "is_day" s_is_day f fd) (md : Md mg) {f_is_rising : Addr} {fd_is_rising : FuncData} (h_is_rising : Has P w K mg base 2 "is_rising" ["thing", "least", "most"] sp_is_rising f_is_rising fd_is_rising) : FnOk P w K mg base CX0 3 f fd ["many", "thing"] sp_is_day := by
  refine FunD.ok F sc_is_day (fun vs H Q E h => len_D (fun ds R hA => ?_) h) (fun cdv A outer s H vs Q E hr h => ?_)
  · exact ln_is_day ds R hA
  · obtain ⟨t_MOST_ON_A_DAY, g_MOST_ON_A_DAY⟩ := md.MOST_ON_A_DAY
    have nd := sc_is_day.nd
    refine ⟨_, PSs.nox (pss_one (ps_ret (pe_and (pe_call h_is_rising.ok (hr.mono (by decide)) rfl h_is_rising.g h_is_rising.kp h_is_rising.b .nil pass0 (pa_cons (pv 1) (pa_cons pe_int (pa_cons (pe_op op_sub (pv 0) pe_int) pa_nil)))) (pe_one (pe_cmpR op_le (pe_callB (k_len K) (by rfl) md.len PySem.boot_len (pa_cons (pv 1) pa_nil)) (pe_glob (v := .int 2) (by rfl) g_MOST_ON_A_DAY ⟨t_MOST_ON_A_DAY, rfl⟩) (nomark _)))))), run_D h fun ds R hA => ?_⟩
    obtain ⟨m, day, rfl, o, rfl⟩ := hA
    refine do_retD (Is.to (e := .bool true) (is_andV (c_is_rising (isA_cons (is_var rfl) (isA_cons is_int (isA_cons (is_iI (is_var rfl) is_int) isA_nil)))) fun _ => is_bI (is_lenT (is_var rfl)) is_int) ?_) rfl
    have l := o.l
    rw [o.r, List.length_map]
    simp; omega
structure DaysR (m : Int) (dl : List (List Int)) : Prop where
  d : ∀ day ∈ dl, DayR m day
  l : dl.length ≤ 4000
def A_are_days (ds : List PyData) (R : PyData → Prop) : Prop := ∃ (m : Int) (dl : List (List Int)), ds = [.int m, .tuple (dl.map tI)] ∧ DaysR m dl ∧ R = fun x => x = .bool true
def sp_are_days : Sp := spD A_are_days
theorem ln_are_days : ∀ ds R, A_are_days ds R → ds.length = 2 := fun ds R ⟨_, _, h, _⟩ => by rw [h]; rfl
theorem c_are_days {tx : TA} {ρ : List Ent} {m : Int} {dl : List (List Int)} (o : DaysR m dl) (ha : IsA tx ρ [.int m, .tuple (dl.map tI)]) : Is (tCall sp_are_days [] E0 tx) ρ (.bool true) := isP_call ha ⟨m, dl, rfl, o, rfl⟩
theorem ok_are_days {P : Program} {w : World} {K : PySem.W.Frag} {mg : Str → Option Value} {base : Heap} {f : Addr} {fd : FuncData} (F : FnP K "are_days" "are_days" s_are_days f fd) (md : Md mg) {f_is_row : Addr} {fd_is_row : FuncData} (h_is_row : Has P w K mg base 1 "is_row" ["thing"] sp_is_row f_is_row fd_is_row) {f_is_day : Addr} {fd_is_day : FuncData} (h_is_day : Has P w K mg base 3 "is_day" ["many", "thing"] sp_is_day f_is_day fd_is_day) : FnOk P w K mg base CX0 4 f fd ["many", "thing"] sp_are_days := by
  refine FunD.ok F sc_are_days (fun vs H Q E h => len_D (fun ds R hA => ?_) h) (fun cdv A outer s H vs Q E hr h => ?_)
  · exact ln_are_days ds R hA
  · obtain ⟨t_LONGEST, g_LONGEST⟩ := md.LONGEST
    have nd := sc_are_days.nd
    refine ⟨_, PSs.nox (pss_cons (ps_if (PW.pt (pw_or (pt_not (pt_val (pe_call h_is_row.ok (hr.mono (by decide)) rfl h_is_row.g h_is_row.kp h_is_row.b .nil pass0 (pa_cons (pv 1) pa_nil)))) (pw_or1 (pt_cmpR op_gt (pe_callB (k_len K) (by rfl) md.len PySem.boot_len (pa_cons (pv 1) pa_nil)) (pe_glob (v := .int 4000) (by rfl) g_LONGEST ⟨t_LONGEST, rfl⟩) (nomark _)))))
    (pss_one (ps_ret pe_bl))
    pss_nil)
    (pss_one (ps_ret (pe_cmpR (k_eqD K hr.units) (pe_lc (own := [("day", 2)]) (g := gName 2) rfl nd (k_pt K (pv 1)) (blkOk_by (own := [("day", 2)]) (N := N_are_days) (sc := defScope s_are_days) (by decide +kernel)) (fun _ _ _ _ _ => pg_name (i := 2) nd rfl (Or.inl rfl)) (fun _ _ _ _ _ => (pts_one (pt_not (pt_val (pe_call h_is_day.ok (hr.mono (by decide)) rfl h_is_day.g h_is_day.kp h_is_day.b .nil pass0 (pa_cons (pv 0) (pa_cons (pv 2) pa_nil))))))) (fun _ _ _ _ _ => (pv 2))) (pe_lst pa_nil) (nomark _))))), run_D h fun ds R hA => ?_⟩
    obtain ⟨m, dl, rfl, o, rfl⟩ := hA
    have ol := o.l
    refine do_when (b := false) (IsB.to (ist_or (ist_not (ist_B (c_is_row (isA_cons (is_var rfl) isA_nil)))) fun _ => ist_test (is_bI (is_lenT (is_var rfl)) is_int)) ?_) (fun e => by cases e) fun _ => ?_
    · rw [List.length_map]; simp [isRow]; omega
    refine do_retD (is_eqNil (ds := []) (isL_new (IsN.to (es := []) (isN_lcT (xs := dl) (enc := tI) (p := fun _ => false) (f := tI) (is_var rfl) (by omega) (notDrw_of rfl (by intro z; cases z)) (fun x hx => ist_not (ist_B (c_is_day (m := m) (o.d x hx) (isA_cons (is_var rfl) (isA_cons (is_var rfl) isA_nil))))) fun x hx e => by cases e) (by simp))) shaped_nil) rfl
def A_is_ring (ds : List PyData) (R : PyData → Prop) : Prop := ∃ (m : Int) (dl : List (List Int)), ds = [.int m, .tuple (dl.map tI)] ∧ DaysR m dl ∧ dl ≠ [] ∧ R = fun x => x = .bool true
def sp_is_ring : Sp := spD A_is_ring
theorem ln_is_ring : ∀ ds R, A_is_ring ds R → ds.length = 2 := fun ds R ⟨_, _, h, _⟩ => by rw [h]; rfl
theorem c_is_ring {tx : TA} {ρ : List Ent} {m : Int} {dl : List (List Int)} (o : DaysR m dl) (h : dl ≠ []) (ha : IsA tx ρ [.int m, .tuple (dl.map tI)]) : Is (tCall sp_is_ring [] E0 tx) ρ (.bool true) := isP_call ha ⟨m, dl, rfl, o, h, rfl⟩
theorem ok_is_ring {P : Program} {w : World} {K : PySem.W.Frag} {mg : Str → Option Value} {base : Heap} {f : Addr} {fd : FuncData} (F : FnP K "is_ring" "is_ring" s_is_ring f fd) (md : Md mg) {f_are_days : Addr} {fd_are_days : FuncData} (h_are_days : Has P w K mg base 4 "are_days" ["many", "thing"] sp_are_days f_are_days fd_are_days) : FnOk P w K mg base CX0 5 f fd ["many", "thing"] sp_is_ring := by
  refine FunD.ok F sc_is_ring (fun vs H Q E h => len_D (fun ds R hA => ?_) h) (fun cdv A outer s H vs Q E hr h => ?_)
  · exact ln_is_ring ds R hA
  · have nd := sc_is_ring.nd
    refine ⟨_, PSs.nox (pss_one (ps_ret (pe_and (pe_call h_are_days.ok (hr.mono (by decide)) rfl h_are_days.g h_are_days.kp h_are_days.b .nil pass0 (pa_cons (pv 0) (pa_cons (pv 1) pa_nil))) (pe_one (pe_cmpR op_gt (pe_callB (k_len K) (by rfl) md.len PySem.boot_len (pa_cons (pv 1) pa_nil)) pe_int (nomark _)))))), run_D h fun ds R hA => ?_⟩
    obtain ⟨m, dl, rfl, o, h, rfl⟩ := hA
    refine do_retD (Is.to (e := .bool true) (is_andV (c_are_days o (isA_cons (is_var rfl) (isA_cons (is_var rfl) isA_nil))) fun _ => is_bI (is_lenT (is_var rfl)) is_int) ?_) rfl
    rw [List.length_map]
    cases dl with
    | nil => exact absurd rfl h
    | cons x xs => simp
def tieL : List (Int × Int) → List Int → List Int
  | [], acc => acc
  | p :: ps, acc => tieL ps (acc ++ [p.1, p.2].filter fun i => !decide (i ∈ acc))
def inTies (t : Tk) : List Int := tieL t.tied []
theorem tieL_mem : ∀ (ps : List (Int × Int)) (acc : List Int) (i : Int), i ∈ tieL ps acc ↔ i ∈ acc ∨ ∃ p ∈ ps, i = p.1 ∨ i = p.2
  | [], acc, i => by simp [tieL]
  | p :: ps, acc, i => by
    rw [tieL, tieL_mem ps]
    simp only [List.mem_append, List.mem_filter, List.mem_cons, List.not_mem_nil, or_false, Bool.not_eq_true', decide_eq_false_iff_not]
    constructor
    · rintro ((h | ⟨h, _⟩) | ⟨q, hq, h⟩)
      · exact .inl h
      · exact .inr ⟨p, .inl rfl, h⟩
      · exact .inr ⟨q, .inr hq, h⟩
    · rintro (h | ⟨q, (rfl | hq), h⟩)
      · exact .inl (.inl h)
      · by_cases c : i ∈ acc
        · exact .inl (.inl c)
        · exact .inl (.inr ⟨h, c⟩)
      · exact .inr ⟨q, hq, h⟩
theorem inTies_mem (t : Tk) (i : Int) : i ∈ inTies t ↔ ∃ p ∈ t.tied, i = p.1 ∨ i = p.2 := by simp [inTies, tieL_mem]
theorem tieL_step {ps : List (Int × Int)} {k : Nat} {p : Int × Int} (h : ps[k]? = some p) : ∀ acc, tieL (ps.take (k + 1)) acc = tieL (ps.take k) acc ++ [p.1, p.2].filter fun i => !decide (i ∈ tieL (ps.take k) acc) := by
  induction ps generalizing k with
  | nil => simp at h
  | cons q ps ih =>
    intro acc
    cases k with
    | zero => simp at h; subst h; simp [tieL]
    | succ k =>
      simp only [List.getElem?_cons_succ] at h
      simp only [List.take_succ_cons, tieL]
      exact ih h _
theorem tieL_len : ∀ (ps : List (Int × Int)) (acc : List Int), (tieL ps acc).length ≤ acc.length + 2 * ps.length
  | [], acc => by simp [tieL]
  | p :: ps, acc => by
    rw [tieL]
    have h := tieL_len ps (acc ++ [p.1, p.2].filter fun i => !decide (i ∈ acc))
    have h2 := List.length_filter_le (fun i => !decide (i ∈ acc)) [p.1, p.2]
    simp only [List.length_append, List.length_cons, List.length_nil] at h h2 ⊢
    omega
def A_in_ties (ds : List PyData) (R : PyData → Prop) : Prop := ∃ t : Tk, ds = [dT t] ∧ TaskOk t ∧ R = fun x => x = .list ((inTies t).map .int)
def sp_in_ties : Sp := spD A_in_ties
theorem ln_in_ties : ∀ ds R, A_in_ties ds R → ds.length = 1 := fun ds R ⟨_, h, _⟩ => by rw [h]; rfl
theorem c_in_ties {tx : TA} {ρ : List Ent} {t : Tk} (o : TaskOk t) (ha : IsA tx ρ [dT t]) : Is (tCall sp_in_ties [] E0 tx) ρ (.list ((inTies t).map .int)) := isP_call ha ⟨t, rfl, o, rfl⟩
theorem ok_in_ties {P : Program} {w : World} {K : PySem.W.Frag} {mg : Str → Option Value} {base : Heap} {f : Addr} {fd : FuncData} (F : FnP K "in_ties" "in_ties" s_in_ties f fd) (md : Md mg) : FnOk P w K mg base CX0 1 f fd ["task"] sp_in_ties := by
  refine FunD.ok F sc_in_ties (fun vs H Q E h => len_D (fun ds R hA => ?_) h) (fun cdv A outer s H vs Q E hr h => ?_)
  · exact ln_in_ties ds R hA
  · have nd := sc_in_ties.nd
    refine ⟨_, PSs.nox (pss_cons (ps_set (i := 1) nd rfl (by first | exact Or.inl rfl | exact Or.inr rfl) (pe_lst pa_nil))
    (pss_cons (ps_for PassesOwn.never rfl (k_pt K (pe_ix (kx_T K) (pv 0) pe_int (fun _ _ => rfl))) (pg_name (i := 2) nd rfl (by first | exact Or.inl rfl | exact Or.inr rfl))
    (pss_one (ps_set (i := 1) nd rfl (by first | exact Or.inl rfl | exact Or.inr rfl) (pe_op op_cat (pv 1) (pe_lc (own := [("i", 3)]) (g := gName 3) rfl nd (k_pt K (pv 2)) (blkOk_by (own := [("i", 3)]) (N := N_in_ties) (sc := defScope s_in_ties) (by decide +kernel)) (fun _ _ _ _ _ => pg_name (i := 3) nd rfl (Or.inl rfl)) (fun _ _ _ _ _ => (pts_one (pt_cmpR (k_nin K) (pv 3) (pv 1) (by with_unfolding_all rfl)))) (fun _ _ _ _ _ => (pv 3)))))))
    (pss_one (ps_ret (pv 1))))), run_D h fun ds R hA => ?_⟩
    obtain ⟨t, rfl, o, rfl⟩ := hA
    have ol := o.tl
    refine do_let (is_new (isN_lst isA_nil)) ?_
    refine do_seq (do_forTm (xs := t.tied) (enc := dPr) (I := fun k ρ => ρ = [.dat (dT t), .dat (.list ((tieL (t.tied.take k) []).map .int)), .no, .no]) (is_ixT (n := 4) (is_var rfl) is_int rfl rfl) (fun x => tg_name) ⟨_, rfl, Le.refl _⟩ ?_ ?_)
    · rintro k p ρ1 hp rfl
      have ln := tieL_len (t.tied.take k) []
      have lt := List.length_take_le k t.tied
      have lt2 : (t.tied.take k).length ≤ t.tied.length := by rw [List.length_take]; exact Nat.min_le_right _ _
      simp only [List.length_nil] at ln
      refine (do_asg (is_new (isN_cat (isL_dat (is_var rfl)) (isL_new (isN_lcT (xs := [p.1, p.2]) (enc := .int) (p := fun i => !decide (i ∈ tieL (t.tied.take k) [])) (f := .int) (is_var rfl) (by simp) (notDrw_of rfl (by intro z; cases z)) (fun x hx => ist_test (is_ninL (is_var rfl) (isL_dat (is_var rfl)))) fun x hx _ => is_var rfl)) ?_))).mono fun o ho => ?_
      · have h2 := List.length_filter_le (fun i => !decide (i ∈ tieL (t.tied.take k) [])) [p.1, p.2]
        simp only [List.length_map, List.length_cons, List.length_nil] at h2 ⊢
        omega
      · subst ho
        refine ⟨_, rfl, ?_⟩
        rw [tieL_step hp, List.map_append]
        exact ⟨rfl, rfl, True.intro⟩
    · rintro ρ1 rfl
      refine do_retD (is_var rfl) ?_
      rw [List.take_length]; rfl
structure WaitsOk (ns ws : List Int) : Prop where
  len : ws.length = ns.length
  mem : ∀ (i : Nat) (w n : Int), ws[i]? = some w → ns[i]? = some n → 1 ≤ w ∧ w ≤ n
def A_are_waits (ds : List PyData) (R : PyData → Prop) : Prop := ∃ ns ws : List Int, ds = [tI ns, tI ws] ∧ (WaitsOk ns ws ∧ ns.length ≤ 8) ∧ R = fun x => x = .bool true
def sp_are_waits : Sp := spD A_are_waits
theorem ln_are_waits : ∀ ds R, A_are_waits ds R → ds.length = 2 := fun ds R ⟨_, _, h, _⟩ => by rw [h]; rfl
theorem c_are_waits {tx : TA} {ρ : List Ent} {ns ws : List Int} (o : WaitsOk ns ws) (h : ns.length ≤ 8) (ha : IsA tx ρ [tI ns, tI ws]) : Is (tCall sp_are_waits [] E0 tx) ρ (.bool true) := isP_call ha ⟨ns, ws, rfl, ⟨o, h⟩, rfl⟩
theorem ok_are_waits {P : Program} {w : World} {K : PySem.W.Frag} {mg : Str → Option Value} {base : Heap} {f : Addr} {fd : FuncData} (F : FnP K "are_waits" "are_waits" s_are_waits f fd) (md : Md mg) {f_is_row : Addr} {fd_is_row : FuncData} (h_is_row : Has P w K mg base 1 "is_row" ["thing"] sp_is_row f_is_row fd_is_row) {f_is_whole : Addr} {fd_is_whole : FuncData} (h_is_whole : Has P w K mg base 1 "is_whole" ["thing", "least", "most"] sp_is_whole f_is_whole fd_is_whole) : FnOk P w K mg base CX0 2 f fd ["numbers", "waits"] sp_are_waits := by
  refine FunD.ok F sc_are_waits (fun vs H Q E h => len_D (fun ds R hA => ?_) h) (fun cdv A outer s H vs Q E hr h => ?_)
  · exact ln_are_waits ds R hA
  · have nd := sc_are_waits.nd
    refine ⟨_, PSs.nox (pss_cons (ps_if (PW.pt (pw_or (pt_not (pt_val (pe_call h_is_row.ok (hr.mono (by decide)) rfl h_is_row.g h_is_row.kp h_is_row.b .nil pass0 (pa_cons (pv 1) pa_nil)))) (pw_or1 (pt_cmpR op_ne (pe_callB (k_len K) (by rfl) md.len PySem.boot_len (pa_cons (pv 1) pa_nil)) (pe_callB (k_len K) (by rfl) md.len PySem.boot_len (pa_cons (pv 0) pa_nil)) (nomark _)))))
    (pss_one (ps_ret pe_bl))
    pss_nil)
    (pss_one (ps_ret (pe_cmpR (k_eqD K hr.units) (pe_lc (own := [("i", 2)]) (g := gName 2) rfl nd (pi_range1 (by rfl) md.range (pa_cons (pe_callB (k_len K) (by rfl) md.len PySem.boot_len (pa_cons (pv 0) pa_nil)) pa_nil)) (blkOk_by (own := [("i", 2)]) (N := N_are_waits) (sc := defScope s_are_waits) (by decide +kernel)) (fun _ _ _ _ _ => pg_name (i := 2) nd rfl (Or.inl rfl)) (fun _ _ _ _ _ => (pts_one (pt_not (pt_val (pe_call h_is_whole.ok (hr.mono (by decide)) rfl h_is_whole.g h_is_whole.kp h_is_whole.b .nil pass0 (pa_cons (pe_ix (kx_T K) (pv 1) (pv 2) (fun _ _ => rfl)) (pa_cons pe_int (pa_cons (pe_ix (kx_T K) (pv 0) (pv 2) (fun _ _ => rfl)) pa_nil)))))))) (fun _ _ _ _ _ => (pv 2))) (pe_lst pa_nil) (nomark _))))), run_D h fun ds R hA => ?_⟩
    obtain ⟨ns, ws, rfl, ⟨o, h8⟩, rfl⟩ := hA
    have ol := o.len
    refine do_when (b := false) (IsB.to (ist_or (ist_not (ist_B (c_is_row (isA_cons (is_var rfl) isA_nil)))) fun _ => ist_test (is_neI (is_lenT (is_var rfl)) (is_lenT (is_var rfl)))) ?_) (fun e => by cases e) fun _ => ?_
    · simp [isRow, ol]
    refine do_retD (is_eqNil (ds := []) (isL_new (IsN.to (es := []) (isN_lcR1 (m := (ns.length : Int)) (n := ns.length) (p := fun _ => false) (f := fun i => .int (i : Int)) (isA_cons (Is.to (is_lenT (is_var rfl)) (by rw [List.length_map])) isA_nil) (by omega) (by omega) (notDrw_of rfl (by intro z; cases z)) (fun i hi => ?_) fun i hi e => by cases e) (by simp))) shaped_nil) rfl
    have hw : ws[i]? = some ws[i] := List.getElem?_eq_getElem (by omega)
    have hn : ns[i]? = some ns[i] := List.getElem?_eq_getElem hi
    refine IsB.to (ist_not (ist_B (c_is_whole (isA_cons (is_ixT (b := (i : Int)) (n := i) (d := .int ws[i]) (is_var rfl) (is_var rfl) rfl (by rw [List.getElem?_map, hw]; rfl)) (isA_cons is_int (isA_cons (is_ixT (b := (i : Int)) (n := i) (d := .int ns[i]) (is_var rfl) (is_var rfl) rfl (by rw [List.getElem?_map, hn]; rfl)) isA_nil)))))) ?_
    have := o.mem i _ _ hw hn
    simp; omega
structure SomeOf (ns row : List Int) (m : Int) : Prop where
  r : rising row 0 7 = true
  l : (row.length : Int) ≤ m
  m : ∀ i ∈ row, i ∈ ns
def A_is_some_of (ds : List PyData) (R : PyData → Prop) : Prop := ∃ (th : PyData) (ns row : List Int) (m : Int), ds = [th, tI row, .int m] ∧ (th = tI ns ∨ th = .list (ns.map .int)) ∧ (SomeOf ns row m ∧ m ≤ 2) ∧ R = fun x => x = .bool true
def sp_is_some_of : Sp := spD A_is_some_of
theorem ln_is_some_of : ∀ ds R, A_is_some_of ds R → ds.length = 3 := fun ds R ⟨_, _, _, _, h, _⟩ => by rw [h]; rfl
theorem c_is_some_of {tx : TA} {ρ : List Ent} {th : PyData} {ns row : List Int} {m : Int} (ht : th = tI ns ∨ th = .list (ns.map .int)) (o : SomeOf ns row m) (h : m ≤ 2) (ha : IsA tx ρ [th, tI row, .int m]) : Is (tCall sp_is_some_of [] E0 tx) ρ (.bool true) := isP_call ha ⟨th, ns, row, m, rfl, ht, ⟨o, h⟩, rfl⟩
theorem ok_is_some_of {P : Program} {w : World} {K : PySem.W.Frag} {mg : Str → Option Value} {base : Heap} {f : Addr} {fd : FuncData} (F : FnP K "is_some_of" "is_some_of" s_is_some_of f fd) (md : Md mg) {f_is_rising : Addr} {fd_is_rising : FuncData} (h_is_rising : Has P w K mg base 2 "is_rising" ["thing", "least", "most"] sp_is_rising f_is_rising fd_is_rising) : FnOk P w K mg base CX0 3 f fd ["things", "row", "most"] sp_is_some_of := by
  refine FunD.ok F sc_is_some_of (fun vs H Q E h => len_D (fun ds R hA => ?_) h) (fun cdv A outer s H vs Q E hr h => ?_)
  · exact ln_is_some_of ds R hA
  · have nd := sc_is_some_of.nd
    refine ⟨_, PSs.nox (pss_cons (ps_if (PW.pt (pw_or (pt_not (pt_val (pe_call h_is_rising.ok (hr.mono (by decide)) rfl h_is_rising.g h_is_rising.kp h_is_rising.b .nil pass0 (pa_cons (pv 1) (pa_cons pe_int (pa_cons pe_int pa_nil)))))) (pw_or1 (pt_cmpR op_gt (pe_callB (k_len K) (by rfl) md.len PySem.boot_len (pa_cons (pv 1) pa_nil)) (pv 2) (nomark _)))))
    (pss_one (ps_ret pe_bl))
    pss_nil)
    (pss_one (ps_ret (pe_cmpR (k_eqD K hr.units) (pe_lc (own := [("i", 3)]) (g := gName 3) rfl nd (k_pt K (pv 1)) (blkOk_by (own := [("i", 3)]) (N := N_is_some_of) (sc := defScope s_is_some_of) (by decide +kernel)) (fun _ _ _ _ _ => pg_name (i := 3) nd rfl (Or.inl rfl)) (fun _ _ _ _ _ => (pts_one (pt_cmpR (k_nin K) (pv 3) (pv 0) (by with_unfolding_all rfl)))) (fun _ _ _ _ _ => (pv 3))) (pe_lst pa_nil) (nomark _))))), run_D h fun ds R hA => ?_⟩
    obtain ⟨th, ns, row, m, rfl, ht, ⟨o, h2⟩, rfl⟩ := hA
    have ol := o.l
    refine do_when (b := false) (IsB.to (ist_or (ist_not (ist_B (c_is_rising (isA_cons (is_var rfl) (isA_cons is_int (isA_cons is_int isA_nil)))))) fun _ => ist_test (is_bI (is_lenT (is_var rfl)) (is_var rfl))) ?_) (fun e => by cases e) fun _ => ?_
    · rw [o.r, List.length_map]; simp; omega
    refine do_retD (is_eqNil (ds := []) (isL_new (IsN.to (es := []) (isN_lcT (xs := row) (enc := .int) (p := fun _ => false) (f := .int) (is_var rfl) (by omega) (notDrw_of rfl (by intro z; cases z)) (fun x hx => ?_) fun i hi e => by cases e) (by simp))) shaped_nil) rfl
    rcases ht with rfl | rfl
    · refine IsB.to (ist_test (is_ninT (is_var rfl) (is_var rfl))) ?_
      simp [o.m x hx]
    · refine IsB.to (ist_test (is_ninL (is_var rfl) (isL_dat (is_var rfl)))) ?_
      simp [o.m x hx]
structure StandOk (t : Tk) (s : Sd) : Prop where
  phase : 0 ≤ s.phase ∧ s.phase < t.off.length
  waits : WaitsOk t.nums s.waits
  busy : SomeOf t.long s.busy t.hands
  last : SomeOf (inTies t) s.last t.hands
  both : (s.busy.length : Int) + (s.last.filter fun i => !decide (i ∈ s.busy)).length ≤ t.hands
  bl : ∀ i ∈ s.busy, i ∈ inTies t → i ∈ s.last
def A_is_stand_of (ds : List PyData) (R : PyData → Prop) : Prop := ∃ (t : Tk) (s : Sd), ds = [dT t, dS s] ∧ (TaskOk t ∧ StandOk t s) ∧ R = fun x => x = .bool true
def sp_is_stand_of : Sp := spD A_is_stand_of
theorem ln_is_stand_of : ∀ ds R, A_is_stand_of ds R → ds.length = 2 := fun ds R ⟨_, _, h, _⟩ => by rw [h]; rfl
theorem c_is_stand_of {tx : TA} {ρ : List Ent} {t : Tk} {s : Sd} (o : TaskOk t) (os : StandOk t s) (ha : IsA tx ρ [dT t, dS s]) : Is (tCall sp_is_stand_of [] E0 tx) ρ (.bool true) := isP_call ha ⟨t, s, rfl, ⟨o, os⟩, rfl⟩
theorem TaskOk.h2 {t : Tk} (o : TaskOk t) : 1 ≤ t.hands ∧ t.hands ≤ 2 := by rcases o.hands with h | h <;> omega
theorem ok_is_stand_of {P : Program} {w : World} {K : PySem.W.Frag} {mg : Str → Option Value} {base : Heap} {f : Addr} {fd : FuncData} (F : FnP K "is_stand_of" "is_stand_of" s_is_stand_of f fd) (md : Md mg) {f_is_row : Addr} {fd_is_row : FuncData} (h_is_row : Has P w K mg base 1 "is_row" ["thing"] sp_is_row f_is_row fd_is_row) {f_are_waits : Addr} {fd_are_waits : FuncData} (h_are_waits : Has P w K mg base 2 "are_waits" ["numbers", "waits"] sp_are_waits f_are_waits fd_are_waits) {f_is_whole : Addr} {fd_is_whole : FuncData} (h_is_whole : Has P w K mg base 1 "is_whole" ["thing", "least", "most"] sp_is_whole f_is_whole fd_is_whole) {f_in_ties : Addr} {fd_in_ties : FuncData} (h_in_ties : Has P w K mg base 1 "in_ties" ["task"] sp_in_ties f_in_ties fd_in_ties) {f_is_some_of : Addr} {fd_is_some_of : FuncData} (h_is_some_of : Has P w K mg base 3 "is_some_of" ["things", "row", "most"] sp_is_some_of f_is_some_of fd_is_some_of) : FnOk P w K mg base CX0 4 f fd ["task", "thing"] sp_is_stand_of := by
  refine FunD.ok F sc_is_stand_of (fun vs H Q E h => len_D (fun ds R hA => ?_) h) (fun cdv A outer s H vs Q E hr h => ?_)
  · exact ln_is_stand_of ds R hA
  · have nd := sc_is_stand_of.nd
    refine ⟨_, PSs.nox (pss_cons (ps_if (PW.pt (pw_or (pt_not (pt_val (pe_call h_is_row.ok (hr.mono (by decide)) rfl h_is_row.g h_is_row.kp h_is_row.b .nil pass0 (pa_cons (pv 1) pa_nil)))) (pw_or1 (pt_cmpR op_ne (pe_callB (k_len K) (by rfl) md.len PySem.boot_len (pa_cons (pv 1) pa_nil)) pe_int (nomark _)))))
    (pss_one (ps_ret pe_bl))
    pss_nil)
    (pss_cons (ps_asg (pv 1) (pg_tup rfl (pgs_cons (pg_name (i := 2) nd rfl (by first | exact Or.inl rfl | exact Or.inr rfl)) (pgs_cons (pg_name (i := 3) nd rfl (by first | exact Or.inl rfl | exact Or.inr rfl)) (pgs_cons (pg_name (i := 4) nd rfl (by first | exact Or.inl rfl | exact Or.inr rfl)) (pgs_cons (pg_name (i := 5) nd rfl (by first | exact Or.inl rfl | exact Or.inr rfl)) pgs_nil))))))
    (pss_cons (ps_if (PW.pt (pw_or (pt_not (pt_val (pe_call h_is_whole.ok (hr.mono (by decide)) rfl h_is_whole.g h_is_whole.kp h_is_whole.b .nil pass0 (pa_cons (pv 2) (pa_cons pe_int (pa_cons (pe_op op_sub (pe_callB (k_len K) (by rfl) md.len PySem.boot_len (pa_cons (pe_ix (kx_T K) (pv 0) pe_int (fun _ _ => rfl)) pa_nil)) pe_int) pa_nil)))))) (pw_or1 (pt_not (pt_val (pe_call h_are_waits.ok (hr.mono (by decide)) rfl h_are_waits.g h_are_waits.kp h_are_waits.b .nil pass0 (pa_cons (pe_ix (kx_T K) (pv 0) pe_int (fun _ _ => rfl)) (pa_cons (pv 3) pa_nil))))))))
    (pss_one (ps_ret pe_bl))
    pss_nil)
    (pss_cons (ps_set (i := 6) nd rfl (by first | exact Or.inl rfl | exact Or.inr rfl) (pe_call h_in_ties.ok (hr.mono (by decide)) rfl h_in_ties.g h_in_ties.kp h_in_ties.b .nil pass0 (pa_cons (pv 0) pa_nil)))
    (pss_cons (ps_if (PW.pt (pw_or (pt_not (pt_val (pe_call h_is_some_of.ok (hr.mono (by decide)) rfl h_is_some_of.g h_is_some_of.kp h_is_some_of.b .nil pass0 (pa_cons (pe_ix (kx_T K) (pv 0) pe_int (fun _ _ => rfl)) (pa_cons (pv 4) (pa_cons (pe_ix (kx_T K) (pv 0) pe_int (fun _ _ => rfl)) pa_nil)))))) (pw_or1 (pt_not (pt_val (pe_call h_is_some_of.ok (hr.mono (by decide)) rfl h_is_some_of.g h_is_some_of.kp h_is_some_of.b .nil pass0 (pa_cons (pv 6) (pa_cons (pv 5) (pa_cons (pe_ix (kx_T K) (pv 0) pe_int (fun _ _ => rfl)) pa_nil)))))))))
    (pss_one (ps_ret pe_bl))
    pss_nil)
    (pss_cons (ps_if (pt_cmpR op_gt (pe_op op_add (pe_callB (k_len K) (by rfl) md.len PySem.boot_len (pa_cons (pv 4) pa_nil)) (pe_callB (k_len K) (by rfl) md.len PySem.boot_len (pa_cons (pe_lc (own := [("i", 7)]) (g := gName 7) rfl nd (k_pt K (pv 5)) (blkOk_by (own := [("i", 7)]) (N := N_is_stand_of) (sc := defScope s_is_stand_of) (by decide +kernel)) (fun _ _ _ _ _ => pg_name (i := 7) nd rfl (Or.inl rfl)) (fun _ _ _ _ _ => (pts_one (pt_cmpR (k_nin K) (pv 7) (pv 4) (by with_unfolding_all rfl)))) (fun _ _ _ _ _ => (pv 7))) pa_nil))) (pe_ix (kx_T K) (pv 0) pe_int (fun _ _ => rfl)) (nomark _))
    (pss_one (ps_ret pe_bl))
    pss_nil)
    (pss_one (ps_ret (pe_cmpR (k_eqD K hr.units) (pe_lc (own := [("i", 7)]) (g := gName 7) rfl nd (k_pt K (pv 4)) (blkOk_by (own := [("i", 7)]) (N := N_is_stand_of) (sc := defScope s_is_stand_of) (by decide +kernel)) (fun _ _ _ _ _ => pg_name (i := 7) nd rfl (Or.inl rfl)) (fun _ _ _ _ _ => (pts_one (PW.pt (pw_and (pt_cmpR (k_in K) (pv 7) (pv 6) (by with_unfolding_all rfl)) (pw_and1 (pt_cmpR (k_nin K) (pv 7) (pv 5) (by with_unfolding_all rfl))))))) (fun _ _ _ _ _ => (pv 7))) (pe_lst pa_nil) (nomark _)))))))))), run_D h fun ds R hA => ?_⟩
    obtain ⟨t, s, rfl, ⟨o, os⟩, rfl⟩ := hA
    have oh := o.h2
    have ol := os.last.l
    have ob := os.busy.l
    refine do_when (b := false) (IsB.to (ist_or (ist_not (ist_B (c_is_row (isA_cons (is_var rfl) isA_nil)))) fun _ => ist_test (is_neI (is_lenT (is_var rfl)) is_int)) rfl) (fun e => by cases e) fun _ => ?_
    refine do_letT (is_var rfl) (tg_tup (tgs_cons (tgs_cons (tgs_cons (tgs_cons tgs_nil))))) ?_
    refine do_when (b := false) (IsB.to (ist_or (ist_not (ist_B (c_is_whole (isA_cons (is_var rfl) (isA_cons is_int (isA_cons (is_iI (is_lenT (is_ixT (n := 2) (is_var rfl) is_int rfl rfl)) is_int) isA_nil)))))) fun _ => ist_not (ist_B (c_are_waits os.waits o.nums.len (isA_cons (is_ixT (n := 0) (is_var rfl) is_int rfl rfl) (isA_cons (is_var rfl) isA_nil))))) ?_) (fun e => by cases e) fun _ => ?_
    · have := os.phase
      rw [List.length_map]; simp; omega
    refine do_let (c_in_ties o (isA_cons (is_var rfl) isA_nil)) ?_
    refine do_when (b := false) (IsB.to (ist_or (ist_not (ist_B (c_is_some_of (.inl rfl) os.busy oh.2 (isA_cons (is_ixT (n := 3) (is_var rfl) is_int rfl rfl) (isA_cons (is_var rfl) (isA_cons (is_ixT (n := 1) (is_var rfl) is_int rfl rfl) isA_nil)))))) fun _ => ist_not (ist_B (c_is_some_of (.inr rfl) os.last oh.2 (isA_cons (is_var rfl) (isA_cons (is_var rfl) (isA_cons (is_ixT (n := 1) (is_var rfl) is_int rfl rfl) isA_nil)))))) rfl) (fun e => by cases e) fun _ => ?_
    refine do_when (b := false) (IsB.to (ist_test (is_bI (is_iI (is_lenT (is_var rfl)) (is_lenL (isL_new (isN_lcT (xs := s.last) (enc := .int) (p := fun i => !decide (i ∈ s.busy)) (f := .int) (is_var rfl) (by omega) (notDrw_of rfl (by intro z; cases z)) (fun x hx => ist_test (is_ninT (is_var rfl) (is_var rfl))) fun x hx _ => is_var rfl)))) (is_ixT (n := 1) (is_var rfl) is_int rfl rfl))) ?_) (fun e => by cases e) fun _ => ?_
    · have := os.both
      simp only [List.length_map]
      exact decide_eq_false (by omega)
    refine do_retD (is_eqNil (ds := []) (isL_new (IsN.to (es := []) (isN_lcT (xs := s.busy) (enc := .int) (p := fun i => decide (i ∈ inTies t) && !decide (i ∈ s.last)) (f := .int) (is_var rfl) (by omega) (notDrw_of rfl (by intro z; cases z)) (fun x hx => ist_and (ist_test (is_inL (is_var rfl) (isL_dat (is_var rfl)))) fun _ => ist_test (is_ninT (is_var rfl) (is_var rfl))) fun i hi e => is_var rfl) ?_)) shaped_nil) rfl
    have e : s.busy.filter (fun i => decide (i ∈ inTies t) && !decide (i ∈ s.last)) = [] := List.filter_eq_nil_iff.mpr fun x hx => by
      by_cases c : x ∈ inTies t
      · simp [c, os.bl x hx c]
      · simp [c]
    rw [e]; rfl
def A_asked_stand (ds : List PyData) (R : PyData → Prop) : Prop := ∃ (t : Tk) (s : Sd), ds = [dT t, dS s] ∧ (TaskOk t ∧ StandOk t s) ∧ R = fun x => x = dS s
def sp_asked_stand : Sp := spD A_asked_stand
theorem ln_asked_stand : ∀ ds R, A_asked_stand ds R → ds.length = 2 := fun ds R ⟨_, _, h, _⟩ => by rw [h]; rfl
theorem c_asked_stand {tx : TA} {ρ : List Ent} {t : Tk} {s : Sd} (o : TaskOk t) (os : StandOk t s) (ha : IsA tx ρ [dT t, dS s]) : Is (tCall sp_asked_stand [] E0 tx) ρ (dS s) := isP_call ha ⟨t, s, rfl, ⟨o, os⟩, rfl⟩
theorem rowy_dS {t : Tk} {s : Sd} (o : TaskOk t) (os : StandOk t s) (n : Nat) : rowy (n + 3) (dS s) = true := by
  have := o.nums.len
  have := os.waits.len
  have := os.busy.l
  have := os.last.l
  have := o.h2
  have h1 := rowy_tI n s.waits (by omega)
  have h2 := rowy_tI n s.busy (by omega)
  have h3 := rowy_tI n s.last (by omega)
  show (decide ([PyData.int s.phase, tI s.waits, tI s.busy, tI s.last].length ≤ 50000) && (rowy (n + 2) (.int s.phase) && (rowy (n + 2) (tI s.waits) && (rowy (n + 2) (tI s.busy) && (rowy (n + 2) (tI s.last) && true))))) = true
  rw [h1, h2, h3]
  rfl
theorem ok_asked_stand {P : Program} {w : World} {K : PySem.W.Frag} {mg : Str → Option Value} {base : Heap} {f : Addr} {fd : FuncData} (F : FnP K "asked_stand" "asked_stand" s_asked_stand f fd) (md : Md mg) {f_is_stand_of : Addr} {fd_is_stand_of : FuncData} (h_is_stand_of : Has P w K mg base 4 "is_stand_of" ["task", "thing"] sp_is_stand_of f_is_stand_of fd_is_stand_of) {f_told_rows : Addr} {fd_told_rows : FuncData} (h_told_rows : Has P w K mg base 8 "told_rows" ["thing"] sp_told_rows f_told_rows fd_told_rows) : FnOk P w K mg base CX0 9 f fd ["task", "thing"] sp_asked_stand := by
  refine FunD.ok F sc_asked_stand (fun vs H Q E h => len_D (fun ds R hA => ?_) h) (fun cdv A outer s H vs Q E hr h => ?_)
  · exact ln_asked_stand ds R hA
  · have nd := sc_asked_stand.nd
    refine ⟨_, PSs.nox (pss_cons (ps_if (pt_not (pt_val (pe_call h_is_stand_of.ok (hr.mono (by decide)) rfl h_is_stand_of.g h_is_stand_of.kp h_is_stand_of.b .nil pass0 (pa_cons (pv 0) (pa_cons (pv 1) pa_nil)))))
    (pss_one ps_never)
    pss_nil)
    (pss_one (ps_ret (pe_call h_told_rows.ok (hr.mono (by decide)) rfl h_told_rows.g h_told_rows.kp h_told_rows.b .nil pass0 (pa_cons (pv 1) pa_nil))))), run_D h fun ds R hA => ?_⟩
    obtain ⟨t, s, rfl, ⟨o, os⟩, rfl⟩ := hA
    refine do_when (ist_not (ist_B (c_is_stand_of o os (isA_cons (is_var rfl) (isA_cons (is_var rfl) isA_nil))))) (fun e => by cases e) fun _ => ?_
    exact do_retD (c_told_rows (rowy_dS o os 4) (isA_cons (is_var rfl) isA_nil)) rfl
def wUnder (a b : List Int) : Bool := (List.range a.length).all fun i => decide (a.getD i 0 ≤ b.getD i 0)
def liesUnder (a b : Sd) : Bool := (decide (a.phase = b.phase) && decide (a.busy = b.busy)) && (wUnder a.waits b.waits && b.last.all fun i => decide (i ∈ a.last))
def Alike (a b : Sd) : Prop := a.waits.length = b.waits.length ∧ a.waits.length ≤ 8 ∧ b.last.length ≤ 2
def A_lies_under (ds : List PyData) (R : PyData → Prop) : Prop := ∃ a b : Sd, ds = [dS a, dS b] ∧ Alike a b ∧ R = fun x => x = .bool (liesUnder a b)
def sp_lies_under : Sp := spD A_lies_under
theorem ln_lies_under : ∀ ds R, A_lies_under ds R → ds.length = 2 := fun ds R ⟨_, _, h, _⟩ => by rw [h]; rfl
theorem c_lies_under {tx : TA} {ρ : List Ent} {a b : Sd} (o : Alike a b) (ha : IsA tx ρ [dS a, dS b]) : Is (tCall sp_lies_under [] E0 tx) ρ (.bool (liesUnder a b)) := isP_call ha ⟨a, b, rfl, o, rfl⟩
theorem filter_empty {α : Type} (p : α → Bool) : ∀ xs : List α, (xs.filter p).isEmpty = xs.all fun x => !p x
  | [] => rfl
  | x :: xs => by
    have := filter_empty p xs
    cases h : p x
    · simp [h, this]
    · simp [h]
theorem ok_lies_under {P : Program} {w : World} {K : PySem.W.Frag} {mg : Str → Option Value} {base : Heap} {f : Addr} {fd : FuncData} (F : FnP K "lies_under" "lies_under" s_lies_under f fd) (md : Md mg) : FnOk P w K mg base CX0 1 f fd ["one", "other"] sp_lies_under := by
  refine FunD.ok F sc_lies_under (fun vs H Q E h => len_D (fun ds R hA => ?_) h) (fun cdv A outer s H vs Q E hr h => ?_)
  · exact ln_lies_under ds R hA
  · have nd := sc_lies_under.nd
    refine ⟨_, PSs.nox (pss_cons (ps_if (PW.pt (pw_or (pt_cmpR op_ne (pe_ix (kx_T K) (pv 0) pe_int (fun _ _ => rfl)) (pe_ix (kx_T K) (pv 1) pe_int (fun _ _ => rfl)) (nomark _)) (pw_or1 (pt_cmpR (k_neD K hr.units) (pe_ix (kx_T K) (pv 0) pe_int (fun _ _ => rfl)) (pe_ix (kx_T K) (pv 1) pe_int (fun _ _ => rfl)) (nomark _)))))
    (pss_one (ps_ret pe_bl))
    pss_nil)
    (pss_cons (ps_if (pt_cmpR (k_neD K hr.units) (pe_lc (own := [("i", 2)]) (g := gName 2) rfl nd (pi_range1 (by rfl) md.range (pa_cons (pe_callB (k_len K) (by rfl) md.len PySem.boot_len (pa_cons (pe_ix (kx_T K) (pv 0) pe_int (fun _ _ => rfl)) pa_nil)) pa_nil)) (blkOk_by (own := [("i", 2)]) (N := N_lies_under) (sc := defScope s_lies_under) (by decide +kernel)) (fun _ _ _ _ _ => pg_name (i := 2) nd rfl (Or.inl rfl)) (fun _ _ _ _ _ => (pts_one (pt_cmpR op_gt (pe_ix (kx_T K) (pe_ix (kx_T K) (pv 0) pe_int (fun _ _ => rfl)) (pv 2) (fun _ _ => rfl)) (pe_ix (kx_T K) (pe_ix (kx_T K) (pv 1) pe_int (fun _ _ => rfl)) (pv 2) (fun _ _ => rfl)) (nomark _)))) (fun _ _ _ _ _ => (pv 2))) (pe_lst pa_nil) (nomark _))
    (pss_one (ps_ret pe_bl))
    pss_nil)
    (pss_one (ps_ret (pe_cmpR (k_eqD K hr.units) (pe_lc (own := [("i", 2)]) (g := gName 2) rfl nd (k_pt K (pe_ix (kx_T K) (pv 1) pe_int (fun _ _ => rfl))) (blkOk_by (own := [("i", 2)]) (N := N_lies_under) (sc := defScope s_lies_under) (by decide +kernel)) (fun _ _ _ _ _ => pg_name (i := 2) nd rfl (Or.inl rfl)) (fun _ _ _ _ _ => (pts_one (pt_cmpR (k_nin K) (pv 2) (pe_ix (kx_T K) (pv 0) pe_int (fun _ _ => rfl)) (by with_unfolding_all rfl)))) (fun _ _ _ _ _ => (pv 2))) (pe_lst pa_nil) (nomark _)))))), run_D h fun ds R hA => ?_⟩
    obtain ⟨a, b, rfl, ⟨o1, o2, o3⟩, rfl⟩ := hA
    refine do_when (ist_or (ist_test (is_neI (is_ixT (n := 0) (is_var rfl) is_int rfl rfl) (is_ixT (n := 0) (is_var rfl) is_int rfl rfl))) fun _ => ist_test (is_neD (is_ixT (n := 2) (is_var rfl) is_int rfl rfl) (is_ixT (n := 2) (is_var rfl) is_int rfl rfl) (shaped_tI _) (shaped_tI _))) (fun e => ?_) fun e => ?_
    · refine do_retD is_bl ?_
      show PyData.bool false = .bool (liesUnder a b)
      rw [eqv_tI] at e
      have e2 : (decide (a.phase = b.phase) && decide (a.busy = b.busy)) = false := by
        cases h1 : decide (a.phase = b.phase) <;> cases h2 : decide (a.busy = b.busy) <;> simp_all
      rw [liesUnder, e2]; rfl
    · rw [eqv_tI] at e
      have e2 : (decide (a.phase = b.phase) && decide (a.busy = b.busy)) = true := by
        cases h1 : decide (a.phase = b.phase) <;> cases h2 : decide (a.busy = b.busy) <;> simp_all
      have hb : ∀ i : Nat, i < a.waits.length → a.waits[i]? = some (a.waits.getD i 0) ∧ b.waits[i]? = some (b.waits.getD i 0) := fun i hi => by
        rw [List.getD_eq_getElem?_getD, List.getD_eq_getElem?_getD, List.getElem?_eq_getElem hi, List.getElem?_eq_getElem (by omega)]
        exact ⟨rfl, rfl⟩
      refine do_when (ist_test (is_neNilI (ns := ((List.range a.waits.length).filter fun i => decide (b.waits.getD i 0 < a.waits.getD i 0)).map fun i : Nat => (i : Int)) (isL_new (IsN.to (isN_lcR1 (m := (a.waits.length : Int)) (n := a.waits.length) (p := fun i => decide (b.waits.getD i 0 < a.waits.getD i 0)) (f := fun i => .int (i : Int)) (isA_cons (Is.to (is_lenT (is_ixT (n := 1) (is_var rfl) is_int rfl rfl)) (by rw [List.length_map])) isA_nil) (by omega) (by omega) (notDrw_of rfl (by intro z; cases z)) (fun i hi => ?_) fun i hi _ => is_var rfl) ?_)))) (fun e => ?_) fun e => ?_
      · exact ist_test (is_bI (is_ixT (b := (i : Int)) (n := i) (d := .int (a.waits.getD i 0)) (is_ixT (n := 1) (is_var rfl) is_int rfl rfl) (is_var rfl) rfl (by rw [List.getElem?_map, (hb i hi).1]; rfl)) (is_ixT (b := (i : Int)) (n := i) (d := .int (b.waits.getD i 0)) (is_ixT (n := 1) (is_var rfl) is_int rfl rfl) (is_var rfl) rfl (by rw [List.getElem?_map, (hb i hi).2]; rfl)))
      · rw [List.map_map]; rfl
      · refine do_retD is_bl ?_
        show PyData.bool false = .bool (liesUnder a b)
        have e3 : wUnder a.waits b.waits = false := by
          have := nt e
          rw [List.isEmpty_map, filter_empty] at this
          rw [wUnder, ← this]
          congr 1
          funext i
          by_cases c : b.waits.getD i 0 < a.waits.getD i 0
          · simp only [c, decide_true, Bool.not_true, decide_eq_false_iff_not]; omega
          · simp only [c, decide_false, Bool.not_false, decide_eq_true_eq]; omega
        rw [liesUnder, e2, e3]; rfl
      · have e3 : wUnder a.waits b.waits = true := by
          have := nf e
          rw [List.isEmpty_map, filter_empty] at this
          rw [wUnder, ← this]
          congr 1
          funext i
          by_cases c : b.waits.getD i 0 < a.waits.getD i 0
          · simp only [c, decide_true, Bool.not_true, decide_eq_false_iff_not]; omega
          · simp only [c, decide_false, Bool.not_false, decide_eq_true_eq]; omega
        refine do_retD (is_eqNilI (isL_new (isN_lcT (xs := b.last) (enc := .int) (p := fun i => !decide (i ∈ a.last)) (f := .int) (is_ixT (n := 3) (is_var rfl) is_int rfl rfl) (by omega) (notDrw_of rfl (by intro z; cases z)) (fun x hx => ist_test (is_ninT (is_var rfl) (is_ixT (n := 3) (is_var rfl) is_int rfl rfl))) fun x hx _ => is_var rfl))) ?_
        show PyData.bool _ = .bool (liesUnder a b)
        rw [liesUnder, e2, e3, filter_empty]
        simp
end W36
end
section
set_option Elab.async false
set_option linter.all false
set_option maxRecDepth 100000
set_option maxHeartbeats 4000000
namespace W36
open PySem L2 Evl
def A_is_lead (ds : List PyData) (R : PyData → Prop) : Prop := ∃ (m : Int) (dl : List (List Int)), ds = [.int m, .tuple (dl.map tI)] ∧ DaysR m dl ∧ R = fun x => x = .bool true
def sp_is_lead : Sp := spD A_is_lead
theorem ln_is_lead : ∀ ds R, A_is_lead ds R → ds.length = 2 := fun ds R ⟨_, _, h, _⟩ => by rw [h]; rfl
theorem c_is_lead {tx : TA} {ρ : List Ent} {m : Int} {dl : List (List Int)} (o : DaysR m dl) (ha : IsA tx ρ [.int m, .tuple (dl.map tI)]) : Is (tCall sp_is_lead [] E0 tx) ρ (.bool true) := isP_call ha ⟨m, dl, rfl, o, rfl⟩
theorem trues {α : Type} (f : Bool → PyData) (xs : List α) : (xs.filter fun _ => true).map (fun _ => f true) = (List.replicate xs.length true).map f := by
  rw [List.filter_eq_self.mpr (fun _ _ => rfl), List.map_replicate]
  induction xs with
  | nil => rfl
  | cons x xs ih => rw [List.map_cons, ih, List.length_cons, List.replicate_succ]
theorem all_trues (n : Nat) : (List.replicate n true).all id = true := by simp
theorem ok_is_lead {P : Program} {w : World} {K : PySem.W.Frag} {mg : Str → Option Value} {base : Heap} {f : Addr} {fd : FuncData} (F : FnP K "is_lead" "is_lead" s_is_lead f fd) (md : Md mg) {f_is_day : Addr} {fd_is_day : FuncData} (h_is_day : Has P w K mg base 3 "is_day" ["many", "thing"] sp_is_day f_is_day fd_is_day) {f_is_row : Addr} {fd_is_row : FuncData} (h_is_row : Has P w K mg base 1 "is_row" ["thing"] sp_is_row f_is_row fd_is_row) : FnOk P w K mg base CX0 4 f fd ["many", "thing"] sp_is_lead := by
  refine FunD.ok F sc_is_lead (fun vs H Q E h => len_D (fun ds R hA => ?_) h) (fun cdv A outer s H vs Q E hr h => ?_)
  · exact ln_is_lead ds R hA
  · obtain ⟨t_MOST_LEAD, g_MOST_LEAD⟩ := md.MOST_LEAD
    have nd := sc_is_lead.nd
    refine ⟨_, PSs.nox (pss_one (ps_ret (pe_and (pe_call h_is_row.ok (hr.mono (by decide)) rfl h_is_row.g h_is_row.kp h_is_row.b .nil pass0 (pa_cons (pv 1) pa_nil)) (pe_and (pe_cmpR op_le (pe_callB (k_len K) (by rfl) md.len PySem.boot_len (pa_cons (pv 1) pa_nil)) (pe_glob (v := .int 4000) (by rfl) g_MOST_LEAD ⟨t_MOST_LEAD, rfl⟩) (nomark _)) (pe_one (pe_callB (k_all K rfl) (by rfl) md.all (by decide +kernel) (pa_cons (pe_lc (own := [("day", 2)]) (g := gName 2) rfl nd (k_pt K (pv 1)) (blkOk_by (own := [("day", 2)]) (N := N_is_lead) (sc := defScope s_is_lead) (by decide +kernel)) (fun _ _ _ _ _ => pg_name (i := 2) nd rfl (Or.inl rfl)) (fun _ _ _ _ _ => pts_nil) (fun _ _ _ _ _ => (pe_call h_is_day.ok (hr.mono (by decide)) rfl h_is_day.g h_is_day.kp h_is_day.b .nil pass0 (pa_cons (pv 0) (pa_cons (pv 2) pa_nil))))) pa_nil))))))), run_D h fun ds R hA => ?_⟩
    obtain ⟨m, dl, rfl, o, rfl⟩ := hA
    have ol := o.l
    refine do_retD (Is.to (e := .bool true) (is_andV (c_is_row (isA_cons (is_var rfl) isA_nil)) fun _ => is_andV (is_bI (is_lenT (is_var rfl)) is_int) fun _ => is_all (bs := List.replicate dl.length true) (isL_new (IsN.to (isN_lcT (xs := dl) (enc := tI) (p := fun _ => true) (f := fun _ => .bool true) (is_var rfl) (by omega) (notDrw_of rfl (by intro z; cases z)) (fun x hx => ist_yes) fun x hx _ => c_is_day (m := m) (o.d x hx) (isA_cons (is_var rfl) (isA_cons (is_var rfl) isA_nil))) (trues PyData.bool dl)))) ?_) rfl
    rw [all_trues, List.length_map]
    simp [isRow]; omega
inductive Ans where
  | on (lead ring : List (List Int))
  | count (d p : Int)
  | walk (ss : List Sd)
abbrev dA : Ans → PyData
  | .on l r => .tuple [.str "on", .tuple (l.map tI), .tuple (r.map tI)]
  | .count d p => .tuple [.str "count", .int d, .int p]
  | .walk ss => .tuple [.str "walk", .tuple (ss.map dS)]
def AnsOk (t : Tk) : Ans → Prop
  | .on l r => DaysR t.nums.length l ∧ DaysR t.nums.length r ∧ r ≠ []
  | .count d p => 1 ≤ d ∧ d ≤ 1000000 ∧ 0 ≤ p ∧ p < t.off.length
  | .walk ss => 1 ≤ ss.length ∧ ss.length ≤ 4000 ∧ ∀ s ∈ ss, StandOk t s
def A_is_on (ds : List PyData) (R : PyData → Prop) : Prop := ∃ (t : Tk) (l r : List (List Int)), ds = [dT t, dA (.on l r)] ∧ (TaskOk t ∧ AnsOk t (.on l r)) ∧ R = fun x => x = .bool true
def sp_is_on : Sp := spD A_is_on
theorem ln_is_on : ∀ ds R, A_is_on ds R → ds.length = 2 := fun ds R ⟨_, _, _, h, _⟩ => by rw [h]; rfl
theorem c_is_on {tx : TA} {ρ : List Ent} {t : Tk} {l r : List (List Int)} (o : TaskOk t) (oa : AnsOk t (.on l r)) (ha : IsA tx ρ [dT t, dA (.on l r)]) : Is (tCall sp_is_on [] E0 tx) ρ (.bool true) := isP_call ha ⟨t, l, r, rfl, ⟨o, oa⟩, rfl⟩
theorem ok_is_on {P : Program} {w : World} {K : PySem.W.Frag} {mg : Str → Option Value} {base : Heap} {f : Addr} {fd : FuncData} (F : FnP K "is_on" "is_on" s_is_on f fd) (md : Md mg) {f_is_ring : Addr} {fd_is_ring : FuncData} (h_is_ring : Has P w K mg base 5 "is_ring" ["many", "thing"] sp_is_ring f_is_ring fd_is_ring) {f_is_lead : Addr} {fd_is_lead : FuncData} (h_is_lead : Has P w K mg base 4 "is_lead" ["many", "thing"] sp_is_lead f_is_lead fd_is_lead) : FnOk P w K mg base CX0 6 f fd ["task", "thing"] sp_is_on := by
  refine FunD.ok F sc_is_on (fun vs H Q E h => len_D (fun ds R hA => ?_) h) (fun cdv A outer s H vs Q E hr h => ?_)
  · exact ln_is_on ds R hA
  · have nd := sc_is_on.nd
    refine ⟨_, PSs.nox (pss_cons (ps_set (i := 2) nd rfl (by first | exact Or.inl rfl | exact Or.inr rfl) (pe_callB (k_len K) (by rfl) md.len PySem.boot_len (pa_cons (pe_ix (kx_T K) (pv 0) pe_int (fun _ _ => rfl)) pa_nil)))
    (pss_one (ps_ret (pe_and (pe_cmpR op_eq (pe_callB (k_len K) (by rfl) md.len PySem.boot_len (pa_cons (pv 1) pa_nil)) pe_int (nomark _)) (pe_and (pe_call h_is_lead.ok (hr.mono (by decide)) rfl h_is_lead.g h_is_lead.kp h_is_lead.b .nil pass0 (pa_cons (pv 2) (pa_cons (pe_ix (kx_T K) (pv 1) pe_int (fun _ _ => rfl)) pa_nil))) (pe_one (pe_call h_is_ring.ok (hr.mono (by decide)) rfl h_is_ring.g h_is_ring.kp h_is_ring.b .nil pass0 (pa_cons (pv 2) (pa_cons (pe_ix (kx_T K) (pv 1) pe_int (fun _ _ => rfl)) pa_nil))))))))), run_D h fun ds R hA => ?_⟩
    obtain ⟨t, l, r, rfl, ⟨o, o1, o2, o3⟩, rfl⟩ := hA
    refine do_let (Is.to (e := .int (t.nums.length : Int)) (is_lenT (is_ixT (n := 0) (is_var rfl) is_int rfl rfl)) (by rw [List.length_map])) ?_
    exact do_retD (Is.to (e := .bool true) (is_andV (is_eqI (is_lenT (is_var rfl)) is_int) fun _ => is_andV (c_is_lead o1 (isA_cons (is_var rfl) (isA_cons (is_ixT (n := 1) (is_var rfl) is_int rfl rfl) isA_nil))) fun _ => c_is_ring o2 o3 (isA_cons (is_var rfl) (isA_cons (is_ixT (n := 2) (is_var rfl) is_int rfl rfl) isA_nil))) rfl) rfl
def A_is_count (ds : List PyData) (R : PyData → Prop) : Prop := ∃ (t : Tk) (d p : Int), ds = [dT t, dA (.count d p)] ∧ (TaskOk t ∧ AnsOk t (.count d p)) ∧ R = fun x => x = .bool true
def sp_is_count : Sp := spD A_is_count
theorem ln_is_count : ∀ ds R, A_is_count ds R → ds.length = 2 := fun ds R ⟨_, _, _, h, _⟩ => by rw [h]; rfl
theorem c_is_count {tx : TA} {ρ : List Ent} {t : Tk} {d p : Int} (o : TaskOk t) (oa : AnsOk t (.count d p)) (ha : IsA tx ρ [dT t, dA (.count d p)]) : Is (tCall sp_is_count [] E0 tx) ρ (.bool true) := isP_call ha ⟨t, d, p, rfl, ⟨o, oa⟩, rfl⟩
theorem ok_is_count {P : Program} {w : World} {K : PySem.W.Frag} {mg : Str → Option Value} {base : Heap} {f : Addr} {fd : FuncData} (F : FnP K "is_count" "is_count" s_is_count f fd) (md : Md mg) {f_is_whole : Addr} {fd_is_whole : FuncData} (h_is_whole : Has P w K mg base 1 "is_whole" ["thing", "least", "most"] sp_is_whole f_is_whole fd_is_whole) : FnOk P w K mg base CX0 2 f fd ["task", "thing"] sp_is_count := by
  refine FunD.ok F sc_is_count (fun vs H Q E h => len_D (fun ds R hA => ?_) h) (fun cdv A outer s H vs Q E hr h => ?_)
  · exact ln_is_count ds R hA
  · obtain ⟨t_MOST_DAYS, g_MOST_DAYS⟩ := md.MOST_DAYS
    have nd := sc_is_count.nd
    refine ⟨_, PSs.nox (pss_cons (ps_if (PW.pt (pw_or (pt_cmpR op_ne (pe_callB (k_len K) (by rfl) md.len PySem.boot_len (pa_cons (pv 1) pa_nil)) pe_int (nomark _)) (pw_or1 (pt_not (pt_val (pe_call h_is_whole.ok (hr.mono (by decide)) rfl h_is_whole.g h_is_whole.kp h_is_whole.b .nil pass0 (pa_cons (pe_ix (kx_T K) (pv 1) pe_int (fun _ _ => rfl)) (pa_cons pe_int (pa_cons (pe_glob (v := .int 1000000) (by rfl) g_MOST_DAYS ⟨t_MOST_DAYS, rfl⟩) pa_nil)))))))))
    (pss_one (ps_ret pe_bl))
    pss_nil)
    (pss_one (ps_ret (pe_call h_is_whole.ok (hr.mono (by decide)) rfl h_is_whole.g h_is_whole.kp h_is_whole.b .nil pass0 (pa_cons (pe_ix (kx_T K) (pv 1) pe_int (fun _ _ => rfl)) (pa_cons pe_int (pa_cons (pe_op op_sub (pe_callB (k_len K) (by rfl) md.len PySem.boot_len (pa_cons (pe_ix (kx_T K) (pv 0) pe_int (fun _ _ => rfl)) pa_nil)) pe_int) pa_nil))))))), run_D h fun ds R hA => ?_⟩
    obtain ⟨t, d, p, rfl, ⟨o, o1, o2, o3, o4⟩, rfl⟩ := hA
    refine do_when (b := false) (IsB.to (ist_or (ist_test (is_neI (is_lenT (is_var rfl)) is_int)) fun _ => ist_not (ist_B (c_is_whole (isA_cons (is_ixT (n := 1) (is_var rfl) is_int rfl rfl) (isA_cons is_int (isA_cons is_int isA_nil)))))) ?_) (fun e => by cases e) fun _ => ?_
    · simp; omega
    refine do_retD (Is.to (e := .bool true) (c_is_whole (isA_cons (is_ixT (n := 2) (is_var rfl) is_int rfl rfl) (isA_cons is_int (isA_cons (is_iI (is_lenT (is_ixT (n := 2) (is_var rfl) is_int rfl rfl)) is_int) isA_nil)))) ?_) rfl
    rw [List.length_map]; simp; omega
def A_is_walk (ds : List PyData) (R : PyData → Prop) : Prop := ∃ (t : Tk) (ss : List Sd), ds = [dT t, dA (.walk ss)] ∧ (TaskOk t ∧ AnsOk t (.walk ss)) ∧ R = fun x => x = .bool true
def sp_is_walk : Sp := spD A_is_walk
theorem ln_is_walk : ∀ ds R, A_is_walk ds R → ds.length = 2 := fun ds R ⟨_, _, h, _⟩ => by rw [h]; rfl
theorem c_is_walk {tx : TA} {ρ : List Ent} {t : Tk} {ss : List Sd} (o : TaskOk t) (oa : AnsOk t (.walk ss)) (ha : IsA tx ρ [dT t, dA (.walk ss)]) : Is (tCall sp_is_walk [] E0 tx) ρ (.bool true) := isP_call ha ⟨t, ss, rfl, ⟨o, oa⟩, rfl⟩
theorem ist_chainle {ρ : List Ent} {ta tb tc : TE} {a b c : Int} (ha : Is ta ρ (.int a)) (hb : Is tb ρ (.int b)) (hc : Is tc ρ (.int c)) : IsB (tTest (tChain (rI0 fun i j => .bl (decide (i ≤ j))) (rI0 fun i j => .bl (decide (i ≤ j))) ta tb tc)) ρ (decide (a ≤ b) && decide (b ≤ c)) := ist_test (is_chain ha hb hc)
theorem ok_is_walk {P : Program} {w : World} {K : PySem.W.Frag} {mg : Str → Option Value} {base : Heap} {f : Addr} {fd : FuncData} (F : FnP K "is_walk" "is_walk" s_is_walk f fd) (md : Md mg) {f_is_row : Addr} {fd_is_row : FuncData} (h_is_row : Has P w K mg base 1 "is_row" ["thing"] sp_is_row f_is_row fd_is_row) {f_is_stand_of : Addr} {fd_is_stand_of : FuncData} (h_is_stand_of : Has P w K mg base 4 "is_stand_of" ["task", "thing"] sp_is_stand_of f_is_stand_of fd_is_stand_of) : FnOk P w K mg base CX0 5 f fd ["task", "thing"] sp_is_walk := by
  refine FunD.ok F sc_is_walk (fun vs H Q E h => len_D (fun ds R hA => ?_) h) (fun cdv A outer s H vs Q E hr h => ?_)
  · exact ln_is_walk ds R hA
  · obtain ⟨t_MOST_STANDS, g_MOST_STANDS⟩ := md.MOST_STANDS
    have nd := sc_is_walk.nd
    refine ⟨_, PSs.nox (pss_cons (ps_if (PW.pt (pw_or (pt_cmpR op_ne (pe_callB (k_len K) (by rfl) md.len PySem.boot_len (pa_cons (pv 1) pa_nil)) pe_int (nomark _)) (pw_or (pt_not (pt_val (pe_call h_is_row.ok (hr.mono (by decide)) rfl h_is_row.g h_is_row.kp h_is_row.b .nil pass0 (pa_cons (pe_ix (kx_T K) (pv 1) pe_int (fun _ _ => rfl)) pa_nil)))) (pw_or1 (pt_not (pt_chain op_le op_le pe_int (pe_callB (k_len K) (by rfl) md.len PySem.boot_len (pa_cons (pe_ix (kx_T K) (pv 1) pe_int (fun _ _ => rfl)) pa_nil)) (pe_glob (v := .int 4000) (by rfl) g_MOST_STANDS ⟨t_MOST_STANDS, rfl⟩)))))))
    (pss_one (ps_ret pe_bl))
    pss_nil)
    (pss_one (ps_ret (pe_callB (k_all K rfl) (by rfl) md.all (by decide +kernel) (pa_cons (pe_lc (own := [("stand", 2)]) (g := gName 2) rfl nd (k_pt K (pe_ix (kx_T K) (pv 1) pe_int (fun _ _ => rfl))) (blkOk_by (own := [("stand", 2)]) (N := N_is_walk) (sc := defScope s_is_walk) (by decide +kernel)) (fun _ _ _ _ _ => pg_name (i := 2) nd rfl (Or.inl rfl)) (fun _ _ _ _ _ => pts_nil) (fun _ _ _ _ _ => (pe_call h_is_stand_of.ok (hr.mono (by decide)) rfl h_is_stand_of.g h_is_stand_of.kp h_is_stand_of.b .nil pass0 (pa_cons (pv 0) (pa_cons (pv 2) pa_nil))))) pa_nil))))), run_D h fun ds R hA => ?_⟩
    obtain ⟨t, ss, rfl, ⟨o, o1, o2, o3⟩, rfl⟩ := hA
    refine do_when (b := false) (IsB.to (ist_or (ist_test (is_neI (is_lenT (is_var rfl)) is_int)) fun _ => ist_or (ist_not (ist_B (c_is_row (isA_cons (is_ixT (n := 1) (is_var rfl) is_int rfl rfl) isA_nil)))) fun _ => ist_not (ist_chainle is_int (is_lenT (is_ixT (n := 1) (is_var rfl) is_int rfl rfl)) is_int)) ?_) (fun e => by cases e) fun _ => ?_
    · rw [List.length_map]; simp [isRow]; omega
    refine do_retD (Is.to (e := .bool true) (is_all (bs := List.replicate ss.length true) (isL_new (IsN.to (isN_lcT (xs := ss) (enc := dS) (p := fun _ => true) (f := fun _ => .bool true) (is_ixT (n := 1) (is_var rfl) is_int rfl rfl) (by omega) (notDrw_of rfl (by intro z; cases z)) (fun x hx => ist_yes) fun x hx _ => c_is_stand_of o (o3 x hx) (isA_cons (is_var rfl) (isA_cons (is_var rfl) isA_nil))) (trues PyData.bool ss)))) ?_) rfl
    rw [all_trues]
def A_is_answer_of (ds : List PyData) (R : PyData → Prop) : Prop := ∃ (t : Tk) (a : Ans), ds = [dT t, dA a] ∧ (TaskOk t ∧ AnsOk t a) ∧ R = fun x => x = .bool true
def sp_is_answer_of : Sp := spD A_is_answer_of
theorem ln_is_answer_of : ∀ ds R, A_is_answer_of ds R → ds.length = 2 := fun ds R ⟨_, _, h, _⟩ => by rw [h]; rfl
theorem c_is_answer_of {tx : TA} {ρ : List Ent} {t : Tk} {a : Ans} (o : TaskOk t) (oa : AnsOk t a) (ha : IsA tx ρ [dT t, dA a]) : Is (tCall sp_is_answer_of [] E0 tx) ρ (.bool true) := isP_call ha ⟨t, a, rfl, ⟨o, oa⟩, rfl⟩
theorem kb_str_str : kitB "str" "str" = some true := by decide +kernel
theorem on_count : decide (("on" : Str) = "count") = false := by decide +kernel
theorem count_on : decide (("count" : Str) = "on") = false := by decide +kernel
theorem walk_on : decide (("walk" : Str) = "on") = false := by decide +kernel
theorem walk_count : decide (("walk" : Str) = "count") = false := by decide +kernel
theorem ok_is_answer_of {P : Program} {w : World} {K : PySem.W.Frag} {mg : Str → Option Value} {base : Heap} {f : Addr} {fd : FuncData} (F : FnP K "is_answer_of" "is_answer_of" s_is_answer_of f fd) (md : Md mg) {f_is_row : Addr} {fd_is_row : FuncData} (h_is_row : Has P w K mg base 1 "is_row" ["thing"] sp_is_row f_is_row fd_is_row) {f_is_on : Addr} {fd_is_on : FuncData} (h_is_on : Has P w K mg base 6 "is_on" ["task", "thing"] sp_is_on f_is_on fd_is_on) {f_is_count : Addr} {fd_is_count : FuncData} (h_is_count : Has P w K mg base 2 "is_count" ["task", "thing"] sp_is_count f_is_count fd_is_count) {f_is_walk : Addr} {fd_is_walk : FuncData} (h_is_walk : Has P w K mg base 5 "is_walk" ["task", "thing"] sp_is_walk f_is_walk fd_is_walk) : FnOk P w K mg base CX0 7 f fd ["task", "thing"] sp_is_answer_of := by
  refine FunD.ok F sc_is_answer_of (fun vs H Q E h => len_D (fun ds R hA => ?_) h) (fun cdv A outer s H vs Q E hr h => ?_)
  · exact ln_is_answer_of ds R hA
  · have nd := sc_is_answer_of.nd
    refine ⟨_, PSs.nox (pss_cons (ps_if (PW.pt (pw_or (pt_not (pt_val (pe_call h_is_row.ok (hr.mono (by decide)) rfl h_is_row.g h_is_row.kp h_is_row.b .nil pass0 (pa_cons (pv 1) pa_nil)))) (pw_or (pt_cmpR op_eq (pe_callB (k_len K) (by rfl) md.len PySem.boot_len (pa_cons (pv 1) pa_nil)) pe_int (nomark _)) (pw_or1 (pt_not (pt_val (pe_callB (k_isi K) (by rfl) md.isinstance (by decide +kernel) (pa_cons (pe_ix (kx_T K) (pv 1) pe_int (fun _ _ => rfl)) (pa_cons (pe_bltn (v := .ty "str") (by rfl) md.str (by decide +kernel) rfl) pa_nil)))))))))
    (pss_one (ps_ret pe_bl))
    pss_nil)
    (pss_cons (ps_if (pt_cmpR op_eq (pe_ix (kx_T K) (pv 1) pe_int (fun _ _ => rfl)) pe_str (nomark _))
    (pss_one (ps_ret (pe_call h_is_on.ok (hr.mono (by decide)) rfl h_is_on.g h_is_on.kp h_is_on.b .nil pass0 (pa_cons (pv 0) (pa_cons (pv 1) pa_nil)))))
    pss_nil)
    (pss_cons (ps_if (pt_cmpR op_eq (pe_ix (kx_T K) (pv 1) pe_int (fun _ _ => rfl)) pe_str (nomark _))
    (pss_one (ps_ret (pe_call h_is_count.ok (hr.mono (by decide)) rfl h_is_count.g h_is_count.kp h_is_count.b .nil pass0 (pa_cons (pv 0) (pa_cons (pv 1) pa_nil)))))
    pss_nil)
    (pss_one (ps_ret (pe_and (pe_cmpR op_eq (pe_ix (kx_T K) (pv 1) pe_int (fun _ _ => rfl)) pe_str (nomark _)) (pe_one (pe_call h_is_walk.ok (hr.mono (by decide)) rfl h_is_walk.g h_is_walk.kp h_is_walk.b .nil pass0 (pa_cons (pv 0) (pa_cons (pv 1) pa_nil)))))))))), run_D h fun ds R hA => ?_⟩
    obtain ⟨t, a, rfl, ⟨o, oa⟩, rfl⟩ := hA
    cases a with
    | on l r =>
      refine do_when (b := false) (IsB.to (ist_or (ist_not (ist_B (c_is_row (isA_cons (is_var rfl) isA_nil)))) fun _ => ist_or (ist_test (is_eqI (is_lenT (is_var rfl)) is_int)) fun _ => ist_not (ist_B (is_isi (d := .str "on") (is_ixT (n := 0) (is_var rfl) is_int rfl rfl) kb_str_str))) rfl) (fun e => by cases e) fun _ => ?_
      refine do_when (b := true) (IsB.to (ist_test (is_eqS (x := "on") (is_ixT (n := 0) (is_var rfl) is_int rfl rfl) is_str)) (decide_eq_true rfl)) (fun _ => ?_) fun e => by cases e
      exact do_retD (c_is_on o oa (isA_cons (is_var rfl) (isA_cons (is_var rfl) isA_nil))) rfl
    | count d p =>
      refine do_when (b := false) (IsB.to (ist_or (ist_not (ist_B (c_is_row (isA_cons (is_var rfl) isA_nil)))) fun _ => ist_or (ist_test (is_eqI (is_lenT (is_var rfl)) is_int)) fun _ => ist_not (ist_B (is_isi (d := .str "count") (is_ixT (n := 0) (is_var rfl) is_int rfl rfl) kb_str_str))) rfl) (fun e => by cases e) fun _ => ?_
      refine do_when (b := false) (IsB.to (ist_test (is_eqS (x := "count") (is_ixT (n := 0) (is_var rfl) is_int rfl rfl) is_str)) count_on) (fun e => by cases e) fun _ => ?_
      refine do_when (b := true) (IsB.to (ist_test (is_eqS (x := "count") (is_ixT (n := 0) (is_var rfl) is_int rfl rfl) is_str)) (decide_eq_true rfl)) (fun _ => ?_) fun e => by cases e
      exact do_retD (c_is_count o oa (isA_cons (is_var rfl) (isA_cons (is_var rfl) isA_nil))) rfl
    | walk ss =>
      refine do_when (b := false) (IsB.to (ist_or (ist_not (ist_B (c_is_row (isA_cons (is_var rfl) isA_nil)))) fun _ => ist_or (ist_test (is_eqI (is_lenT (is_var rfl)) is_int)) fun _ => ist_not (ist_B (is_isi (d := .str "walk") (is_ixT (n := 0) (is_var rfl) is_int rfl rfl) kb_str_str))) rfl) (fun e => by cases e) fun _ => ?_
      refine do_when (b := false) (IsB.to (ist_test (is_eqS (x := "walk") (is_ixT (n := 0) (is_var rfl) is_int rfl rfl) is_str)) walk_on) (fun e => by cases e) fun _ => ?_
      refine do_when (b := false) (IsB.to (ist_test (is_eqS (x := "walk") (is_ixT (n := 0) (is_var rfl) is_int rfl rfl) is_str)) walk_count) (fun e => by cases e) fun _ => ?_
      exact do_retD (Is.to (e := .bool true) (is_andV (Is.to (e := .bool true) (is_eqS (x := "walk") (is_ixT (n := 0) (is_var rfl) is_int rfl rfl) is_str) (by rw [decide_eq_true rfl])) fun _ => c_is_walk o oa (isA_cons (is_var rfl) (isA_cons (is_var rfl) isA_nil))) rfl) rfl
def A_asked_answer (ds : List PyData) (R : PyData → Prop) : Prop := ∃ (t : Tk) (a : Ans), ds = [dT t, dA a] ∧ (TaskOk t ∧ AnsOk t a) ∧ R = fun x => x = dA a
def sp_asked_answer : Sp := spD A_asked_answer
theorem ln_asked_answer : ∀ ds R, A_asked_answer ds R → ds.length = 2 := fun ds R ⟨_, _, h, _⟩ => by rw [h]; rfl
theorem c_asked_answer {tx : TA} {ρ : List Ent} {t : Tk} {a : Ans} (o : TaskOk t) (oa : AnsOk t a) (ha : IsA tx ρ [dT t, dA a]) : Is (tCall sp_asked_answer [] E0 tx) ρ (dA a) := isP_call ha ⟨t, a, rfl, ⟨o, oa⟩, rfl⟩
theorem rowy_days {m : Int} {dl : List (List Int)} (o : DaysR m dl) (n : Nat) : rowy (n + 3) (.tuple (dl.map tI)) = true := rowy_tup (n + 2) dl tI (by have := o.l; omega) fun d hd => rowy_tI n d (by have := (o.d d hd).l; omega)
theorem rowy_dA {t : Tk} {a : Ans} (o : TaskOk t) (oa : AnsOk t a) : rowy 7 (dA a) = true := by
  cases a with
  | on l r =>
    obtain ⟨o1, o2, o3⟩ := oa
    show (decide ([PyData.str "on", .tuple (l.map tI), .tuple (r.map tI)].length ≤ 50000) && (rowy 6 (.str "on") && (rowy 6 (.tuple (l.map tI)) && (rowy 6 (.tuple (r.map tI)) && true)))) = true
    rw [rowy_days o1 3, rowy_days o2 3]; rfl
  | count d p => rfl
  | walk ss =>
    obtain ⟨o1, o2, o3⟩ := oa
    show (decide ([PyData.str "walk", .tuple (ss.map dS)].length ≤ 50000) && (rowy 6 (.str "walk") && (rowy 6 (.tuple (ss.map dS)) && true))) = true
    rw [rowy_tup 5 ss dS (by omega) fun s hs => rowy_dS o (o3 s hs) 2]; rfl
theorem ok_asked_answer {P : Program} {w : World} {K : PySem.W.Frag} {mg : Str → Option Value} {base : Heap} {f : Addr} {fd : FuncData} (F : FnP K "asked_answer" "asked_answer" s_asked_answer f fd) (md : Md mg) {f_is_answer_of : Addr} {fd_is_answer_of : FuncData} (h_is_answer_of : Has P w K mg base 7 "is_answer_of" ["task", "thing"] sp_is_answer_of f_is_answer_of fd_is_answer_of) {f_told_rows : Addr} {fd_told_rows : FuncData} (h_told_rows : Has P w K mg base 8 "told_rows" ["thing"] sp_told_rows f_told_rows fd_told_rows) : FnOk P w K mg base CX0 9 f fd ["task", "thing"] sp_asked_answer := by
  refine FunD.ok F sc_asked_answer (fun vs H Q E h => len_D (fun ds R hA => ?_) h) (fun cdv A outer s H vs Q E hr h => ?_)
  · exact ln_asked_answer ds R hA
  · have nd := sc_asked_answer.nd
    refine ⟨_, PSs.nox (pss_cons (ps_if (pt_not (pt_val (pe_call h_is_answer_of.ok (hr.mono (by decide)) rfl h_is_answer_of.g h_is_answer_of.kp h_is_answer_of.b .nil pass0 (pa_cons (pv 0) (pa_cons (pv 1) pa_nil)))))
    (pss_one (ps_ret pe_non))
    pss_nil)
    (pss_one (ps_ret (pe_call h_told_rows.ok (hr.mono (by decide)) rfl h_told_rows.g h_told_rows.kp h_told_rows.b .nil pass0 (pa_cons (pv 1) pa_nil))))), run_D h fun ds R hA => ?_⟩
    obtain ⟨t, a, rfl, ⟨o, oa⟩, rfl⟩ := hA
    refine do_when (ist_not (ist_B (c_is_answer_of o oa (isA_cons (is_var rfl) (isA_cons (is_var rfl) isA_nil))))) (fun e => by cases e) fun _ => ?_
    exact do_retD (c_told_rows (rowy_dA o oa) (isA_cons (is_var rfl) isA_nil)) rfl
def A_is_answer (ds : List PyData) (R : PyData → Prop) : Prop := ∃ (t : Tk) (a : Ans), ds = [dT t, dA a] ∧ (TaskOk t ∧ AnsOk t a) ∧ R = fun x => x = .bool true
def sp_is_answer : Sp := spD A_is_answer
theorem ln_is_answer : ∀ ds R, A_is_answer ds R → ds.length = 2 := fun ds R ⟨_, _, h, _⟩ => by rw [h]; rfl
theorem c_is_answer {tx : TA} {ρ : List Ent} {t : Tk} {a : Ans} (o : TaskOk t) (oa : AnsOk t a) (ha : IsA tx ρ [dT t, dA a]) : Is (tCall sp_is_answer [] E0 tx) ρ (.bool true) := isP_call ha ⟨t, a, rfl, ⟨o, oa⟩, rfl⟩
theorem ok_is_answer {P : Program} {w : World} {K : PySem.W.Frag} {mg : Str → Option Value} {base : Heap} {f : Addr} {fd : FuncData} (F : FnP K "is_answer" "is_answer" s_is_answer f fd) (md : Md mg) {f_is_answer_of : Addr} {fd_is_answer_of : FuncData} (h_is_answer_of : Has P w K mg base 7 "is_answer_of" ["task", "thing"] sp_is_answer_of f_is_answer_of fd_is_answer_of) {f_asked_task : Addr} {fd_asked_task : FuncData} (h_asked_task : Has P w K mg base 11 "asked_task" ["thing"] sp_asked_task f_asked_task fd_asked_task) : FnOk P w K mg base CX0 12 f fd ["task", "thing"] sp_is_answer := by
  refine FunD.ok F sc_is_answer (fun vs H Q E h => len_D (fun ds R hA => ?_) h) (fun cdv A outer s H vs Q E hr h => ?_)
  · exact ln_is_answer ds R hA
  · have nd := sc_is_answer.nd
    refine ⟨_, PSs.nox (pss_one (ps_ret (pe_call h_is_answer_of.ok (hr.mono (by decide)) rfl h_is_answer_of.g h_is_answer_of.kp h_is_answer_of.b .nil pass0 (pa_cons (pe_call h_asked_task.ok (hr.mono (by decide)) rfl h_asked_task.g h_asked_task.kp h_asked_task.b .nil pass0 (pa_cons (pv 0) pa_nil)) (pa_cons (pv 1) pa_nil))))), run_D h fun ds R hA => ?_⟩
    obtain ⟨t, a, rfl, ⟨o, oa⟩, rfl⟩ := hA
    exact do_retD (c_is_answer_of o oa (isA_cons (c_asked_task o (isA_cons (is_var rfl) isA_nil)) (isA_cons (is_var rfl) isA_nil))) rfl
end W36
end
section
set_option Elab.async false
set_option linter.all false
set_option maxRecDepth 100000
set_option maxHeartbeats 4000000
namespace W36
open PySem L2 Evl
def daysTo (m h : Int) : Nat → List (List Int)
  | 0 => [[]]
  | k + 1 => (daysTo m h k ++ [[(k : Int)]]) ++ (if 1 < h then (List.range (m - ((k : Int) + 1)).toNat).map (fun j : Nat => [(k : Int), (k : Int) + 1 + (j : Int)]) else [])
def allDays (m h : Int) : List (List Int) := daysTo m h m.toNat
theorem daysTo_len (m h : Int) : ∀ k, (daysTo m h k).length ≤ 1 + k * (m.toNat + 1)
  | 0 => by simp [daysTo]
  | k + 1 => by
    have ih := daysTo_len m h k
    have e : (k + 1) * (m.toNat + 1) = k * (m.toNat + 1) + (m.toNat + 1) := by rw [Nat.add_mul, Nat.one_mul]
    simp only [daysTo, List.length_append, List.length_cons, List.length_nil]
    rw [e]
    split
    · simp only [List.length_map, List.length_range]; omega
    · simp only [List.length_nil]; omega
theorem daysTo_ok {m h : Int} : ∀ (k : Nat), (k : Int) ≤ m → ∀ d ∈ daysTo m h k, DayR m d
  | 0, _, d, hd => by
    simp [daysTo] at hd; subst hd; exact ⟨rfl, by simp⟩
  | k + 1, hk, d, hd => by
    simp only [daysTo, List.mem_append, List.mem_cons, List.not_mem_nil, or_false] at hd
    rcases hd with (hd | rfl) | hd
    · exact daysTo_ok k (by omega) d hd
    · exact ⟨by simp [rising]; omega, by simp⟩
    · split at hd
      · obtain ⟨j, hj, rfl⟩ := List.mem_map.mp hd
        have := List.mem_range.mp hj
        exact ⟨by simp [rising]; omega, by simp⟩
      · cases hd
theorem allDays_ok {m h : Int} (hm : 0 ≤ m) : ∀ d ∈ allDays m h, DayR m d := daysTo_ok _ (by omega)
def A_all_days (ds : List PyData) (R : List PyData → Prop) : Prop := ∃ m h : Int, ds = [.int m, .int h] ∧ (0 ≤ m ∧ m ≤ 8) ∧ R = fun x => x = (allDays m h).map tI
def sp_all_days : Sp := spN A_all_days
theorem ln_all_days : ∀ ds R, A_all_days ds R → ds.length = 2 := fun ds R ⟨_, _, h, _⟩ => by rw [h]; rfl
theorem c_all_days {tx : TA} {ρ : List Ent} {m h : Int} (o : 0 ≤ m ∧ m ≤ 8) (ha : IsA tx ρ [.int m, .int h]) : IsN (tCall sp_all_days [] E0 tx) ρ ((allDays m h).map tI) := isNP_call ha ⟨m, h, rfl, o, rfl⟩
theorem ok_all_days {P : Program} {w : World} {K : PySem.W.Frag} {mg : Str → Option Value} {base : Heap} {f : Addr} {fd : FuncData} (F : FnP K "all_days" "all_days" s_all_days f fd) (md : Md mg) : FnOk P w K mg base CX0 1 f fd ["many", "hands"] sp_all_days := by
  refine FunD.ok F sc_all_days (fun vs H Q E h => len_N (fun ds R hA => ?_) h) (fun cdv A outer s H vs Q E hr h => ?_)
  · exact ln_all_days ds R hA
  · have nd := sc_all_days.nd
    refine ⟨_, PSs.nox (pss_cons (ps_set (i := 2) nd rfl (by first | exact Or.inl rfl | exact Or.inr rfl) (pe_lst (pa_cons (pe_tup pa_nil) pa_nil)))
    (pss_cons (ps_for PassesOwn.never rfl (pi_range1 (by rfl) md.range (pa_cons (pv 0) pa_nil)) (pg_name (i := 3) nd rfl (by first | exact Or.inl rfl | exact Or.inr rfl))
    (pss_cons (ps_expr (pe_bm PySem.F.plainAttrs_list PySem.F.slot_list_append PySem.F.type_list_append mt_append (pv 2) (pa_cons (pe_tup (pa_cons (pv 3) pa_nil)) pa_nil)))
    (pss_one (ps_if (pt_cmpR op_gt (pv 1) pe_int (nomark _))
    (pss_one (ps_set (i := 2) nd rfl (by first | exact Or.inl rfl | exact Or.inr rfl) (pe_op op_cat (pv 2) (pe_lc (own := [("j", 4)]) (g := gName 4) rfl nd (pi_range2 (by rfl) md.range (pa_cons (pe_op op_add (pv 3) pe_int) (pa_cons (pv 0) pa_nil))) (blkOk_by (own := [("j", 4)]) (N := N_all_days) (sc := defScope s_all_days) (by decide +kernel)) (fun _ _ _ _ _ => pg_name (i := 4) nd rfl (Or.inl rfl)) (fun _ _ _ _ _ => pts_nil) (fun _ _ _ _ _ => (pe_tup (pa_cons (pv 3) (pa_cons (pv 4) pa_nil))))))))
    pss_nil))))
    (pss_one (ps_ret (pv 2))))), run_N h fun ds R hA => ?_⟩
    obtain ⟨m, h, rfl, ⟨o1, o2⟩, rfl⟩ := hA
    refine do_letN (isN_lst (isA_cons (is_tup isA_nil) isA_nil)) ?_
    have dl : ∀ k : Nat, (k : Int) < m → (daysTo m h k).length ≤ 100 := fun k hk => by
      have h1 := daysTo_len m h k
      have h2 : k * (m.toNat + 1) ≤ 8 * 9 := Nat.mul_le_mul (by omega) (by omega)
      omega
    refine do_seq (do_forR1 (m := m) (n := m.toNat) (I := fun k ρ => ρ = [.dat (.int m), .dat (.int h), .own ((daysTo m h k).map tI), .no, .no]) (isA_cons (is_var rfl) isA_nil) rfl (by omega) ⟨_, rfl, Le.refl _⟩ ?_ ?_)
    · rintro k ρ1 hk rfl
      have dk := dl k (by omega)
      refine do_seq (do_app (Y := fun d => d = tI [(k : Int)]) rfl (is_tup (isA_cons (is_var rfl) isA_nil)) (by rw [List.length_map]; omega) fun d hd => ?_)
      subst hd
      refine do_if (ist_test (is_bI (is_var rfl) is_int)) (fun e => ?_) fun e => do_next ⟨_, rfl, ?_⟩
      · have e := of_decide_eq_true e
        refine do_asgN (isN_cat (isL_own rfl) (isL_new (isN_lcR2 (lo := (k : Int) + 1) (hi := m) (n := (m - ((k : Int) + 1)).toNat) (p := fun _ => true) (f := fun j => tI [(k : Int), (k : Int) + 1 + (j : Int)]) (isA_cons (is_iI (is_var rfl) is_int) (isA_cons (is_var rfl) isA_nil)) rfl (by omega) (notDrw_of rfl (by intro z; cases z)) (fun i hi => ist_yes) fun i hi _ => is_tup (isA_cons (is_var rfl) (isA_cons (is_var rfl) isA_nil)))) ?_) fun es he => ⟨_, rfl, ?_⟩
        · simp only [List.length_append, List.length_map, List.length_cons, List.length_nil]
          have := List.length_filter_le (fun _ : Nat => true) (List.range (m - ((k : Int) + 1)).toNat)
          rw [List.length_range] at this
          omega
        · subst he
          have e2 : (daysTo m h (k + 1)).map tI = ((daysTo m h k).map tI ++ [tI [(k : Int)]]) ++ ((List.range (m - ((k : Int) + 1)).toNat).filter fun _ => true).map (fun j : Nat => tI [(k : Int), (k : Int) + 1 + (j : Int)]) := by
            rw [List.filter_eq_self.mpr (fun _ _ => rfl)]
            simp only [daysTo, if_pos e, List.map_append, List.map_map]
            rfl
          rw [e2]
          exact ⟨rfl, rfl, rfl, True.intro⟩
      · have e := of_decide_eq_false e
        have e2 : (daysTo m h (k + 1)).map tI = (daysTo m h k).map tI ++ [tI [(k : Int)]] := by
          simp only [daysTo, if_neg e, List.map_append, List.append_nil]
          rfl
        rw [e2]
        exact ⟨rfl, rfl, rfl, True.intro⟩
    · rintro ρ1 rfl
      exact do_retO rfl rfl
def isTied (t : Tk) (day last : List Int) : Bool := t.tied.any fun p => (decide (p.1 ∈ day) && decide (p.2 ∈ last)) || (decide (p.2 ∈ day) && decide (p.1 ∈ last))
def A_is_tied (ds : List PyData) (R : PyData → Prop) : Prop := ∃ (t : Tk) (day last : List Int), ds = [dT t, tI day, tI last] ∧ R = fun x => x = .bool (isTied t day last)
def sp_is_tied : Sp := spD A_is_tied
theorem ln_is_tied : ∀ ds R, A_is_tied ds R → ds.length = 3 := fun ds R ⟨_, _, _, h, _⟩ => by rw [h]; rfl
theorem c_is_tied {tx : TA} {ρ : List Ent} {t : Tk} {day last : List Int} (ha : IsA tx ρ [dT t, tI day, tI last]) : Is (tCall sp_is_tied [] E0 tx) ρ (.bool (isTied t day last)) := isP_call ha ⟨t, day, last, rfl, rfl⟩
theorem any_drop {α : Type} {xs : List α} {k : Nat} {x : α} (p : α → Bool) (h : xs[k]? = some x) : (xs.drop k).any p = (p x || (xs.drop (k + 1)).any p) := by rw [drop_at h, List.any_cons]
theorem ok_is_tied {P : Program} {w : World} {K : PySem.W.Frag} {mg : Str → Option Value} {base : Heap} {f : Addr} {fd : FuncData} (F : FnP K "is_tied" "is_tied" s_is_tied f fd) (md : Md mg) : FnOk P w K mg base CX0 1 f fd ["task", "day", "last"] sp_is_tied := by
  refine FunD.ok F sc_is_tied (fun vs H Q E h => len_D (fun ds R hA => ?_) h) (fun cdv A outer s H vs Q E hr h => ?_)
  · exact ln_is_tied ds R hA
  · have nd := sc_is_tied.nd
    refine ⟨_, PSs.nox (pss_cons (ps_for PassesOwn.never rfl (k_pt K (pe_ix (kx_T K) (pv 0) pe_int (fun _ _ => rfl))) (pg_tup rfl (pgs_cons (pg_name (i := 3) nd rfl (by first | exact Or.inl rfl | exact Or.inr rfl)) (pgs_cons (pg_name (i := 4) nd rfl (by first | exact Or.inl rfl | exact Or.inr rfl)) pgs_nil)))
    (pss_one (ps_if (PW.pt (pw_or (PW.pt (pw_and (pt_cmpR (k_in K) (pv 3) (pv 1) (by with_unfolding_all rfl)) (pw_and1 (pt_cmpR (k_in K) (pv 4) (pv 2) (by with_unfolding_all rfl))))) (pw_or1 (PW.pt (pw_and (pt_cmpR (k_in K) (pv 4) (pv 1) (by with_unfolding_all rfl)) (pw_and1 (pt_cmpR (k_in K) (pv 3) (pv 2) (by with_unfolding_all rfl))))))))
    (pss_one (ps_ret pe_bl))
    pss_nil)))
    (pss_one (ps_ret pe_bl))), run_D h fun ds R hA => ?_⟩
    obtain ⟨t, day, last, rfl, rfl⟩ := hA
    refine do_seq (do_forTm (xs := t.tied) (enc := dPr) (f := fun p ρ => (ρ.set 3 (.dat (.int p.1))).set 4 (.dat (.int p.2))) (I := fun k ρ => ρ = [.dat (dT t), .dat (tI day), .dat (tI last), .no, .no] ∧ isTied t day last = (t.tied.drop k).any fun p => (decide (p.1 ∈ day) && decide (p.2 ∈ last)) || (decide (p.2 ∈ day) && decide (p.1 ∈ last))) (is_ixT (n := 4) (is_var rfl) is_int rfl rfl) (fun p => tg_tup (tgs_cons (tgs_cons tgs_nil))) ⟨_, ⟨rfl, rfl⟩, Le.refl _⟩ ?_ ?_)
    · rintro k p ρ1 hp ⟨rfl, hr⟩
      rw [any_drop _ hp] at hr
      refine do_if (ist_or (ist_and (ist_test (is_inT (is_var rfl) (is_var rfl))) fun _ => ist_test (is_inT (is_var rfl) (is_var rfl))) fun _ => ist_and (ist_test (is_inT (is_var rfl) (is_var rfl))) fun _ => ist_test (is_inT (is_var rfl) (is_var rfl))) (fun e => ?_) fun e => do_next ⟨_, ⟨rfl, ?_⟩, ⟨rfl, rfl, rfl, True.intro⟩⟩
      · refine do_retD is_bl ?_
        rw [e, Bool.true_or] at hr
        show PyData.bool true = .bool _
        rw [hr]
      · rw [e, Bool.false_or] at hr
        exact hr
    · rintro ρ1 ⟨rfl, hr⟩
      rw [List.drop_length] at hr
      refine do_retD is_bl ?_
      show PyData.bool false = .bool _
      rw [hr]; rfl
def canDo (t : Tk) (s : Sd) (day : List Int) : Bool := (!(decide (t.hands < day.length) || (decide (offAt t s.phase = 1) && decide (0 < (day.length : Int)))) && s.busy.all fun i => decide (i ∈ day)) && !isTied t day s.last
def A_can_be_done (ds : List PyData) (R : PyData → Prop) : Prop := ∃ (t : Tk) (s : Sd) (day : List Int), ds = [dT t, dS s, tI day] ∧ (TaskOk t ∧ StandOk t s) ∧ R = fun x => x = .bool (canDo t s day)
def sp_can_be_done : Sp := spD A_can_be_done
theorem ln_can_be_done : ∀ ds R, A_can_be_done ds R → ds.length = 3 := fun ds R ⟨_, _, _, h, _⟩ => by rw [h]; rfl
theorem c_can_be_done {tx : TA} {ρ : List Ent} {t : Tk} {s : Sd} {day : List Int} (o : TaskOk t) (os : StandOk t s) (ha : IsA tx ρ [dT t, dS s, tI day]) : Is (tCall sp_can_be_done [] E0 tx) ρ (.bool (canDo t s day)) := isP_call ha ⟨t, s, day, rfl, ⟨o, os⟩, rfl⟩
theorem off_at {t : Tk} {i : Int} (h : 0 ≤ i ∧ i < t.off.length) : (t.off.map PyData.int)[i.toNat]? = some (.int (offAt t i)) := by
  have hl : i.toNat < t.off.length := by omega
  rw [List.getElem?_map, List.getElem?_eq_getElem hl, offAt, List.getD_eq_getElem?_getD, List.getElem?_eq_getElem hl]
  rfl
theorem ok_can_be_done {P : Program} {w : World} {K : PySem.W.Frag} {mg : Str → Option Value} {base : Heap} {f : Addr} {fd : FuncData} (F : FnP K "can_be_done" "can_be_done" s_can_be_done f fd) (md : Md mg) {f_is_tied : Addr} {fd_is_tied : FuncData} (h_is_tied : Has P w K mg base 1 "is_tied" ["task", "day", "last"] sp_is_tied f_is_tied fd_is_tied) : FnOk P w K mg base CX0 2 f fd ["task", "stand", "day"] sp_can_be_done := by
  refine FunD.ok F sc_can_be_done (fun vs H Q E h => len_D (fun ds R hA => ?_) h) (fun cdv A outer s H vs Q E hr h => ?_)
  · exact ln_can_be_done ds R hA
  · have nd := sc_can_be_done.nd
    refine ⟨_, PSs.nox (pss_cons (ps_asg (pv 1) (pg_tup rfl (pgs_cons (pg_name (i := 3) nd rfl (by first | exact Or.inl rfl | exact Or.inr rfl)) (pgs_cons (pg_name (i := 4) nd rfl (by first | exact Or.inl rfl | exact Or.inr rfl)) (pgs_cons (pg_name (i := 5) nd rfl (by first | exact Or.inl rfl | exact Or.inr rfl)) (pgs_cons (pg_name (i := 6) nd rfl (by first | exact Or.inl rfl | exact Or.inr rfl)) pgs_nil))))))
    (pss_cons (ps_if (PW.pt (pw_or (pt_cmpR op_gt (pe_callB (k_len K) (by rfl) md.len PySem.boot_len (pa_cons (pv 2) pa_nil)) (pe_ix (kx_T K) (pv 0) pe_int (fun _ _ => rfl)) (nomark _)) (pw_or1 (PW.pt (pw_and (pt_cmpR op_eq (pe_ix (kx_T K) (pe_ix (kx_T K) (pv 0) pe_int (fun _ _ => rfl)) (pv 3) (fun _ _ => rfl)) pe_int (nomark _)) (pw_and1 (pt_cmpR op_gt (pe_callB (k_len K) (by rfl) md.len PySem.boot_len (pa_cons (pv 2) pa_nil)) pe_int (nomark _))))))))
    (pss_one (ps_ret pe_bl))
    pss_nil)
    (pss_cons (ps_if (pt_cmpR (k_neD K hr.units) (pe_lc (own := [("i", 7)]) (g := gName 7) rfl nd (k_pt K (pv 5)) (blkOk_by (own := [("i", 7)]) (N := N_can_be_done) (sc := defScope s_can_be_done) (by decide +kernel)) (fun _ _ _ _ _ => pg_name (i := 7) nd rfl (Or.inl rfl)) (fun _ _ _ _ _ => (pts_one (pt_cmpR (k_nin K) (pv 7) (pv 2) (by with_unfolding_all rfl)))) (fun _ _ _ _ _ => (pv 7))) (pe_lst pa_nil) (nomark _))
    (pss_one (ps_ret pe_bl))
    pss_nil)
    (pss_one (ps_ret (pe_not (pe_call h_is_tied.ok (hr.mono (by decide)) rfl h_is_tied.g h_is_tied.kp h_is_tied.b .nil pass0 (pa_cons (pv 0) (pa_cons (pv 2) (pa_cons (pv 6) pa_nil)))))))))), run_D h fun ds R hA => ?_⟩
    obtain ⟨t, s, day, rfl, ⟨o, os⟩, rfl⟩ := hA
    have ob := os.busy.l
    have oh := o.h2
    have op := os.phase
    refine do_letT (is_var rfl) (tg_tup (tgs_cons (tgs_cons (tgs_cons (tgs_cons tgs_nil))))) ?_
    refine do_when (b := decide (t.hands < day.length) || (decide (offAt t s.phase = 1) && decide (0 < (day.length : Int)))) (IsB.to (ist_or (ist_test (is_bI (is_lenT (is_var rfl)) (is_ixT (n := 1) (is_var rfl) is_int rfl rfl))) fun _ => ist_and (ist_test (is_eqI (is_ixT (b := s.phase) (n := s.phase.toNat) (is_ixT (n := 2) (is_var rfl) is_int rfl rfl) (is_var rfl) (by omega) (off_at op)) is_int)) fun _ => ist_test (is_bI (is_lenT (is_var rfl)) is_int)) (by rw [List.length_map])) (fun e => ?_) fun e => ?_
    · refine do_retD is_bl ?_
      show PyData.bool false = .bool (canDo t s day)
      rw [canDo, e]; rfl
    refine do_when (b := !(s.busy.all fun i => decide (i ∈ day))) (IsB.to (ist_test (is_neNilI (isL_new (isN_lcT (xs := s.busy) (enc := .int) (p := fun i => !decide (i ∈ day)) (f := .int) (is_var rfl) (by omega) (notDrw_of rfl (by intro z; cases z)) (fun x hx => ist_test (is_ninT (is_var rfl) (is_var rfl))) fun x hx _ => is_var rfl)))) ?_) (fun e2 => ?_) fun e2 => ?_
    · rw [filter_empty]; simp
    · refine do_retD is_bl ?_
      show PyData.bool false = .bool (canDo t s day)
      rw [canDo, e, nt e2]; rfl
    · refine do_retD (is_notV (c_is_tied (isA_cons (is_var rfl) (isA_cons (is_var rfl) (isA_cons (is_var rfl) isA_nil))))) ?_
      show PyData.bool _ = .bool (canDo t s day)
      rw [canDo, e, nf e2]; rfl
def laterDays (t : Tk) (s : Sd) : List (List Int) := (allDays t.nums.length t.hands).filter (canDo t s)
def A_later_days (ds : List PyData) (R : List PyData → Prop) : Prop := ∃ (t : Tk) (s : Sd), ds = [dT t, dS s] ∧ (TaskOk t ∧ StandOk t s) ∧ R = fun x => x = (laterDays t s).map tI
def sp_later_days : Sp := spN A_later_days
theorem ln_later_days : ∀ ds R, A_later_days ds R → ds.length = 2 := fun ds R ⟨_, _, h, _⟩ => by rw [h]; rfl
theorem c_later_days {tx : TA} {ρ : List Ent} {t : Tk} {s : Sd} (o : TaskOk t) (os : StandOk t s) (ha : IsA tx ρ [dT t, dS s]) : IsN (tCall sp_later_days [] E0 tx) ρ ((laterDays t s).map tI) := isNP_call ha ⟨t, s, rfl, ⟨o, os⟩, rfl⟩
theorem allDays_len {m h : Int} (o : 0 ≤ m ∧ m ≤ 8) : (allDays m h).length ≤ 100 := by
  have h1 := daysTo_len m h m.toNat
  have h2 : m.toNat * (m.toNat + 1) ≤ 8 * 9 := Nat.mul_le_mul (by omega) (by omega)
  unfold allDays
  omega
theorem ok_later_days {P : Program} {w : World} {K : PySem.W.Frag} {mg : Str → Option Value} {base : Heap} {f : Addr} {fd : FuncData} (F : FnP K "later_days" "later_days" s_later_days f fd) (md : Md mg) {f_all_days : Addr} {fd_all_days : FuncData} (h_all_days : Has P w K mg base 1 "all_days" ["many", "hands"] sp_all_days f_all_days fd_all_days) {f_can_be_done : Addr} {fd_can_be_done : FuncData} (h_can_be_done : Has P w K mg base 2 "can_be_done" ["task", "stand", "day"] sp_can_be_done f_can_be_done fd_can_be_done) : FnOk P w K mg base CX0 3 f fd ["task", "stand"] sp_later_days := by
  refine FunD.ok F sc_later_days (fun vs H Q E h => len_N (fun ds R hA => ?_) h) (fun cdv A outer s H vs Q E hr h => ?_)
  · exact ln_later_days ds R hA
  · have nd := sc_later_days.nd
    refine ⟨_, PSs.nox (pss_one (ps_ret (pe_lc (own := [("day", 2)]) (g := gName 2) rfl nd (k_pl K (pe_call h_all_days.ok (hr.mono (by decide)) rfl h_all_days.g h_all_days.kp h_all_days.b .nil pass0 (pa_cons (pe_callB (k_len K) (by rfl) md.len PySem.boot_len (pa_cons (pe_ix (kx_T K) (pv 0) pe_int (fun _ _ => rfl)) pa_nil)) (pa_cons (pe_ix (kx_T K) (pv 0) pe_int (fun _ _ => rfl)) pa_nil)))) (blkOk_by (own := [("day", 2)]) (N := N_later_days) (sc := defScope s_later_days) (by decide +kernel)) (fun _ _ _ _ _ => pg_name (i := 2) nd rfl (Or.inl rfl)) (fun _ _ _ _ _ => (pts_one (pt_val (pe_call h_can_be_done.ok (hr.mono (by decide)) rfl h_can_be_done.g h_can_be_done.kp h_can_be_done.b .nil pass0 (pa_cons (pv 0) (pa_cons (pv 1) (pa_cons (pv 2) pa_nil))))))) (fun _ _ _ _ _ => (pv 2))))), run_N h fun ds R hA => ?_⟩
    obtain ⟨t, s, rfl, ⟨o, os⟩, rfl⟩ := hA
    have ol := o.nums.len
    have al := allDays_len (m := (t.nums.length : Int)) (h := t.hands) (by omega)
    refine do_retN (isN_lcL (xs := allDays t.nums.length t.hands) (enc := tI) (p := canDo t s) (f := tI) (isL_new (c_all_days (m := (t.nums.length : Int)) (h := t.hands) (by omega) (isA_cons (Is.to (is_lenT (is_ixT (n := 0) (is_var rfl) is_int rfl rfl)) (by rw [List.length_map])) (isA_cons (is_ixT (n := 1) (is_var rfl) is_int rfl rfl) isA_nil)))) (by omega) (notDrw_of rfl (by intro z; cases z)) (fun x hx => ist_B (c_can_be_done o os (isA_cons (is_var rfl) (isA_cons (is_var rfl) (isA_cons (is_var rfl) isA_nil))))) fun x hx _ => is_var rfl) fun es h => h
def waitB (t : Tk) (s : Sd) (day : List Int) (i : Nat) : Int := if ((i : Int) ∈ day ∧ (¬ (i : Int) ∈ t.long ∨ (i : Int) ∈ s.busy)) then t.nums.getD i 0 else s.waits.getD i 0 - 1
def A_wait_behind (ds : List PyData) (R : PyData → Prop) : Prop := ∃ (t : Tk) (s : Sd) (day : List Int) (i : Nat), ds = [dT t, dS s, tI day, .int (i : Int)] ∧ (i < t.nums.length ∧ s.waits.length = t.nums.length) ∧ R = fun x => x = .int (waitB t s day i)
def sp_wait_behind : Sp := spD A_wait_behind
theorem ln_wait_behind : ∀ ds R, A_wait_behind ds R → ds.length = 4 := fun ds R ⟨_, _, _, _, h, _⟩ => by rw [h]; rfl
theorem c_wait_behind {tx : TA} {ρ : List Ent} {t : Tk} {s : Sd} {day : List Int} {i : Nat} (o : i < t.nums.length) (ow : s.waits.length = t.nums.length) (ha : IsA tx ρ [dT t, dS s, tI day, .int (i : Int)]) : Is (tCall sp_wait_behind [] E0 tx) ρ (.int (waitB t s day i)) := isP_call ha ⟨t, s, day, i, rfl, ⟨o, ow⟩, rfl⟩
theorem ints_at {ns : List Int} {i : Nat} (h : i < ns.length) : (ns.map PyData.int)[i]? = some (.int (ns.getD i 0)) := by
  rw [List.getElem?_map, List.getElem?_eq_getElem h, List.getD_eq_getElem?_getD, List.getElem?_eq_getElem h]
  rfl
theorem ok_wait_behind {P : Program} {w : World} {K : PySem.W.Frag} {mg : Str → Option Value} {base : Heap} {f : Addr} {fd : FuncData} (F : FnP K "wait_behind" "wait_behind" s_wait_behind f fd) (md : Md mg) : FnOk P w K mg base CX0 1 f fd ["task", "stand", "day", "i"] sp_wait_behind := by
  refine FunD.ok F sc_wait_behind (fun vs H Q E h => len_D (fun ds R hA => ?_) h) (fun cdv A outer s H vs Q E hr h => ?_)
  · exact ln_wait_behind ds R hA
  · have nd := sc_wait_behind.nd
    refine ⟨_, PSs.nox (pss_cons (ps_if (PW.pt (pw_and (pt_cmpR (k_in K) (pv 3) (pv 2) (by with_unfolding_all rfl)) (pw_and1 (PW.pt (pw_or (pt_cmpR (k_nin K) (pv 3) (pe_ix (kx_T K) (pv 0) pe_int (fun _ _ => rfl)) (by with_unfolding_all rfl)) (pw_or1 (pt_cmpR (k_in K) (pv 3) (pe_ix (kx_T K) (pv 1) pe_int (fun _ _ => rfl)) (by with_unfolding_all rfl))))))))
    (pss_one (ps_ret (pe_ix (kx_T K) (pe_ix (kx_T K) (pv 0) pe_int (fun _ _ => rfl)) (pv 3) (fun _ _ => rfl))))
    pss_nil)
    (pss_one (ps_ret (pe_op op_sub (pe_ix (kx_T K) (pe_ix (kx_T K) (pv 1) pe_int (fun _ _ => rfl)) (pv 3) (fun _ _ => rfl)) pe_int)))), run_D h fun ds R hA => ?_⟩
    obtain ⟨t, s, day, i, rfl, ⟨o, ow⟩, rfl⟩ := hA
    refine do_when (ist_and (ist_test (is_inT (is_var rfl) (is_var rfl))) fun _ => ist_or (ist_test (is_ninT (is_var rfl) (is_ixT (n := 3) (is_var rfl) is_int rfl rfl))) fun _ => ist_test (is_inT (is_var rfl) (is_ixT (n := 2) (is_var rfl) is_int rfl rfl))) (fun e => ?_) fun e => ?_
    · have e2 : ((i : Int) ∈ day ∧ (¬ (i : Int) ∈ t.long ∨ (i : Int) ∈ s.busy)) := by simpa using e
      refine do_retD (is_ixT (b := (i : Int)) (n := i) (is_ixT (n := 0) (is_var rfl) is_int rfl rfl) (is_var rfl) rfl (ints_at o)) ?_
      show PyData.int _ = _
      rw [waitB, if_pos e2]
    · have e2 : ¬ ((i : Int) ∈ day ∧ (¬ (i : Int) ∈ t.long ∨ (i : Int) ∈ s.busy)) := fun h => by
        have : (decide ((i : Int) ∈ day) && (!decide ((i : Int) ∈ t.long) || decide ((i : Int) ∈ s.busy))) = true := by simpa using h
        rw [this] at e; cases e
      refine do_retD (is_iI (is_ixT (b := (i : Int)) (n := i) (is_ixT (n := 1) (is_var rfl) is_int rfl rfl) (is_var rfl) rfl (ints_at (by omega))) is_int) ?_
      show PyData.int _ = _
      rw [waitB, if_neg e2]
def waitsB (t : Tk) (s : Sd) (day : List Int) : List Int := (List.range t.nums.length).map (waitB t s day)
def nextS (t : Tk) (s : Sd) (day : List Int) : Option Sd :=
  if (0 : Int) ∈ waitsB t s day then none else some ⟨(s.phase + 1) % t.off.length, waitsB t s day, day.filter fun i => decide (i ∈ t.long) && !decide (i ∈ s.busy), day.filter fun i => decide (i ∈ inTies t)⟩
abbrev dO : Option Sd → PyData
  | none => .none
  | some s => dS s
def A_later_stand (ds : List PyData) (R : PyData → Prop) : Prop := ∃ (t : Tk) (s : Sd) (day : List Int), ds = [dT t, dS s, tI day] ∧ (TaskOk t ∧ s.waits.length = t.nums.length ∧ day.length ≤ 2) ∧ R = fun x => x = dO (nextS t s day)
def sp_later_stand : Sp := spD A_later_stand
theorem ln_later_stand : ∀ ds R, A_later_stand ds R → ds.length = 3 := fun ds R ⟨_, _, _, h, _⟩ => by rw [h]; rfl
theorem c_later_stand {tx : TA} {ρ : List Ent} {t : Tk} {s : Sd} {day : List Int} (o : TaskOk t) (ow : s.waits.length = t.nums.length) (od : day.length ≤ 2) (ha : IsA tx ρ [dT t, dS s, tI day]) : Is (tCall sp_later_stand [] E0 tx) ρ (dO (nextS t s day)) := isP_call ha ⟨t, s, day, rfl, ⟨o, ow, od⟩, rfl⟩
theorem ok_later_stand {P : Program} {w : World} {K : PySem.W.Frag} {mg : Str → Option Value} {base : Heap} {f : Addr} {fd : FuncData} (F : FnP K "later_stand" "later_stand" s_later_stand f fd) (md : Md mg) {f_wait_behind : Addr} {fd_wait_behind : FuncData} (h_wait_behind : Has P w K mg base 1 "wait_behind" ["task", "stand", "day", "i"] sp_wait_behind f_wait_behind fd_wait_behind) {f_in_ties : Addr} {fd_in_ties : FuncData} (h_in_ties : Has P w K mg base 1 "in_ties" ["task"] sp_in_ties f_in_ties fd_in_ties) : FnOk P w K mg base CX0 2 f fd ["task", "stand", "day"] sp_later_stand := by
  refine FunD.ok F sc_later_stand (fun vs H Q E h => len_D (fun ds R hA => ?_) h) (fun cdv A outer s H vs Q E hr h => ?_)
  · exact ln_later_stand ds R hA
  · have nd := sc_later_stand.nd
    refine ⟨_, PSs.nox (pss_cons (ps_set (i := 3) nd rfl (by first | exact Or.inl rfl | exact Or.inr rfl) (pe_callTy (k_tuple K) (by rfl) md.tuple (by decide +kernel) (pa_cons (pe_lc (own := [("i", 6)]) (g := gName 6) rfl nd (pi_range1 (by rfl) md.range (pa_cons (pe_callB (k_len K) (by rfl) md.len PySem.boot_len (pa_cons (pe_ix (kx_T K) (pv 0) pe_int (fun _ _ => rfl)) pa_nil)) pa_nil)) (blkOk_by (own := [("i", 6)]) (N := N_later_stand) (sc := defScope s_later_stand) (by decide +kernel)) (fun _ _ _ _ _ => pg_name (i := 6) nd rfl (Or.inl rfl)) (fun _ _ _ _ _ => pts_nil) (fun _ _ _ _ _ => (pe_call h_wait_behind.ok (hr.mono (by decide)) rfl h_wait_behind.g h_wait_behind.kp h_wait_behind.b .nil pass0 (pa_cons (pv 0) (pa_cons (pv 1) (pa_cons (pv 2) (pa_cons (pv 6) pa_nil))))))) pa_nil)))
    (pss_cons (ps_if (pt_cmpR (k_in K) pe_int (pv 3) (by with_unfolding_all rfl))
    (pss_one (ps_ret pe_non))
    pss_nil)
    (pss_cons (ps_set (i := 4) nd rfl (by first | exact Or.inl rfl | exact Or.inr rfl) (pe_callTy (k_tuple K) (by rfl) md.tuple (by decide +kernel) (pa_cons (pe_lc (own := [("i", 6)]) (g := gName 6) rfl nd (k_pt K (pv 2)) (blkOk_by (own := [("i", 6)]) (N := N_later_stand) (sc := defScope s_later_stand) (by decide +kernel)) (fun _ _ _ _ _ => pg_name (i := 6) nd rfl (Or.inl rfl)) (fun _ _ _ _ _ => (pts_one (PW.pt (pw_and (pt_cmpR (k_in K) (pv 6) (pe_ix (kx_T K) (pv 0) pe_int (fun _ _ => rfl)) (by with_unfolding_all rfl)) (pw_and1 (pt_cmpR (k_nin K) (pv 6) (pe_ix (kx_T K) (pv 1) pe_int (fun _ _ => rfl)) (by with_unfolding_all rfl))))))) (fun _ _ _ _ _ => (pv 6))) pa_nil)))
    (pss_cons (ps_set (i := 5) nd rfl (by first | exact Or.inl rfl | exact Or.inr rfl) (pe_call h_in_ties.ok (hr.mono (by decide)) rfl h_in_ties.g h_in_ties.kp h_in_ties.b .nil pass0 (pa_cons (pv 0) pa_nil)))
    (pss_one (ps_ret (pe_tup (pa_cons (pe_op op_mod (pe_op op_add (pe_ix (kx_T K) (pv 1) pe_int (fun _ _ => rfl)) pe_int) (pe_callB (k_len K) (by rfl) md.len PySem.boot_len (pa_cons (pe_ix (kx_T K) (pv 0) pe_int (fun _ _ => rfl)) pa_nil))) (pa_cons (pv 3) (pa_cons (pv 4) (pa_cons (pe_callTy (k_tuple K) (by rfl) md.tuple (by decide +kernel) (pa_cons (pe_lc (own := [("i", 6)]) (g := gName 6) rfl nd (k_pt K (pv 2)) (blkOk_by (own := [("i", 6)]) (N := N_later_stand) (sc := defScope s_later_stand) (by decide +kernel)) (fun _ _ _ _ _ => pg_name (i := 6) nd rfl (Or.inl rfl)) (fun _ _ _ _ _ => (pts_one (pt_cmpR (k_in K) (pv 6) (pv 5) (by with_unfolding_all rfl)))) (fun _ _ _ _ _ => (pv 6))) pa_nil)) pa_nil))))))))))), run_D h fun ds R hA => ?_⟩
    obtain ⟨t, s, day, rfl, ⟨o, ow, od⟩, rfl⟩ := hA
    have ol := o.nums.len
    have off := o.offl
    refine do_let (Is.to (e := tI (waitsB t s day)) (is_tupL (isL_new (isN_lcR1 (m := (t.nums.length : Int)) (n := t.nums.length) (p := fun _ => true) (f := fun i => .int (waitB t s day i)) (isA_cons (Is.to (is_lenT (is_ixT (n := 0) (is_var rfl) is_int rfl rfl)) (by rw [List.length_map])) isA_nil) (by omega) (by omega) (notDrw_of rfl (by intro z; cases z)) (fun i hi => ist_yes) fun i hi _ => c_wait_behind hi ow (isA_cons (is_var rfl) (isA_cons (is_var rfl) (isA_cons (is_var rfl) (isA_cons (is_var rfl) isA_nil))))))) ?_) ?_
    · rw [List.filter_eq_self.mpr (fun _ _ => rfl), tI, waitsB, List.map_map]; rfl
    refine do_when (ist_test (is_inT is_int (is_var rfl))) (fun e => ?_) fun e => ?_
    · refine do_retD is_non ?_
      show PyData.none = dO (nextS t s day)
      rw [nextS, if_pos (of_decide_eq_true e)]
    refine do_let (is_tupL (isL_new (isN_lcT (xs := day) (enc := .int) (p := fun i => decide (i ∈ t.long) && !decide (i ∈ s.busy)) (f := .int) (is_var rfl) (by omega) (notDrw_of rfl (by intro z; cases z)) (fun x hx => ist_and (ist_test (is_inT (is_var rfl) (is_ixT (n := 3) (is_var rfl) is_int rfl rfl))) fun _ => ist_test (is_ninT (is_var rfl) (is_ixT (n := 2) (is_var rfl) is_int rfl rfl))) fun x hx _ => is_var rfl))) ?_
    refine do_let (c_in_ties o (isA_cons (is_var rfl) isA_nil)) ?_
    refine do_retD (is_tup (isA_cons (is_cI (is_iI (is_ixT (n := 0) (is_var rfl) is_int rfl rfl) is_int) (is_lenT (is_ixT (n := 2) (is_var rfl) is_int rfl rfl)) ?_) (isA_cons (is_var rfl) (isA_cons (is_var rfl) (isA_cons (is_tupL (isL_new (isN_lcT (xs := day) (enc := .int) (p := fun i => decide (i ∈ inTies t)) (f := .int) (is_var rfl) (by omega) (notDrw_of rfl (by intro z; cases z)) (fun x hx => ist_test (is_inL (is_var rfl) (isL_dat (is_var rfl)))) fun x hx _ => is_var rfl))) isA_nil))))) ?_
    · rw [List.length_map]; show (0 : Int) < _; omega
    · show PyData.tuple _ = dO (nextS t s day)
      rw [nextS, if_neg (of_decide_eq_false e), List.length_map]
end W36
end
section
set_option Elab.async false
set_option linter.all false
set_option maxRecDepth 100000
set_option maxHeartbeats 4000000
/-! Stands behind days are stands; tuple + tuple. -/
namespace W36
open PySem L2 Evl
theorem k_catA (K : PySem.W.Frag) {X : Cx} (h : X.K = K := by rfl) : OpR X (binaryOp .Add) (rCatA K) := h ▸ op_catA
theorem is_catT {K : PySem.W.Frag} {ρ : List Ent} {ta tb : TE} {ds es : List PyData} (ha : Is ta ρ (.tuple ds)) (hb : Is tb ρ (.tuple es)) (hz : ds.length + es.length ≤ 100000) : Is (tOp (rCatA K) ta tb) ρ (.tuple (ds ++ es)) := fun σ G H E Q q =>
  ha σ G H E _ fun x d1 G1 H1 hd n1 hx => hb σ G1 H1 n1.e _ fun y d2 G2 H2 he n2 hy => by
    subst hd he
    have hx2 := hx.up n2.w.g
    cases hx2 with
    | @tup a xs _ a1 a2 =>
      cases hy with
      | @tup b ys _ b1 b2 =>
        refine ⟨a, b, xs, ys, rfl, rfl, st_of (n2.w.v _ _ a1), st_of (n2.w.v _ _ b1), by rw [a2.length, b2.length]; exact sz_of hz, fun ex => ?_, fun _ ey => ?_, fun _ _ p hp => ?_⟩
        · subst ex
          have := a2.length
          have e : ds = [] := List.length_eq_zero_iff.mp this.symm
          subst e
          exact q _ _ G2 H2 rfl (n1.trans n2) (.tup b1 b2)
        · subst ey
          have := b2.length
          have e : es = [] := List.length_eq_zero_iff.mp this.symm
          subst e
          exact q _ _ G2 H2 (by rw [List.append_nil]) (n1.trans n2) (.tup a1 a2)
        · have m := Nx.new (o := .tup (xs ++ ys)) n2.e hp
          exact q _ _ _ _ rfl ((n1.trans n2).trans m) (.tup upd_same ((a2.app b2).up m.w.g))
theorem filt_add {α : Type} (p : α → Bool) : ∀ l : List α, (l.filter p).length + (l.filter fun x => !p x).length = l.length
  | [] => rfl
  | x :: l => by
    have ih := filt_add p l
    cases h : p x
    · simp [h]; omega
    · simp [h]; omega
theorem filt_le {α : Type} {p q : α → Bool} : ∀ {l : List α}, (∀ x ∈ l, p x = true → q x = true) → (l.filter p).length ≤ (l.filter q).length
  | [], _ => Nat.le_refl _
  | x :: l, h => by
    have ih := filt_le (l := l) fun y hy => h y (List.mem_cons_of_mem _ hy)
    have h0 := h x List.mem_cons_self
    cases hp : p x
    · cases hq : q x
      · simp [hp, hq]; exact ih
      · simp [hp, hq]; omega
    · have hq := h0 hp
      simp [hp, hq]; exact ih
/-- what a day that can be done is -/
structure DayOk (t : Tk) (day : List Int) : Prop where
  r : DayR t.nums.length day
  h : (day.length : Int) ≤ t.hands
theorem dayOk_of {t : Tk} {s : Sd} {day : List Int} (r : DayR t.nums.length day) (c : canDo t s day = true) : DayOk t day := by
  refine ⟨r, ?_⟩
  simp only [canDo, Bool.and_eq_true, Bool.not_eq_true', Bool.or_eq_false_iff, decide_eq_false_iff_not] at c
  omega
theorem day_some {t : Tk} {day : List Int} (o : TaskOk t) (d : DayOk t day) (p : Int → Bool) (ns : List Int) (hm : ∀ i ∈ day, p i = true → i ∈ ns) : SomeOf ns (day.filter p) t.hands := by
  have rm := rising_mem d.r.r
  have ol := o.nums.len
  refine ⟨rising_of ((rising_pair d.r.r).filter p) fun i hi => ?_, ?_, fun i hi => ?_⟩
  · have := rm i (List.mem_filter.mp hi).1
    omega
  · have := List.length_filter_le p day
    have := d.h
    omega
  · obtain ⟨h1, h2⟩ := List.mem_filter.mp hi
    exact hm i h1 h2
theorem waitsB_get {t : Tk} {s : Sd} {day : List Int} {i : Nat} (h : i < t.nums.length) : (waitsB t s day)[i]? = some (waitB t s day i) := by
  rw [waitsB, List.getElem?_map, List.getElem?_range h]; rfl
theorem getD_of {ns : List Int} {i : Nat} {x : Int} (h : ns[i]? = some x) : ns.getD i 0 = x := by rw [List.getD_eq_getElem?_getD, h]; rfl
theorem next_ok {t : Tk} {s s' : Sd} {day : List Int} (o : TaskOk t) (os : WaitsOk t.nums s.waits) (d : DayOk t day) (h : nextS t s day = some s') : StandOk t s' := by
  unfold nextS at h
  split at h
  · cases h
  · rename_i h0
    cases h
    have off := o.offl
    have hn := d.h
    refine ⟨⟨Int.emod_nonneg _ (by omega), Int.emod_lt_of_pos _ (by omega)⟩, ⟨by simp [waitsB], fun i w n hw hn => ?_⟩, day_some o d _ _ fun i _ hp => ?_, day_some o d _ _ fun i _ hp => ?_, ?_, fun i hi ht => ?_⟩
    · have hi : i < t.nums.length := (List.getElem?_eq_some_iff.mp hn).1
      have e := hw
      simp only at e
      rw [waitsB_get hi] at e
      cases e
      have nm := o.nums.mem n (List.mem_of_getElem? hn)
      have hw0 : waitB t s day i ≠ 0 := fun z => h0 (z ▸ List.mem_of_getElem? (waitsB_get (s := s) (day := day) hi))
      have hil : i < s.waits.length := by rw [os.len]; exact hi
      have hs : s.waits[i]? = some s.waits[i] := List.getElem?_eq_getElem hil
      have sm := os.mem i _ _ hs hn
      unfold waitB at hw0 ⊢
      rw [getD_of hn, getD_of hs] at hw0 ⊢
      split
      · exact ⟨nm.1, Int.le_refl _⟩
      · rename_i c
        rw [if_neg c] at hw0
        omega
    · simp only [Bool.and_eq_true, decide_eq_true_eq] at hp; exact hp.1
    · exact of_decide_eq_true hp
    · simp only
      rw [List.filter_filter]
      have h1 := filt_add (fun i => decide (i ∈ t.long) && !decide (i ∈ s.busy)) day
      have h2 : (day.filter fun a => (!decide (a ∈ day.filter fun i => decide (i ∈ t.long) && !decide (i ∈ s.busy))) && decide (a ∈ inTies t)).length ≤ (day.filter fun x => !(decide (x ∈ t.long) && !decide (x ∈ s.busy))).length := filt_le fun x hx hp => by
        simp only [Bool.and_eq_true, Bool.not_eq_true', decide_eq_false_iff_not, List.mem_filter, not_and] at hp
        have := hp.1 hx
        by_cases c : x ∈ t.long <;> by_cases c2 : x ∈ s.busy <;> simp_all
      omega
    · exact List.mem_filter.mpr ⟨(List.mem_filter.mp hi).1, decide_eq_true ht⟩
theorem later_mem {t : Tk} {s : Sd} {day : List Int} (h : day ∈ laterDays t s) : DayOk t day ∧ canDo t s day = true := by
  obtain ⟨h1, h2⟩ := List.mem_filter.mp h
  exact ⟨dayOk_of (allDays_ok (by omega) day h1) h2, h2⟩
end W36
end
section
set_option Elab.async false
set_option linter.all false
set_option maxRecDepth 100000
set_option maxHeartbeats 4000000
namespace W36
open PySem L2 Evl
def ledS (t : Tk) : Sd → List (List Int) → Option Sd
  | s, [] => some s
  | s, d :: ds => if canDo t s d = true then (match nextS t s d with | none => none | some s' => ledS t s' ds) else none
theorem led_ok {t : Tk} (o : TaskOk t) : ∀ {ds : List (List Int)} {s s' : Sd}, StandOk t s → (∀ d ∈ ds, DayR t.nums.length d) → ledS t s ds = some s' → StandOk t s'
  | [], s, s', os, _, h => by cases h; exact os
  | d :: ds, s, s', os, hd, h => by
    rw [ledS] at h
    split at h
    · rename_i c
      cases e : nextS t s d with
      | none => rw [e] at h; cases h
      | some s1 =>
        rw [e] at h
        exact led_ok o (next_ok o os.waits (dayOk_of (hd d List.mem_cons_self) c) e) (fun x hx => hd x (List.mem_cons_of_mem _ hx)) h
    · cases h
def A_led (ds : List PyData) (R : PyData → Prop) : Prop := ∃ (t : Tk) (s : Sd) (dl : List (List Int)), ds = [dT t, dS s, .tuple (dl.map tI)] ∧ (TaskOk t ∧ StandOk t s ∧ ∀ d ∈ dl, DayR t.nums.length d) ∧ R = fun x => x = dO (ledS t s dl)
def sp_led : Sp := spD A_led
theorem ln_led : ∀ ds R, A_led ds R → ds.length = 3 := fun ds R ⟨_, _, _, h, _⟩ => by rw [h]; rfl
theorem c_led {tx : TA} {ρ : List Ent} {t : Tk} {s : Sd} {dl : List (List Int)} (o : TaskOk t) (os : StandOk t s) (od : ∀ d ∈ dl, DayR t.nums.length d) (ha : IsA tx ρ [dT t, dS s, .tuple (dl.map tI)]) : Is (tCall sp_led [] E0 tx) ρ (dO (ledS t s dl)) := isP_call ha ⟨t, s, dl, rfl, ⟨o, os, od⟩, rfl⟩
theorem ok_led {P : Program} {w : World} {K : PySem.W.Frag} {mg : Str → Option Value} {base : Heap} {f : Addr} {fd : FuncData} (F : FnP K "led" "led" s_led f fd) (md : Md mg) {f_can_be_done : Addr} {fd_can_be_done : FuncData} (h_can_be_done : Has P w K mg base 2 "can_be_done" ["task", "stand", "day"] sp_can_be_done f_can_be_done fd_can_be_done) {f_later_stand : Addr} {fd_later_stand : FuncData} (h_later_stand : Has P w K mg base 2 "later_stand" ["task", "stand", "day"] sp_later_stand f_later_stand fd_later_stand) : FnOk P w K mg base CX0 3 f fd ["task", "stand", "days"] sp_led := by
  refine FunD.ok F sc_led (fun vs H Q E h => len_D (fun ds R hA => ?_) h) (fun cdv A outer s H vs Q E hr h => ?_)
  · exact ln_led ds R hA
  · have nd := sc_led.nd
    refine ⟨_, PSs.nox (pss_cons (ps_for PassesOwn.never rfl (k_pt K (pv 2)) (pg_name (i := 3) nd rfl (by first | exact Or.inl rfl | exact Or.inr rfl))
    (pss_cons (ps_if (pt_not (pt_val (pe_call h_can_be_done.ok (hr.mono (by decide)) rfl h_can_be_done.g h_can_be_done.kp h_can_be_done.b .nil pass0 (pa_cons (pv 0) (pa_cons (pv 1) (pa_cons (pv 3) pa_nil))))))
    (pss_one (ps_ret pe_non))
    pss_nil)
    (pss_cons (ps_set (i := 1) nd rfl (by first | exact Or.inl rfl | exact Or.inr rfl) (pe_call h_later_stand.ok (hr.mono (by decide)) rfl h_later_stand.g h_later_stand.kp h_later_stand.b .nil pass0 (pa_cons (pv 0) (pa_cons (pv 1) (pa_cons (pv 3) pa_nil)))))
    (pss_one (ps_if (pt_cmp (pc_isN (pv 1)))
    (pss_one (ps_ret pe_non))
    pss_nil)))))
    (pss_one (ps_ret (pv 1)))), run_D h fun ds R hA => ?_⟩
    obtain ⟨t, s, dl, rfl, ⟨o, os, od⟩, rfl⟩ := hA
    refine do_seq (do_forTm (xs := dl) (enc := tI) (I := fun k ρ => ∃ s1, ρ = [.dat (dT t), .dat (dS s1), .dat (.tuple (dl.map tI)), .no] ∧ StandOk t s1 ∧ ledS t s dl = ledS t s1 (dl.drop k)) (is_var rfl) (fun x => tg_name) ⟨_, ⟨s, rfl, os, rfl⟩, Le.refl _⟩ ?_ ?_)
    · rintro k d ρ1 hd ⟨s1, rfl, os1, hr⟩
      have dr := od d (List.mem_of_getElem? hd)
      rw [drop_at hd, ledS] at hr
      refine do_when (ist_not (ist_B (c_can_be_done o os1 (isA_cons (is_var rfl) (isA_cons (is_var rfl) (isA_cons (is_var rfl) isA_nil)))))) (fun e => ?_) fun e => ?_
      · refine do_retD is_non ?_
        rw [nt e] at hr
        show PyData.none = dO (ledS t s dl)
        rw [hr]; rfl
      · have e := nf e
        rw [if_pos e] at hr
        refine do_let (c_later_stand o os1.waits.len dr.l (isA_cons (is_var rfl) (isA_cons (is_var rfl) (isA_cons (is_var rfl) isA_nil)))) ?_
        cases en : nextS t s1 d with
        | none =>
          rw [en] at hr
          refine do_if (b := true) (ist_B (is_isN (d := .none) (is_var rfl))) (fun _ => do_retD is_non ?_) fun e => by cases e
          show PyData.none = dO (ledS t s dl)
          rw [hr]
        | some s2 =>
          rw [en] at hr
          refine do_if (b := false) (ist_B (is_isN (d := dS s2) (is_var rfl))) (fun e => by cases e) fun _ => do_next ⟨_, ⟨s2, rfl, next_ok o os1.waits (dayOk_of dr e) en, hr⟩, ?_⟩
          exact ⟨rfl, rfl, rfl, True.intro⟩
    · rintro ρ1 ⟨s1, rfl, os1, hr⟩
      rw [List.drop_length] at hr
      refine do_retD (is_var rfl) ?_
      show dS s1 = dO (ledS t s dl)
      rw [hr]; rfl
def onHolds (t : Tk) (s : Sd) (l r : List (List Int)) : Bool := match ledS t s (l ++ r) with
  | none => false
  | some one => (match ledS t one r with
    | none => false
    | some two => liesUnder one two)
def A_on_holds (ds : List PyData) (R : PyData → Prop) : Prop := ∃ (t : Tk) (s : Sd) (l r : List (List Int)), ds = [dT t, dS s, .tuple (l.map tI), .tuple (r.map tI)] ∧ (TaskOk t ∧ StandOk t s ∧ DaysR t.nums.length l ∧ DaysR t.nums.length r) ∧ R = fun x => x = .bool (onHolds t s l r)
def sp_on_holds : Sp := spD A_on_holds
theorem ln_on_holds : ∀ ds R, A_on_holds ds R → ds.length = 4 := fun ds R ⟨_, _, _, _, h, _⟩ => by rw [h]; rfl
theorem c_on_holds {tx : TA} {ρ : List Ent} {t : Tk} {s : Sd} {l r : List (List Int)} (o : TaskOk t) (os : StandOk t s) (ol : DaysR t.nums.length l) (or : DaysR t.nums.length r) (ha : IsA tx ρ [dT t, dS s, .tuple (l.map tI), .tuple (r.map tI)]) : Is (tCall sp_on_holds [] E0 tx) ρ (.bool (onHolds t s l r)) := isP_call ha ⟨t, s, l, r, rfl, ⟨o, os, ol, or⟩, rfl⟩
theorem alike_of {t : Tk} (o : TaskOk t) {a b : Sd} (oa : StandOk t a) (ob : StandOk t b) : Alike a b := by
  have := oa.waits.len
  have := ob.waits.len
  have := o.nums.len
  have := ob.last.l
  have := o.h2
  exact ⟨by omega, by omega, by omega⟩
theorem ok_on_holds {P : Program} {w : World} {K : PySem.W.Frag} {mg : Str → Option Value} {base : Heap} {f : Addr} {fd : FuncData} (F : FnP K "on_holds" "on_holds" s_on_holds f fd) (md : Md mg) {f_led : Addr} {fd_led : FuncData} (h_led : Has P w K mg base 3 "led" ["task", "stand", "days"] sp_led f_led fd_led) {f_lies_under : Addr} {fd_lies_under : FuncData} (h_lies_under : Has P w K mg base 1 "lies_under" ["one", "other"] sp_lies_under f_lies_under fd_lies_under) : FnOk P w K mg base CX0 4 f fd ["task", "stand", "lead", "ring"] sp_on_holds := by
  refine FunD.ok F sc_on_holds (fun vs H Q E h => len_D (fun ds R hA => ?_) h) (fun cdv A outer s H vs Q E hr h => ?_)
  · exact ln_on_holds ds R hA
  · have nd := sc_on_holds.nd
    refine ⟨_, PSs.nox (pss_cons (ps_set (i := 4) nd rfl (by first | exact Or.inl rfl | exact Or.inr rfl) (pe_call h_led.ok (hr.mono (by decide)) rfl h_led.g h_led.kp h_led.b .nil pass0 (pa_cons (pv 0) (pa_cons (pv 1) (pa_cons (pe_op (k_catA K) (pv 2) (pv 3)) pa_nil)))))
    (pss_cons (ps_if (pt_cmp (pc_isN (pv 4)))
    (pss_one (ps_ret pe_bl))
    pss_nil)
    (pss_cons (ps_set (i := 5) nd rfl (by first | exact Or.inl rfl | exact Or.inr rfl) (pe_call h_led.ok (hr.mono (by decide)) rfl h_led.g h_led.kp h_led.b .nil pass0 (pa_cons (pv 0) (pa_cons (pv 4) (pa_cons (pv 3) pa_nil)))))
    (pss_one (ps_ret (pe_and (pe_cmp (pc_notN (pv 5)) rfl) (pe_one (pe_call h_lies_under.ok (hr.mono (by decide)) rfl h_lies_under.g h_lies_under.kp h_lies_under.b .nil pass0 (pa_cons (pv 4) (pa_cons (pv 5) pa_nil)))))))))), run_D h fun ds R hA => ?_⟩
    obtain ⟨t, s, l, r, rfl, ⟨o, os, ol, or⟩, rfl⟩ := hA
    have l1 := ol.l
    have l2 := or.l
    have dlr : ∀ d ∈ l ++ r, DayR t.nums.length d := fun d hd => (List.mem_append.mp hd).elim (ol.d d) (or.d d)
    refine do_let (c_led (dl := l ++ r) o os dlr (isA_cons (is_var rfl) (isA_cons (is_var rfl) (isA_cons (Is.to (is_catT (is_var rfl) (is_var rfl) (by simp only [List.length_map]; omega)) (by rw [List.map_append])) isA_nil)))) ?_
    cases e1 : ledS t s (l ++ r) with
    | none =>
      refine do_when (b := true) (ist_B (is_isN (d := .none) (is_var rfl))) (fun _ => do_retD is_bl ?_) fun e => by cases e
      show PyData.bool false = .bool (onHolds t s l r)
      rw [onHolds, e1]
    | some one =>
      have o1 := led_ok o os dlr e1
      refine do_when (b := false) (ist_B (is_isN (d := dS one) (is_var rfl))) (fun e => by cases e) fun _ => ?_
      refine do_let (c_led o o1 or.d (isA_cons (is_var rfl) (isA_cons (is_var rfl) (isA_cons (is_var rfl) isA_nil)))) ?_
      cases e2 : ledS t one r with
      | none =>
        refine do_retD (Is.to (e := .bool false) (is_andV (y := false) (is_notN (d := .none) (is_var rfl)) fun e => by cases e) rfl) ?_
        show PyData.bool false = .bool (onHolds t s l r)
        rw [onHolds, e1]; simp only [e2]
      | some two =>
        refine do_retD (is_andV (is_notN (d := dS two) (is_var rfl)) fun _ => c_lies_under (alike_of o o1 (led_ok o o1 or.d e2)) (isA_cons (is_var rfl) (isA_cons (is_var rfl) isA_nil))) ?_
        show PyData.bool (true && _) = .bool (onHolds t s l r)
        rw [onHolds, e1]; simp only [e2]; rfl
def A_count_holds (ds : List PyData) (R : PyData → Prop) : Prop := ∃ (t : Tk) (d p : Int), ds = [dT t, .int d, .int p] ∧ TaskOk t ∧ R = fun x => x = .bool (decide (roomOf t d p < needOf t d))
def sp_count_holds : Sp := spD A_count_holds
theorem ln_count_holds : ∀ ds R, A_count_holds ds R → ds.length = 3 := fun ds R ⟨_, _, _, h, _⟩ => by rw [h]; rfl
theorem c_count_holds {tx : TA} {ρ : List Ent} {t : Tk} {d p : Int} (o : TaskOk t) (ha : IsA tx ρ [dT t, .int d, .int p]) : Is (tCall sp_count_holds [] E0 tx) ρ (.bool (decide (roomOf t d p < needOf t d))) := isP_call ha ⟨t, d, p, rfl, o, rfl⟩
theorem ok_count_holds {P : Program} {w : World} {K : PySem.W.Frag} {mg : Str → Option Value} {base : Heap} {f : Addr} {fd : FuncData} (F : FnP K "count_holds" "count_holds" s_count_holds f fd) (md : Md mg) {f_need_of : Addr} {fd_need_of : FuncData} (h_need_of : Has P w K mg base 1 "need_of" ["task", "days"] sp_need_of f_need_of fd_need_of) {f_room_of : Addr} {fd_room_of : FuncData} (h_room_of : Has P w K mg base 1 "room_of" ["task", "days", "phase"] sp_room_of f_room_of fd_room_of) : FnOk P w K mg base CX0 2 f fd ["task", "days", "phase"] sp_count_holds := by
  refine FunD.ok F sc_count_holds (fun vs H Q E h => len_D (fun ds R hA => ?_) h) (fun cdv A outer s H vs Q E hr h => ?_)
  · exact ln_count_holds ds R hA
  · have nd := sc_count_holds.nd
    refine ⟨_, PSs.nox (pss_one (ps_ret (pe_cmpR op_gt (pe_call h_need_of.ok (hr.mono (by decide)) rfl h_need_of.g h_need_of.kp h_need_of.b .nil pass0 (pa_cons (pv 0) (pa_cons (pv 1) pa_nil))) (pe_call h_room_of.ok (hr.mono (by decide)) rfl h_room_of.g h_room_of.kp h_room_of.b .nil pass0 (pa_cons (pv 0) (pa_cons (pv 1) (pa_cons (pv 2) pa_nil)))) (nomark _)))), run_D h fun ds R hA => ?_⟩
    obtain ⟨t, d, p, rfl, o, rfl⟩ := hA
    exact do_retD (is_bI (c_need_of o (isA_cons (is_var rfl) (isA_cons (is_var rfl) isA_nil))) (c_room_of o (isA_cons (is_var rfl) (isA_cons (is_var rfl) (isA_cons (is_var rfl) isA_nil))))) rfl
end W36
end
section
set_option Elab.async false
set_option linter.all false
set_option maxRecDepth 100000
set_option maxHeartbeats 4000000
/-! Dicts whose keys are nested tuples: the tracked thing and its rules. -/
namespace W36
open PySem PySem.Spec PyProof.Rows L2
/-! ### keys -/
mutual
inductive KeyV (H : Hp) : V → NestedKey → Prop
  | int (i : Int) : KeyV H (.int i) (.num i)
  | tup {a : Addr} {xs : List V} {ks : List NestedKey} : H a = some (.tup xs) → KeyVs H xs ks → KeyV H (.ref a) (.tup ks)
inductive KeyVs (H : Hp) : List V → List NestedKey → Prop
  | nil : KeyVs H [] []
  | cons {v : V} {vs : List V} {k : NestedKey} {ks : List NestedKey} : KeyV H v k → KeyVs H vs ks → KeyVs H (v :: vs) (k :: ks)
end
mutual
theorem KeyV.mono {H H' : Hp} (e : ∀ a xs, H a = some (.tup xs) → H' a = some (.tup xs)) : ∀ (k : NestedKey) (v : V), KeyV H v k → KeyV H' v k
  | .none, _, h => by cases h
  | .num _, _, h => by cases h; exact .int _
  | .text _, _, h => by cases h
  | .tup ks, _, h => by cases h with | tup h1 h2 => exact .tup (e _ _ h1) (KeyVs.mono e ks _ h2)
theorem KeyVs.mono {H H' : Hp} (e : ∀ a xs, H a = some (.tup xs) → H' a = some (.tup xs)) : ∀ (ks : List NestedKey) (vs : List V), KeyVs H vs ks → KeyVs H' vs ks
  | [], _, h => by cases h; exact .nil
  | k :: ks, _, h => by cases h with | cons h1 h2 => exact .cons (KeyV.mono e k _ h1) (KeyVs.mono e ks _ h2)
end
mutual
theorem KeyV.is {P : Program} {w : World} {H : Hp} {h : Heap} (ok : HOk P w H h) : ∀ (k : NestedKey) (v : V) (u : Value), KeyV H v k → RelV v u → NestedIs h k u
  | .none, _, _, x, _ => by cases x
  | .num i, _, u, x, r => by
    cases x
    obtain ⟨t, rfl⟩ := (show ∃ t, u = Value.int i t from r)
    exact .int _ _
  | .text _, _, _, x, _ => by cases x
  | .tup ks, _, u, x, r => by
    cases x with
    | @tup a xs _ h1 h2 =>
      obtain rfl : u = .ref a := r
      obtain ⟨_, its, rv, o, q1, q2, n, q3⟩ := (show ObjOk P w H h a (.tup xs) from ok a _ h1)
      exact .tup q1 q2 q3 (by simpa using KeyVs.is ok ks xs its h2 rv)
theorem KeyVs.is {P : Program} {w : World} {H : Hp} {h : Heap} (ok : HOk P w H h) : ∀ (ks : List NestedKey) (vs : List V) (us : List Value), KeyVs H vs ks → Vals vs us → NestedAll h ks us
  | [], _, _, x, r => by cases x; cases r; exact .nil
  | k :: ks, _, _, x, r => by
    cases x with
    | cons h1 h2 => cases r with | cons r1 r2 => exact .cons (KeyV.is ok k _ _ h1 r1) (KeyVs.is ok ks _ _ h2 r2)
end
/-- the tuple at b is the key k -/
structure KeyB (H : Hp) (b : Addr) (k : NestedKey) : Prop where
  v : KeyV H (.ref b) k
  d : k.depth ≤ 8
theorem KeyB.is {P : Program} {w : World} {H : Hp} {h : Heap} {b : Addr} {k : NestedKey} (x : KeyB H b k) (ok : HOk P w H h) : (nestedKind P w).is h k b := ⟨x.v.is ok k _ _ rfl, x.d⟩
theorem KeyB.mono {H H' : Hp} {b : Addr} {k : NestedKey} (x : KeyB H b k) (e : ∀ a xs, H a = some (.tup xs) → H' a = some (.tup xs)) : KeyB H' b k := ⟨x.v.mono e k _, x.d⟩
/-! ### tables -/
abbrev NE := NestedKey × Addr × V
def valN (xs : List NE) (k : NestedKey) : Option V := (xs.find? fun x => decide (x.1 = k)).map (·.2.2)
def putN (xs : List NE) (k : NestedKey) (b : Addr) (v : V) : List NE := if (valN xs k).isSome = true then xs.map (fun x => if x.1 = k then (x.1, x.2.1, v) else x) else xs ++ [(k, b, v)]
def dropN (xs : List NE) (k : NestedKey) : List NE := xs.filter fun x => decide (x.1 ≠ k)
abbrev RN : List NE → List (NestedKey × Addr × Value) → Prop := Paired fun p q => p.1 = q.1 ∧ p.2.1 = q.2.1 ∧ RelV p.2.2 q.2.2
theorem RN.val {xs : List NE} {ys : List (NestedKey × Addr × Value)} (r : RN xs ys) (k : NestedKey) : RelO (valN xs k) ((atKey ys k).map (·.2)) := by
  induction r with
  | nil => exact True.intro
  | @cons p q ps qs h t ih =>
    obtain ⟨h1, _, h2⟩ := h
    by_cases e : p.1 = k
    · have e' : q.1 = k := h1.symm.trans e
      have b : atKey (q :: qs) k = some q.2 := by simp [atKey, List.find?_cons, e']
      have c : valN (p :: ps) k = some p.2.2 := by simp [valN, List.find?_cons, e]
      rw [c, b]; exact h2
    · have e' : ¬ q.1 = k := fun z => e (h1.trans z)
      have b : atKey (q :: qs) k = atKey qs k := by simp [atKey, List.find?_cons, e']
      have c : valN (p :: ps) k = valN ps k := by simp [valN, List.find?_cons, e]
      rw [c, b]; exact ih
theorem RN.repl {xs : List NE} {ys : List (NestedKey × Addr × Value)} (r : RN xs ys) (k : NestedKey) {y : V} {u : Value} (ry : RelV y u) : RN (xs.map (fun x => if x.1 = k then (x.1, x.2.1, y) else x)) (ys.map (putAt k u)) := by
  induction r with
  | nil => exact .nil
  | @cons p q ps qs h t ih =>
    rw [List.map_cons, List.map_cons]
    refine .cons ?_ ih
    obtain ⟨h1, h2, h3⟩ := h
    unfold putAt
    by_cases e : p.1 = k
    · rw [if_pos e, if_pos (h1.symm.trans e)]; exact ⟨h1, h2, ry⟩
    · rw [if_neg e, if_neg (fun z => e (h1.trans z))]; exact ⟨h1, h2, h3⟩
theorem RN.put {xs : List NE} {ys : List (NestedKey × Addr × Value)} (r : RN xs ys) (k : NestedKey) {b : Addr} {y : V} {u : Value} (ry : RelV y u) : RN (putN xs k b y) (storedH ys k b u) := by
  have e : (valN xs k).isSome = (atKey ys k).isSome := by rw [(r.val k).isSome_eq, Option.isSome_map]
  unfold putN storedH
  rw [e]
  by_cases q : (atKey ys k).isSome = true
  · rw [if_pos q, if_pos q]; exact r.repl k ry
  · rw [if_neg q, if_neg q]; exact Paired.snoc r ⟨rfl, rfl, ry⟩
theorem RN.drop {xs : List NE} {ys : List (NestedKey × Addr × Value)} (r : RN xs ys) (k : NestedKey) : RN (dropN xs k) (withoutH ys k) := by
  unfold dropN withoutH
  induction r with
  | nil => exact .nil
  | @cons p q ps qs h t ih =>
    rw [List.filter_cons, List.filter_cons, h.1]
    by_cases c : (decide (q.1 ≠ k)) = true
    · rw [if_pos c, if_pos c]; exact .cons h ih
    · rw [if_neg c, if_neg c]; exact ih
theorem length_putN (xs : List NE) (k : NestedKey) (b : Addr) (v : V) : (putN xs k b v).length ≤ xs.length + 1 := by
  unfold putN
  split
  · rw [List.length_map]; omega
  · rw [List.length_append, List.length_cons, List.length_nil]; omega
/-! ### the tracked thing -/
def NdO (P : Program) (w : World) (a : Addr) (xs : List NE) : HO := .ext fun h => xs.length ≤ sizeLine ∧ (a == sysModules) = false ∧ ∃ ys : List (NestedKey × Addr × Value), RN xs ys ∧
  ∃ o es ep, h.get? a = some o ∧ o.ExactDict ∧ o.data = .dict es ep ∧ es.toList = ys.map (entryOfKey (nestedKind P w)) ∧ (ys.map (·.1)).Nodup
def KeysB (H : Hp) (xs : List NE) : Prop := ∀ e, e ∈ xs → KeyB H e.2.1 e.1
theorem KeysB.mono {H H' : Hp} {xs : List NE} (x : KeysB H xs) (e : ∀ a xs, H a = some (.tup xs) → H' a = some (.tup xs)) : KeysB H' xs := fun y hy => (x y hy).mono e
/-- a dict at a, with its keys -/
structure NdAt (P : Program) (w : World) (H : Hp) (a : Addr) (xs : List NE) : Prop where
  o : H a = some (NdO P w a xs)
  k : KeysB H xs
section
variable {P : Program} {w : World} {H : Hp} {h : Heap} {a : Addr} {xs : List NE}
theorem nd_rd (ok : HOk P w H h) (e : NdAt P w H a xs) : xs.length ≤ sizeLine ∧ (a == sysModules) = false ∧ ∃ ys, RN xs ys ∧ h.DictOfH (nestedKind P w) a ys := by
  obtain ⟨⟨z, hd, ys, r, o, es, ep, h1, h2, h3, h4, h5⟩, _⟩ := (show ObjOk P w H h a (NdO P w a xs) from ok a _ e.o)
  refine ⟨z, hd, ys, r, o, es, ep, h1, h2, h3, h4, fun y hy => ?_, h5⟩
  have all : ∀ {l : List NE} {m : List (NestedKey × Addr × Value)}, RN l m → (∀ e, e ∈ l → KeyB H e.2.1 e.1) → ∀ y ∈ m, (nestedKind P w).is h y.1 y.2.1 := by
    intro l m q
    induction q with
    | nil => intro _ y hy; exact nomatch hy
    | @cons p q ps qs hq t ih =>
      intro hk y hy
      rcases List.mem_cons.mp hy with e | hy
      · subst e
        have := hk p (List.mem_cons_self ..)
        rw [hq.1, hq.2.1] at this
        exact this.is ok
      · exact ih (fun e he => hk e (List.mem_cons_of_mem _ he)) y hy
  exact all r e.k y hy
theorem nd_new {H' : Hp} {h' : Heap} {ys : List (NestedKey × Addr × Value)} (z : xs.length ≤ sizeLine) (hd : (a == sysModules) = false) (r : RN xs ys) (dd : h'.DictOfH (nestedKind P w) a ys) : ObjOk P w H' h' a (NdO P w a xs) := by
  obtain ⟨o, es, ep, h1, h2, h3, h4, _, h5⟩ := dd
  exact ⟨⟨z, hd, ys, r, o, es, ep, h1, h2, h3, h4, h5⟩, ⟨o, h1⟩, fun g1 g2 ⟨z, hd, ys, r, o, es, ep, h1, h2⟩ k => ⟨z, hd, ys, r, o, es, ep, k o h1, h2⟩⟩
end
theorem nroom_in1 {P : Program} {w : World} {A : Around} (hu : A.units + 65 < cLine) : (nestedKind P w).room A.in1 := by
  show A.in1.units + 8 < cLine
  have : A.in1.units ≤ A.units + 1 := by first | exact Nat.le_refl _ | (unfold Around.in1 Around.units; simp; omega) | simp [Around.in1, Around.units]
  omega
section
variable {X : Cx} {pins : List (Addr × Obj)} {σ : L2.St} {H : Hp} {s : Shared} {a b : Addr} {v : V} {u r : Value} {k : NestedKey} {xs : List NE} {A : Around} {E : Value → Shared → Prop}
theorem n_getItem {Q : Value → Shared → Prop} (hu : A.units + 65 < cLine) (I : Inv X pins σ H s) (g : NdAt X.prog X.w H a xs) (kb : KeyB H b k) (hv : valN xs k = some v) (h : ∀ w' s', Inv X pins σ H s' → RelV v w' → Q w' s') :
    wpAny (model X.prog X.w) A (getItem (.ref a) (.ref b)) Q E s := by
  obtain ⟨z, hd, ys, rel, dd⟩ := nd_rd I.hok g
  obtain ⟨w', hw, rw'⟩ := RelO.some_of (v := v) (o := (atKey ys k).map (·.2)) (by rw [← hv]; exact rel.val k)
  obtain ⟨p, hp, hp2⟩ := Option.map_eq_some_iff.mp hw
  refine wpAny_getItem_heap (nroom_in1 hu) (kb.is I.hok) dd hp ?_
  rw [hp2]
  exact h w' _ (I.tok _) rw'
theorem n_in {Q : Value → Shared → Prop} (hu : A.units + 65 < cLine) (I : Inv X pins σ H s) (g : NdAt X.prog X.w H a xs) (kb : KeyB H b k) (h : ∀ s', Inv X pins σ H s' → Q (.bool (valN xs k).isSome) s') :
    wpAny (model X.prog X.w) A (compareOp .In (.ref b) (.ref a)) Q E s := by
  obtain ⟨z, hd, ys, rel, dd⟩ := nd_rd I.hok g
  refine wpAny_in_heap (nroom_in1 hu) (kb.is I.hok) hd dd ?_
  have q := (rel.val k).isSome_eq
  rw [Option.isSome_map] at q
  rw [← q]
  exact h _ (I.tok _)
theorem n_notIn {Q : Value → Shared → Prop} (hu : A.units + 65 < cLine) (I : Inv X pins σ H s) (g : NdAt X.prog X.w H a xs) (kb : KeyB H b k) (h : ∀ s', Inv X pins σ H s' → Q (.bool (!(valN xs k).isSome)) s') :
    wpAny (model X.prog X.w) A (compareOp .NotIn (.ref b) (.ref a)) Q E s := by
  obtain ⟨z, hd, ys, rel, dd⟩ := nd_rd I.hok g
  refine wpAny_notIn_heap (nroom_in1 hu) (kb.is I.hok) hd dd ?_
  have q := (rel.val k).isSome_eq
  rw [Option.isSome_map] at q
  rw [← q]
  exact h _ (I.tok _)
theorem n_setItem {Q : Unit → Shared → Prop} (hu : A.units + 65 < cLine) (I : Inv X pins σ H s) (g : NdAt X.prog X.w H a xs) (kb : KeyB H b k) (l : xs.length < sizeLine) (rv : RelV v r)
    (h : ∀ s', Inv X pins σ (upd H a (NdO X.prog X.w a (putN xs k b v))) s' → Q () s') : wpAny (model X.prog X.w) A (setItem (.ref a) (.ref b) r) Q E s := by
  obtain ⟨z, hd, ys, rel, dd⟩ := nd_rd I.hok g
  have hz : ys.length ≤ sizeLine := by rw [← Paired.length rel]; exact z
  have hl : (putN xs k b v).length ≤ sizeLine := by have := length_putN xs k b v; omega
  refine wpAny_setItem_heap (hsz := hz) (nroom_in1 hu) (kb.is I.hok) dd fun h' dd' hs => h _ ?_
  have he : ∃ q, h'.get? a = some q := let ⟨q, _, _, hq, _⟩ := dd'; ⟨q, hq⟩
  exact d_write I (by rw [g.o]; exact True.intro) hs he (nd_new hl hd (rel.put k rv) dd')
theorem n_pop {Q : Value → Shared → Prop} (hu : A.units + 65 < cLine) (I : Inv X pins σ H s) (g : NdAt X.prog X.w H a xs) (kb : KeyB H b k) (hv : valN xs k = some v)
    (h : ∀ w' s', Inv X pins σ (upd H a (NdO X.prog X.w a (dropN xs k))) s' → RelV v w' → Q w' s') : wpAny (model X.prog X.w) A (call (.builtin "dict.pop") [.ref a, .ref b]) Q E s := by
  obtain ⟨z, hd, ys, rel, dd⟩ := nd_rd I.hok g
  obtain ⟨w', hw, rw'⟩ := RelO.some_of (v := v) (o := (atKey ys k).map (·.2)) (by rw [← hv]; exact rel.val k)
  obtain ⟨p, hp, hp2⟩ := Option.map_eq_some_iff.mp hw
  have hz : ys.length ≤ sizeLine := by rw [← Paired.length rel]; exact z
  refine call_pop_heap (hsz := hz) (more := []) (.inl rfl) (PySem.F.args_dict_pop_2 _ _) (nroom_in1 hu) (kb.is I.hok) hd dd hp fun h' dd' hs => ?_
  rw [hp2]
  have he : ∃ q, h'.get? a = some q := let ⟨q, _, _, hq, _⟩ := dd'; ⟨q, hq⟩
  refine h w' _ (d_write I (by rw [g.o]; exact True.intro) hs he (nd_new ?_ hd (rel.drop k) dd')) rw'
  exact Nat.le_trans (List.length_filter_le _ _) z
theorem n_get2 {d : V} {Q : Value → Shared → Prop} (hu : A.units + 65 < cLine) (I : Inv X pins σ H s) (g : NdAt X.prog X.w H a xs) (kb : KeyB H b k) (rd : RelV d r) (h : ∀ w' s', Inv X pins σ H s' → RelV ((valN xs k).getD d) w' → Q w' s') :
    wpAny (model X.prog X.w) A (call (.builtin "dict.get") [.ref a, .ref b, r]) Q E s := by
  obtain ⟨z, hd, ys, rel, dd⟩ := nd_rd I.hok g
  exact call_meetsIn PySem.F.slot_dict_get dd.typeIs PySem.F.entry_dict_get (PySem.F.args_dict_get_3 _ _ _) (meetsH_dict_get_default (nestedKind X.prog X.w) a b hd r) ⟨nroom_in1 hu, k, ys, kb.is I.hok, dd, h _ _ (I.tok _) ((rel.val k).getD rd)⟩
theorem nd_at {P : Program} {w : World} (ok : HOk P w H s.heap) (d : NdAt P w H a xs) : s.TypeIs (.ref a) "dict" ∧ (∀ b, Value.ref a = .ref b → ∃ ob, s.heap.get? b = some ob ∧ ob.dict = none) ∧ (a == sysModules) = false := by
  obtain ⟨_, hd, ys, _, dd⟩ := nd_rd ok d
  refine ⟨dd.typeIs, fun b q => ?_, hd⟩
  cases q
  obtain ⟨ob, _, _, h1, h2, _⟩ := dd
  exact ⟨ob, h1, h2.2.1⟩
end
/-! ### readings and rules -/
section
variable (P : Program) (w : World)
def tNGet (td ty : TE) : TE := fun σ H Q => td σ H fun x H1 => ty σ H1 fun y H2 => ∃ a b xs k v, x = .ref a ∧ y = .ref b ∧ NdAt P w H2 a xs ∧ KeyB H2 b k ∧ valN xs k = some v ∧ Q v H2
def tNIn (ty td : TE) : TE := fun σ H Q => ty σ H fun y H1 => td σ H1 fun x H2 => ∃ a b xs k, x = .ref a ∧ y = .ref b ∧ NdAt P w H2 a xs ∧ KeyB H2 b k ∧ Q (.bl (valN xs k).isSome) H2
def tNNotIn (ty td : TE) : TE := fun σ H Q => ty σ H fun y H1 => td σ H1 fun x H2 => ∃ a b xs k, x = .ref a ∧ y = .ref b ∧ NdAt P w H2 a xs ∧ KeyB H2 b k ∧ Q (.bl (!(valN xs k).isSome)) H2
def sNPut (td ty tv : TE) : TS := fun D σ H => tv σ H fun v H1 => td σ H1 fun x H2 => ty σ H2 fun y H3 => ∃ a b xs k, x = .ref a ∧ y = .ref b ∧ NdAt P w H3 a xs ∧ KeyB H3 b k ∧ xs.length < 1000000 ∧ D.nx σ (upd H3 a (NdO P w a (putN xs k b v)))
def tNGet2 (td ty tx : TE) : TE := fun σ H Q => td σ H fun x H1 => ∃ a, x = .ref a ∧ (∃ ys, NdAt P w H1 a ys) ∧ ty σ H1 fun y H2 => tx σ H2 fun z H3 => ∃ b xs k, y = .ref b ∧ NdAt P w H3 a xs ∧ KeyB H3 b k ∧ Q ((valN xs k).getD z) H3
def tNPop (td ty : TE) : TE := fun σ H Q => td σ H fun x H1 => ∃ a, x = .ref a ∧ (∃ ys, NdAt P w H1 a ys) ∧ ty σ H1 fun y H2 => ∃ b xs k v, y = .ref b ∧ NdAt P w H2 a xs ∧ KeyB H2 b k ∧ valN xs k = some v ∧ Q v (upd H2 a (NdO P w a (dropN xs k)))
def tNNew : TE := fun _ H Q => ∀ p, H p = none → Q (.ref p) (upd H p (NdO P w p []))
def rNLen : List V → Hp → VK → Prop := fun zs H Q => ∃ a xs, zs = [.ref a] ∧ NdAt P w H a xs ∧ Q (.int (xs.length : Int)) H
def rNTup : List V → Hp → VK → Prop := fun zs H Q => ∃ a xs, zs = [.ref a] ∧ NdAt P w H a xs ∧ ∀ q, H q = none → Q (.ref q) (upd H q (.tup (xs.map fun e => V.ref e.2.1)))
end
section
variable {X : Cx} {o i e f value : Expr} {pos pos' apos cpos : Pos} {td ty tv tx : TE}
theorem lt_line {n : Nat} (h : n < 1000000) : n < sizeLine := by rw [sizeLine_eq]; omega
theorem pe_nget (hu : X.A.units + 65 < cLine) (ho : PE X o td) (hi : PE X i ty) (hs : NoSl i) : PE X (.Subscript o i pos) (tNGet X.prog X.w td ty) := by
  refine ⟨fun pins s σ H Q I h => ?_⟩
  refine subD_of PySem.F.slot_dict_getitem.lookup hs (thn (ho.run pins s σ H _ I h) fun u s1 ⟨x, H1, I1, rx, q1⟩ => thn (hi.run pins s1 σ H1 _ I1 q1) fun iv s2 ⟨y, H2, I2, ry, a, b, xs, k, v, ex, ey, g, kb, hv, q2⟩ => ?_)
  subst ex ey
  obtain rfl : u = Value.ref a := rx
  obtain rfl : iv = Value.ref b := ry
  exact ⟨(nd_at I2.hok g).1, n_getItem hu I2 g kb hv fun w' s3 I3 rw' => ⟨v, H2, I3, rw', q2⟩⟩
theorem pc_nin (hu : X.A.units + 65 < cLine) (hi : PE X i ty) (ho : PE X o td) : PC X .In i o (tNIn X.prog X.w ty td) := by
  refine ⟨fun pins s σ H Q I h => ?_⟩
  refine thn (hi.run pins s σ H _ I h) fun iv s1 ⟨y, H1, I1, ry, q1⟩ => thn (ho.run pins s1 σ H1 _ I1 q1) fun u s2 ⟨x, H2, I2, rx, a, b, xs, k, ex, ey, g, kb, q2⟩ => ?_
  subst ex ey
  obtain rfl : u = Value.ref a := rx
  obtain rfl : iv = Value.ref b := ry
  exact n_in hu I2 g kb fun s3 I3 => ⟨.bl (valN xs k).isSome, H2, I3, rfl, q2⟩
theorem pc_nnotin (hu : X.A.units + 65 < cLine) (hi : PE X i ty) (ho : PE X o td) : PC X .NotIn i o (tNNotIn X.prog X.w ty td) := by
  refine ⟨fun pins s σ H Q I h => ?_⟩
  refine thn (hi.run pins s σ H _ I h) fun iv s1 ⟨y, H1, I1, ry, q1⟩ => thn (ho.run pins s1 σ H1 _ I1 q1) fun u s2 ⟨x, H2, I2, rx, a, b, xs, k, ex, ey, g, kb, q2⟩ => ?_
  subst ex ey
  obtain rfl : u = Value.ref a := rx
  obtain rfl : iv = Value.ref b := ry
  exact n_notIn hu I2 g kb fun s3 I3 => ⟨.bl (!(valN xs k).isSome), H2, I3, rfl, q2⟩
theorem ps_nput (hu : X.A.units + 65 < cLine) (ho : PE X o td) (hi : PE X i ty) (hv : PE X value tv) (hs : swapsWith value (some (.Subscript o i pos')) pos.line X.env = pure false) :
    PS X (.Assign [.Subscript o i pos'] value pos) (sNPut X.prog X.w td ty tv) := by
  refine ⟨fun pins s σ H D I h => ?_⟩
  refine wpAny_Assign_Subscript (thn (hv.run pins s σ H _ I h) fun r s1 ⟨v, H1, I1, rv, q1⟩ => thn (ho.run pins s1 σ H1 _ I1 q1) fun u s2 ⟨x, H2, I2, rx, q2⟩ => thn (hi.run pins s2 σ H2 _ I2 q2) fun iv s3 ⟨y, H3, I3, ry, a, b, xs, k, ex, ey, g, kb, l, q3⟩ => ?_) hs
  subst ex ey
  obtain rfl : u = Value.ref a := rx
  obtain rfl : iv = Value.ref b := ry
  exact n_setItem hu I3 g kb (lt_line l) rv fun s4 I4 => ⟨σ, _, I4, q3⟩
theorem pe_nget2 (hu : X.A.units + 65 < cLine) (ho : PE X o td) (he : PE X e ty) (hf : PE X f tx) (m : M2 X o "get" apos e f cpos) : PE X (.Call (.Attribute o "get" apos) [e, f] [] cpos) (tNGet2 X.prog X.w td ty tx) := by
  refine ⟨fun pins s σ H Q I h => ?_⟩
  refine wpAny_Call_method m.base m.few m.line PySem.F.plainAttrs_dict PySem.F.slot_dict_get PySem.F.type_dict_get (thn (ho.run pins s σ H _ I h) fun u s1 ⟨x, H1, I1, rx, a, ex, ⟨_, d⟩, q1⟩ => ?_)
  subst ex
  obtain rfl : u = Value.ref a := rx
  obtain ⟨t1, t2, _⟩ := nd_at I1.hok d
  refine ⟨t1, t2, ?_⟩
  rw [m.trees]
  refine Calls.callWith_builtin rfl (Calls.evalArgs_plain (Calls.spliced_cons (thn (he.run pins s1 σ H1 _ I1 q1) fun iv s2 ⟨y, H2, I2, ry, q2⟩ =>
    Calls.spliced_cons (thn (hf.run pins s2 σ H2 _ I2 q2) fun fv s3 ⟨z, H3, I3, rz, b, xs, k, ey, g, kb, q3⟩ => Calls.spliced_nil ?_))))
  subst ey
  obtain rfl : iv = Value.ref b := ry
  exact n_get2 hu I3 g kb rz fun w' s4 I4 rw' => ⟨_, H3, I4, rw', q3⟩
theorem pe_npop (hu : X.A.units + 65 < cLine) (ho : PE X o td) (he : PE X e ty) (m : M1 X o "pop" apos e cpos) : PE X (.Call (.Attribute o "pop" apos) [e] [] cpos) (tNPop X.prog X.w td ty) := by
  refine ⟨fun pins s σ H Q I h => ?_⟩
  refine wpAny_Call_method m.base m.few m.line PySem.F.plainAttrs_dict PySem.F.slot_dict_pop PySem.F.type_dict_pop (thn (ho.run pins s σ H _ I h) fun u s1 ⟨x, H1, I1, rx, a, ex, ⟨_, d⟩, q1⟩ => ?_)
  subst ex
  obtain rfl : u = Value.ref a := rx
  obtain ⟨t1, t2, _⟩ := nd_at I1.hok d
  refine ⟨t1, t2, ?_⟩
  rw [m.trees]
  refine Calls.callWith_builtin rfl (Calls.evalArgs_plain (Calls.spliced_cons (thn (he.run pins s1 σ H1 _ I1 q1) fun iv s2 ⟨y, H2, I2, ry, b, xs, k, v, ey, g, kb, hv, q2⟩ => Calls.spliced_nil ?_)))
  subst ey
  obtain rfl : iv = Value.ref b := ry
  exact n_pop hu I2 g kb hv fun w' s3 I3 rw' => ⟨v, _, I3, rw', q2⟩
theorem nd_empty {P : Program} {w : World} {H : Hp} (h : Heap) (hb : sysModules < h.objs.size) : ObjOk P w H (h.push { cls := .type "dict", data := .dict #[] }) h.objs.size (NdO P w h.objs.size []) :=
  nd_new (Nat.zero_le _) (beq_eq_false_iff_ne.mpr (Ne.symm (Nat.ne_of_lt hb))) .nil (Heap.DictOfH.new h)
theorem pe_nnew : PE X (.Dict [] [] pos) (tNNew X.prog X.w) := ⟨fun pins s σ H Q I h =>
  wpAny_Dict_empty ⟨.ref s.heap.objs.size, _, I.laid (a := s.heap.objs.size) (o := NdO X.prog X.w s.heap.objs.size []) (t' := s.toks) (fun _ _ q => Heap.get?_push_of_some _ q) (Nat.le_refl _) (nd_empty s.heap I.big), rfl, h _ (I.hok.fresh (Nat.le_refl _))⟩⟩
theorem call_nlen : CallR X (.builtin "len") (rNLen X.prog X.w) := by
  intro pins s σ H xs us Q I r h
  obtain ⟨p, kvs, rfl, hp, q⟩ := h
  obtain ⟨u, rfl, rx⟩ := vals1 r
  obtain rfl : u = .ref p := rx
  obtain ⟨z, hd, ys, rel, dd⟩ := nd_rd I.hok hp
  have hl : kvs.length = ys.length := Paired.length rel
  refine call_len_dictH hd dd (by rw [← hl]; rw [sizeLine_eq] at z; omega) ?_
  rw [← hl]
  exact ⟨.int ((kvs.length : Nat) : Int), H, I.tok _, ⟨_, rfl⟩, q⟩
end
section
variable {prog : Program} {w : World} {A : Around} {E : Value → Shared → Prop} {s : Shared} {d : Addr} {n : Nat} {PV : Nat → Value → Prop} {OK : Heap → Prop}
theorem code_tuple_new_dict {Q₁ : Value → Shared → Prop} (KS : PySem.W.KdlSrc prog w "dict" d d n PV OK) (hh : A.handled = none) (hok : OK s.heap) (hn : n ≤ sizeLine)
    (h : ∀ (h' : Heap) (tk : Nat) (acc : Array Value), (∀ b o, s.heap.get? b = some o → h'.get? b = some o) → ItemsOf PV acc n → Q₁ (.ref h'.objs.size) { s with heap := h'.push { cls := .type "tuple", data := .seq acc }, toks := tk }) :
    codeAny (model prog w) A (.call (.builtin "tuple.__new__") ⟨[.type "tuple", .ref d], []⟩) (wants Q₁ E) s := by
  refine codeAny_of_tree ?_
  show wpAny _ A.in1 (do checkBuiltinCall "tuple.__new__" ⟨[.type "tuple", .ref d], []⟩; again (.builtin "tuple.__new__" ⟨[.type "tuple", .ref d], []⟩)) _ _ s
  refine wpAny_bind (wpAny_of_eq (F.newCall_tuple_1 _) (wpAny_pure ⟨plainId_quiet F.plain_tuple_new _, codeAny_builtin F.entry_tuple_new ?_⟩))
  rw [Around.under_plainId F.plain_tuple_new _]
  have hsub := sub_tuple_self
  have hinit := init_tuple_lookup
  have hmh := madeHere_tuple
  have hTI : s.TypeIs (.ref d) "dict" := KS.type s hok
  have hh1 : A.in1.handled = none := hh
  wp_walk using wpAny_typeOf hTI, PySem.W.kdu_collect (A := A.in1) KS hh1 hok hn
  intro h' tk acc hk hacc
  show wpAny _ _ (Builtin.Tuple.tupleExact acc.toList.toArray >>= fun v => ret v) _ _ _
  unfold Builtin.Tuple.tupleExact
  refine wpAny_bind (wpAny_newObj_type ?_ (by show acc.toList.toArray.size ≤ sizeLine; simp only [Array.toArray_toList]; rw [hacc.1]; exact hn))
  refine wpAny_pure ?_
  have e : acc.toList.toArray = acc := by simp
  rw [e]
  exact h h' tk acc hk hacc
theorem call_tuple_dict {Q : Value → Shared → Prop} (KS : PySem.W.KdlSrc prog w "dict" d d n PV OK) (hh : A.handled = none) (hok : OK s.heap) (hn : n ≤ sizeLine)
    (hQ : ∀ (h' : Heap) (tk : Nat) (acc : Array Value), (∀ b o, s.heap.get? b = some o → h'.get? b = some o) → ItemsOf PV acc n → Q (.ref h'.objs.size) { s with heap := h'.push { cls := .type "tuple", data := .seq acc }, toks := tk }) :
    wpAny (model prog w) A (call (.type "tuple") [.ref d]) Q E s := by
  refine callType_codes (Q₁ := fun obj s₁ => s₁.TypeIs obj "tuple" ∧ Q obj s₁) F.called_tuple (F.typeCall_tuple_1 _) F.entry_object_init
    (code_tuple_new_dict (A := A.in1) KS hh hok hn fun h' tk acc hk hacc => ⟨⟨_, Heap.get?_push_size _ rfl, rfl⟩, hQ h' tk acc hk hacc⟩) fun obj s₁ h₁ => ?_
  exact ⟨h₁.1, F.args_object_init_2 obj _, object_init_meets F.called_tuple.init.lookup F.called_tuple.made (by decide) prog w A.in1 _ s₁ ⟨h₁.1, rfl, h₁.2⟩⟩
end
theorem rn_vals : ∀ {xs : List NE} {ys : List (NestedKey × Addr × Value)}, RN xs ys → Vals (xs.map fun e => V.ref e.2.1) (ys.map fun x => Value.ref x.2.1)
  | _, _, .nil => .nil
  | _, _, .cons h t => .cons (by show Value.ref _ = _; rw [h.2.1]) (rn_vals t)
theorem call_ntup {X : Cx} (hc : X.calm = true) : CallR X (.type "tuple") (rNTup X.prog X.w) := by
  intro pins s σ H xs us Q I r h
  obtain ⟨d, kvs, rfl, hd, q⟩ := h
  obtain ⟨u, rfl, rx⟩ := vals1 r
  obtain rfl : u = .ref d := rx
  obtain ⟨⟨z, hs, ks, pr, o, es, ep, ho, hx, hdt, he, hn⟩, _⟩ := (show ObjOk X.prog X.w H s.heap d (NdO X.prog X.w d kvs) from I.hok d _ hd.o)
  have l1 : es.size = ks.length := size_of_entries he
  have l2 : kvs.length = ks.length := Paired.length pr
  refine call_tuple_dict (kdl_raw hs hx hdt) (I.ok.hd hc) ho (by omega) fun h' tk acc kp it => ?_
  have ea : acc.toList = ks.map fun x => Value.ref x.2.1 := by
    have hl : acc.toList.length = ks.length := by rw [Array.length_toList, it.1]; exact l1
    apply List.ext_getElem?
    intro j
    rw [List.getElem?_map]
    cases hj : acc.toList[j]? with
    | none =>
      have h1 := List.getElem?_eq_none_iff.mp hj
      rw [List.getElem?_eq_none (by omega)]
      all_goals rfl
    | some v =>
      obtain ⟨en, hen, hv⟩ := it.2 j v (by rw [← Array.getElem?_toList]; exact hj)
      have qe := entry_at he j
      rw [hen] at qe
      cases hb : ks[j]? with
      | none =>
        rw [hb] at qe
        exact nomatch (show some en = none from qe)
      | some b =>
        rw [hb] at qe
        have e2 : en = entryOfKey (nestedKind X.prog X.w) b := Option.some.inj qe
        rw [hv, e2]
        all_goals rfl
  have I1 : Inv X pins σ H { s with heap := h', toks := tk } := I.kept kp
  have rv : Vals (kvs.map fun e => V.ref e.2.1) acc.toList := by
    rw [ea]
    exact rn_vals pr
  have hz : (kvs.map fun e => V.ref e.2.1).length ≤ sizeLine := by rw [List.length_map]; exact z
  refine ⟨.ref h'.objs.size, upd H h'.objs.size (.tup (kvs.map fun e => V.ref e.2.1)), I1.laid (t' := tk) (fun b o e => Heap.get?_push_of_some _ e) (Nat.le_refl _) (show ObjOk X.prog X.w _ _ _ (.tup _) from ⟨hz, acc.toList, rv, ?_⟩), rfl, q _ (I1.hok.fresh (Nat.le_refl _))⟩
  have := IsTup.new h' acc
  simpa using this
end W36
end
section
set_option Elab.async false
set_option linter.all false
set_option maxRecDepth 100000
set_option maxHeartbeats 4000000
/-! Dicts of data: keys are tuples of ints and tuples, values are data. -/
namespace W36
open PySem L2 Evl
mutual
def keyOf : PyData → NestedKey
  | .int i => .num i
  | .tuple ds => .tup (keysOf ds)
  | .none => .none
  | .bool _ => .none
  | .str _ => .none
  | .list _ => .none
  | .dict _ => .none
def keysOf : List PyData → List NestedKey
  | [] => []
  | d :: ds => keyOf d :: keysOf ds
end
mutual
def kd : PyData → Bool
  | .int _ => true
  | .tuple ds => kds ds
  | .none => false
  | .bool _ => false
  | .str _ => false
  | .list _ => false
  | .dict _ => false
def kds : List PyData → Bool
  | [] => true
  | d :: ds => kd d && kds ds
end
mutual
theorem Dt.key {G : Hp} : ∀ (d : PyData) (v : V), Dt G v d → kd d = true → KeyV G v (keyOf d)
  | .int i, _, h, _ => by cases h; rw [keyOf]; exact .int i
  | .tuple ds, _, h, k => by
    cases h with
    | tup h1 h2 => rw [keyOf]; exact .tup h1 (DtAll.key ds _ h2 (by rwa [kd] at k))
  | .none, _, _, k => by rw [kd] at k; cases k
  | .bool _, _, _, k => by rw [kd] at k; cases k
  | .str _, _, _, k => by rw [kd] at k; cases k
  | .list _, _, _, k => by rw [kd] at k; cases k
  | .dict _, _, _, k => by rw [kd] at k; cases k
theorem DtAll.key {G : Hp} : ∀ (ds : List PyData) (vs : List V), DtAll G vs ds → kds ds = true → KeyVs G vs (keysOf ds)
  | [], _, h, _ => by cases h; rw [keysOf]; exact .nil
  | d :: ds, _, h, k => by
    rw [kds, Bool.and_eq_true] at k
    cases h with
    | cons h1 h2 => rw [keysOf]; exact .cons (Dt.key d _ h1 k.1) (DtAll.key ds _ h2 k.2)
end
mutual
theorem keyOf_inj : ∀ (d e : PyData), kd d = true → kd e = true → keyOf d = keyOf e → d = e
  | .int i, e, _, k, h => by
    cases e with
    | int j => rw [keyOf, keyOf] at h; injection h with h; rw [h]
    | tuple es => rw [keyOf, keyOf] at h; cases h
    | _ => rw [kd] at k; cases k
  | .tuple ds, e, k1, k, h => by
    cases e with
    | int j => rw [keyOf, keyOf] at h; cases h
    | tuple es =>
      rw [keyOf, keyOf] at h
      injection h with h
      rw [keysOf_inj ds es (by rwa [kd] at k1) (by rwa [kd] at k) h]
    | _ => rw [kd] at k; cases k
  | .none, _, k, _, _ => by rw [kd] at k; cases k
  | .bool _, _, k, _, _ => by rw [kd] at k; cases k
  | .str _, _, k, _, _ => by rw [kd] at k; cases k
  | .list _, _, k, _, _ => by rw [kd] at k; cases k
  | .dict _, _, k, _, _ => by rw [kd] at k; cases k
theorem keysOf_inj : ∀ (ds es : List PyData), kds ds = true → kds es = true → keysOf ds = keysOf es → ds = es
  | [], [], _, _, _ => rfl
  | [], e :: es, _, _, h => by rw [keysOf, keysOf] at h; cases h
  | d :: ds, [], _, _, h => by rw [keysOf, keysOf] at h; cases h
  | d :: ds, e :: es, k1, k2, h => by
    rw [kds, Bool.and_eq_true] at k1 k2
    rw [keysOf, keysOf] at h
    injection h with h1 h2
    rw [keyOf_inj d e k1.1 k2.1 h1, keysOf_inj ds es k1.2 k2.2 h2]
end
theorem kds_ints : ∀ ns : List Int, kds (ns.map PyData.int) = true
  | [] => rfl
  | n :: ns => by rw [List.map_cons, kds, kds_ints ns]; rfl
theorem kd_ints (ns : List Int) : kd (.tuple (ns.map PyData.int)) = true := by rw [kd]; exact kds_ints ns
theorem depth_ints : ∀ ns : List Int, NestedKey.depthAll (keysOf (ns.map PyData.int)) = 0
  | [] => rfl
  | n :: ns => by rw [List.map_cons, keysOf, NestedKey.depthAll, depth_ints ns, keyOf]; rfl
theorem kdepth_tI (ns : List Int) : (keyOf (.tuple (ns.map PyData.int))).depth = 1 := by rw [keyOf, NestedKey.depth, depth_ints]
/-- what may be a key -/
structure KOk (d : PyData) : Prop where
  t : ∃ ds, d = .tuple ds
  k : kd d = true
  d : (keyOf d).depth ≤ 8
abbrev DKV := List (PyData × PyData)
def lkD (kvs : DKV) (k : PyData) : Option PyData := (kvs.find? fun p => decide (keyOf p.1 = keyOf k)).map (·.2)
def ptD (kvs : DKV) (k v : PyData) : DKV := if (lkD kvs k).isSome = true then kvs.map (fun p => if keyOf p.1 = keyOf k then (p.1, v) else p) else kvs ++ [(k, v)]
def drD (kvs : DKV) (k : PyData) : DKV := kvs.filter fun p => decide (keyOf p.1 ≠ keyOf k)
abbrev RD (G : Hp) : DKV → List NE → Prop := Paired fun p q => q.1 = keyOf p.1 ∧ KOk p.1 ∧ Dt G (.ref q.2.1) p.1 ∧ Dt G q.2.2 p.2
section
variable {G G' H : Hp} {kvs : DKV} {xs : List NE}
theorem RD.mono (r : RD G kvs xs) (e : Ex G G') : RD G' kvs xs := Paired.mapP r fun _ _ z => ⟨z.1, z.2.1, z.2.2.1.up e, z.2.2.2.up e⟩
theorem RD.none (r : RD G kvs xs) {k : PyData} (h : lkD kvs k = none) : valN xs (keyOf k) = none := by
  induction r with
  | nil => rfl
  | @cons p q ps qs z t ih =>
    by_cases e : keyOf p.1 = keyOf k
    · rw [show lkD (p :: ps) k = some p.2 by simp [lkD, List.find?_cons, e]] at h; cases h
    · rw [show lkD (p :: ps) k = lkD ps k by simp [lkD, List.find?_cons, e]] at h
      rw [show valN (q :: qs) (keyOf k) = valN qs (keyOf k) by simp [valN, List.find?_cons, z.1, e]]
      exact ih h
theorem RD.some (r : RD G kvs xs) {k d : PyData} (h : lkD kvs k = some d) : ∃ v, valN xs (keyOf k) = some v ∧ Dt G v d := by
  induction r with
  | nil => cases h
  | @cons p q ps qs z t ih =>
    by_cases e : keyOf p.1 = keyOf k
    · rw [show lkD (p :: ps) k = Option.some p.2 by simp [lkD, List.find?_cons, e]] at h
      cases h
      exact ⟨q.2.2, by simp [valN, List.find?_cons, z.1, e], z.2.2.2⟩
    · rw [show lkD (p :: ps) k = lkD ps k by simp [lkD, List.find?_cons, e]] at h
      rw [show valN (q :: qs) (keyOf k) = valN qs (keyOf k) by simp [valN, List.find?_cons, z.1, e]]
      exact ih h
theorem RD.isSome (r : RD G kvs xs) (k : PyData) : (valN xs (keyOf k)).isSome = (lkD kvs k).isSome := by
  cases e : lkD kvs k with
  | none => rw [r.none e]; rfl
  | some d => obtain ⟨v, h, _⟩ := r.some e; rw [h]; rfl
theorem RD.put (r : RD G kvs xs) {k d : PyData} {b : Addr} {v : V} (hk : KOk k) (hb : Dt G (.ref b) k) (hv : Dt G v d) : RD G (ptD kvs k d) (putN xs (keyOf k) b v) := by
  unfold ptD putN
  rw [r.isSome k]
  by_cases q : (lkD kvs k).isSome = true
  · rw [if_pos q, if_pos q]
    clear q
    induction r with
    | nil => exact .nil
    | @cons p q ps qs z t ih =>
      rw [List.map_cons, List.map_cons]
      refine .cons ?_ ih
      rw [z.1]
      by_cases e : keyOf p.1 = keyOf k
      · rw [if_pos e, if_pos e]; exact ⟨rfl, z.2.1, z.2.2.1, hv⟩
      · rw [if_neg e, if_neg e]; exact z
  · rw [if_neg q, if_neg q]; exact Paired.snoc r ⟨rfl, hk, hb, hv⟩
theorem RD.drop (r : RD G kvs xs) (k : PyData) : RD G (drD kvs k) (dropN xs (keyOf k)) := by
  unfold drD dropN
  induction r with
  | nil => exact .nil
  | @cons p q ps qs z t ih =>
    rw [List.filter_cons, List.filter_cons, z.1]
    by_cases c : (decide (keyOf p.1 ≠ keyOf k)) = true
    · rw [if_pos c, if_pos c]; exact .cons z ih
    · rw [if_neg c, if_neg c]; exact ih
theorem key_B {b : Addr} {k : PyData} (e : Ex G H) (hk : KOk k) (h : Dt G (.ref b) k) : KeyB H b (keyOf k) := ⟨(h.key k _ hk.k).mono (fun a ys z => e _ _ z) _ _, hk.d⟩
theorem RD.keys (r : RD G kvs xs) (e : Ex G H) : KeysB H xs := by
  induction r with
  | nil => exact fun _ h => nomatch h
  | @cons p q ps qs z t ih =>
    intro y hy
    rcases List.mem_cons.mp hy with h | h
    · subst h; rw [z.1]; exact key_B e z.2.1 z.2.2.1
    · exact ih y h
theorem RD.refs (r : RD G kvs xs) : DtAll G (xs.map fun e => V.ref e.2.1) (kvs.map (·.1)) := by
  induction r with
  | nil => exact .nil
  | cons z t ih => exact .cons z.2.2.1 ih
theorem RD.length (r : RD G kvs xs) : kvs.length = xs.length := Paired.length r
end
/-- the dict at a -/
def DicAt (P : Program) (w : World) (G H : Hp) (a : Addr) (kvs : DKV) : Prop := ∃ xs, H a = some (NdO P w a xs) ∧ RD G kvs xs
theorem DicAt.nd {P : Program} {w : World} {G H : Hp} {a : Addr} {kvs : DKV} (x : DicAt P w G H a kvs) (e : Ex G H) : ∃ xs, NdAt P w H a xs ∧ RD G kvs xs := let ⟨xs, h1, h2⟩ := x; ⟨xs, ⟨h1, h2.keys e⟩, h2⟩
theorem DicAt.up {P : Program} {w : World} {G H G' H' : Hp} {a : Addr} {kvs : DKV} (x : DicAt P w G H a kvs) (e : Ex G G') (h : ∀ o, H a = some o → H' a = some o) : DicAt P w G' H' a kvs := let ⟨xs, h1, h2⟩ := x; ⟨xs, h _ h1, h2.mono e⟩
/-! lists of pairs of another kind, told as data -/
section
variable {κ β : Type} [DecidableEq κ] {enc : κ → PyData} {g : β → PyData}
theorem lkD_map (inj : ∀ a b, keyOf (enc a) = keyOf (enc b) → a = b) (k : κ) : ∀ l : List (κ × β), lkD (l.map fun e => (enc e.1, g e.2)) (enc k) = ((l.find? fun p => decide (p.1 = k)).map (·.2)).map g
  | [] => rfl
  | p :: l => by
    have ih := lkD_map inj k l
    by_cases e : p.1 = k
    · subst e
      simp [lkD, List.find?_cons]
    · have e' : ¬ keyOf (enc p.1) = keyOf (enc k) := fun z => e (inj _ _ z)
      simp only [lkD, List.map_cons, List.find?_cons, decide_eq_false e, decide_eq_false e']
      exact ih
end
/-! ### dict expressions -/
/-- te is a dict that can be read -/
def IsDc (P : Program) (w : World) (te : TE) (ρ : List Ent) (kvs : DKV) : Prop := ∀ σ G H, Env G H σ ρ → ∀ Q : VK, (∀ a, DicAt P w G H a kvs → ¬ Sdr ρ σ a → Q (.ref a) H) → te σ H Q
section
variable {P : Program} {w : World} {ρ : List Ent} {td tk tx te : TE} {ta : TA} {kvs : DKV} {k d e : PyData} {b : Bool} {K : PySem.W.Frag}
theorem ref_of {G : Hp} {v : V} (hk : KOk k) (h : Dt G v k) : ∃ b, v = .ref b := by
  obtain ⟨ds, rfl⟩ := hk.t
  cases h
  exact ⟨_, rfl⟩
theorem is_dget (hd : IsDc P w td ρ kvs) (hk : Is tk ρ k) (ok : KOk k) (hv : lkD kvs k = some d) : Is (tNGet P w td tk) ρ d := fun σ G H E Q q => hd σ G H E _ fun a ha na => hk σ G H E _ fun y k' G' H' hk' n hy => by
  subst hk'
  obtain ⟨b, rfl⟩ := ref_of ok hy
  obtain ⟨xs, g, r⟩ := (ha.up n.w.g fun o z => n.at na z).nd n.e.ex
  obtain ⟨v, h1, h2⟩ := r.some hv
  exact ⟨a, b, xs, _, v, rfl, rfl, g, key_B n.e.ex ok hy, h1, q v d G' H' rfl n h2⟩
theorem is_din (hd : IsDc P w td ρ kvs) (hk : Is tk ρ k) (ok : KOk k) : Is (tNIn P w tk td) ρ (.bool (lkD kvs k).isSome) := fun σ G H E Q q => hk σ G H E _ fun y k' G' H' hk' n hy => hd σ G' H' n.e _ fun a ha na => by
  subst hk'
  obtain ⟨b, rfl⟩ := ref_of ok hy
  obtain ⟨xs, g, r⟩ := ha.nd n.e.ex
  refine ⟨a, b, xs, _, rfl, rfl, g, key_B n.e.ex ok hy, ?_⟩
  rw [r.isSome k']
  exact q _ _ G' H' rfl n (.bl _)
theorem is_dnin (hd : IsDc P w td ρ kvs) (hk : Is tk ρ k) (ok : KOk k) : Is (tNNotIn P w tk td) ρ (.bool (!(lkD kvs k).isSome)) := fun σ G H E Q q => hk σ G H E _ fun y k' G' H' hk' n hy => hd σ G' H' n.e _ fun a ha na => by
  subst hk'
  obtain ⟨b, rfl⟩ := ref_of ok hy
  obtain ⟨xs, g, r⟩ := ha.nd n.e.ex
  refine ⟨a, b, xs, _, rfl, rfl, g, key_B n.e.ex ok hy, ?_⟩
  rw [r.isSome k']
  exact q _ _ G' H' rfl n (.bl _)
theorem is_dget2 (hd : IsDc P w td ρ kvs) (hk : Is tk ρ k) (hx : Is tx ρ e) (ok : KOk k) : Is (tNGet2 P w td tk tx) ρ ((lkD kvs k).getD e) := fun σ G H E Q q => hd σ G H E _ fun a ha na => by
  obtain ⟨xs0, g0, _⟩ := ha.nd E.ex
  refine ⟨a, rfl, ⟨xs0, g0⟩, hk σ G H E _ fun y k' G1 H1 hk' n1 hy => hx σ G1 H1 n1.e _ fun z e' G' H' he' n2 hz => ?_⟩
  subst hk' he'
  obtain ⟨b, rfl⟩ := ref_of ok hy
  have n := n1.trans n2
  obtain ⟨xs, g, r⟩ := (ha.up n.w.g fun o z => n.at na z).nd n.e.ex
  refine ⟨b, xs, _, rfl, g, key_B n.e.ex ok (hy.up n2.w.g), ?_⟩
  cases q1 : lkD kvs k' with
  | none =>
    rw [r.none q1]
    exact q z e' G' H' (by rw [q1]; rfl) n hz
  | some d =>
    obtain ⟨v, h1, h2⟩ := r.some q1
    rw [h1]
    exact q v d G' H' (by rw [q1]; rfl) n h2
theorem is_dlen (hd : IsDc P w td ρ kvs) : Is (tCB (rNLen P w) (tCons td tNil)) ρ (.int (kvs.length : Int)) := fun σ G H E Q q => hd σ G H E _ fun a ha na => by
  obtain ⟨xs, g, r⟩ := ha.nd E.ex
  refine ⟨a, xs, rfl, g, ?_⟩
  rw [← r.length]
  exact q _ _ G H rfl (Nx.refl E) (.int _)
theorem is_dtup (hd : IsDc P w td ρ kvs) : Is (tCB (rNTup P w) (tCons td tNil)) ρ (.tuple (kvs.map (·.1))) := fun σ G H E Q q => hd σ G H E _ fun a ha na => by
  obtain ⟨xs, g, r⟩ := ha.nd E.ex
  refine ⟨a, xs, rfl, g, fun p hp => ?_⟩
  have m := Nx.new (o := .tup (xs.map fun e => V.ref e.2.1)) E hp
  exact q _ _ _ _ rfl m (.tup upd_same (r.refs.up m.w.g))
end
end W36
end
section
set_option Elab.async false
set_option linter.all false
set_option maxRecDepth 100000
set_option maxHeartbeats 4000000
/-! Entities: things of one's own with more than one object. Expressions with effects, promises over entities. -/
namespace W36
open PySem L2 Evl
def Ent.fp : Ent → Addr → Prop
  | .spc _ F _ => F
  | _ => fun _ => False
def EntOk (G H : Hp) : Ent → Prop
  | .spc _ F R => R G H ∧ (∀ l, F l → G l = none ∧ H l ≠ none) ∧ Stab F R
  | _ => False
section
variable {σ σ' : L2.St} {ρ ρ' ρ1 : List Ent} {G H G' H' G0 H0 : Hp} {i j k : Nat} {v : V} {F F' : Addr → Prop} {R R' : Hp → Hp → Prop} {D : Ends} {d : PyData}
theorem Env.entOk (E : Env G H σ ρ) (h : ρ[i]? = some (.spc v F R)) : EntOk G H (.spc v F R) := (E.spc i v F R h).2
theorem Env.setS (E : Env G H σ ρ) (he : ρ[i]? = some (.spc v F R)) (w : Gw F G H G' H') (ok : EntOk G' H' (.spc v F' R')) (hf : ∀ l, F' l → F l ∨ ¬ Own ρ σ l) : Env G' H' σ (ρ.set i (.spc v F' R')) where
  ex := w.v
  len := by rw [List.length_set]; exact E.len
  dat := fun m d e => by
    rw [get_set] at e
    by_cases q : i = m
    · rw [if_pos q] at e
      split at e <;> cases e
    · rw [if_neg q] at e
      obtain ⟨u, h1, h2⟩ := E.dat m d e
      exact ⟨u, h1, h2.up w.g⟩
  own := fun m ds e => by
    rw [get_set] at e
    by_cases q : i = m
    · rw [if_pos q] at e
      split at e <;> cases e
    · rw [if_neg q] at e
      obtain ⟨l, xs, h1, h2, h3, h4⟩ := E.own m ds e
      exact ⟨l, xs, h1, w.h l _ (fun z => E.sep i m l q ⟨_, he, z⟩ ⟨_, e, h1⟩) h2, w.n l h3 (ex_not h2), h4.up w.g⟩
  drw := fun m e => by
    rw [get_set] at e
    by_cases q : i = m
    · rw [if_pos q] at e
      split at e <;> cases e
    · rw [if_neg q] at e
      obtain ⟨l, xs, h1, h2, h3⟩ := E.drw m e
      exact ⟨l, xs, h1, w.h l _ (fun z => E.sep i m l q ⟨_, he, z⟩ ⟨_, e, h1⟩) h2, w.n l h3 (ex_not h2)⟩
  spc := fun m v' F'' R'' e => by
    rw [get_set] at e
    by_cases q : i = m
    · rw [if_pos q] at e
      split at e
      · cases e
        subst q
        exact ⟨(E.spc i v F R he).1, ok⟩
      · cases e
    · rw [if_neg q] at e
      obtain ⟨h1, h2, h3, h4⟩ := E.spc m v' F'' R'' e
      have nF : ∀ l, F'' l → ¬ F l := fun l fl z => E.sep i m l q ⟨_, he, z⟩ ⟨_, e, fl⟩
      exact ⟨h1, h4 G H G' H' h2 w.g w.v fun l o fl z => w.h l o (nF l fl) z, fun l fl => ⟨w.n l (h3 l fl).1 (h3 l fl).2, w.d l (h3 l fl).2⟩, h4⟩
  sep := fun m1 m2 l n a b => by
    have back : ∀ {m : Nat}, Ow (ρ.set i (.spc v F' R')) σ m l → (m = i ∧ F' l) ∨ (m ≠ i ∧ Ow ρ σ m l) := by
      rintro m ⟨e', h1, h2⟩
      rw [get_set] at h1
      by_cases q : i = m
      · rw [if_pos q] at h1
        split at h1
        · cases h1; exact .inl ⟨q.symm, h2⟩
        · cases h1
      · rw [if_neg q] at h1
        exact .inr ⟨fun z => q z.symm, _, h1, h2⟩
    rcases back a with ⟨a1, a2⟩ | ⟨a1, a2⟩ <;> rcases back b with ⟨b1, b2⟩ | ⟨b1, b2⟩
    · exact n (a1.trans b1.symm)
    · rcases hf l a2 with z | z
      · exact E.sep i m2 l (fun q => b1 q.symm) ⟨_, he, z⟩ b2
      · exact z ⟨_, b2⟩
    · rcases hf l b2 with z | z
      · exact E.sep m1 i l a1 a2 ⟨_, he, z⟩
      · exact z ⟨_, a2⟩
    · exact E.sep m1 m2 l n a2 b2
/-- what nobody here owns changes -/
theorem Env.grow' {S : Addr → Prop} (E : Env G H σ ρ) (w : Gw S G H G' H') (hS : ∀ l, S l → ¬ Own ρ σ l) : Env G' H' σ ρ where
  ex := w.v
  len := E.len
  dat := fun m d e => let ⟨u, h1, h2⟩ := E.dat m d e; ⟨u, h1, h2.up w.g⟩
  own := fun m ds e => let ⟨l, xs, h1, h2, h3, h4⟩ := E.own m ds e; ⟨l, xs, h1, w.h l _ (fun z => hS l z ⟨m, _, e, h1⟩) h2, w.n l h3 (ex_not h2), h4.up w.g⟩
  drw := fun m e => let ⟨l, xs, h1, h2, h3⟩ := E.drw m e; ⟨l, xs, h1, w.h l _ (fun z => hS l z ⟨m, _, e, h1⟩) h2, w.n l h3 (ex_not h2)⟩
  spc := fun m v' F'' R'' e => let ⟨h1, h2, h3, h4⟩ := E.spc m v' F'' R'' e
    ⟨h1, h4 G H G' H' h2 w.g w.v fun l o fl z => w.h l o (fun y => hS l y ⟨m, _, e, fl⟩) z, fun l fl => ⟨w.n l (h3 l fl).1 (h3 l fl).2, w.d l (h3 l fl).2⟩, h4⟩
  sep := E.sep
theorem own_setS {l : Addr} (h : Own (ρ.set i (.spc v F' R')) σ l) : F' l ∨ Own ρ σ l := by
  obtain ⟨m, e', h1, h2⟩ := h
  rw [get_set] at h1
  by_cases q : i = m
  · rw [if_pos q] at h1
    split at h1
    · cases h1; exact .inl h2
    · cases h1
  · rw [if_neg q] at h1
    exact .inr ⟨m, _, h1, h2⟩
/-- an entity has changed, n after the start -/
theorem Sx.setS (E : Env G0 H0 σ ρ) (n : Nx σ ρ G0 H0 G H) (he : ρ[i]? = some (.spc v F R)) (w : Gw F G H G' H') (ok : EntOk G' H' (.spc v F' R')) (hf : ∀ l, F' l → F l ∨ H0 l = none) : Sx σ ρ G0 H0 σ (ρ.set i (.spc v F' R')) G' H' := by
  have hO : ∀ l, F l → Own ρ σ l := fun l z => ⟨i, _, he, z⟩
  have nO : ∀ l, H0 l = none → ¬ Own ρ σ l := fun l z q => (E.not_own q).2 z
  refine ⟨((Sx.of n).w).trans (w.wide hO), n.e.setS he w ok fun l z => (hf l z).imp id (nO l), fun l z => ?_⟩
  rcases own_setS z with q | q
  · exact (hf l q).imp (hO l) id
  · exact .inl q
/-- a slot gets a new entity -/
theorem Env.setE (E : Env G H σ ρ) (ok' : EntOk G H (.spc v F R)) (hf : ∀ l, F l → ¬ Own (ρ.set j .no) σ l) : Env G H (σ.set j (some v)) (ρ.set j (.spc v F R)) where
  ex := E.ex
  len := by rw [List.length_set, List.length_set]; exact E.len
  dat := fun m d e => by
    rw [get_set] at e
    by_cases q : j = m
    · rw [if_pos q] at e
      split at e <;> cases e
    · rw [if_neg q] at e
      rw [get_set, if_neg q]
      exact E.dat m d e
  own := fun m ds e => by
    rw [get_set] at e
    by_cases q : j = m
    · rw [if_pos q] at e
      split at e <;> cases e
    · rw [if_neg q] at e
      obtain ⟨l, xs, h1, h2⟩ := E.own m ds e
      exact ⟨l, xs, by rw [get_set, if_neg q]; exact h1, h2⟩
  drw := fun m e => by
    rw [get_set] at e
    by_cases q : j = m
    · rw [if_pos q] at e
      split at e <;> cases e
    · rw [if_neg q] at e
      obtain ⟨l, xs, h1, h2⟩ := E.drw m e
      exact ⟨l, xs, by rw [get_set, if_neg q]; exact h1, h2⟩
  spc := fun m v' F'' R'' e => by
    rw [get_set] at e
    by_cases q : j = m
    · rw [if_pos q] at e
      split at e
      · rename_i hl
        cases e
        subst q
        exact ⟨by rw [get_set, if_pos rfl, if_pos (by rw [E.len]; exact hl)], ok'⟩
      · cases e
    · rw [if_neg q] at e
      obtain ⟨h1, h2⟩ := E.spc m v' F'' R'' e
      exact ⟨by rw [get_set, if_neg q]; exact h1, h2⟩
  sep := fun m1 m2 l n a b => by
    have back : ∀ {m : Nat}, Ow (ρ.set j (.spc v F R)) (σ.set j (some v)) m l → (m = j ∧ F l) ∨ (m ≠ j ∧ Ow ρ σ m l ∧ Ow (ρ.set j .no) σ m l) := by
      rintro m ⟨e', h1, h2⟩
      rw [get_set] at h1
      by_cases q : j = m
      · rw [if_pos q] at h1
        split at h1
        · cases h1; exact .inl ⟨q.symm, h2⟩
        · cases h1
      · rw [if_neg q] at h1
        rw [get_set, if_neg q] at h2
        exact .inr ⟨fun z => q z.symm, ⟨_, h1, h2⟩, _, by rw [get_set, if_neg q]; exact h1, h2⟩
    rcases back a with ⟨a1, a2⟩ | ⟨a1, a2, a3⟩ <;> rcases back b with ⟨b1, b2⟩ | ⟨b1, b2, b3⟩
    · exact n (a1.trans b1.symm)
    · exact hf l a2 ⟨_, b3⟩
    · exact hf l b2 ⟨_, a3⟩
    · exact E.sep m1 m2 l n a2 b2
theorem own_setE {l : Addr} (h : Own (ρ.set j (.spc v F R)) (σ.set j (some v)) l) : F l ∨ Own ρ σ l := by
  obtain ⟨m, e', h1, h2⟩ := h
  rw [get_set] at h1
  by_cases q : j = m
  · rw [if_pos q] at h1
    split at h1
    · cases h1; exact .inl h2
    · cases h1
  · rw [if_neg q] at h1
    rw [get_set, if_neg q] at h2
    exact .inr ⟨m, _, h1, h2⟩
theorem own_no {l : Addr} (h : Own (ρ.set j .no) σ l) : Own ρ σ l := by
  obtain ⟨m, e', h1, h2⟩ := h
  rw [get_set] at h1
  by_cases q : j = m
  · rw [if_pos q] at h1
    split at h1
    · cases h1; exact h2.elim
    · cases h1
  · rw [if_neg q] at h1
    exact ⟨m, _, h1, h2⟩
/-- n after the start, a slot gets a new entity -/
theorem Sx.setE (E : Env G0 H0 σ ρ) (w : Gw (Own ρ σ) G0 H0 G H) (e : Env G H σ ρ) (ok : EntOk G H (.spc v F R)) (hf : ∀ l, F l → H0 l = none) : Sx σ ρ G0 H0 (σ.set j (some v)) (ρ.set j (.spc v F R)) G H := by
  refine ⟨w, e.setE ok fun l z q => (E.not_own (own_no q)).2 (hf l z), fun l z => ?_⟩
  exact (own_setE z).elim (fun q => .inr (hf l q)) .inl
/-! ### expressions with effects on entities -/
def XP (te : TE) (ρ : List Ent) (P : PyData → List Ent → Prop) : Prop := ∀ σ G H, Env G H σ ρ → ∀ Q : VK, (∀ v d ρ' G' H', P d ρ' → Sx σ ρ G H σ ρ' G' H' → Dt G' v d → Q v H') → te σ H Q
def XT (tt : TT) (ρ : List Ent) (P : Bool → List Ent → Prop) : Prop := ∀ σ G H, Env G H σ ρ → ∀ Q : Bool → Hp → Prop, (∀ b ρ' G' H', P b ρ' → Sx σ ρ G H σ ρ' G' H' → Q b H') → tt σ H Q
variable {te ta : TE} {tt : TT} {t u : TS} {P P' : Out → Prop} {Y : PyData → List Ent → Prop} {K : PySem.W.Frag} {tx : TA}
theorem XP.mono {Y' : PyData → List Ent → Prop} (h : XP te ρ Y) (k : ∀ d ρ', Y d ρ' → Y' d ρ') : XP te ρ Y' := fun σ G H E Q q => h σ G H E Q fun v d ρ' G' H' y => q v d ρ' G' H' (k d ρ' y)
theorem xp_is {Z : PyData → Prop} (h : IsP te ρ Z) : XP te ρ (fun d ρ' => Z d ∧ ρ' = ρ) := fun σ G H E Q q => h σ G H E Q fun v d G' H' z n hv => q v d ρ G' H' ⟨z, rfl⟩ (Sx.of n) hv
theorem do_dropX (h : XP te ρ Y) (k : ∀ d ρ', Y d ρ' → P (.nx ρ')) : Do (tDrop te) ρ P := fun D σ G H E q => h σ G H E _ fun v d ρ' G' H' y s hv => q _ (k d ρ' y) σ G' H' s
theorem do_asgX (h : XP te ρ Y) (k : ∀ d ρ', Y d ρ' → P (.nx (ρ'.set j (.dat d)))) : Do (tAsg te (gName j)) ρ P := fun D σ G H E q => h σ G H E _ fun v d ρ' G' H' y s hv =>
  q _ (k d ρ' y) _ G' H' ⟨s.w, s.e.setD hv, fun l z => s.o l (own_set rfl z)⟩
theorem do_retX (h : XP te ρ Y) (k : ∀ d ρ', Y d ρ' → P (.rtS d ρ')) : Do (tRet te) ρ P := fun D σ G H E q => h σ G H E _ fun v d ρ' G' H' y s hv => q _ (k d ρ' y) v σ G' H' s hv
theorem do_retS {Z : PyData → Prop} (h : IsP te ρ Z) (k : ∀ d, Z d → P (.rtS d ρ)) : Do (tRet te) ρ P := do_retX (xp_is h) fun d ρ' ⟨y, e⟩ => by rw [e]; exact k d y
theorem do_ifX {B : Bool → List Ent → Prop} (h : XT tt ρ B) (h1 : ∀ ρ', B true ρ' → Do t ρ' P) (h0 : ∀ ρ', B false ρ' → Do u ρ' P) : Do (tIfS tt t u) ρ P := fun D σ G H E q => h σ G H E _ fun c ρ' G' H' hc s => by
  cases c with
  | true => exact iteT (h1 ρ' hc D σ G' H' s.e fun o p => (q o p).after s)
  | false => exact iteF (h0 ρ' hc D σ G' H' s.e fun o p => (q o p).after s)
theorem do_dropX1 (h : XP te ρ Y) (k : ∀ d ρ', Y d ρ' → Do u ρ' P) : Do (tSeq (tDrop te) u) ρ P := do_seq (do_dropX h k)
theorem do_asgX1 (h : XP te ρ Y) (k : ∀ d ρ', Y d ρ' → Do u (ρ'.set j (.dat d)) P) : Do (tSeq (tAsg te (gName j)) u) ρ P := do_seq (do_asgX h k)
/-! ### arguments, entries -/
def EntV (G : Hp) (v : V) : Ent → Prop
  | .dat d => Dt G v d
  | .spc u _ _ => v = u
  | _ => False
theorem EntV.up {e : Ent} (h : EntV G v e) (g : Ex G G') : EntV G' v e := by
  cases e with
  | dat d => exact Dt.up h g
  | spc u F R => exact h
  | no => exact h
  | own ds => exact h
  | drw => exact h
def isD : Ent → Bool
  | .dat _ => true
  | _ => false
def oneB : Nat → List Ent → Bool
  | _, [] => true
  | 0, _ :: r => r.all isD
  | j + 1, e :: r => isD e && oneB j r
theorem oneB_at : ∀ {j : Nat} {es : List Ent} {i : Nat} {e : Ent}, oneB j es = true → es[i]? = some e → i ≠ j → isD e = true
  | _, [], _, _, _, h, _ => by simp at h
  | 0, x :: r, 0, _, _, _, n => (n rfl).elim
  | 0, x :: r, i + 1, e, o, h, _ => by
    rw [oneB, List.all_eq_true] at o
    exact o e (List.mem_of_getElem? (by simpa using h))
  | j + 1, x :: r, 0, e, o, h, _ => by
    rw [oneB, Bool.and_eq_true] at o
    simp at h; subst h; exact o.1
  | j + 1, x :: r, i + 1, e, o, h, n => by
    rw [oneB, Bool.and_eq_true] at o
    exact oneB_at o.2 (by simpa using h) (by omega)
theorem oneB_dats (e : Ent) (ds : List PyData) : oneB 0 (e :: ds.map .dat) = true := by
  rw [oneB, List.all_eq_true]
  intro x hx
  obtain ⟨d, _, rfl⟩ := List.mem_map.mp hx
  rfl
def parsE (n : Nat) (es : List Ent) : List Ent := es ++ List.replicate (n - es.length) .no
theorem parsE_at {n : Nat} {es : List Ent} {x : Ent} (h : (parsE n es)[i]? = some x) : x = .no ∨ es[i]? = some x := by
  unfold parsE at h
  by_cases q : i < es.length
  · rw [List.getElem?_append_left q] at h; exact .inr h
  · rw [List.getElem?_append_right (by omega), List.getElem?_replicate] at h
    split at h <;> cases h
    exact .inl rfl
theorem paired_get {α β : Type} {F : α → β → Prop} : ∀ {xs : List α} {ys : List β} {i : Nat} {y : β}, Paired F xs ys → ys[i]? = some y → ∃ x, xs[i]? = some x ∧ F x y
  | _, _, _, _, .nil, h => by simp at h
  | _, _, 0, y, .cons h t, e => by simp at e; subst e; exact ⟨_, rfl, h⟩
  | _, _, i + 1, y, .cons h t, e => by
    obtain ⟨x, h1, h2⟩ := paired_get (i := i) t (by simpa using e)
    exact ⟨x, by simpa using h1, h2⟩
variable {es : List Ent} {vs : List V}
theorem parsE_env {N : List Str} (e : Ex G H) (h : Paired (EntV G) vs es) (hj : es[j]? = some (.spc v F R)) (ho : oneB j es = true) (ok : EntOk G H (.spc v F R)) : Env G H (start N vs) (parsE N.length es) := by
  have hl := Paired.length h
  have spcj : ∀ {m : Nat} {x : Ent}, (parsE N.length es)[m]? = some x → x = .no ∨ (∃ d, x = .dat d ∧ es[m]? = some x) ∨ (m = j ∧ x = .spc v F R) := by
    intro m x hx
    rcases parsE_at hx with z | z
    · exact .inl z
    · by_cases q : m = j
      · subst q; rw [hj] at z; cases z; exact .inr (.inr ⟨rfl, rfl⟩)
      · have := oneB_at ho z q
        cases x with
        | dat d => exact .inr (.inl ⟨d, rfl, z⟩)
        | _ => cases this
  have st : ∀ {m : Nat} {x : V}, vs[m]? = some x → (start N vs)[m]? = some (some x) := by
    intro m x hx
    unfold L2.start
    have q : m < (vs.map some).length := by rw [List.length_map]; exact (List.getElem?_eq_some_iff.mp hx).1
    rw [List.getElem?_append_left q, List.getElem?_map, hx]
    rfl
  refine ⟨e, ?_, fun m d hd => ?_, fun m ds hd => ?_, fun m hd => ?_, fun m v' F' R' hd => ?_, fun m1 m2 l n ⟨x, h1, h2⟩ ⟨y, h3, h4⟩ => ?_⟩
  · unfold L2.start parsE
    simp only [List.length_append, List.length_map, List.length_replicate]
    omega
  · rcases spcj hd with z | ⟨d', z, y⟩ | ⟨_, z⟩
    · cases z
    · cases z
      obtain ⟨u, h1, h2⟩ := paired_get h y
      exact ⟨u, st h1, h2⟩
    · cases z
  · rcases spcj hd with z | ⟨d', z, y⟩ | ⟨_, z⟩ <;> cases z
  · rcases spcj hd with z | ⟨d', z, y⟩ | ⟨_, z⟩ <;> cases z
  · rcases spcj hd with z | ⟨d', z, y⟩ | ⟨mj, z⟩
    · cases z
    · cases z
    · cases z
      subst mj
      obtain ⟨u, h1, h2⟩ := paired_get h hj
      obtain rfl : u = v := h2
      exact ⟨st h1, ok⟩
  · rcases spcj h1 with z | ⟨d', z, y⟩ | ⟨q1, z⟩
    · subst z; exact h2
    · subst z; exact h2
    · rcases spcj h3 with z3 | ⟨d', z3, y⟩ | ⟨q2, z3⟩
      · subst z3; exact h4
      · subst z3; exact h4
      · exact n (q1.trans q2.symm)
theorem parsE_own {N : List Str} {l : Addr} (hj : es[j]? = some (.spc v F R)) (ho : oneB j es = true) (o : Own (parsE N.length es) (start N vs) l) : F l := by
  obtain ⟨m, x, h1, h2⟩ := o
  rcases parsE_at h1 with z | z
  · subst z; exact h2.elim
  · by_cases q : m = j
    · subst q; rw [hj] at z; cases z; exact h2
    · have := oneB_at ho z q
      cases x with
      | dat d => exact h2.elim
      | _ => cases this
/-! ### promises over entities -/
/-- the entity at place j changes -/
def spX (j : Nat) (A : List Ent → (PyData → Ent → Prop) → Prop) : Sp := fun vs H Q _ => ∃ G es v F R Y, Ex G H ∧ Paired (EntV G) vs es ∧ es[j]? = some (.spc v F R) ∧ oneB j es = true ∧ EntOk G H (.spc v F R) ∧ A es Y ∧
  ∀ d u v' F' R' G' H', Y d (.spc v' F' R') → Gw F G H G' H' → EntOk G' H' (.spc v' F' R') → (∀ l, F' l → F l ∨ H l = none) → Dt G' u d → Q u H'
/-- it stands -/
def spQ (j : Nat) (A : List Ent → (PyData → Prop) → Prop) : Sp := fun vs H Q _ => ∃ G es v F R Y, Ex G H ∧ Paired (EntV G) vs es ∧ es[j]? = some (.spc v F R) ∧ oneB j es = true ∧ EntOk G H (.spc v F R) ∧ A es Y ∧
  ∀ d u G' H', Y d → Gw S0 G H G' H' → Dt G' u d → Q u H'
def RtX (j : Nat) (Y : PyData → Ent → Prop) : Out → Prop
  | .rtS d ρ' => ∃ v F R, ρ'[j]? = some (.spc v F R) ∧ Y d (.spc v F R)
  | .nx ρ' => ∃ v F R, ρ'[j]? = some (.spc v F R) ∧ Y .none (.spc v F R)
  | _ => False
variable {A : List Ent → (PyData → Ent → Prop) → Prop} {AQ : List Ent → (PyData → Prop) → Prop} {Q : VK} {E : XK} {N : List Str} {tb : TS}
theorem run_X (h : spX j A vs H Q E) (k : ∀ es Y, A es Y → Do tb (parsE N.length es) (RtX j Y)) : tb { nx := fun _ H' => Q .non H', rt := Q } (start N vs) H := by
  obtain ⟨G, es, v, F, R, Y, e, hv, hj, ho, ok, a, q⟩ := h
  refine k es Y a _ _ G H (parsE_env e hv hj ho ok) fun o p => ?_
  have fin : ∀ {u d ρ' σ' G' H'}, (∃ v F R, ρ'[j]? = some (.spc v F R) ∧ Y d (.spc v F R)) → Sx (start N vs) (parsE N.length es) G H σ' ρ' G' H' → Dt G' u d → Q u H' := by
    rintro u d ρ' σ' G' H' ⟨v', F', R', h1, h2⟩ s hu
    refine q d u v' F' R' G' H' h2 (s.w.wide fun l z => parsE_own hj ho z) (s.e.entOk h1) (fun l z => ?_) hu
    exact (s.o l ⟨j, _, h1, z⟩).imp (fun y => parsE_own hj ho y) id
  cases o with
  | nx ρ' => exact fun σ' G' H' s => fin p s .non
  | rtS d ρ' => exact fun u σ' G' H' s hu => fin p s hu
  | rt d => exact (show False from p).elim
  | bk ρ' => exact (show False from p).elim
  | ct ρ' => exact (show False from p).elim
  | rtN es => exact (show False from p).elim
theorem len_X {n : Nat} (hA : ∀ es Y, A es Y → es.length = n) (h : spX j A vs H Q E) : vs.length = n := by
  obtain ⟨G, es, v, F, R, Y, e, hv, hj, ho, ok, a, q⟩ := h
  rw [Paired.length hv]
  exact hA es Y a
theorem len_Q {n : Nat} (hA : ∀ es Y, AQ es Y → es.length = n) (h : spQ j AQ vs H Q E) : vs.length = n := by
  obtain ⟨G, es, v, F, R, Y, e, hv, hj, ho, ok, a, q⟩ := h
  rw [Paired.length hv]
  exact hA es Y a
/-- a body without effects -/
def DoQ (t : TS) (ρ : List Ent) (Y : PyData → Prop) : Prop := ∀ D σ G H, Env G H σ ρ → (∀ u d G' H', Y d → Gw (Sdr ρ σ) G H G' H' → Dt G' u d → D.rt u H') → t D σ H
theorem dq_ret {Z : PyData → Prop} (h : IsP te ρ Z) : DoQ (tRet te) ρ Z := fun D σ G H E q => h σ G H E _ fun v d G' H' z n hv => q v d G' H' z n.w hv
theorem dq_let {Z : PyData → Prop} (h : Is te ρ d) (k : DoQ u (ρ.set j (.dat d)) Z) : DoQ (tSeq (tAsg te (gName j)) u) ρ Z := fun D σ G H E q => h σ G H E _ fun v d' G' H' hd n hv => by
  subst hd
  exact k D _ G' H' (n.e.setD hv) fun x d2 G2 H2 z w hx => q x d2 G2 H2 z (n.w.tr w fun l y => .inl (sdr_set rfl y)) hx
theorem run_Q (h : spQ j AQ vs H Q E) (k : ∀ es Y, AQ es Y → DoQ tb (parsE N.length es) Y) : tb { nx := fun _ H' => Q .non H', rt := Q } (start N vs) H := by
  obtain ⟨G, es, v, F, R, Y, e, hv, hj, ho, ok, a, q⟩ := h
  refine k es Y a _ _ G H (parsE_env e hv hj ho ok) fun u d G' H' y w hu => q d u G' H' y (w.wide fun l ⟨m, h1, h2⟩ => ?_) hu
  rcases parsE_at h1 with z | z
  · cases z
  · by_cases c : m = j
    · subst c; rw [hj] at z; cases z
    · have := oneB_at ho z c; cases this
def IsAX (tx : TA) (ρ : List Ent) (es : List Ent) : Prop := ∀ σ G H, Env G H σ ρ → ∀ Q : List V → Hp → Prop, (∀ vs G' H', Nx σ ρ G H G' H' → Paired (EntV G') vs es → Q vs H') → tx σ H Q
theorem isAX_nil : IsAX tNil ρ [] := fun σ G H E Q q => q [] G H (Nx.refl E) .nil
theorem isAX_cons (h : Is te ρ d) (k : IsAX tx ρ es) : IsAX (tCons te tx) ρ (.dat d :: es) := fun σ G H E Q q => h σ G H E _ fun v d' G' H' hd n hv => by
  subst hd
  exact k σ G' H' n.e _ fun vs G2 H2 m r => q (v :: vs) G2 H2 (n.trans m) (.cons (Dt.up hv m.w.g) r)
theorem isAX_ent (h : ρ[i]? = some (.spc v F R)) (k : IsAX tx ρ es) : IsAX (tCons (tVar i) tx) ρ (.spc v F R :: es) := fun σ G H E Q q =>
  ⟨v, (E.spc i v F R h).1, k σ G H E _ fun vs G2 H2 m r => q (v :: vs) G2 H2 m (.cons rfl r)⟩
theorem isAX_A {ds : List PyData} (h : IsA tx ρ ds) : IsAX tx ρ (ds.map .dat) := fun σ G H E Q q => h σ G H E _ fun vs G' H' n r => q vs G' H' n (by
  clear q h
  induction ds generalizing vs with
  | nil => cases r; exact .nil
  | cons d ds ih => cases r with | cons h1 h2 => exact .cons h1 (ih _ h2))
theorem xp_call {Y : PyData → Ent → Prop} (ha : IsAX tx ρ es) (hi : ρ[i]? = some (.spc v F R)) (hj : es[j]? = some (.spc v F R)) (ho : oneB j es = true) (h : A es Y) (hv : ∀ d u F' R', Y d (.spc u F' R') → u = v) :
    XP (tCall (spX j A) [] E tx) ρ (fun d ρ' => ∃ e, Y d e ∧ ρ' = ρ.set i e) := fun σ G H En Q q => ha σ G H En _ fun vs G1 H1 n hvs => by
  rw [List.append_nil]
  refine ⟨G1, es, v, F, R, Y, n.e.ex, hvs, hj, ho, n.e.entOk hi, h, fun d u v' F' R' G' H' y w ok hf hu => ?_⟩
  obtain rfl := hv _ _ _ _ y
  refine q u d _ G' H' ⟨_, y, rfl⟩ (Sx.setS En n hi w ok fun l z => (hf l z).imp id fun c => ?_) hu
  cases z0 : H l with
  | none => rfl
  | some o => exact absurd c (n.w.d l (ex_not z0))
theorem isP_callQ {Y : PyData → Prop} (ha : IsAX tx ρ es) (hi : ρ[i]? = some (.spc v F R)) (hj : es[j]? = some (.spc v F R)) (ho : oneB j es = true) (h : AQ es Y) : IsP (tCall (spQ j AQ) [] E tx) ρ Y := fun σ G H En Q q => ha σ G H En _ fun vs G1 H1 n hvs => by
  rw [List.append_nil]
  exact ⟨G1, es, v, F, R, Y, n.e.ex, hvs, hj, ho, n.e.entOk hi, h, fun d u G' H' y w hu => q u d G' H' y (n.trans (Nx.of0 n.e w)) hu⟩
end
end W36
end
section
set_option Elab.async false
set_option linter.all false
set_option maxRecDepth 100000
set_option maxHeartbeats 4000000
/-! Objects with fields that hold data, lists, dicts, lists of lists. -/
namespace W36
open PySem L2 Evl
/-- what a field holds -/
inductive Comp where
  | dat (v : V) (d : PyData)
  | lst (l : Addr) (ds : List PyData)
  | dic (l : Addr) (kvs : DKV)
  | lls (l : Addr) (cs : List Addr) (dss : List (List PyData))
def Comp.val : Comp → V
  | .dat v _ => v
  | .lst l _ => .ref l
  | .dic l _ => .ref l
  | .lls l _ _ => .ref l
def Comp.adr : Comp → List Addr
  | .dat _ _ => []
  | .lst l _ => [l]
  | .dic l _ => [l]
  | .lls l cs _ => l :: cs
def LstAt (G H : Hp) (l : Addr) (ds : List PyData) : Prop := ∃ xs, H l = some (.lst xs) ∧ DtAll G xs ds
def Comp.ok (P : Program) (w : World) (G H : Hp) : Comp → Prop
  | .dat v d => Dt G v d
  | .lst l ds => LstAt G H l ds
  | .dic l kvs => DicAt P w G H l kvs
  | .lls l cs dss => H l = some (.lst (cs.map V.ref)) ∧ Paired (LstAt G H) cs dss
section
variable {P : Program} {w : World} {σ σ' : L2.St} {ρ ρ' ρ1 : List Ent} {G H G' H' G0 H0 : Hp} {i j k : Nat} {c c' : Comp} {C p l : Addr} {fs : List (Str × Comp)} {n m : Str} {K : PySem.W.Frag} {o : HO} {d e : PyData} {ds es : List PyData} {kvs : DKV}
theorem LstAt.up (h : LstAt G H l ds) (g : Ex G G') (x : ∀ o, H l = some o → H' l = some o) : LstAt G' H' l ds := let ⟨xs, h1, h2⟩ := h; ⟨xs, x _ h1, h2.up g⟩
theorem paired_up : ∀ {cs : List Addr} {dss : List (List PyData)}, Paired (LstAt G H) cs dss → Ex G G' → (∀ l ∈ cs, ∀ o, H l = some o → H' l = some o) → Paired (LstAt G' H') cs dss
  | _, _, .nil, _, _ => .nil
  | _, _, .cons h t, g, x => .cons (h.up g fun o z => x _ List.mem_cons_self o z) (paired_up t g fun l hl => x l (List.mem_cons_of_mem _ hl))
theorem Comp.up (h : c.ok P w G H) (g : Ex G G') (x : ∀ l ∈ c.adr, ∀ o, H l = some o → H' l = some o) : c.ok P w G' H' := by
  cases c with
  | dat v d => exact Dt.up h g
  | lst l ds => exact LstAt.up h g (x l (List.mem_singleton.mpr rfl))
  | dic l kvs => exact DicAt.up h g (x l (List.mem_singleton.mpr rfl))
  | lls l cs dss => exact ⟨x l List.mem_cons_self _ h.1, paired_up h.2 g fun a ha => x a (List.mem_cons_of_mem _ ha)⟩
structure SepC (p : Addr) (fs : List (Str × Comp)) : Prop where
  a : ∀ (j : Nat) (f : Str × Comp), fs[j]? = some f → p ∉ f.2.adr ∧ f.2.adr.Nodup
  b : ∀ (j1 j2 : Nat) (f1 f2 : Str × Comp), j1 ≠ j2 → fs[j1]? = some f1 → fs[j2]? = some f2 → ∀ x ∈ f1.2.adr, x ∉ f2.2.adr
def ObF (p : Addr) (fs : List (Str × Comp)) : Addr → Prop := fun l => l = p ∨ ∃ f ∈ fs, l ∈ f.2.adr
def vals (fs : List (Str × Comp)) : List (Str × V) := fs.map fun f => (f.1, f.2.val)
def ObR (P : Program) (w : World) (C p : Addr) (fs : List (Str × Comp)) : Hp → Hp → Prop := fun G H => (∃ dx, H p = some (.ins C dx (vals fs))) ∧ (∀ f ∈ fs, f.2.ok P w G H) ∧ SepC p fs
/-- an object at p -/
abbrev obE (P : Program) (w : World) (C p : Addr) (fs : List (Str × Comp)) : Ent := .spc (.ref p) (ObF p fs) (ObR P w C p fs)
theorem ob_stab : Stab (ObF p fs) (ObR P w C p fs) := fun G H G' H' ⟨⟨dx, h1⟩, h2, h3⟩ g x k => ⟨⟨dx, k p _ (.inl rfl) h1⟩, fun f hf => Comp.up (h2 f hf) g fun l hl o z => k l o (.inr ⟨f, hf, hl⟩) z, h3⟩
theorem lookup_vals : ∀ {fs : List (Str × Comp)}, (vals fs).lookup n = (fs.lookup n).map Comp.val
  | [] => rfl
  | (a, c) :: fs => by
    have ih := lookup_vals (fs := fs)
    unfold vals at ih ⊢
    rw [List.map_cons, List.lookup_cons, List.lookup_cons]
    by_cases q : (n == a) = true
    · rw [q]; rfl
    · rw [Bool.not_eq_true] at q
      rw [q]; exact ih
theorem lookup_mem' : ∀ {fs : List (Str × Comp)} {c : Comp}, fs.lookup n = some c → ∃ f ∈ fs, f.2 = c
  | [], _, h => by cases h
  | (a, c') :: fs, c, h => by
    rw [List.lookup_cons] at h
    by_cases q : (n == a) = true
    · rw [q] at h; cases h; exact ⟨_, List.mem_cons_self, rfl⟩
    · rw [Bool.not_eq_true] at q
      rw [q] at h
      obtain ⟨f, h1, h2⟩ := lookup_mem' h
      exact ⟨f, List.mem_cons_of_mem _ h1, h2⟩
/-- the class and its names -/
structure Fl (K : PySem.W.Frag) (C : Addr) (n : Str) : Prop where
  c : Cls K C
  n : NoAttr K C n
theorem ob_rd (E : Env G H σ ρ) (he : ρ[i]? = some (obE P w C p fs)) (hl : fs.lookup n = some c) (fl : Fl K C n) : ∃ dx, σ[i]? = some (some (.ref p)) ∧ H p = some (.ins C dx (vals fs)) ∧ (vals fs).lookup n = some c.val ∧ c.ok P w G H ∧ (∀ a ∈ c.adr, ¬ Sdr ρ σ a) := by
  obtain ⟨h1, ⟨⟨dx, h2⟩, h3, h4⟩, h5, h6⟩ := E.spc i _ _ _ he
  obtain ⟨f, f1, f2⟩ := lookup_mem' hl
  refine ⟨dx, h1, h2, by rw [lookup_vals, hl]; rfl, f2 ▸ h3 f f1, fun a ha ⟨m, m1, m2⟩ => ?_⟩
  by_cases q : i = m
  · subst q; rw [he] at m1; cases m1
  · exact E.sep i m a q ⟨_, he, .inr ⟨f, f1, f2 ▸ ha⟩⟩ ⟨_, m1, m2⟩
/-! reading -/
theorem is_fD {v : V} (he : ρ[i]? = some (obE P w C p fs)) (fl : Fl K C n) (hl : fs.lookup n = some (.dat v d)) : Is (tFld K (tVar i) n) ρ d := fun σ G H E Q q => by
  obtain ⟨dx, h1, h2, h3, h4, h5⟩ := ob_rd E he hl fl
  exact ⟨_, h1, p, C, dx, _, _, rfl, h2, fl.c, fl.n, h3, q v d G H rfl (Nx.refl E) h4⟩
theorem is_fL (he : ρ[i]? = some (obE P w C p fs)) (fl : Fl K C n) (hl : fs.lookup n = some (.lst l ds)) : IsL (tFld K (tVar i) n) ρ ds := fun σ G H E Q q => by
  obtain ⟨dx, h1, h2, h3, ⟨xs, h4, h4'⟩, h5⟩ := ob_rd E he hl fl
  exact ⟨_, h1, p, C, dx, _, _, rfl, h2, fl.c, fl.n, h3, q l xs G H (Nx.refl E) (h5 l (List.mem_singleton.mpr rfl)) h4 h4'⟩
theorem is_fDc (he : ρ[i]? = some (obE P w C p fs)) (fl : Fl K C n) (hl : fs.lookup n = some (.dic l kvs)) : IsDc P w (tFld K (tVar i) n) ρ kvs := fun σ G H E Q q => by
  obtain ⟨dx, h1, h2, h3, h4, h5⟩ := ob_rd E he hl fl
  exact ⟨_, h1, p, C, dx, _, _, rfl, h2, fl.c, fl.n, h3, q l h4 (h5 l (List.mem_singleton.mpr rfl))⟩
/-! changing -/
theorem set_lookup_vals (hk : fs[k]? = some (n, c)) (hv : c'.val = c.val) : vals (fs.set k (n, c')) = vals fs := by
  refine List.ext_getElem? fun m => ?_
  unfold vals
  rw [List.getElem?_map, List.getElem?_map, get_set]
  by_cases q : k = m
  · subst q
    rw [if_pos rfl, if_pos (List.getElem?_eq_some_iff.mp hk).1, hk, Option.map_some, Option.map_some, hv]
  · rw [if_neg q]
theorem mem_set {f : Str × Comp} (h : f ∈ fs.set k (n, c')) : f = (n, c') ∨ ∃ m, m ≠ k ∧ fs[m]? = some f := by
  obtain ⟨m, hm⟩ := List.mem_iff_getElem?.mp h
  rw [get_set] at hm
  by_cases q : k = m
  · rw [if_pos q] at hm
    split at hm
    · cases hm; exact .inl rfl
    · cases hm
  · rw [if_neg q] at hm
    exact .inr ⟨m, fun z => q z.symm, hm⟩
/-- the object of one field's footprint changes -/
theorem Sx.fld (E0 : Env G0 H0 σ ρ) (x : Nx σ ρ G0 H0 G H) (he : ρ[i]? = some (obE P w C p fs)) (hk : fs[k]? = some (n, c)) (hl : l ∈ c.adr) (hv : c'.val = c.val) (ha : c'.adr.Nodup)
    (hs : ∀ a ∈ c'.adr, a ∈ c.adr ∨ (H0 a = none ∧ G a = none ∧ H a ≠ none)) (hok : c'.ok P w G (upd H l o)) : Sx σ ρ G0 H0 σ (ρ.set i (obE P w C p (fs.set k (n, c')))) G (upd H l o) := by
  obtain ⟨h1, ⟨⟨dx, h2⟩, h3, h4⟩, h5, h6⟩ := x.e.spc i _ _ _ he
  have cm : (n, c) ∈ fs := List.mem_of_getElem? hk
  have hlF : ObF p fs l := .inr ⟨_, cm, hl⟩
  have lp : l ≠ p := fun z => (h4.a k _ hk).1 (z ▸ hl)
  have nF : ∀ a, H0 a = none → ¬ ObF p fs a := fun a z f => (E0.not_own ⟨i, _, he, f⟩).2 z
  refine Sx.setS E0 x he (Gw.put x.w.v (h5 l hlF).1 hlF) ⟨⟨⟨dx, by rw [upd_ne lp.symm, set_lookup_vals hk hv]; exact h2⟩, fun f hf => ?_, ?_⟩, fun a ha' => ?_, ob_stab⟩ fun a ha' => ?_
  · rcases mem_set hf with z | ⟨m, hm, hfm⟩
    · rw [z]; exact hok
    · refine Comp.up (h3 f (List.mem_of_getElem? hfm)) (Ex.refl G) fun b hb o' z => ?_
      rw [upd_ne (fun q => h4.b m k f _ hm hfm hk b hb (by rw [q]; exact hl))]
      exact z
  · refine ⟨fun m f hf => ?_, fun m1 m2 f1 f2 hm hf1 hf2 b hb1 hb2 => ?_⟩
    · rw [get_set] at hf
      by_cases q : k = m
      · rw [if_pos q] at hf
        split at hf
        · cases hf
          refine ⟨fun z => ?_, ha⟩
          rcases hs p z with y | y
          · exact (h4.a k _ hk).1 y
          · exact nF p y.1 (.inl rfl)
        · cases hf
      · rw [if_neg q] at hf
        exact h4.a m f hf
    · have cas : ∀ {m : Nat} {f : Str × Comp}, (fs.set k (n, c'))[m]? = some f → (m = k ∧ f = (n, c')) ∨ (m ≠ k ∧ fs[m]? = some f) := by
        intro m f hf
        rw [get_set] at hf
        by_cases q : k = m
        · rw [if_pos q] at hf
          split at hf
          · cases hf; exact .inl ⟨q.symm, rfl⟩
          · cases hf
        · rw [if_neg q] at hf; exact .inr ⟨fun z => q z.symm, hf⟩
      rcases cas hf1 with ⟨a1, a2⟩ | ⟨a1, a2⟩ <;> rcases cas hf2 with ⟨b1, b2⟩ | ⟨b1, b2⟩
      · exact hm (a1.trans b1.symm)
      · subst a2
        rcases hs b hb1 with y | y
        · exact h4.b m2 k f2 _ b1 b2 hk b hb2 y
        · exact nF b y.1 (.inr ⟨f2, List.mem_of_getElem? b2, hb2⟩)
      · subst b2
        rcases hs b hb2 with y | y
        · exact h4.b m1 k f1 _ a1 a2 hk b hb1 y
        · exact nF b y.1 (.inr ⟨f1, List.mem_of_getElem? a2, hb1⟩)
      · exact h4.b m1 m2 f1 f2 hm a2 b2 b hb1 hb2
  · have key : G a = none ∧ H a ≠ none := by
      rcases ha' with z | ⟨f, hf, hfa⟩
      · exact h5 a (.inl z)
      · rcases mem_set hf with z | ⟨m, hm, hfm⟩
        · subst z
          rcases hs a hfa with y | y
          · exact h5 a (.inr ⟨_, cm, y⟩)
          · exact y.2
        · exact h5 a (.inr ⟨f, List.mem_of_getElem? hfm, hfa⟩)
    refine ⟨key.1, ?_⟩
    by_cases q : a = l
    · subst q; rw [upd_same]; exact fun z => by cases z
    · rw [upd_ne q]; exact key.2
  · rcases ha' with z | ⟨f, hf, hfa⟩
    · exact .inl (.inl z)
    · rcases mem_set hf with z | ⟨m, hm, hfm⟩
      · subst z
        rcases hs a hfa with y | y
        · exact .inl (.inr ⟨_, cm, y⟩)
        · exact .inr y.1
      · exact .inl (.inr ⟨f, List.mem_of_getElem? hfm, hfa⟩)
variable {te tk : TE} {b : Bool} {cs : List Addr} {dss : List (List PyData)}
theorem lookup_at : ∀ {fs : List (Str × Comp)}, fs.lookup n = some c → ∃ k : Nat, fs[k]? = some (n, c) := by
  intro fs
  induction fs with
  | nil => intro h; cases h
  | cons f fs ih =>
    intro h
    obtain ⟨a, c'⟩ := f
    rw [List.lookup_cons] at h
    by_cases q : (n == a) = true
    · rw [q] at h; cases h
      have : n = a := by simpa using q
      subst this
      exact ⟨0, rfl⟩
    · rw [Bool.not_eq_true] at q
      rw [q] at h
      obtain ⟨k, hk⟩ := ih h
      exact ⟨k + 1, by simpa using hk⟩
/-- self.f.append(e) -/
theorem xp_fapp (he : ρ[i]? = some (obE P w C p fs)) (fl : Fl K C n) (hl : fs.lookup n = some (.lst l ds)) (hk : fs[k]? = some (n, .lst l ds)) (hb : Is te ρ d) (hz : ds.length < 100000) :
    XP (tBM K "list" rAppend (tFld K (tVar i) n) (tCons te tNil)) ρ (fun _ ρ' => ρ' = ρ.set i (obE P w C p (fs.set k (n, .lst l (ds ++ [d]))))) := fun σ G H E Q q => by
  obtain ⟨dx, h1, h2, h3, ⟨xs, h4, h4'⟩, h5⟩ := ob_rd E he hl fl
  refine ⟨_, h1, p, C, dx, _, _, rfl, h2, fl.c, fl.n, h3, .inl ⟨rfl, xs, sq_of h4⟩, hb σ G H E _ fun v d' G' H' hd x hv => ?_⟩
  subst hd
  have k1 := x.at (h5 l (List.mem_singleton.mpr rfl)) h4
  have k2 := (h4'.up x.w.g).snoc hv
  refine ⟨l, xs, v, rfl, rfl, k1, by rw [h4'.length]; exact sz_lt hz, ?_⟩
  exact q _ .none _ G' _ rfl (Sx.fld (c := .lst l ds) E x he hk (List.mem_singleton.mpr rfl) rfl (List.nodup_cons.mpr ⟨List.not_mem_nil, List.nodup_nil⟩) (fun a ha => .inl ha) ⟨_, upd_same, k2⟩) .non
theorem DtAll.unsnoc {xs : List V} (h : DtAll G xs (ds ++ [d])) : ∃ y, xs[xs.length - 1]? = some y ∧ Dt G y d ∧ DtAll G xs.dropLast ds := by
  have hl := h.length
  rw [List.length_append, List.length_singleton] at hl
  obtain ⟨y, hy, hd⟩ := h.get (i := ds.length) (d := d) (by rw [List.getElem?_append_right (Nat.le_refl _), Nat.sub_self]; rfl)
  refine ⟨y, by rw [hl, Nat.add_sub_cancel]; exact hy, hd, ?_⟩
  have t := h.take ds.length
  rw [List.take_left'] at t
  · rw [List.dropLast_eq_take, hl, Nat.add_sub_cancel]; exact t
  · rfl
/-- self.f.pop() -/
theorem xp_fpop (he : ρ[i]? = some (obE P w C p fs)) (fl : Fl K C n) (hl : fs.lookup n = some (.lst l (ds ++ [d]))) (hk : fs[k]? = some (n, .lst l (ds ++ [d]))) :
    XP (tBM0 K "list" rPop (tFld K (tVar i) n)) ρ (fun d' ρ' => d' = d ∧ ρ' = ρ.set i (obE P w C p (fs.set k (n, .lst l ds)))) := fun σ G H E Q q => by
  obtain ⟨dx, h1, h2, h3, ⟨xs, h4, h4'⟩, h5⟩ := ob_rd E he hl fl
  obtain ⟨y, y1, y2, y3⟩ := h4'.unsnoc
  refine ⟨_, h1, p, C, dx, _, _, rfl, h2, fl.c, fl.n, h3, .inl ⟨rfl, xs, sq_of h4⟩, l, xs, y, rfl, rfl, h4, y1, ?_⟩
  exact q y d _ G _ ⟨rfl, rfl⟩ (Sx.fld (c := .lst l (ds ++ [d])) E (Nx.refl E) he hk (List.mem_singleton.mpr rfl) rfl (List.nodup_cons.mpr ⟨List.not_mem_nil, List.nodup_nil⟩) (fun a ha => .inl ha) ⟨_, upd_same, y3⟩) y2
/-- self.f[k] = e -/
theorem do_fput {tv : TE} {Z : Out → Prop} {key : PyData} (he : ρ[i]? = some (obE P w C p fs)) (fl : Fl K C n) (hl : fs.lookup n = some (.dic l kvs)) (hk : fs[k]? = some (n, .dic l kvs)) (hv : Is tv ρ d) (hkey : Is tk ρ key) (ok : KOk key) (hz : kvs.length < 1000000)
    (q : Z (.nx (ρ.set i (obE P w C p (fs.set k (n, .dic l (ptD kvs key d))))))) : Do (sNPut P w (tFld K (tVar i) n) tk tv) ρ Z := fun D σ G H E qq => hv σ G H E _ fun v d' G1 H1 hd n1 hv1 => by
  subst hd
  obtain ⟨dx, h1, h2, h3, h4, h5⟩ := ob_rd n1.e he hl fl
  refine ⟨_, h1, p, C, dx, _, _, rfl, h2, fl.c, fl.n, h3, hkey σ G1 H1 n1.e _ fun y k' G2 H2 hk' n2 hy => ?_⟩
  subst hk'
  obtain ⟨b, rfl⟩ := ref_of ok hy
  have h4' : DicAt P w G2 H2 l kvs := DicAt.up h4 n2.w.g fun o z => n2.at (h5 l (List.mem_singleton.mpr rfl)) z
  obtain ⟨xs, g, r⟩ := h4'.nd n2.e.ex
  refine ⟨l, b, xs, _, rfl, rfl, g, key_B n2.e.ex ok hy, by rw [← r.length]; exact hz, ?_⟩
  exact qq _ q σ G2 _ (Sx.fld (c := .dic l kvs) E (n1.trans n2) he hk (List.mem_singleton.mpr rfl) rfl (List.nodup_cons.mpr ⟨List.not_mem_nil, List.nodup_nil⟩) (fun a ha => .inl ha) ⟨_, upd_same, r.put ok hy (hv1.up n2.w.g)⟩)
/-- self.f.pop(k) -/
theorem xp_dpop {key : PyData} (he : ρ[i]? = some (obE P w C p fs)) (fl : Fl K C n) (hl : fs.lookup n = some (.dic l kvs)) (hk : fs[k]? = some (n, .dic l kvs)) (hkey : Is tk ρ key) (ok : KOk key) (hv : lkD kvs key = some d) :
    XP (tNPop P w (tFld K (tVar i) n) tk) ρ (fun d' ρ' => d' = d ∧ ρ' = ρ.set i (obE P w C p (fs.set k (n, .dic l (drD kvs key))))) := fun σ G H E Q q => by
  obtain ⟨dx, h1, h2, h3, h4, h5⟩ := ob_rd E he hl fl
  obtain ⟨xs0, g0, _⟩ := DicAt.nd h4 E.ex
  refine ⟨_, h1, p, C, dx, _, _, rfl, h2, fl.c, fl.n, h3, l, rfl, ⟨_, g0⟩, hkey σ G H E _ fun y k' G2 H2 hk' n2 hy => ?_⟩
  subst hk'
  obtain ⟨b, rfl⟩ := ref_of ok hy
  have h4' : DicAt P w G2 H2 l kvs := DicAt.up h4 n2.w.g fun o z => n2.at (h5 l (List.mem_singleton.mpr rfl)) z
  obtain ⟨xs, g, r⟩ := h4'.nd n2.e.ex
  obtain ⟨v, v1, v2⟩ := r.some hv
  refine ⟨b, xs, _, v, rfl, g, key_B n2.e.ex ok hy, v1, ?_⟩
  exact q v d _ G2 _ ⟨rfl, rfl⟩ (Sx.fld (c := .dic l kvs) E n2 he hk (List.mem_singleton.mpr rfl) rfl (List.nodup_cons.mpr ⟨List.not_mem_nil, List.nodup_nil⟩) (fun a ha => .inl ha) ⟨_, upd_same, r.drop _⟩) v2
/-! lists of lists -/
theorem paired_snoc {α β : Type} {F : α → β → Prop} : ∀ {xs : List α} {ys : List β} {x : α} {y : β}, Paired F xs ys → F x y → Paired F (xs ++ [x]) (ys ++ [y])
  | _, _, _, _, .nil, h => .cons h .nil
  | _, _, _, _, .cons h t, z => .cons h (paired_snoc t z)
theorem paired_back {α β : Type} {F : α → β → Prop} : ∀ {ys : List β} {y : β} {xs : List α}, Paired F xs (ys ++ [y]) → ∃ zs x, xs = zs ++ [x] ∧ Paired F zs ys ∧ F x y
  | [], _, _, .cons h .nil => ⟨[], _, rfl, .nil, h⟩
  | _ :: ys, y, _, .cons h t => by
    obtain ⟨zs, x, h1, h2, h3⟩ := paired_back t
    exact ⟨_ :: zs, x, by rw [h1]; rfl, .cons h h2, h3⟩
/-- self.f.append(a new list) -/
theorem xp_llapp (he : ρ[i]? = some (obE P w C p fs)) (fl : Fl K C n) (hl : fs.lookup n = some (.lls l cs dss)) (hk : fs[k]? = some (n, .lls l cs dss)) (hb : IsN te ρ ds) (hz : dss.length < 100000) :
    XP (tBM K "list" rAppend (tFld K (tVar i) n) (tCons te tNil)) ρ (fun _ ρ' => ∃ a, ρ' = ρ.set i (obE P w C p (fs.set k (n, .lls l (cs ++ [a]) (dss ++ [ds]))))) := fun σ G H E Q q => by
  obtain ⟨dx, h1, h2, h3, ⟨h4, h4'⟩, h5⟩ := ob_rd E he hl fl
  obtain ⟨_, ⟨_, _, sp⟩, _, _⟩ := E.spc i _ _ _ he
  refine ⟨_, h1, p, C, dx, _, _, rfl, h2, fl.c, fl.n, h3, .inl ⟨rfl, _, sq_of h4⟩, hb σ G H E _ fun a xs ds' G' H' hd x ha ga h6 h7 => ?_⟩
  subst hd
  have k1 := x.at (h5 l List.mem_cons_self) h4
  have pl : ∀ b ∈ l :: cs, H b ≠ none := fun b hb z => (E.not_own ⟨i, _, he, .inr ⟨_, List.mem_of_getElem? hk, hb⟩⟩).2 z
  have al : a ≠ l := fun z => pl l List.mem_cons_self (z ▸ ha)
  have ac : a ∉ cs := fun z => pl a (List.mem_cons_of_mem _ z) ha
  have nd := (sp.a k _ hk).2
  have nd' : l ∉ cs ∧ cs.Nodup := List.nodup_cons.mp nd
  refine ⟨l, _, .ref a, rfl, rfl, k1, by rw [List.length_map, Paired.length h4']; exact sz_lt hz, ?_⟩
  refine q _ .none _ G' _ ⟨a, rfl⟩ (Sx.fld (c := .lls l cs dss) E x he hk List.mem_cons_self rfl (List.nodup_cons.mpr ⟨fun z => ?_, ?_⟩) (fun b hb => ?_) ⟨?_, ?_⟩) .non
  · rcases List.mem_append.mp z with y | y
    · exact nd'.1 y
    · exact al (List.mem_singleton.mp y).symm
  · refine List.nodup_append.mpr ⟨nd'.2, List.nodup_cons.mpr ⟨List.not_mem_nil, List.nodup_nil⟩, fun b h1 b' h2 e => ?_⟩
    rw [List.mem_singleton] at h2
    subst h2 e
    exact ac h1
  · rcases List.mem_cons.mp hb with y | y
    · exact .inl (y ▸ List.mem_cons_self)
    · rcases List.mem_append.mp y with y | y
      · exact .inl (List.mem_cons_of_mem _ y)
      · rw [List.mem_singleton] at y
        subst y
        exact .inr ⟨ha, ga, ex_not h6⟩
  · rw [upd_same, List.map_append]; rfl
  · refine paired_snoc (paired_up h4' x.w.g fun b hb o z => ?_) ⟨xs, by rw [upd_ne al]; exact h6, h7⟩
    rw [upd_ne (fun y => nd'.1 (by rw [← y]; exact hb))]
    exact x.at (h5 b (List.mem_cons_of_mem _ hb)) z
/-- self.f.pop(), a list of lists, what is popped is dropped -/
theorem do_llpop {Z : Out → Prop} (he : ρ[i]? = some (obE P w C p fs)) (fl : Fl K C n) (hl : fs.lookup n = some (.lls l cs (dss ++ [ds]))) (hk : fs[k]? = some (n, .lls l cs (dss ++ [ds])))
    (z : ∀ cs', Z (.nx (ρ.set i (obE P w C p (fs.set k (n, .lls l cs' dss)))))) : Do (tDrop (tBM0 K "list" rPop (tFld K (tVar i) n))) ρ Z := fun D σ G H E q => by
  obtain ⟨dx, h1, h2, h3, ⟨h4, h4'⟩, h5⟩ := ob_rd E he hl fl
  obtain ⟨_, ⟨_, _, sp⟩, _, _⟩ := E.spc i _ _ _ he
  obtain ⟨zs, x, rfl, q1, q2⟩ := paired_back h4'
  have nd := (sp.a k _ hk).2
  have nd' : l ∉ zs ++ [x] ∧ (zs ++ [x]).Nodup := List.nodup_cons.mp nd
  refine ⟨_, h1, p, C, dx, _, _, rfl, h2, fl.c, fl.n, h3, .inl ⟨rfl, _, sq_of h4⟩, l, _, .ref x, rfl, rfl, h4, ?_, ?_⟩
  · rw [List.map_append, List.length_append, List.map_singleton, List.length_singleton, Nat.add_sub_cancel, List.getElem?_append_right (Nat.le_refl _), Nat.sub_self]; rfl
  · rw [List.map_append, List.map_singleton, List.dropLast_concat]
    refine q _ (z zs) σ G _ (Sx.fld (c := .lls l (zs ++ [x]) (dss ++ [ds])) E (Nx.refl E) he hk List.mem_cons_self rfl (List.nodup_cons.mpr ⟨fun y => nd'.1 (List.mem_append.mpr (.inl y)), (List.nodup_append.mp nd'.2).1⟩) (fun b hb => ?_) ⟨upd_same, ?_⟩)
    · rcases List.mem_cons.mp hb with y | y
      · exact .inl (by rw [y]; exact List.mem_cons_self)
      · exact .inl (List.mem_cons_of_mem _ (List.mem_append.mpr (.inl y)))
    · refine paired_up q1 (Ex.refl G) fun b hb o y => ?_
      rw [upd_ne (fun y => nd'.1 (List.mem_append.mpr (.inl (by rw [← y]; exact hb))))]
      exact y
/-- self.f[k], a list in a list of lists -/
theorem isL_ll {m : Nat} {a : Int} (he : ρ[i]? = some (obE P w C p fs)) (fl : Fl K C n) (hl : fs.lookup n = some (.lls l cs dss)) (hb : Is te ρ (.int a)) (ha : a = (m : Int)) (h : dss[m]? = some ds) : IsL (tOp (rIxL K) (tFld K (tVar i) n) te) ρ ds := fun σ G H E Q q => by
  obtain ⟨dx, h1, h2, h3, ⟨h4, h4'⟩, h5⟩ := ob_rd E he hl fl
  refine ⟨_, h1, p, C, dx, _, _, rfl, h2, fl.c, fl.n, h3, hb σ G H E _ fun y e' G2 H2 he' n2 hy => ?_⟩
  subst he'
  cases hy
  obtain ⟨x, x1, xs, x2, x3⟩ := paired_get h4' h
  have xm : x ∈ cs := List.mem_of_getElem? x1
  have nx := h5 x (List.mem_cons_of_mem _ xm)
  refine ⟨l, _, a, .ref x, rfl, rfl, sq_of (n2.at (h5 l List.mem_cons_self) h4), ?_, q x xs G2 H2 n2 nx (n2.at nx x2) (x3.up n2.w.g)⟩
  subst ha
  exact atI_nat (by rw [List.getElem?_map, x1]; rfl)
theorem paired_set {α β : Type} {F F' : α → β → Prop} {x : α} {y' : β} : ∀ {xs : List α} {ys : List β} {m : Nat}, Paired F xs ys → xs[m]? = some x → (∀ (a : α) (b : β) (i : Nat), i ≠ m → xs[i]? = some a → ys[i]? = some b → F a b → F' a b) → F' x y' → Paired F' xs (ys.set m y')
  | _, _, _, .nil, h, _, _ => by simp at h
  | _, _, 0, .cons (a := a) (b := b) h t, e, k, z => by
    simp at e; subst e
    rw [List.set_cons_zero]
    refine .cons z ?_
    have : ∀ {as : List α} {bs : List β} (i : Nat), Paired F as bs → (∀ (a : α) (b : β) (j : Nat), as[j]? = some a → bs[j]? = some b → F a b → F' a b) → Paired F' as bs := by
      intro as bs _ r
      induction r with
      | nil => intro _; exact .nil
      | cons h t ih => intro k; exact .cons (k _ _ 0 rfl rfl h) (ih fun a b j e1 e2 f => k a b (j + 1) (by simpa using e1) (by simpa using e2) f)
    exact this 0 t fun a b j e1 e2 f => k a b (j + 1) (by omega) (by simpa using e1) (by simpa using e2) f
  | _, _, m + 1, .cons h t, e, k, z => by
    rw [List.set_cons_succ]
    exact .cons (k _ _ 0 (by omega) rfl rfl h) (paired_set t (by simpa using e) (fun a b j n e1 e2 f => k a b (j + 1) (by omega) (by simpa using e1) (by simpa using e2) f) z)
/-- self.f[k].pop(), an item of a list in a list of lists -/
theorem xp_llpop2 {m : Nat} {a : Int} (he : ρ[i]? = some (obE P w C p fs)) (fl : Fl K C n) (hl : fs.lookup n = some (.lls l cs dss)) (hk : fs[k]? = some (n, .lls l cs dss)) (hb : Is te ρ (.int a)) (ha : a = (m : Int)) (h : dss[m]? = some (ds ++ [d])) :
    XP (tBM0 K "list" rPop (tOp (rIxL K) (tFld K (tVar i) n) te)) ρ (fun d' ρ' => d' = d ∧ ρ' = ρ.set i (obE P w C p (fs.set k (n, .lls l cs (dss.set m ds))))) := fun σ G H E Q q => by
  obtain ⟨dx, h1, h2, h3, ⟨h4, h4'⟩, h5⟩ := ob_rd E he hl fl
  obtain ⟨_, ⟨_, _, sp⟩, _, _⟩ := E.spc i _ _ _ he
  refine ⟨_, h1, p, C, dx, _, _, rfl, h2, fl.c, fl.n, h3, hb σ G H E _ fun y e' G2 H2 he' n2 hy => ?_⟩
  subst he'
  cases hy
  subst ha
  obtain ⟨x, x1, xs, x2, x3⟩ := paired_get h4' h
  have xm : x ∈ cs := List.mem_of_getElem? x1
  have nx := h5 x (List.mem_cons_of_mem _ xm)
  have x2' := n2.at nx x2
  have x3' := x3.up n2.w.g
  obtain ⟨y, y1, y2, y3⟩ := x3'.unsnoc
  have nd := (sp.a k _ hk).2
  have nd' : l ∉ cs ∧ cs.Nodup := List.nodup_cons.mp nd
  have xl : l ≠ x := fun z => nd'.1 (by rw [z]; exact xm)
  refine ⟨l, _, _, .ref x, rfl, rfl, sq_of (n2.at (h5 l List.mem_cons_self) h4), atI_nat (by rw [List.getElem?_map, x1]; rfl), .inl ⟨rfl, xs, sq_of x2'⟩, x, xs, y, rfl, rfl, x2', y1, ?_⟩
  refine q y d _ G2 _ ⟨rfl, rfl⟩ (Sx.fld (c := .lls l cs dss) E n2 he hk (List.mem_cons_of_mem _ xm) rfl nd (fun b hb => .inl hb) ⟨?_, ?_⟩) y2
  · rw [upd_ne xl]; exact n2.at (h5 l List.mem_cons_self) h4
  · refine paired_set h4' x1 (fun b ds' j jm e1 e2 f => ?_) ⟨_, upd_same, y3⟩
    refine LstAt.up f n2.w.g fun o z => ?_
    have bx : b ≠ x := fun z => jm (List.getElem?_inj (List.getElem?_eq_some_iff.mp e1).1 nd'.2 |>.mp (by rw [e1, x1, z]))
    rw [upd_ne bx]
    exact n2.at (h5 b (List.mem_cons_of_mem _ (List.mem_of_getElem? e1))) z
/-! methods -/
variable {tx : TA} {A : List Ent → (PyData → Ent → Prop) → Prop} {AQ : List Ent → (PyData → Prop) → Prop} {E : XK} {mn : Str}
theorem xp_meth {Y : PyData → Ent → Prop} (he : ρ[i]? = some (obE P w C p fs)) (hm : (vals fs).lookup mn = none) (ha : IsA tx ρ ds) (h : A (obE P w C p fs :: ds.map .dat) Y) (hv : ∀ d u F' R', Y d (.spc u F' R') → u = .ref p) :
    XP (tMeth C mn (spX 0 A) [] E (tVar i) tx) ρ (fun d ρ' => ∃ e, Y d e ∧ ρ' = ρ.set i e) := fun σ G H En Q q => by
  obtain ⟨h1, ⟨⟨dx, h2⟩, _, _⟩, _, _⟩ := En.spc i _ _ _ he
  refine ⟨_, h1, p, dx, _, rfl, h2, hm, isAX_A ha σ G H En _ fun vs G1 H1 n hvs => ?_⟩
  rw [List.append_nil]
  refine ⟨G1, obE P w C p fs :: ds.map .dat, .ref p, _, _, Y, n.e.ex, .cons rfl hvs, rfl, oneB_dats _ _, n.e.entOk he, h, fun d u v' F' R' G' H' y w' ok hf hu => ?_⟩
  obtain rfl := hv _ _ _ _ y
  refine q u d _ G' H' ⟨_, y, rfl⟩ (Sx.setS En n he w' ok fun l z => (hf l z).imp id fun c => ?_) hu
  cases z0 : H l with
  | none => rfl
  | some o => exact absurd c (n.w.d l (ex_not z0))
theorem isP_methQ {Y : PyData → Prop} (he : ρ[i]? = some (obE P w C p fs)) (hm : (vals fs).lookup mn = none) (ha : IsA tx ρ ds) (h : AQ (obE P w C p fs :: ds.map .dat) Y) : IsP (tMeth C mn (spQ 0 AQ) [] E (tVar i) tx) ρ Y := fun σ G H En Q q => by
  obtain ⟨h1, ⟨⟨dx, h2⟩, _, _⟩, _, _⟩ := En.spc i _ _ _ he
  refine ⟨_, h1, p, dx, _, rfl, h2, hm, isAX_A ha σ G H En _ fun vs G1 H1 n hvs => ?_⟩
  rw [List.append_nil]
  exact ⟨G1, obE P w C p fs :: ds.map .dat, .ref p, _, _, Y, n.e.ex, .cons rfl hvs, rfl, oneB_dats _ _, n.e.entOk he, h, fun d u G' H' y w' hu => q u d G' H' y (n.trans (Nx.of0 n.e w')) hu⟩
/-! making -/
theorem putF_new : ∀ {fs : List (Str × V)} {v : V}, fs.lookup n = none → putF n v fs = fs ++ [(n, v)]
  | [], v, _ => rfl
  | (a, c) :: fs, v, h => by
    rw [List.lookup_cons] at h
    by_cases q : (n == a) = true
    · rw [q] at h; cases h
    · rw [Bool.not_eq_true] at q
      rw [q] at h
      have na : ¬ a = n := fun z => by subst z; simp at q
      show (if a = n then _ else (a, c) :: putF n v fs) = _
      rw [if_neg na, putF_new h]; rfl
/-- the object gets a new field -/
theorem Sx.fnew {v : V} (E0 : Env G0 H0 σ ρ) (x : Nx σ ρ G0 H0 G H) (he : ρ[i]? = some (obE P w C p fs)) (hn : fs.lookup n = none) (hv : c.val = v) (ha : c.adr.Nodup) (hs : ∀ a ∈ c.adr, H0 a = none ∧ G a = none ∧ H a ≠ none)
    {dx : Addr} (hp : H p = some (.ins C dx (vals fs))) (hok : c.ok P w G H) : Sx σ ρ G0 H0 σ (ρ.set i (obE P w C p (fs ++ [(n, c)]))) G (upd H p (.ins C dx (putF n v (vals fs)))) := by
  obtain ⟨h1, ⟨⟨dx', h2⟩, h3, h4⟩, h5, h6⟩ := x.e.spc i _ _ _ he
  have nF : ∀ a, H0 a = none → ¬ ObF p fs a := fun a z f => (E0.not_own ⟨i, _, he, f⟩).2 z
  have ap : ∀ a ∈ c.adr, a ≠ p := fun a z q => nF a (hs a z).1 (.inl q)
  have hvn : (vals fs).lookup n = none := by rw [lookup_vals, hn]; rfl
  have ev : putF n v (vals fs) = vals (fs ++ [(n, c)]) := by
    rw [putF_new hvn, ← hv]; unfold vals; rw [List.map_append]; rfl
  have pk : ∀ {a : Addr} {o : HO}, a ≠ p → H a = some o → (upd H p (.ins C dx (putF n v (vals fs)))) a = some o := fun z e => by rw [upd_ne z]; exact e
  refine Sx.setS E0 x he (Gw.put x.w.v (h5 p (.inl rfl)).1 (.inl rfl)) ⟨⟨⟨dx, by rw [upd_same, ev]⟩, fun f hf => ?_, ?_⟩, fun a ha' => ?_, ob_stab⟩ fun a ha' => ?_
  · rcases List.mem_append.mp hf with z | z
    · obtain ⟨m, hm⟩ := List.mem_iff_getElem?.mp z
      exact Comp.up (h3 f z) (Ex.refl G) fun b hb o' y => pk (fun q => (h4.a m f hm).1 (by rw [← q]; exact hb)) y
    · rw [List.mem_singleton] at z
      subst z
      exact Comp.up hok (Ex.refl G) fun b hb o' y => pk (ap b hb) y
  · have cas : ∀ {m : Nat} {f : Str × Comp}, (fs ++ [(n, c)])[m]? = some f → (m = fs.length ∧ f = (n, c)) ∨ (m ≠ fs.length ∧ fs[m]? = some f) := by
      intro m f hf
      by_cases q : m < fs.length
      · rw [List.getElem?_append_left q] at hf
        exact .inr ⟨by omega, hf⟩
      · rw [List.getElem?_append_right (by omega)] at hf
        by_cases y : m = fs.length
        · subst y
          rw [Nat.sub_self] at hf
          cases hf
          exact .inl ⟨rfl, rfl⟩
        · rw [List.getElem?_eq_none (by simp; omega)] at hf
          cases hf
    refine ⟨fun m f hf => ?_, fun m1 m2 f1 f2 hm hf1 hf2 b hb1 hb2 => ?_⟩
    · rcases cas hf with ⟨a1, a2⟩ | ⟨a1, a2⟩
      · subst a2; exact ⟨fun z => ap p z rfl, ha⟩
      · exact h4.a m f a2
    · rcases cas hf1 with ⟨a1, a2⟩ | ⟨a1, a2⟩ <;> rcases cas hf2 with ⟨b1, b2⟩ | ⟨b1, b2⟩
      · exact hm (a1.trans b1.symm)
      · subst a2
        exact nF b (hs b hb1).1 (.inr ⟨f2, List.mem_of_getElem? b2, hb2⟩)
      · subst b2
        exact nF b (hs b hb2).1 (.inr ⟨f1, List.mem_of_getElem? a2, hb1⟩)
      · exact h4.b m1 m2 f1 f2 hm a2 b2 b hb1 hb2
  · have key : G a = none ∧ H a ≠ none := by
      rcases ha' with z | ⟨f, hf, hfa⟩
      · exact h5 a (.inl z)
      · rcases List.mem_append.mp hf with z | z
        · exact h5 a (.inr ⟨f, z, hfa⟩)
        · rw [List.mem_singleton] at z
          subst z
          exact (hs a hfa).2
    refine ⟨key.1, ?_⟩
    by_cases q : a = p
    · subst q; rw [upd_same]; exact fun z => by cases z
    · rw [upd_ne q]; exact key.2
  · rcases ha' with z | ⟨f, hf, hfa⟩
    · exact .inl (.inl z)
    · rcases List.mem_append.mp hf with z | z
      · exact .inl (.inr ⟨f, z, hfa⟩)
      · rw [List.mem_singleton] at z
        subst z
        exact .inr (hs a hfa).1
variable {Z : Out → Prop}
/-- self.f = data -/
theorem do_fnewD (he : ρ[i]? = some (obE P w C p fs)) (fl : Fl K C n) (hn : fs.lookup n = none) (hz : fs.length < 1000) (h : Is te ρ d) (q : ∀ v, Z (.nx (ρ.set i (obE P w C p (fs ++ [(n, .dat v d)]))))) : Do (sFld K (tVar i) te n) ρ Z := fun D σ G H E qq => h σ G H E _ fun v d' G1 H1 hd x hv => by
  subst hd
  obtain ⟨h1, ⟨⟨dx, h2⟩, h3, h4⟩, h5, h6⟩ := x.e.spc i _ _ _ he
  refine ⟨_, h1, p, C, dx, _, rfl, h2, fl.c, fl.n, by unfold vals; rw [List.length_map]; exact hz, ?_⟩
  exact qq _ (q v) σ G1 _ (Sx.fnew (c := .dat v d') E x he hn rfl List.nodup_nil (fun a z => nomatch z) h2 hv)
/-- self.f = a new list -/
theorem do_fnewL (he : ρ[i]? = some (obE P w C p fs)) (fl : Fl K C n) (hn : fs.lookup n = none) (hz : fs.length < 1000) (h : IsN te ρ ds) (q : ∀ l, Z (.nx (ρ.set i (obE P w C p (fs ++ [(n, .lst l ds)]))))) : Do (sFld K (tVar i) te n) ρ Z := fun D σ G H E qq => h σ G H E _ fun l xs ds' G1 H1 hd x hp gp h7 h8 => by
  subst hd
  obtain ⟨h1, ⟨⟨dx, h2⟩, h3, h4⟩, h5, h6⟩ := x.e.spc i _ _ _ he
  refine ⟨_, h1, p, C, dx, _, rfl, h2, fl.c, fl.n, by unfold vals; rw [List.length_map]; exact hz, ?_⟩
  exact qq _ (q l) σ G1 _ (Sx.fnew (c := .lst l ds') E x he hn rfl (List.nodup_cons.mpr ⟨List.not_mem_nil, List.nodup_nil⟩) (fun a z => by rw [show a = l from List.mem_singleton.mp z]; exact ⟨hp, gp, ex_not h7⟩) h2 ⟨xs, h7, h8⟩)
/-- self.f = [a new list] -/
theorem do_fnewLL (he : ρ[i]? = some (obE P w C p fs)) (fl : Fl K C n) (hn : fs.lookup n = none) (hz : fs.length < 1000) (h : IsN te ρ ds) (q : ∀ l a, Z (.nx (ρ.set i (obE P w C p (fs ++ [(n, .lls l [a] [ds])]))))) : Do (sFld K (tVar i) (tLst (tCons te tNil)) n) ρ Z := fun D σ G H E qq => h σ G H E _ fun a xs ds' G1 H1 hd x ha ga h7 h8 => by
  subst hd
  dsimp only [tNil]
  refine ⟨Nat.le_of_lt (sz_lt (by show 1 < 100000; decide)), fun l hl => ?_⟩
  have nl : a ≠ l := ne_of_none h7 hl
  have x2 : Nx σ ρ G H G1 (upd H1 l (.lst [V.ref a])) := x.trans (Nx.newH x.e hl)
  obtain ⟨h1, ⟨⟨dx, h2⟩, h3, h4⟩, h5, h6⟩ := x2.e.spc i _ _ _ he
  have hl0 : H l = none := by
    cases z : H l with
    | none => rfl
    | some o => exact absurd hl (x.w.d l (ex_not z))
  refine ⟨_, h1, p, C, dx, _, rfl, h2, fl.c, fl.n, by unfold vals; rw [List.length_map]; exact hz, ?_⟩
  refine qq _ (q l a) σ G1 _ (Sx.fnew (c := .lls l [a] [ds']) E x2 he hn rfl (List.nodup_cons.mpr ⟨fun z => nl (List.mem_singleton.mp z).symm, List.nodup_cons.mpr ⟨List.not_mem_nil, List.nodup_nil⟩⟩) (fun b z => ?_) h2 ⟨upd_same, .cons ⟨xs, by rw [upd_ne nl]; exact h7, h8⟩ .nil⟩)
  rcases List.mem_cons.mp z with y | y
  · subst y; exact ⟨hl0, ex_none x.e.ex hl, by rw [upd_same]; exact fun z => by cases z⟩
  · rw [List.mem_singleton] at y
    subst y
    exact ⟨ha, ga, by rw [upd_ne nl]; exact ex_not h7⟩
/-- self.f = {} -/
theorem do_fnewC (he : ρ[i]? = some (obE P w C p fs)) (fl : Fl K C n) (hn : fs.lookup n = none) (hz : fs.length < 1000) (q : ∀ l, Z (.nx (ρ.set i (obE P w C p (fs ++ [(n, .dic l [])]))))) : Do (sFld K (tVar i) (tNNew P w) n) ρ Z := fun D σ G H E qq => by
  intro l hl
  have x2 : Nx σ ρ G H G (upd H l (NdO P w l [])) := Nx.newH E hl
  obtain ⟨h1, ⟨⟨dx, h2⟩, h3, h4⟩, h5, h6⟩ := x2.e.spc i _ _ _ he
  refine ⟨_, h1, p, C, dx, _, rfl, h2, fl.c, fl.n, by unfold vals; rw [List.length_map]; exact hz, ?_⟩
  exact qq _ (q l) σ G _ (Sx.fnew (c := .dic l []) E x2 he hn rfl (List.nodup_cons.mpr ⟨List.not_mem_nil, List.nodup_nil⟩) (fun b z => by rw [show b = l from List.mem_singleton.mp z]; exact ⟨hl, ex_none E.ex hl, by rw [upd_same]; exact fun z => by cases z⟩) h2 ⟨[], upd_same, .nil⟩)
/-- x = C(..) -/
theorem do_make {Y' : Addr → PyData → Ent → Prop} (ha : IsA tx ρ ds) (h : ∀ p, A (obE P w C p [] :: ds.map .dat) (Y' p)) (hv : ∀ p d u F' R', Y' p d (.spc u F' R') → d = .none ∧ u = .ref p) (k : ∀ p e, Y' p .none e → Z (.nx (ρ.set j e))) : Do (tAsg (tMake C (spX 0 A) [] E tx) (gName j)) ρ Z := fun D σ G H En q => isAX_A ha σ G H En _ fun vs G1 H1 n hvs => by
  intro p dx hp hdx ne
  rw [List.append_nil]
  have g0 : Ex H1 (upd (upd H1 dx (.own p)) p (.ins C dx [])) := fun a o e => by rw [upd_ne (ne_of_none e hp), upd_ne (ne_of_none e hdx)]; exact e
  have w1 : Gw (Own ρ σ) G H G1 (upd (upd H1 dx (.own p)) p (.ins C dx [])) := ((Sx.of n).w.trans (Gw.newH n.e.ex hdx)).trans (Gw.newH (ex_upd n.e.ex (ex_none n.e.ex hdx)) (by rw [upd_ne (fun z => ne z.symm)]; exact hp))
  have E1 : Env G1 (upd (upd H1 dx (.own p)) p (.ins C dx [])) σ ρ := n.e.grow g0 (Ex.refl G1) w1.v (fun a z _ => z)
  have back : ∀ {l : Addr}, H1 l = none → H l = none := fun {l} c => by
    cases z0 : H l with
    | none => rfl
    | some o => exact absurd c (n.w.d l (ex_not z0))
  have gp : G1 p = none := ex_none n.e.ex hp
  have nO : ∀ l, ObF p [] l → ¬ Own ρ σ l := fun l z y => by
    rcases z with z | ⟨f, hf, _⟩
    · exact (En.not_own y).2 (by rw [z]; exact back hp)
    · cases hf
  refine ⟨G1, obE P w C p [] :: ds.map .dat, .ref p, _, _, Y' p, w1.v, .cons rfl hvs, rfl, oneB_dats _ _, ⟨⟨⟨dx, upd_same⟩, (fun f hf => by cases hf), ⟨fun j f hf => by simp at hf, fun j1 j2 f1 f2 _ hf => by simp at hf⟩⟩, fun l z => ?_, ob_stab⟩, h p, fun d u v' F' R' G' H' y w' ok hf hu => ?_⟩
  · rcases z with z | ⟨f, hf, _⟩
    · rw [z]; exact ⟨gp, by rw [upd_same]; exact fun z => by cases z⟩
    · cases hf
  · obtain ⟨rfl, rfl⟩ := hv _ _ _ _ _ y
    cases hu
    refine ⟨rfl, ?_⟩
    have w2 : Gw (Own ρ σ) G H G' H' := by
      refine w1.tr w' fun l z => ?_
      rcases z with z | ⟨f, hf, _⟩
      · exact .inr (by rw [z]; exact back hp)
      · cases hf
    have E2 : Env G' H' σ ρ := by
      refine E1.grow' w' fun l z => nO l z
    refine q _ (k p _ y) _ G' H' (Sx.setE En w2 E2 ok fun l z => ?_)
    rcases hf l z with y | y
    · rcases y with y | ⟨f, hf, _⟩
      · rw [y]; exact back hp
      · cases hf
    · cases z0 : H l with
      | none => rfl
      | some o => exact absurd y (w1.d l (ex_not z0))
end
end W36
end
section
set_option Elab.async false
set_option linter.all false
set_option maxRecDepth 100000
set_option maxHeartbeats 4000000
/-! {k: v} with a nested key; the classes; stands as keys. -/
namespace PySem
open Sem (wp)
section
variable {prog : Program} {w : World} {K : Type} [DecidableEq K] {knd : HeapKind prog w K} {A : Around} {E : Value → Shared → Prop} {s : Shared}
theorem wpAny_Dict_pairsH' {env : Env} {keys : List (Option Expr)} {values : List Expr} {pos : Pos} {pairs : List (Sem Value × Sem Value)} {Q : Value → Shared → Prop} (hu : knd.room A)
    (hshape : (evalEachOpt keys env).zip ((evalEach values env).map fun v => do let x ← v; standAt pos; pure x) = pairs.map fun p => (some p.1, p.2)) (h0 : pairs ≠ []) (hlen : pairs.length ≤ 15)
    (h : wpAny (model prog w) A (evalPairs pairs) (fun vs s₁ => ∃ ps, CarriesH knd s₁.heap vs ps ∧ s₁.heap.DictOfH knd s.heap.objs.size [] ∧
      ∀ h' tk, h'.DictOfH knd s.heap.objs.size (storedAllH [] ps) → Heap.SameBut s.heap.objs.size s₁.heap h' → Q (.ref s.heap.objs.size) { s₁ with heap := h', toks := tk }) E
      { s with heap := s.heap.push { cls := .type "dict", data := .dict #[] } }) :
    wpAny (model prog w) A (eval (.Dict keys values pos) env) Q E s := by
  rw [arm_eval_Dict, hshape, dictDisplay_pairs pairs h0 (by omega)]
  exact wpAny_bind (wpAny_standAt (wpAny_bind (wpAny_subDictH (knd := knd) (Q := fun d s' => wpAny (model prog w) A (pure (Value.ref d)) Q E s') hu hlen
    (wpAny_mono h (fun vs s₁ h₁ => by obtain ⟨ps, hc, hm, hq⟩ := h₁; exact ⟨ps, hc, hm, fun h' tk a b => wpAny_pure (hq h' tk a b)⟩) fun _ _ e => e))))
end
end PySem
namespace W36
open PySem PySem.Spec PyProof.Rows L2 Evl
def tNDisp1 (P : Program) (w : World) (tk tv : TE) : TE := fun σ H Q => ∀ p, H p = none → tPairs [(tk, tv)] σ (upd H p (NdO P w p [])) fun ps H2 => ∃ b k v, ps = [(.ref b, v)] ∧ KeyB H2 b k ∧ H2 p = some (NdO P w p []) ∧ Q (.ref p) (upd H2 p (NdO P w p (putN [] k b v)))
theorem pe_ndisp1 {X : Cx} {ek ev : Expr} {tk tv : TE} {pos : Pos} (hu : X.A.units + 65 < cLine) (hk : PE X ek tk) (hv : PE X ev tv) : PE X (.Dict [some ek] [ev] pos) (tNDisp1 X.prog X.w tk tv) := by
  refine ⟨fun pins s σ H Q I q => ?_⟩
  have hn := I.hok.fresh (Nat.le_refl s.heap.objs.size)
  have I1 := I.laid (a := s.heap.objs.size) (o := NdO X.prog X.w s.heap.objs.size []) (h' := s.heap.push { cls := .type "dict", data := .dict #[] }) (t' := s.toks) (fun _ _ q => Heap.get?_push_of_some _ q) (Nat.le_refl _) (nd_empty s.heap I.big)
  have hp : PPs X pos [some ek] [ev] [(tk, tv)] := pps_cons hk hv pps_nil
  refine wpAny_Dict_pairsH' (knd := nestedKind X.prog X.w) (by show X.A.units + 8 < cLine; omega) (zip_pairTrees [some ek] [ev] X.env pos rfl rfl) (by intro z; have := pairTrees_length [some ek] [ev] X.env pos rfl rfl; rw [z] at this; cases this) (by rw [pairTrees_length [some ek] [ev] X.env pos rfl rfl]; exact Nat.le_of_ble_eq_true rfl)
    (thn (hp.run pins _ σ _ (fun ps H2 => ∃ b k v, ps = [(.ref b, v)] ∧ KeyB H2 b k ∧ H2 s.heap.objs.size = some (NdO X.prog X.w s.heap.objs.size []) ∧ Q (.ref s.heap.objs.size) (upd H2 s.heap.objs.size (NdO X.prog X.w s.heap.objs.size (putN [] k b v)))) I1 ?_) fun ws s2 ⟨ps, H2, I2, rel, b, k, v, ep, kb, e, q2⟩ => ?_)
  · exact q _ hn
  · subst ep
    cases rel with
    | @cons p w1 ps ws h t =>
      cases t
      obtain ⟨w2, w3⟩ := w1
      obtain ⟨r1, r2⟩ := h
      obtain rfl : w2 = .ref b := r1
      have nd : NdAt X.prog X.w H2 s.heap.objs.size [] := ⟨e, fun _ z => nomatch z⟩
      obtain ⟨z, hd, ys, rel, dd⟩ := nd_rd I2.hok nd
      cases rel
      refine ⟨[(k, b, w3)], ⟨rfl, rfl, kb.is I2.hok, trivial⟩, dd, fun h' tk' dd' hs => ⟨.ref s.heap.objs.size, _, ?_, rfl, q2⟩⟩
      have he : ∃ q, h'.get? s.heap.objs.size = some q := let ⟨q, _, _, hq, _⟩ := dd'; ⟨q, hq⟩
      refine d_write I2 (by rw [e]; exact True.intro) hs he (nd_new (by rw [sizeLine_eq]; show 1 ≤ _; omega) hd (RN.put (xs := []) .nil k r2) dd')
/-! ### classes -/
structure OcH (K : PySem.W.Frag) (C : Addr) : Prop where
  cl : Cls K C
  rows : NoAttr K C "rows"
structure OcW (K : PySem.W.Frag) (C : Addr) : Prop where
  cl : Cls K C
  of : NoAttr K C "of"
  way : NoAttr K C "way"
  choices : NoAttr K C "choices"
  taken : NoAttr K C "taken"
  places : NoAttr K C "places"
  over : NoAttr K C "over"
/-- a method of the class -/
structure HasM (P : Program) (w : World) (K : PySem.W.Frag) (mg : Str → Option Value) (base : Heap) (C : Addr) (k : Nat) (m : Str) (ps : List Str) (sp : Sp) (f : Addr) (fd : FuncData) : Prop where
  ok : FnOk P w K mg base CX0 k f fd ps sp
  m : Meth K C m f
  b : Binds K fd ps []
/-- its __init__ -/
structure HasI (P : Program) (w : World) (K : PySem.W.Frag) (mg : Str → Option Value) (base : Heap) (C : Addr) (k : Nat) (x : Str) (ps : List Str) (sp : Sp) (f : Addr) (fd : FuncData) : Prop where
  ok : FnOk P w K mg base CX0 k f fd ps sp
  mkc : Mk K C f
  hm : mg x = some (.ref C)
  b : Binds K fd ps []
/-! ### keys -/
theorem kok_dS (s : Sd) : KOk (dS s) := by
  refine ⟨⟨_, rfl⟩, ?_, ?_⟩
  · show kd (.tuple [.int s.phase, tI s.waits, tI s.busy, tI s.last]) = true
    simp only [kd, kds, tI, kds_ints, Bool.and_self]
  · have h1 := kdepth_tI s.waits
    have h2 := kdepth_tI s.busy
    have h3 := kdepth_tI s.last
    show (keyOf (.tuple [.int s.phase, tI s.waits, tI s.busy, tI s.last])).depth ≤ 8
    simp only [keyOf, keysOf, NestedKey.depth, NestedKey.depthAll, tI] at h1 h2 h3 ⊢
    omega
theorem ints_inj : ∀ {a b : List Int}, a.map PyData.int = b.map PyData.int → a = b
  | [], [], _ => rfl
  | [], _ :: _, h => by simp at h
  | _ :: _, [], h => by simp at h
  | x :: a, y :: b, h => by
    rw [List.map_cons, List.map_cons] at h
    injection h with h1 h2
    injection h1 with h1
    rw [h1, ints_inj h2]
theorem tI_inj {a b : List Int} (h : tI a = tI b) : a = b := by
  have h' : PyData.tuple (a.map .int) = PyData.tuple (b.map .int) := h
  injection h' with h'
  exact ints_inj h'
theorem dS_inj {a b : Sd} (h : dS a = dS b) : a = b := by
  have h' : PyData.tuple [.int a.phase, tI a.waits, tI a.busy, tI a.last] = PyData.tuple [.int b.phase, tI b.waits, tI b.busy, tI b.last] := h
  injection h' with h'
  simp only [List.cons.injEq, and_true] at h'
  obtain ⟨h1, h2, h3, h4⟩ := h'
  injection h1 with h1
  cases a; cases b
  simp only at h1 h2 h3 h4
  rw [h1, tI_inj h2, tI_inj h3, tI_inj h4]
theorem kS_inj (a b : Sd) (h : keyOf (dS a) = keyOf (dS b)) : a = b := dS_inj (keyOf_inj _ _ (kok_dS a).k (kok_dS b).k h)
abbrev PB := Int × List Int
abbrev dPB (e : PB) : PyData := .tuple [.int e.1, tI e.2]
theorem kok_dPB (e : PB) : KOk (dPB e) := by
  refine ⟨⟨_, rfl⟩, ?_, ?_⟩
  · show kd (.tuple [.int e.1, tI e.2]) = true
    simp only [kd, kds, tI, kds_ints, Bool.and_self]
  · have h1 := kdepth_tI e.2
    show (keyOf (.tuple [.int e.1, tI e.2])).depth ≤ 8
    simp only [keyOf, keysOf, NestedKey.depth, NestedKey.depthAll, tI] at h1 ⊢
    omega
theorem kPB_inj (a b : PB) (h : keyOf (dPB a) = keyOf (dPB b)) : a = b := by
  have e := keyOf_inj _ _ (kok_dPB a).k (kok_dPB b).k h
  have h' : PyData.tuple [.int a.1, tI a.2] = PyData.tuple [.int b.1, tI b.2] := e
  injection h' with h'
  simp only [List.cons.injEq, and_true] at h'
  obtain ⟨h1, h2⟩ := h'
  injection h1 with h1
  cases a; cases b
  simp only at h1 h2
  rw [h1, tI_inj h2]
end W36
end
section
set_option Elab.async false
set_option linter.all false
set_option maxRecDepth 100000
set_option maxHeartbeats 4000000
namespace W36
open PySem L2 Evl
abbrev Rows := List (PB × List Sd)
def rowsK (rs : Rows) : DKV := rs.map fun e => (dPB e.1, .list (e.2.map dS))
abbrev hgE (P : Program) (w : World) (C p l : Addr) (rs : Rows) : Ent := obE P w C p [("rows", .dic l (rowsK rs))]
def A_Heights_init (P : Program) (w : World) (C : Addr) (es : List Ent) (Y : PyData → Ent → Prop) : Prop := ∃ p, es = [obE P w C p []] ∧ Y = fun d e => d = .none ∧ ∃ l, e = hgE P w C p l []
def sp_Heights_init (P : Program) (w : World) (C : Addr) : Sp := spX 0 (A_Heights_init P w C)
theorem ln_Heights_init {P : Program} {w : World} {C : Addr} : ∀ es Y, A_Heights_init P w C es Y → es.length = 1 := fun es Y ⟨_, h, _⟩ => by rw [h]; rfl
theorem ok_Heights_init {P : Program} {w : World} {K : PySem.W.Frag} {mg : Str → Option Value} {base : Heap} {f : Addr} {fd : FuncData} (F : FnP K "__init__" "Heights.__init__" s_Heights_init f fd) (md : Md mg) {C : Addr} (oc : OcH K C) : FnOk P w K mg base CX0 1 f fd ["self"] (sp_Heights_init P w C) := by
  refine FunD.ok F sc_Heights_init (fun vs H Q E h => len_X (fun ds R hA => ?_) h) (fun cdv A outer s H vs Q E hr h => ?_)
  · exact ln_Heights_init ds R hA
  · have nd := sc_Heights_init.nd
    refine ⟨_, PSs.nox (pss_one (ps_fld (pv 0) pe_nnew rfl)), run_X h fun ds R hA => ?_⟩
    obtain ⟨p, rfl, rfl⟩ := hA
    exact do_fnewC (i := 0) (fs := []) rfl ⟨oc.cl, oc.rows⟩ rfl (by decide) fun l => ⟨_, _, _, rfl, rfl, l, rfl⟩
def pbOf (s : Sd) : PB := (s.phase, s.busy)
def rowsOf (rs : Rows) (s : Sd) : List Sd := ((rs.find? fun p => decide (p.1 = pbOf s)).map (·.2)).getD []
theorem rows_lk (rs : Rows) (s : Sd) : (lkD (rowsK rs) (dPB (pbOf s))).getD (.list []) = .list ((rowsOf rs s).map dS) := by
  unfold rowsK rowsOf
  rw [lkD_map (enc := dPB) (g := fun x : List Sd => PyData.list (x.map dS)) kPB_inj (pbOf s) rs]
  cases rs.find? fun p => decide (p.1 = pbOf s) <;> rfl
def A_Heights_alike (P : Program) (w : World) (C : Addr) (es : List Ent) (Y : PyData → Prop) : Prop := ∃ p l rs s, es = [hgE P w C p l rs, .dat (dS s)] ∧ Y = fun x => x = .list ((rowsOf rs s).map dS)
def sp_Heights_alike (P : Program) (w : World) (C : Addr) : Sp := spQ 0 (A_Heights_alike P w C)
theorem ln_Heights_alike {P : Program} {w : World} {C : Addr} : ∀ es Y, A_Heights_alike P w C es Y → es.length = 2 := fun es Y ⟨_, _, _, _, h, _⟩ => by rw [h]; rfl
theorem no_alike {l : Addr} {rs : Rows} : (vals [("rows", Comp.dic l (rowsK rs))]).lookup ("alike" : Str) = none := by
  rw [lookup_vals, List.lookup_cons]
  rw [show (("alike" : Str) == "rows") = false by decide +kernel]; rfl
theorem c_Heights_alike {P : Program} {w : World} {C p l : Addr} {ρ : List Ent} {i : Nat} {tx : TA} {rs : Rows} {s : Sd} (he : ρ[i]? = some (hgE P w C p l rs)) (ha : IsA tx ρ [dS s]) : Is (tMeth C "alike" (sp_Heights_alike P w C) [] E0 (tVar i) tx) ρ (.list ((rowsOf rs s).map dS)) :=
  isP_methQ he no_alike ha ⟨p, l, rs, s, rfl, rfl⟩
theorem ok_Heights_alike {P : Program} {w : World} {K : PySem.W.Frag} {mg : Str → Option Value} {base : Heap} {f : Addr} {fd : FuncData} (F : FnP K "alike" "Heights.alike" s_Heights_alike f fd) (md : Md mg) {C : Addr} (oc : OcH K C) : FnOk P w K mg base CX0 1 f fd ["self", "stand"] (sp_Heights_alike P w C) := by
  refine FunD.ok F sc_Heights_alike (fun vs H Q E h => len_Q (fun ds R hA => ?_) h) (fun cdv A outer s H vs Q E hr h => ?_)
  · exact ln_Heights_alike ds R hA
  · have nd := sc_Heights_alike.nd
    refine ⟨_, PSs.nox (pss_one (ps_ret (pe_nget2 (hu65 hr) (pe_fld (pv 0) rfl) (pe_tup (pa_cons (pe_ix (kx_T K) (pv 1) pe_int (fun _ _ => rfl)) (pa_cons (pe_ix (kx_T K) (pv 1) pe_int (fun _ _ => rfl)) pa_nil))) (pe_lst pa_nil) ⟨rfl, rfl, rfl, rfl⟩))), run_Q h fun ds R hA => ?_⟩
    obtain ⟨p, l, rs, s, rfl, rfl⟩ := hA
    refine dq_ret (Is.to (is_dget2 (kvs := rowsK rs) (k := dPB (pbOf s)) (e := .list []) (is_fDc (l := l) rfl ⟨oc.cl, oc.rows⟩ rfl) (is_tup (isA_cons (is_ixT (n := 0) (is_var rfl) is_int rfl rfl) (isA_cons (is_ixT (n := 2) (is_var rfl) is_int rfl rfl) isA_nil))) (is_new (isN_lst isA_nil)) (kok_dPB _)) (rows_lk rs s))
def covB (rs : Rows) (s : Sd) : Bool := decide (s ∈ rowsOf rs s) || (rowsOf rs s).any (liesUnder s)
structure RowsOk (t : Tk) (n : Nat) (rs : Rows) : Prop where
  s : ∀ e ∈ rs, ∀ s ∈ e.2, StandOk t s
  l : ∀ e ∈ rs, e.2.length ≤ n
  n : rs.length ≤ n
theorem rowsOf_mem {rs : Rows} {s x : Sd} (h : x ∈ rowsOf rs s) : ∃ e ∈ rs, e.1 = pbOf s ∧ x ∈ e.2 ∧ rowsOf rs s = e.2 := by
  unfold rowsOf at h ⊢
  cases e : rs.find? fun p => decide (p.1 = pbOf s) with
  | none => rw [e] at h; cases h
  | some q =>
    rw [e] at h
    exact ⟨q, List.mem_of_find?_eq_some e, (by have := List.find?_some e; simpa using this), h, rfl⟩
theorem RowsOk.of {t : Tk} {n : Nat} {rs : Rows} (o : RowsOk t n rs) (s : Sd) : (∀ x ∈ rowsOf rs s, StandOk t x) ∧ (rowsOf rs s).length ≤ n := by
  refine ⟨fun x hx => ?_, ?_⟩
  · obtain ⟨e, h1, _, h2, _⟩ := rowsOf_mem hx
    exact o.s e h1 x h2
  · cases q : rowsOf rs s with
    | nil => exact Nat.zero_le _
    | cons x r =>
      obtain ⟨e, h1, _, _, h2⟩ := rowsOf_mem (rs := rs) (s := s) (x := x) (by rw [q]; exact List.mem_cons_self)
      rw [← q, h2]
      exact o.l e h1
def A_Heights_covers (P : Program) (w : World) (C : Addr) (es : List Ent) (Y : PyData → Prop) : Prop := ∃ p l rs s t n, es = [hgE P w C p l rs, .dat (dS s)] ∧ (TaskOk t ∧ StandOk t s ∧ RowsOk t n rs ∧ n ≤ 5000) ∧ Y = fun x => x = .bool (covB rs s)
def sp_Heights_covers (P : Program) (w : World) (C : Addr) : Sp := spQ 0 (A_Heights_covers P w C)
theorem ln_Heights_covers {P : Program} {w : World} {C : Addr} : ∀ es Y, A_Heights_covers P w C es Y → es.length = 2 := fun es Y ⟨_, _, _, _, _, _, h, _⟩ => by rw [h]; rfl
theorem no_covers {l : Addr} {rs : Rows} : (vals [("rows", Comp.dic l (rowsK rs))]).lookup ("covers" : Str) = none := by
  rw [lookup_vals, List.lookup_cons]
  rw [show (("covers" : Str) == "rows") = false by decide +kernel]; rfl
theorem c_Heights_covers {P : Program} {w : World} {C p l : Addr} {ρ : List Ent} {i n : Nat} {tx : TA} {rs : Rows} {s : Sd} {t : Tk} (o : TaskOk t) (os : StandOk t s) (ro : RowsOk t n rs) (hn : n ≤ 5000) (he : ρ[i]? = some (hgE P w C p l rs)) (ha : IsA tx ρ [dS s]) : Is (tMeth C "covers" (sp_Heights_covers P w C) [] E0 (tVar i) tx) ρ (.bool (covB rs s)) :=
  isP_methQ he no_covers ha ⟨p, l, rs, s, t, n, rfl, ⟨o, os, ro, hn⟩, rfl⟩
theorem any_eqS (xs : List Sd) (s : Sd) : ((xs.map dS).any fun z => PyData.eqv z (dS s)) = decide (s ∈ xs) := by
  induction xs with
  | nil => simp
  | cons x xs ih =>
    rw [List.map_cons, List.any_cons, ih, eqv_dS]
    by_cases h : x = s
    · subst h; simp
    · have : ¬ s = x := fun z => h z.symm
      simp [h, this]
theorem ok_Heights_covers {P : Program} {w : World} {K : PySem.W.Frag} {mg : Str → Option Value} {base : Heap} {f : Addr} {fd : FuncData} (F : FnP K "covers" "Heights.covers" s_Heights_covers f fd) (md : Md mg) {C : Addr} (oc : OcH K C) {f_Heights_alike : Addr} {fd_Heights_alike : FuncData} (h_Heights_alike : HasM P w K mg base C 1 "alike" ["self", "stand"] (sp_Heights_alike P w C) f_Heights_alike fd_Heights_alike) {f_lies_under : Addr} {fd_lies_under : FuncData} (h_lies_under : Has P w K mg base 1 "lies_under" ["one", "other"] sp_lies_under f_lies_under fd_lies_under) : FnOk P w K mg base CX0 2 f fd ["self", "stand"] (sp_Heights_covers P w C) := by
  refine FunD.ok F sc_Heights_covers (fun vs H Q E h => len_Q (fun ds R hA => ?_) h) (fun cdv A outer s H vs Q E hr h => ?_)
  · exact ln_Heights_covers ds R hA
  · have nd := sc_Heights_covers.nd
    refine ⟨_, PSs.nox (pss_cons (ps_set (i := 2) nd rfl (by first | exact Or.inl rfl | exact Or.inr rfl) (pe_meth (pv 0) oc.cl h_Heights_alike.m h_Heights_alike.ok (hr.mono (by decide)) h_Heights_alike.b .nil pass0 (pa_cons (pv 1) pa_nil)))
    (pss_one (ps_ret (pe_or (pe_cmpR (k_inD K (hu65 hr)) (pv 1) (pv 2) (by with_unfolding_all rfl)) (pe_one (pe_callB (k_any K rfl) (by rfl) md.any (by decide +kernel) (pa_cons (pe_lc (own := [("other", 3)]) (g := gName 3) rfl nd (k_pl K (pv 2)) (blkOk_by (own := [("other", 3)]) (N := N_Heights_covers) (sc := defScope s_Heights_covers) (by decide +kernel)) (fun _ _ _ _ _ => pg_name (i := 3) nd rfl (Or.inl rfl)) (fun _ _ _ _ _ => pts_nil) (fun _ _ _ _ _ => (pe_call h_lies_under.ok (hr.mono (by decide)) rfl h_lies_under.g h_lies_under.kp h_lies_under.b .nil pass0 (pa_cons (pv 1) (pa_cons (pv 3) pa_nil))))) pa_nil))))))), run_Q h fun ds R hA => ?_⟩
    obtain ⟨p, l, rs, s, t, n, rfl, ⟨o, os, ro, hn⟩, rfl⟩ := hA
    obtain ⟨r1, r2⟩ := ro.of s
    refine dq_let (c_Heights_alike (rs := rs) (s := s) rfl (isA_cons (is_var rfl) isA_nil)) (dq_ret (is_orV (Is.to (is_inD (is_var rfl) (isL_dat (is_var rfl)) (shaped_dS s) (shaped_lS _)) (by rw [any_eqS])) fun _ => ?_))
    refine Is.to (is_any (bs := (rowsOf rs s).map (liesUnder s)) (isL_new (IsN.to (isN_lcL (xs := rowsOf rs s) (enc := dS) (p := fun _ => true) (f := fun x => .bool (liesUnder s x)) (isL_dat (is_var rfl)) (by omega) (notDrw_of rfl (by intro z; cases z)) (fun x hx => ist_yes) fun x hx _ => c_lies_under (alike_of o os (r1 x hx)) (isA_cons (is_var rfl) (isA_cons (is_var rfl) isA_nil))) ?_))) ?_
    · rw [List.filter_eq_self.mpr (fun _ _ => rfl), List.map_map]; rfl
    · rw [List.any_map]; rfl
def putR (rs : Rows) (k : PB) (v : List Sd) : Rows := if (rs.find? fun p => decide (p.1 = k)).isSome = true then rs.map (fun p => if p.1 = k then (p.1, v) else p) else rs ++ [(k, v)]
theorem rows_put (rs : Rows) (k : PB) (v : List Sd) : rowsK (putR rs k v) = ptD (rowsK rs) (dPB k) (.list (v.map dS)) := by
  unfold putR ptD
  rw [show lkD (rowsK rs) (dPB k) = _ from lkD_map (enc := dPB) (g := fun x : List Sd => PyData.list (x.map dS)) kPB_inj k rs, Option.isSome_map, Option.isSome_map]
  by_cases q : (rs.find? fun p => decide (p.1 = k)).isSome = true
  · rw [if_pos q, if_pos q]
    unfold rowsK
    rw [List.map_map, List.map_map]
    refine List.map_congr_left fun x _ => ?_
    simp only [Function.comp_apply]
    by_cases e : x.1 = k
    · rw [if_pos e, if_pos (by rw [e])]
    · rw [if_neg e, if_neg (fun z => e (kPB_inj _ _ z))]
  · rw [if_neg q, if_neg q]; unfold rowsK; rw [List.map_append]; rfl
def addR (rs : Rows) (s : Sd) : Rows := if covB rs s = true then rs else putR rs (pbOf s) ((rowsOf rs s).filter (fun o => !liesUnder o s) ++ [s])
theorem addR_ok {t : Tk} {n : Nat} {rs : Rows} {s : Sd} (o : RowsOk t n rs) (os : StandOk t s) : RowsOk t (n + 1) (addR rs s) := by
  unfold addR
  split
  · exact ⟨o.s, fun e he => Nat.le_succ_of_le (o.l e he), Nat.le_succ_of_le o.n⟩
  · obtain ⟨r1, r2⟩ := o.of s
    have vs : ∀ x ∈ (rowsOf rs s).filter (fun o => !liesUnder o s) ++ [s], StandOk t x := fun x hx => by
      rcases List.mem_append.mp hx with h | h
      · exact r1 x (List.mem_filter.mp h).1
      · rw [List.mem_singleton.mp h]; exact os
    have vl : ((rowsOf rs s).filter (fun o => !liesUnder o s) ++ [s]).length ≤ n + 1 := by
      have := List.length_filter_le (fun o => !liesUnder o s) (rowsOf rs s)
      rw [List.length_append, List.length_singleton]; omega
    unfold putR
    split
    · refine ⟨fun e he => ?_, fun e he => ?_, by rw [List.length_map]; exact Nat.le_succ_of_le o.n⟩
      · obtain ⟨e', h1, rfl⟩ := List.mem_map.mp he
        split
        · exact vs
        · exact o.s e' h1
      · obtain ⟨e', h1, rfl⟩ := List.mem_map.mp he
        split
        · exact vl
        · exact Nat.le_succ_of_le (o.l e' h1)
    · refine ⟨fun e he => ?_, fun e he => ?_, by rw [List.length_append, List.length_singleton]; exact Nat.succ_le_succ o.n⟩
      · rcases List.mem_append.mp he with h | h
        · exact o.s e h
        · rw [List.mem_singleton.mp h]; exact vs
      · rcases List.mem_append.mp he with h | h
        · exact Nat.le_succ_of_le (o.l e h)
        · rw [List.mem_singleton.mp h]; exact vl
def A_Heights_add (P : Program) (w : World) (C : Addr) (es : List Ent) (Y : PyData → Ent → Prop) : Prop := ∃ p l rs s t n, es = [hgE P w C p l rs, .dat (dS s)] ∧ (TaskOk t ∧ StandOk t s ∧ RowsOk t n rs ∧ n ≤ 5000) ∧ Y = fun d e => d = .none ∧ e = hgE P w C p l (addR rs s)
def sp_Heights_add (P : Program) (w : World) (C : Addr) : Sp := spX 0 (A_Heights_add P w C)
theorem ln_Heights_add {P : Program} {w : World} {C : Addr} : ∀ es Y, A_Heights_add P w C es Y → es.length = 2 := fun es Y ⟨_, _, _, _, _, _, h, _⟩ => by rw [h]; rfl
theorem no_add {l : Addr} {rs : Rows} : (vals [("rows", Comp.dic l (rowsK rs))]).lookup ("add" : Str) = none := by
  rw [lookup_vals, List.lookup_cons]
  rw [show (("add" : Str) == "rows") = false by decide +kernel]; rfl
theorem c_Heights_add {P : Program} {w : World} {C p l : Addr} {ρ : List Ent} {i n : Nat} {tx : TA} {rs : Rows} {s : Sd} {t : Tk} (o : TaskOk t) (os : StandOk t s) (ro : RowsOk t n rs) (hn : n ≤ 5000) (he : ρ[i]? = some (hgE P w C p l rs)) (ha : IsA tx ρ [dS s]) : XP (tMeth C "add" (sp_Heights_add P w C) [] E0 (tVar i) tx) ρ (fun _ ρ' => ρ' = ρ.set i (hgE P w C p l (addR rs s))) :=
  XP.mono (xp_meth he no_add ha ⟨p, l, rs, s, t, n, rfl, ⟨o, os, ro, hn⟩, rfl⟩ (fun d u F' R' y => by injection y.2)) fun d ρ' ⟨e, ⟨_, h1⟩, h2⟩ => by rw [h2, h1]
theorem ok_Heights_add {P : Program} {w : World} {K : PySem.W.Frag} {mg : Str → Option Value} {base : Heap} {f : Addr} {fd : FuncData} (F : FnP K "add" "Heights.add" s_Heights_add f fd) (md : Md mg) {C : Addr} (oc : OcH K C) {f_Heights_covers : Addr} {fd_Heights_covers : FuncData} (h_Heights_covers : HasM P w K mg base C 2 "covers" ["self", "stand"] (sp_Heights_covers P w C) f_Heights_covers fd_Heights_covers) {f_Heights_alike : Addr} {fd_Heights_alike : FuncData} (h_Heights_alike : HasM P w K mg base C 1 "alike" ["self", "stand"] (sp_Heights_alike P w C) f_Heights_alike fd_Heights_alike) {f_lies_under : Addr} {fd_lies_under : FuncData} (h_lies_under : Has P w K mg base 1 "lies_under" ["one", "other"] sp_lies_under f_lies_under fd_lies_under) : FnOk P w K mg base CX0 3 f fd ["self", "stand"] (sp_Heights_add P w C) := by
  refine FunD.ok F sc_Heights_add (fun vs H Q E h => len_X (fun ds R hA => ?_) h) (fun cdv A outer s H vs Q E hr h => ?_)
  · exact ln_Heights_add ds R hA
  · have nd := sc_Heights_add.nd
    refine ⟨_, PSs.nox (pss_one (ps_if (pt_not (pt_val (pe_meth (pv 0) oc.cl h_Heights_covers.m h_Heights_covers.ok (hr.mono (by decide)) h_Heights_covers.b .nil pass0 (pa_cons (pv 1) pa_nil))))
    (pss_cons (ps_setLc (i := 2) (own := [("other", 3)]) (g := gName 3) rfl nd rfl rfl (sw_true rfl rfl rfl (by decide +kernel)) (k_pl K (pe_meth (pv 0) oc.cl h_Heights_alike.m h_Heights_alike.ok (hr.mono (by decide)) h_Heights_alike.b .nil pass0 (pa_cons (pv 1) pa_nil))) (blkOk_by (own := [("other", 3)]) (N := N_Heights_add) (sc := defScope s_Heights_add) (by decide +kernel)) (fun _ _ _ _ _ => pg_name (i := 3) nd rfl (Or.inl rfl)) (fun _ _ _ _ _ => (pts_one (pt_not (pt_val (pe_call h_lies_under.ok (hr.mono (by decide)) rfl h_lies_under.g h_lies_under.kp h_lies_under.b .nil pass0 (pa_cons (pv 3) (pa_cons (pv 1) pa_nil))))))) (fun _ _ _ _ _ => (pv 3)))
    (pss_one (ps_nput (hu65 hr) (pe_fld (pv 0) rfl) (pe_tup (pa_cons (pe_ix (kx_T K) (pv 1) pe_int (fun _ _ => rfl)) (pa_cons (pe_ix (kx_T K) (pv 1) pe_int (fun _ _ => rfl)) pa_nil))) (pe_op op_cat (pv 2) (pe_lst (pa_cons (pv 1) pa_nil))) rfl)))
    pss_nil)), run_X h fun ds R hA => ?_⟩
    obtain ⟨p, l, rs, s, t, n, rfl, ⟨o, os, ro, hn⟩, rfl⟩ := hA
    obtain ⟨r1, r2⟩ := ro.of s
    have rn := ro.n
    refine do_if (ist_not (ist_B (c_Heights_covers o os ro hn rfl (isA_cons (is_var rfl) isA_nil)))) (fun e => ?_) fun e => ?_
    · have ec : ¬ covB rs s = true := by rw [nt e]; exact fun z => by cases z
      refine do_letN (isN_lcL (xs := rowsOf rs s) (enc := dS) (p := fun x => !liesUnder x s) (f := dS) (isL_dat (c_Heights_alike (rs := rs) (s := s) rfl (isA_cons (is_var rfl) isA_nil))) (by omega) (notDrw_of rfl (by intro z; cases z)) (fun x hx => ist_not (ist_B (c_lies_under (alike_of o (r1 x hx) os) (isA_cons (is_var rfl) (isA_cons (is_var rfl) isA_nil))))) fun x hx _ => is_var rfl) ?_
      have fl := List.length_filter_le (fun o => !liesUnder o s) (rowsOf rs s)
      refine do_fput (i := 0) (k := 0) (l := l) (kvs := rowsK rs) (key := dPB (pbOf s)) rfl ⟨oc.cl, oc.rows⟩ rfl rfl (is_new (isN_cat (isL_own rfl) (isL_new (isN_lst (isA_cons (is_var rfl) isA_nil))) ?_)) (is_tup (isA_cons (is_ixT (n := 0) (is_var rfl) is_int rfl rfl) (isA_cons (is_ixT (n := 2) (is_var rfl) is_int rfl rfl) isA_nil))) (kok_dPB _) ?_ ⟨_, _, _, rfl, rfl, ?_⟩
      · rw [List.length_map]; show _ + 1 ≤ 100000; omega
      · unfold rowsK; rw [List.length_map]; omega
      · have e2 : addR rs s = putR rs (pbOf s) ((rowsOf rs s).filter (fun o => !liesUnder o s) ++ [s]) := by unfold addR; rw [if_neg ec]
        rw [e2]
        show obE P w C p [("rows", .dic l _)] = obE P w C p [("rows", .dic l _)]
        rw [rows_put, List.map_append]; rfl
    · refine do_next ⟨_, _, _, rfl, rfl, ?_⟩
      have e2 : addR rs s = rs := by unfold addR; rw [if_pos (nf e)]
      rw [e2]
end W36
end
section
set_option Elab.async false
set_option linter.all false
set_option maxRecDepth 100000
set_option maxHeartbeats 4000000
namespace W36
open PySem L2 Evl
theorem set_same {ρ : List Ent} {i : Nat} {e : Ent} (h : ρ[i]? = some e) : ρ.set i e = ρ := by
  refine List.ext_getElem? fun m => ?_
  rw [get_set]
  by_cases q : i = m
  · subst q; rw [if_pos rfl, if_pos (List.getElem?_eq_some_iff.mp h).1, h]
  · rw [if_neg q]
theorem xt_B {te : TE} {ρ ρ1 : List Ent} {x : Bool} {Y : PyData → List Ent → Prop} (h : XP te ρ Y) (k : ∀ d ρ', Y d ρ' → d = .bool x ∧ ρ' = ρ1) : XT (tB te) ρ (fun b ρ' => b = x ∧ ρ' = ρ1) := fun σ G H E Q q => h σ G H E _ fun v d ρ' G' H' y s hv => by
  obtain ⟨rfl, rfl⟩ := k d ρ' y
  cases hv
  exact ⟨x, rfl, q x _ G' H' ⟨rfl, rfl⟩ s⟩
theorem xt_not {tt : TT} {ρ ρ1 : List Ent} {x : Bool} (h : XT tt ρ (fun b ρ' => b = x ∧ ρ' = ρ1)) : XT (tNot tt) ρ (fun b ρ' => b = (!x) ∧ ρ' = ρ1) := fun σ G H E Q q => h σ G H E _ fun b ρ' G' H' ⟨y, z⟩ s => q (!b) ρ' G' H' ⟨by rw [y], z⟩ s
def runB (t : Tk) (rs : Rows) (s : Sd) (d : List Int) : Bool := match nextS t s d with
  | none => true
  | some x => covB rs x
def runsB (t : Tk) (rs : Rows) (s : Sd) : Bool := (laterDays t s).all (runB t rs s)
def A_runs_out (P : Program) (w : World) (C : Addr) (es : List Ent) (Y : PyData → Ent → Prop) : Prop := ∃ p l rs s t n, es = [.dat (dT t), .dat (dS s), hgE P w C p l rs] ∧ (TaskOk t ∧ StandOk t s ∧ RowsOk t n rs ∧ n ≤ 5000) ∧ Y = fun d e => d = .bool (runsB t rs s) ∧ e = hgE P w C p l rs
def sp_runs_out (P : Program) (w : World) (C : Addr) : Sp := spX 2 (A_runs_out P w C)
theorem ln_runs_out {P : Program} {w : World} {C : Addr} : ∀ es Y, A_runs_out P w C es Y → es.length = 3 := fun es Y ⟨_, _, _, _, _, _, h, _⟩ => by rw [h]; rfl
theorem c_runs_out {P : Program} {w : World} {C p l : Addr} {ρ : List Ent} {i n : Nat} {tx : TA} {rs : Rows} {s : Sd} {t : Tk} (o : TaskOk t) (os : StandOk t s) (ro : RowsOk t n rs) (hn : n ≤ 5000) (he : ρ[i]? = some (hgE P w C p l rs)) (ha : IsAX tx ρ [.dat (dT t), .dat (dS s), hgE P w C p l rs]) : XT (tB (tCall (sp_runs_out P w C) [] E0 tx)) ρ (fun b ρ' => b = runsB t rs s ∧ ρ' = ρ) :=
  xt_B (xp_call (A := A_runs_out P w C) ha he rfl rfl ⟨p, l, rs, s, t, n, rfl, ⟨o, os, ro, hn⟩, rfl⟩ (fun d u F' R' y => by injection y.2)) fun d ρ' ⟨e, ⟨h0, h1⟩, h2⟩ => by rw [h2, h1, set_same he]; exact ⟨h0, rfl⟩
theorem ok_runs_out {P : Program} {w : World} {K : PySem.W.Frag} {mg : Str → Option Value} {base : Heap} {f : Addr} {fd : FuncData} (F : FnP K "runs_out" "runs_out" s_runs_out f fd) (md : Md mg) {C : Addr} (oc : OcH K C) {f_later_days : Addr} {fd_later_days : FuncData} (h_later_days : Has P w K mg base 3 "later_days" ["task", "stand"] sp_later_days f_later_days fd_later_days) {f_later_stand : Addr} {fd_later_stand : FuncData} (h_later_stand : Has P w K mg base 2 "later_stand" ["task", "stand", "day"] sp_later_stand f_later_stand fd_later_stand) {f_Heights_covers : Addr} {fd_Heights_covers : FuncData} (h_Heights_covers : HasM P w K mg base C 2 "covers" ["self", "stand"] (sp_Heights_covers P w C) f_Heights_covers fd_Heights_covers) : FnOk P w K mg base CX0 4 f fd ["task", "stand", "heights"] (sp_runs_out P w C) := by
  refine FunD.ok F sc_runs_out (fun vs H Q E h => len_X (fun ds R hA => ?_) h) (fun cdv A outer s H vs Q E hr h => ?_)
  · exact ln_runs_out ds R hA
  · have nd := sc_runs_out.nd
    refine ⟨_, PSs.nox (pss_cons (ps_for PassesOwn.never rfl (k_pl K (pe_call h_later_days.ok (hr.mono (by decide)) rfl h_later_days.g h_later_days.kp h_later_days.b .nil pass0 (pa_cons (pv 0) (pa_cons (pv 1) pa_nil)))) (pg_name (i := 3) nd rfl (by first | exact Or.inl rfl | exact Or.inr rfl))
    (pss_cons (ps_set (i := 4) nd rfl (by first | exact Or.inl rfl | exact Or.inr rfl) (pe_call h_later_stand.ok (hr.mono (by decide)) rfl h_later_stand.g h_later_stand.kp h_later_stand.b .nil pass0 (pa_cons (pv 0) (pa_cons (pv 1) (pa_cons (pv 3) pa_nil)))))
    (pss_one (ps_if (PW.pt (pw_and (pt_cmp (pc_notN (pv 4))) (pw_and1 (pt_not (pt_val (pe_meth (pv 2) oc.cl h_Heights_covers.m h_Heights_covers.ok (hr.mono (by decide)) h_Heights_covers.b .nil pass0 (pa_cons (pv 4) pa_nil)))))))
    (pss_one (ps_ret pe_bl))
    pss_nil))))
    (pss_one (ps_ret pe_bl))), run_X h fun ds R hA => ?_⟩
    obtain ⟨p, l, rs, s, t, n, rfl, ⟨o, os, ro, hn⟩, rfl⟩ := hA
    refine do_seq (do_forLm (xs := laterDays t s) (enc := tI) (I := fun k ρ => ρ = [.dat (dT t), .dat (dS s), hgE P w C p l rs, .no, .no] ∧ runsB t rs s = ((laterDays t s).drop k).all (runB t rs s)) (is_new (c_later_days o os (isA_cons (is_var rfl) (isA_cons (is_var rfl) isA_nil)))) (fun x => tg_name) ⟨_, ⟨rfl, rfl⟩, Le.refl _⟩ ?_ ?_)
    · rintro k d ρ1 hd ⟨rfl, hr⟩
      obtain ⟨dk, dc⟩ := later_mem (List.mem_of_getElem? hd)
      rw [drop_at hd, List.all_cons] at hr
      refine do_let (c_later_stand o os.waits.len dk.r.l (isA_cons (is_var rfl) (isA_cons (is_var rfl) (isA_cons (is_var rfl) isA_nil)))) ?_
      cases en : nextS t s d with
      | none =>
        refine do_if (b := false) (ist_and (x := false) (y := false) (ist_B (is_notN (d := .none) (is_var rfl))) fun e => by cases e) (fun e => by cases e) fun _ => do_next ⟨_, ⟨rfl, ?_⟩, rfl, rfl, rfl, True.intro⟩
        rw [hr, runB, en]; rfl
      | some s2 =>
        have o2 := next_ok o os.waits dk en
        refine do_if (ist_and (ist_B (is_notN (d := dS s2) (is_var rfl))) fun _ => ist_not (ist_B (c_Heights_covers o o2 ro hn rfl (isA_cons (is_var rfl) isA_nil)))) (fun e => ?_) fun e => do_next ⟨_, ⟨rfl, ?_⟩, rfl, rfl, rfl, True.intro⟩
        · refine do_retS is_bl fun d' hd' => ⟨_, _, _, rfl, ?_, rfl⟩
          have e : (!covB rs s2) = true := e
          rw [hd', hr, runB, en]
          simp only [nt e, Bool.false_and]
        · have e : (!covB rs s2) = false := e
          rw [hr, runB, en]
          simp only [nf e, Bool.true_and]
    · rintro ρ1 ⟨rfl, hr⟩
      rw [List.drop_length] at hr
      exact do_retS is_bl fun d' hd' => ⟨_, _, _, rfl, by rw [hd', hr]; rfl, rfl⟩
def walkGo (t : Tk) : Rows → List Sd → Option Rows
  | rs, [] => some rs
  | rs, x :: xs => if runsB t rs x = true then walkGo t (addR rs x) xs else none
def walkB (t : Tk) (s : Sd) (ss : List Sd) : Bool := match walkGo t [] ss with
  | none => false
  | some rs => covB rs s
def A_walk_holds (ds : List PyData) (R : PyData → Prop) : Prop := ∃ (t : Tk) (s : Sd) (ss : List Sd), ds = [dT t, dS s, .tuple (ss.map dS)] ∧ (TaskOk t ∧ StandOk t s ∧ (∀ x ∈ ss, StandOk t x) ∧ ss.length ≤ 4000) ∧ R = fun x => x = .bool (walkB t s ss)
def sp_walk_holds : Sp := spD A_walk_holds
theorem ln_walk_holds : ∀ ds R, A_walk_holds ds R → ds.length = 3 := fun ds R ⟨_, _, _, h, _⟩ => by rw [h]; rfl
theorem c_walk_holds {tx : TA} {ρ : List Ent} {t : Tk} {s : Sd} {ss : List Sd} (o : TaskOk t) (os : StandOk t s) (oa : ∀ x ∈ ss, StandOk t x) (hl : ss.length ≤ 4000) (ha : IsA tx ρ [dT t, dS s, .tuple (ss.map dS)]) : Is (tCall sp_walk_holds [] E0 tx) ρ (.bool (walkB t s ss)) := isP_call ha ⟨t, s, ss, rfl, ⟨o, os, oa, hl⟩, rfl⟩
theorem ok_walk_holds {P : Program} {w : World} {K : PySem.W.Frag} {mg : Str → Option Value} {base : Heap} {f : Addr} {fd : FuncData} (F : FnP K "walk_holds" "walk_holds" s_walk_holds f fd) (md : Md mg) {C : Addr} (oc : OcH K C) {f_Heights_init : Addr} {fd_Heights_init : FuncData} (h_Heights_init : HasI P w K mg base C 1 "Heights" ["self"] (sp_Heights_init P w C) f_Heights_init fd_Heights_init) {f_runs_out : Addr} {fd_runs_out : FuncData} (h_runs_out : Has P w K mg base 4 "runs_out" ["task", "stand", "heights"] (sp_runs_out P w C) f_runs_out fd_runs_out) {f_Heights_add : Addr} {fd_Heights_add : FuncData} (h_Heights_add : HasM P w K mg base C 3 "add" ["self", "stand"] (sp_Heights_add P w C) f_Heights_add fd_Heights_add) {f_Heights_covers : Addr} {fd_Heights_covers : FuncData} (h_Heights_covers : HasM P w K mg base C 2 "covers" ["self", "stand"] (sp_Heights_covers P w C) f_Heights_covers fd_Heights_covers) : FnOk P w K mg base CX0 5 f fd ["task", "stand", "stands"] sp_walk_holds := by
  refine FunD.ok F sc_walk_holds (fun vs H Q E h => len_D (fun ds R hA => ?_) h) (fun cdv A outer s H vs Q E hr h => ?_)
  · exact ln_walk_holds ds R hA
  · have nd := sc_walk_holds.nd
    refine ⟨_, PSs.nox (pss_cons (ps_set (i := 3) nd rfl (by first | exact Or.inl rfl | exact Or.inr rfl) (pe_make0 h_Heights_init.mkc h_Heights_init.ok (hr.mono (by decide)) rfl h_Heights_init.hm h_Heights_init.b .nil pass0))
    (pss_cons (ps_for PassesOwn.never rfl (k_pt K (pv 2)) (pg_name (i := 4) nd rfl (by first | exact Or.inl rfl | exact Or.inr rfl))
    (pss_cons (ps_if (pt_not (pt_val (pe_call h_runs_out.ok (hr.mono (by decide)) rfl h_runs_out.g h_runs_out.kp h_runs_out.b .nil pass0 (pa_cons (pv 0) (pa_cons (pv 4) (pa_cons (pv 3) pa_nil))))))
    (pss_one (ps_ret pe_bl))
    pss_nil)
    (pss_one (ps_expr (pe_meth (pv 3) oc.cl h_Heights_add.m h_Heights_add.ok (hr.mono (by decide)) h_Heights_add.b .nil pass0 (pa_cons (pv 4) pa_nil))))))
    (pss_one (ps_ret (pe_meth (pv 3) oc.cl h_Heights_covers.m h_Heights_covers.ok (hr.mono (by decide)) h_Heights_covers.b .nil pass0 (pa_cons (pv 1) pa_nil)))))), run_D h fun ds R hA => ?_⟩
    obtain ⟨t, s, ss, rfl, ⟨o, os, oa, hl⟩, rfl⟩ := hA
    refine do_seq (do_make (P := P) (w := w) (C := C) (ds := []) (A := A_Heights_init P w C) (Y' := fun p d e => d = .none ∧ ∃ l, e = hgE P w C p l []) isA_nil (fun p => ⟨p, rfl, rfl⟩) (fun p d u F' R' ⟨h1, l, h2⟩ => ⟨h1, by injection h2⟩) fun p e ⟨_, l, he⟩ => ?_)
    subst he
    refine do_seq (do_forTm (xs := ss) (enc := dS) (I := fun k ρ => ∃ rs, ρ = [.dat (dT t), .dat (dS s), .dat (.tuple (ss.map dS)), hgE P w C p l rs, .no] ∧ RowsOk t k rs ∧ walkGo t [] ss = walkGo t rs (ss.drop k)) (is_var rfl) (fun x => tg_name) ⟨_, ⟨[], rfl, ⟨(fun e he => by cases he), (fun e he => by cases he), Nat.zero_le _⟩, rfl⟩, Le.refl _⟩ ?_ ?_)
    · rintro k x ρ1 hx ⟨rs, rfl, ro, hr⟩
      have ox := oa x (List.mem_of_getElem? hx)
      have kl := (List.getElem?_eq_some_iff.mp hx).1
      rw [drop_at hx, walkGo] at hr
      refine do_seq (do_ifX (xt_not (c_runs_out (i := 3) o ox ro (by omega) rfl (isAX_cons (is_var rfl) (isAX_cons (is_var rfl) (isAX_ent (i := 3) rfl isAX_nil))))) (fun ρ' ⟨h1, h2⟩ => ?_) fun ρ' ⟨h1, h2⟩ => do_next ?_)
      · subst h2
        refine do_retD is_bl ?_
        show PyData.bool false = .bool (walkB t s ss)
        rw [if_neg (by rw [nt h1.symm]; exact fun z => by cases z)] at hr
        rw [walkB, hr]
      · subst h2
        rw [if_pos (nf h1.symm)] at hr
        exact do_dropX (c_Heights_add (i := 3) o ox ro (by omega) rfl (isA_cons (is_var rfl) isA_nil)) fun d ρ' h => ⟨_, ⟨addR rs x, rfl, addR_ok ro ox, hr⟩, by rw [h]; exact ⟨rfl, rfl, rfl, rfl, True.intro⟩⟩
    · rintro ρ1 ⟨rs, rfl, ro, hr⟩
      rw [List.drop_length] at hr
      refine do_retD (c_Heights_covers (i := 3) o os ro (by omega) rfl (isA_cons (is_var rfl) isA_nil)) ?_
      show PyData.bool _ = .bool (walkB t s ss)
      rw [walkB, hr]; rfl
def ansB (t : Tk) (s : Sd) : Ans → Bool
  | .on l r => onHolds t s l r
  | .count d p => decide (roomOf t d p < needOf t d)
  | .walk ss => walkB t s ss
def A_answer_holds (ds : List PyData) (R : PyData → Prop) : Prop := ∃ (t : Tk) (s : Sd) (a : Ans), ds = [dT t, dS s, dA a] ∧ (TaskOk t ∧ StandOk t s ∧ AnsOk t a) ∧ R = fun x => x = .bool (ansB t s a)
def sp_answer_holds : Sp := spD A_answer_holds
theorem ln_answer_holds : ∀ ds R, A_answer_holds ds R → ds.length = 3 := fun ds R ⟨_, _, _, h, _⟩ => by rw [h]; rfl
theorem c_answer_holds {tx : TA} {ρ : List Ent} {t : Tk} {s : Sd} {a : Ans} (o : TaskOk t) (os : StandOk t s) (oa : AnsOk t a) (ha : IsA tx ρ [dT t, dS s, dA a]) : Is (tCall sp_answer_holds [] E0 tx) ρ (.bool (ansB t s a)) := isP_call ha ⟨t, s, a, rfl, ⟨o, os, oa⟩, rfl⟩
theorem ok_answer_holds {P : Program} {w : World} {K : PySem.W.Frag} {mg : Str → Option Value} {base : Heap} {f : Addr} {fd : FuncData} (F : FnP K "answer_holds" "answer_holds" s_answer_holds f fd) (md : Md mg) {f_on_holds : Addr} {fd_on_holds : FuncData} (h_on_holds : Has P w K mg base 4 "on_holds" ["task", "stand", "lead", "ring"] sp_on_holds f_on_holds fd_on_holds) {f_count_holds : Addr} {fd_count_holds : FuncData} (h_count_holds : Has P w K mg base 2 "count_holds" ["task", "days", "phase"] sp_count_holds f_count_holds fd_count_holds) {f_walk_holds : Addr} {fd_walk_holds : FuncData} (h_walk_holds : Has P w K mg base 5 "walk_holds" ["task", "stand", "stands"] sp_walk_holds f_walk_holds fd_walk_holds) : FnOk P w K mg base CX0 6 f fd ["task", "stand", "answer"] sp_answer_holds := by
  refine FunD.ok F sc_answer_holds (fun vs H Q E h => len_D (fun ds R hA => ?_) h) (fun cdv A outer s H vs Q E hr h => ?_)
  · exact ln_answer_holds ds R hA
  · have nd := sc_answer_holds.nd
    refine ⟨_, PSs.nox (pss_cons (ps_if (pt_cmpR op_eq (pe_ix (kx_T K) (pv 2) pe_int (fun _ _ => rfl)) pe_str (nomark _))
    (pss_one (ps_ret (pe_call h_on_holds.ok (hr.mono (by decide)) rfl h_on_holds.g h_on_holds.kp h_on_holds.b .nil pass0 (pa_cons (pv 0) (pa_cons (pv 1) (pa_cons (pe_ix (kx_T K) (pv 2) pe_int (fun _ _ => rfl)) (pa_cons (pe_ix (kx_T K) (pv 2) pe_int (fun _ _ => rfl)) pa_nil)))))))
    pss_nil)
    (pss_cons (ps_if (pt_cmpR op_eq (pe_ix (kx_T K) (pv 2) pe_int (fun _ _ => rfl)) pe_str (nomark _))
    (pss_one (ps_ret (pe_call h_count_holds.ok (hr.mono (by decide)) rfl h_count_holds.g h_count_holds.kp h_count_holds.b .nil pass0 (pa_cons (pv 0) (pa_cons (pe_ix (kx_T K) (pv 2) pe_int (fun _ _ => rfl)) (pa_cons (pe_ix (kx_T K) (pv 2) pe_int (fun _ _ => rfl)) pa_nil))))))
    pss_nil)
    (pss_one (ps_ret (pe_call h_walk_holds.ok (hr.mono (by decide)) rfl h_walk_holds.g h_walk_holds.kp h_walk_holds.b .nil pass0 (pa_cons (pv 0) (pa_cons (pv 1) (pa_cons (pe_ix (kx_T K) (pv 2) pe_int (fun _ _ => rfl)) pa_nil)))))))), run_D h fun ds R hA => ?_⟩
    obtain ⟨t, s, a, rfl, ⟨o, os, oa⟩, rfl⟩ := hA
    cases a with
    | on l r =>
      refine do_when (b := true) (IsB.to (ist_test (is_eqS (x := "on") (y := "on") (is_ixT (n := 0) (is_var rfl) is_int rfl rfl) is_str)) (decide_eq_true rfl)) (fun _ => ?_) fun e => by cases e
      exact do_retD (c_on_holds o os oa.1 oa.2.1 (isA_cons (is_var rfl) (isA_cons (is_var rfl) (isA_cons (is_ixT (n := 1) (is_var rfl) is_int rfl rfl) (isA_cons (is_ixT (n := 2) (is_var rfl) is_int rfl rfl) isA_nil))))) rfl
    | count d p =>
      refine do_when (b := false) (IsB.to (ist_test (is_eqS (x := "count") (y := "on") (is_ixT (n := 0) (is_var rfl) is_int rfl rfl) is_str)) count_on) (fun e => by cases e) fun _ => ?_
      refine do_when (b := true) (IsB.to (ist_test (is_eqS (x := "count") (y := "count") (is_ixT (n := 0) (is_var rfl) is_int rfl rfl) is_str)) (decide_eq_true rfl)) (fun _ => ?_) fun e => by cases e
      exact do_retD (c_count_holds o (isA_cons (is_var rfl) (isA_cons (is_ixT (n := 1) (is_var rfl) is_int rfl rfl) (isA_cons (is_ixT (n := 2) (is_var rfl) is_int rfl rfl) isA_nil)))) rfl
    | walk ss =>
      refine do_when (b := false) (IsB.to (ist_test (is_eqS (x := "walk") (y := "on") (is_ixT (n := 0) (is_var rfl) is_int rfl rfl) is_str)) walk_on) (fun e => by cases e) fun _ => ?_
      refine do_when (b := false) (IsB.to (ist_test (is_eqS (x := "walk") (y := "count") (is_ixT (n := 0) (is_var rfl) is_int rfl rfl) is_str)) walk_count) (fun e => by cases e) fun _ => ?_
      exact do_retD (c_walk_holds o os oa.2.2 oa.2.1 (isA_cons (is_var rfl) (isA_cons (is_var rfl) (isA_cons (is_ixT (n := 1) (is_var rfl) is_int rfl rfl) isA_nil)))) rfl
def A_holds (ds : List PyData) (R : PyData → Prop) : Prop := ∃ (t : Tk) (s : Sd) (a : Ans), ds = [dT t, dS s, dA a] ∧ (TaskOk t ∧ StandOk t s ∧ AnsOk t a) ∧ R = fun x => x = .bool (ansB t s a)
def sp_holds : Sp := spD A_holds
theorem ln_holds : ∀ ds R, A_holds ds R → ds.length = 3 := fun ds R ⟨_, _, _, h, _⟩ => by rw [h]; rfl
theorem c_holds {tx : TA} {ρ : List Ent} {t : Tk} {s : Sd} {a : Ans} (o : TaskOk t) (os : StandOk t s) (oa : AnsOk t a) (ha : IsA tx ρ [dT t, dS s, dA a]) : Is (tCall sp_holds [] E0 tx) ρ (.bool (ansB t s a)) := isP_call ha ⟨t, s, a, rfl, ⟨o, os, oa⟩, rfl⟩
theorem dA_tup (a : Ans) : ∃ ds, dA a = .tuple ds := by cases a <;> exact ⟨_, rfl⟩
theorem ok_holds {P : Program} {w : World} {K : PySem.W.Frag} {mg : Str → Option Value} {base : Heap} {f : Addr} {fd : FuncData} (F : FnP K "holds" "holds" s_holds f fd) (md : Md mg) {f_asked_task : Addr} {fd_asked_task : FuncData} (h_asked_task : Has P w K mg base 11 "asked_task" ["thing"] sp_asked_task f_asked_task fd_asked_task) {f_asked_stand : Addr} {fd_asked_stand : FuncData} (h_asked_stand : Has P w K mg base 9 "asked_stand" ["task", "thing"] sp_asked_stand f_asked_stand fd_asked_stand) {f_asked_answer : Addr} {fd_asked_answer : FuncData} (h_asked_answer : Has P w K mg base 9 "asked_answer" ["task", "thing"] sp_asked_answer f_asked_answer fd_asked_answer) {f_answer_holds : Addr} {fd_answer_holds : FuncData} (h_answer_holds : Has P w K mg base 6 "answer_holds" ["task", "stand", "answer"] sp_answer_holds f_answer_holds fd_answer_holds) : FnOk P w K mg base CX0 12 f fd ["task", "stand", "answer"] sp_holds := by
  refine FunD.ok F sc_holds (fun vs H Q E h => len_D (fun ds R hA => ?_) h) (fun cdv A outer s H vs Q E hr h => ?_)
  · exact ln_holds ds R hA
  · have nd := sc_holds.nd
    refine ⟨_, PSs.nox (pss_cons (ps_set (i := 0) nd rfl (by first | exact Or.inl rfl | exact Or.inr rfl) (pe_call h_asked_task.ok (hr.mono (by decide)) rfl h_asked_task.g h_asked_task.kp h_asked_task.b .nil pass0 (pa_cons (pv 0) pa_nil)))
    (pss_cons (ps_set (i := 1) nd rfl (by first | exact Or.inl rfl | exact Or.inr rfl) (pe_call h_asked_stand.ok (hr.mono (by decide)) rfl h_asked_stand.g h_asked_stand.kp h_asked_stand.b .nil pass0 (pa_cons (pv 0) (pa_cons (pv 1) pa_nil))))
    (pss_cons (ps_set (i := 3) nd rfl (by first | exact Or.inl rfl | exact Or.inr rfl) (pe_call h_asked_answer.ok (hr.mono (by decide)) rfl h_asked_answer.g h_asked_answer.kp h_asked_answer.b .nil pass0 (pa_cons (pv 0) (pa_cons (pv 2) pa_nil))))
    (pss_one (ps_ret (pe_and (pe_cmp (pc_notN (pv 3)) rfl) (pe_one (pe_call h_answer_holds.ok (hr.mono (by decide)) rfl h_answer_holds.g h_answer_holds.kp h_answer_holds.b .nil pass0 (pa_cons (pv 0) (pa_cons (pv 1) (pa_cons (pv 3) pa_nil))))))))))), run_D h fun ds R hA => ?_⟩
    obtain ⟨t, s, a, rfl, ⟨o, os, oa⟩, rfl⟩ := hA
    refine do_let (c_asked_task o (isA_cons (is_var rfl) isA_nil)) ?_
    refine do_let (c_asked_stand o os (isA_cons (is_var rfl) (isA_cons (is_var rfl) isA_nil))) ?_
    refine do_let (c_asked_answer o oa (isA_cons (is_var rfl) (isA_cons (is_var rfl) isA_nil))) ?_
    refine do_retD (is_andV (x := true) (Is.to (is_notN (is_var rfl)) ?_) fun _ => c_answer_holds o os oa (isA_cons (is_var rfl) (isA_cons (is_var rfl) (isA_cons (is_var rfl) isA_nil)))) rfl
    obtain ⟨ds, h⟩ := dA_tup a
    rw [h]
end W36
end
section
set_option Elab.async false
set_option linter.all false
set_option maxRecDepth 100000
set_option maxHeartbeats 4000000
/-! The object Walk. -/
namespace W36
open PySem L2 Evl
section
variable {P : Program} {w : World} {ρ : List Ent} {i : Nat} {C p : Addr} {fs : List (Str × Comp)} {n : Str} {K : PySem.W.Frag} {tk tv : TE} {k d : PyData} {Z : Out → Prop}
/-- self.f = {k: v} -/
theorem do_fnewC1 (he : ρ[i]? = some (obE P w C p fs)) (fl : Fl K C n) (hn : fs.lookup n = none) (hz : fs.length < 1000) (hk : Is tk ρ k) (ok : KOk k) (hv : Is tv ρ d) (q : ∀ l, Z (.nx (ρ.set i (obE P w C p (fs ++ [(n, .dic l [(k, d)])]))))) : Do (sFld K (tVar i) (tNDisp1 P w tk tv) n) ρ Z := fun D σ G H E qq => by
  intro l hl
  have n1 : Nx σ ρ G H G (upd H l (NdO P w l [])) := Nx.newH E hl
  refine hk σ G _ n1.e _ fun y k' G1 H1 ek n2 hy => hv σ G1 H1 n2.e _ fun v d' G2 H2 ed n3 hv2 => ?_
  subst ek ed
  obtain ⟨b, rfl⟩ := ref_of ok hy
  have nS : ¬ Sdr ρ σ l := fun z => (E.not_sdr z).2 hl
  have nO : ¬ Own ρ σ l := fun z => (E.not_own z).2 hl
  have h2 : H2 l = some (NdO P w l []) := n3.at nS (n2.at nS upd_same)
  have n4 := (n1.trans n2).trans n3
  have gl : G2 l = none := n3.w.n l (n2.w.n l (ex_none E.ex hl) (by rw [upd_same]; exact fun z => by cases z)) (ex_not (n2.at nS upd_same))
  refine ⟨b, _, v, rfl, key_B n4.e.ex ok (hy.up n3.w.g), h2, ?_⟩
  have n5 : Nx σ ρ G H G2 (upd H2 l (NdO P w l (putN [] (keyOf k') b v))) := ⟨n4.w.put2 hl gl, n4.e.put gl nO⟩
  obtain ⟨h1, ⟨⟨dx, h2'⟩, h3, h4⟩, h5, h6⟩ := n5.e.spc i _ _ _ he
  refine ⟨_, h1, p, C, dx, _, rfl, h2', fl.c, fl.n, by unfold vals; rw [List.length_map]; exact hz, ?_⟩
  refine qq _ (q l) σ G2 _ (Sx.fnew (c := .dic l [(k', d')]) E n5 he hn rfl (List.nodup_cons.mpr ⟨List.not_mem_nil, List.nodup_nil⟩) (fun b z => by rw [show b = l from List.mem_singleton.mp z]; exact ⟨hl, gl, by rw [upd_same]; exact fun z => by cases z⟩) h2' ⟨_, upd_same, .cons ⟨rfl, ok, hy.up n3.w.g, hv2⟩ .nil⟩)
end
/-! ### the state -/
structure Wk where
  way : List Sd
  ch : List (List (List Int))
  taken : List (List Int)
  over : List Sd
structure WA where
  v : V
  lw : Addr
  lc : Addr
  cs : List Addr
  lt : Addr
  lp : Addr
  lo : Addr
def placesK (way : List Sd) : DKV := way.zipIdx.map fun e => (dS e.1, .int (e.2 : Int))
def overK (over : List Sd) : DKV := over.map fun s => (dS s, .bool true)
abbrev wkE (P : Program) (w : World) (C p : Addr) (t : Tk) (A : WA) (k : Wk) : Ent := obE P w C p [("of", .dat A.v (dT t)), ("way", .lst A.lw (k.way.map dS)), ("choices", .lls A.lc A.cs (k.ch.map fun c => c.map tI)), ("taken", .lst A.lt (k.taken.map tI)), ("places", .dic A.lp (placesK k.way)), ("over", .dic A.lo (overK k.over))]
theorem keyS (a b : Sd) : (keyOf (dS a) = keyOf (dS b)) = (a = b) := propext ⟨kS_inj a b, fun h => by rw [h]⟩
theorem lk_over (over : List Sd) (s : Sd) : (lkD (overK over) (dS s)).isSome = decide (s ∈ over) := by
  unfold lkD overK
  rw [Option.isSome_map]
  induction over with
  | nil => rfl
  | cons x xs ih =>
    rw [List.map_cons, List.find?_cons]
    simp only [keyS]
    by_cases h : x = s
    · subst h; simp
    · have h' : ¬ s = x := fun z => h z.symm
      simp only [h, decide_false]
      rw [ih]
      simp [h']
theorem lk_zip (s : Sd) : ∀ (way : List Sd) (a : Nat), lkD ((way.zipIdx a).map fun e => (dS e.1, PyData.int (e.2 : Int))) (dS s) = if s ∈ way then some (.int ((a + way.idxOf s : Nat) : Int)) else none
  | [], a => rfl
  | x :: way, a => by
    have ih := lk_zip s way (a + 1)
    rw [List.zipIdx_cons, List.map_cons]
    unfold lkD at ih ⊢
    rw [List.find?_cons]
    simp only [keyS] at ih ⊢
    by_cases h : x = s
    · subst h; simp
    · have h' : ¬ s = x := fun z => h z.symm
      simp only [h, decide_false]
      rw [ih]
      by_cases m : s ∈ way
      · rw [if_pos m, if_pos (List.mem_cons_of_mem _ m), List.idxOf_cons]
        have : (x == s) = false := by simpa using h
        rw [this]
        simp only [cond_false]
        congr 3
        omega
      · rw [if_neg m, if_neg (by simp [h', m])]
theorem lk_places (way : List Sd) (s : Sd) : lkD (placesK way) (dS s) = if s ∈ way then some (.int (way.idxOf s : Int)) else none := by
  have := lk_zip s way 0
  rw [Nat.zero_add] at this
  exact this
theorem places_push {way : List Sd} {s : Sd} (h : ¬ s ∈ way) : ptD (placesK way) (dS s) (.int (way.length : Int)) = placesK (way ++ [s]) := by
  unfold ptD
  rw [lk_places, if_neg h]
  unfold placesK
  rw [if_neg (by simp), List.zipIdx_append, List.map_append]
  simp
theorem places_pop {way : List Sd} {s : Sd} (h : ¬ s ∈ way) : drD (placesK (way ++ [s])) (dS s) = placesK way := by
  unfold drD placesK
  rw [List.zipIdx_append, List.map_append, List.filter_append]
  have e1 : (List.map (fun e : Sd × Nat => (dS e.1, PyData.int (e.2 : Int))) way.zipIdx).filter (fun p => decide (keyOf p.1 ≠ keyOf (dS s))) = List.map (fun e : Sd × Nat => (dS e.1, PyData.int (e.2 : Int))) way.zipIdx := by
    refine List.filter_eq_self.mpr fun x hx => ?_
    obtain ⟨e, he, rfl⟩ := List.mem_map.mp hx
    refine decide_eq_true fun z => h ?_
    have z' : e.1 = s := kS_inj _ _ z
    rw [← z']
    obtain ⟨e1, e2⟩ := e
    have := List.mem_zipIdx' he
    rw [this.2]
    exact List.getElem_mem _
  rw [e1]
  simp
theorem over_push {over : List Sd} {s : Sd} (h : ¬ s ∈ over) : ptD (overK over) (dS s) (.bool true) = overK (over ++ [s]) := by
  unfold ptD
  rw [lk_over]
  rw [if_neg (by simp [h])]
  unfold overK
  rw [List.map_append]; rfl
theorem over_len (over : List Sd) : (overK over).length = over.length := List.length_map ..
theorem places_len (way : List Sd) : (placesK way).length = way.length := by unfold placesK; rw [List.length_map, List.length_zipIdx]
end W36
end
section
set_option Elab.async false
set_option linter.all false
set_option maxRecDepth 100000
set_option maxHeartbeats 4000000
namespace W36
open PySem L2 Evl
def A_Walk_init (P : Program) (w : World) (C : Addr) (es : List Ent) (Y : PyData → Ent → Prop) : Prop := ∃ p t s, es = [obE P w C p [], .dat (dT t), .dat (dS s)] ∧ (TaskOk t ∧ StandOk t s) ∧ Y = fun d e => d = .none ∧ ∃ A, e = wkE P w C p t A ⟨[s], [laterDays t s], [], []⟩
def sp_Walk_init (P : Program) (w : World) (C : Addr) : Sp := spX 0 (A_Walk_init P w C)
theorem ln_Walk_init {P : Program} {w : World} {C : Addr} : ∀ es Y, A_Walk_init P w C es Y → es.length = 3 := fun es Y ⟨_, _, _, h, _⟩ => by rw [h]; rfl
theorem lookup_no {n : Str} : ∀ {fs : List (Str × Comp)}, (fs.map (·.1)).contains n = false → fs.lookup n = none
  | [], _ => rfl
  | (a, c) :: fs, h => by
    rw [List.map_cons, List.contains_cons, Bool.or_eq_false_iff] at h
    rw [List.lookup_cons, h.1]
    exact lookup_no h.2
theorem ok_Walk_init {P : Program} {w : World} {K : PySem.W.Frag} {mg : Str → Option Value} {base : Heap} {f : Addr} {fd : FuncData} (F : FnP K "__init__" "Walk.__init__" s_Walk_init f fd) (md : Md mg) {C : Addr} (oc : OcW K C) {f_later_days : Addr} {fd_later_days : FuncData} (h_later_days : Has P w K mg base 3 "later_days" ["task", "stand"] sp_later_days f_later_days fd_later_days) : FnOk P w K mg base CX0 4 f fd ["self", "task", "stand"] (sp_Walk_init P w C) := by
  refine FunD.ok F sc_Walk_init (fun vs H Q E h => len_X (fun ds R hA => ?_) h) (fun cdv A outer s H vs Q E hr h => ?_)
  · exact ln_Walk_init ds R hA
  · have nd := sc_Walk_init.nd
    refine ⟨_, PSs.nox (pss_cons (ps_fld (pv 0) (pv 1) rfl)
    (pss_cons (ps_fld (pv 0) (pe_lst (pa_cons (pv 2) pa_nil)) rfl)
    (pss_cons (ps_fld (pv 0) (pe_lst (pa_cons (pe_call h_later_days.ok (hr.mono (by decide)) rfl h_later_days.g h_later_days.kp h_later_days.b .nil pass0 (pa_cons (pv 1) (pa_cons (pv 2) pa_nil))) pa_nil)) rfl)
    (pss_cons (ps_fld (pv 0) (pe_lst pa_nil) rfl)
    (pss_cons (ps_fld (pv 0) (pe_ndisp1 (hu65 hr) (pv 2) pe_int) rfl)
    (pss_one (ps_fld (pv 0) pe_nnew rfl))))))), run_X h fun ds R hA => ?_⟩
    obtain ⟨p, t, s, rfl, ⟨o, os⟩, rfl⟩ := hA
    refine do_seq (do_fnewD (i := 0) (fs := []) rfl ⟨oc.cl, oc.of⟩ rfl (by decide) (is_var rfl) fun v => ?_)
    refine do_seq (do_fnewL (i := 0) (fs := [("of", .dat v (dT t))]) rfl ⟨oc.cl, oc.way⟩ (lookup_no (show (["of"] : List Str).contains "way" = false by decide +kernel)) (Nat.le_of_ble_eq_true rfl) (isN_lst (isA_cons (is_var rfl) isA_nil)) fun lw => ?_)
    refine do_seq (do_fnewLL (i := 0) (fs := [("of", .dat v (dT t)), ("way", .lst lw [dS s])]) rfl ⟨oc.cl, oc.choices⟩ (lookup_no (show (["of", "way"] : List Str).contains "choices" = false by decide +kernel)) (Nat.le_of_ble_eq_true rfl) (c_later_days o os (isA_cons (is_var rfl) (isA_cons (is_var rfl) isA_nil))) fun lc ca => ?_)
    refine do_seq (do_fnewL (i := 0) (fs := [("of", .dat v (dT t)), ("way", .lst lw [dS s]), ("choices", .lls lc [ca] [(laterDays t s).map tI])]) rfl ⟨oc.cl, oc.taken⟩ (lookup_no (show (["of", "way", "choices"] : List Str).contains "taken" = false by decide +kernel)) (Nat.le_of_ble_eq_true rfl) (isN_lst isA_nil) fun lt => ?_)
    refine do_seq (do_fnewC1 (i := 0) (fs := [("of", .dat v (dT t)), ("way", .lst lw [dS s]), ("choices", .lls lc [ca] [(laterDays t s).map tI]), ("taken", .lst lt [])]) rfl ⟨oc.cl, oc.places⟩ (lookup_no (show (["of", "way", "choices", "taken"] : List Str).contains "places" = false by decide +kernel)) (Nat.le_of_ble_eq_true rfl) (is_var rfl) (kok_dS s) is_int fun lp => ?_)
    exact do_fnewC (i := 0) (fs := [("of", .dat v (dT t)), ("way", .lst lw [dS s]), ("choices", .lls lc [ca] [(laterDays t s).map tI]), ("taken", .lst lt []), ("places", .dic lp [(dS s, .int 0)])]) rfl ⟨oc.cl, oc.over⟩ (lookup_no (show (["of", "way", "choices", "taken", "places"] : List Str).contains "over" = false by decide +kernel)) (Nat.le_of_ble_eq_true rfl) fun lo => ⟨_, _, _, rfl, rfl, ⟨v, lw, lc, [ca], lt, lp, lo⟩, rfl⟩
section
variable {v : V} {d : PyData} {ds es : List PyData} {lw lc lt lp lo : Addr} {cs : List Addr} {dss : List (List PyData)} {k1 k2 : DKV} {n : Str}
abbrev wF (v : V) (d : PyData) (lw : Addr) (ds : List PyData) (lc : Addr) (cs : List Addr) (dss : List (List PyData)) (lt : Addr) (es : List PyData) (lp : Addr) (k1 : DKV) (lo : Addr) (k2 : DKV) : List (Str × Comp) := [("of", .dat v d), ("way", .lst lw ds), ("choices", .lls lc cs dss), ("taken", .lst lt es), ("places", .dic lp k1), ("over", .dic lo k2)]
theorem lk_of : (wF v d lw ds lc cs dss lt es lp k1 lo k2).lookup ("of" : Str) = some (.dat v d) := rfl
theorem lk_way : (wF v d lw ds lc cs dss lt es lp k1 lo k2).lookup ("way" : Str) = some (.lst lw ds) := by
  rw [List.lookup_cons, show (("way" : Str) == "of") = false by decide +kernel]; rfl
theorem lk_choices : (wF v d lw ds lc cs dss lt es lp k1 lo k2).lookup ("choices" : Str) = some (.lls lc cs dss) := by
  rw [List.lookup_cons, show (("choices" : Str) == "of") = false by decide +kernel, List.lookup_cons, show (("choices" : Str) == "way") = false by decide +kernel]; rfl
theorem lk_taken : (wF v d lw ds lc cs dss lt es lp k1 lo k2).lookup ("taken" : Str) = some (.lst lt es) := by
  rw [List.lookup_cons, show (("taken" : Str) == "of") = false by decide +kernel, List.lookup_cons, show (("taken" : Str) == "way") = false by decide +kernel, List.lookup_cons, show (("taken" : Str) == "choices") = false by decide +kernel]; rfl
theorem lk_plc : (wF v d lw ds lc cs dss lt es lp k1 lo k2).lookup ("places" : Str) = some (.dic lp k1) := by
  rw [List.lookup_cons, show (("places" : Str) == "of") = false by decide +kernel, List.lookup_cons, show (("places" : Str) == "way") = false by decide +kernel, List.lookup_cons, show (("places" : Str) == "choices") = false by decide +kernel, List.lookup_cons, show (("places" : Str) == "taken") = false by decide +kernel]; rfl
theorem lk_ov : (wF v d lw ds lc cs dss lt es lp k1 lo k2).lookup ("over" : Str) = some (.dic lo k2) := by
  rw [List.lookup_cons, show (("over" : Str) == "of") = false by decide +kernel, List.lookup_cons, show (("over" : Str) == "way") = false by decide +kernel, List.lookup_cons, show (("over" : Str) == "choices") = false by decide +kernel, List.lookup_cons, show (("over" : Str) == "taken") = false by decide +kernel, List.lookup_cons, show (("over" : Str) == "places") = false by decide +kernel]; rfl
theorem lk_no (h : (["of", "way", "choices", "taken", "places", "over"] : List Str).contains n = false) : (vals (wF v d lw ds lc cs dss lt es lp k1 lo k2)).lookup n = none := by
  rw [lookup_vals, lookup_no (fs := wF v d lw ds lc cs dss lt es lp k1 lo k2) h]; rfl
end
def goOn (t : Tk) (k : Wk) (d : List Int) (s : Sd) : Wk := ⟨k.way ++ [s], k.ch ++ [laterDays t s], k.taken ++ [d], k.over⟩
structure Few (k : Wk) : Prop where
  w : k.way.length ≤ 1000
  c : k.ch.length ≤ 1000
  t : k.taken.length ≤ 1000
  o : k.over.length ≤ 1000
def A_Walk_go_on (P : Program) (w : World) (C : Addr) (es : List Ent) (Y : PyData → Ent → Prop) : Prop := ∃ p t A k d s, es = [wkE P w C p t A k, .dat (tI d), .dat (dS s)] ∧ (TaskOk t ∧ StandOk t s ∧ ¬ s ∈ k.way ∧ Few k) ∧ Y = fun r e => r = .none ∧ ∃ A, e = wkE P w C p t A (goOn t k d s)
def sp_Walk_go_on (P : Program) (w : World) (C : Addr) : Sp := spX 0 (A_Walk_go_on P w C)
theorem ln_Walk_go_on {P : Program} {w : World} {C : Addr} : ∀ es Y, A_Walk_go_on P w C es Y → es.length = 3 := fun es Y ⟨_, _, _, _, _, _, h, _⟩ => by rw [h]; rfl
theorem c_Walk_go_on {P : Program} {w : World} {C p : Addr} {ρ : List Ent} {i : Nat} {tx : TA} {t : Tk} {A : WA} {k : Wk} {d : List Int} {s : Sd} (o : TaskOk t) (os : StandOk t s) (ns : ¬ s ∈ k.way) (fw : Few k) (he : ρ[i]? = some (wkE P w C p t A k)) (ha : IsA tx ρ [tI d, dS s]) : XP (tMeth C "go_on" (sp_Walk_go_on P w C) [] E0 (tVar i) tx) ρ (fun _ ρ' => ∃ A, ρ' = ρ.set i (wkE P w C p t A (goOn t k d s))) :=
  XP.mono (xp_meth he (lk_no (by decide +kernel)) ha ⟨p, t, A, k, d, s, rfl, ⟨o, os, ns, fw⟩, rfl⟩ (fun d u F' R' ⟨_, A, y⟩ => by injection y)) fun d ρ' ⟨e, ⟨_, A, h1⟩, h2⟩ => ⟨A, by rw [h2, h1]⟩
theorem ok_Walk_go_on {P : Program} {w : World} {K : PySem.W.Frag} {mg : Str → Option Value} {base : Heap} {f : Addr} {fd : FuncData} (F : FnP K "go_on" "Walk.go_on" s_Walk_go_on f fd) (md : Md mg) {C : Addr} (oc : OcW K C) {f_later_days : Addr} {fd_later_days : FuncData} (h_later_days : Has P w K mg base 3 "later_days" ["task", "stand"] sp_later_days f_later_days fd_later_days) : FnOk P w K mg base CX0 4 f fd ["self", "day", "stand"] (sp_Walk_go_on P w C) := by
  refine FunD.ok F sc_Walk_go_on (fun vs H Q E h => len_X (fun ds R hA => ?_) h) (fun cdv A outer s H vs Q E hr h => ?_)
  · exact ln_Walk_go_on ds R hA
  · have nd := sc_Walk_go_on.nd
    refine ⟨_, PSs.nox (pss_cons (ps_expr (pe_bm PySem.F.plainAttrs_list PySem.F.slot_list_append PySem.F.type_list_append mt_append (pe_fld (pv 0) rfl) (pa_cons (pv 1) pa_nil)))
    (pss_cons (ps_nput (hu65 hr) (pe_fld (pv 0) rfl) (pv 2) (pe_callB (k_len K) (by rfl) md.len PySem.boot_len (pa_cons (pe_fld (pv 0) rfl) pa_nil)) rfl)
    (pss_cons (ps_expr (pe_bm PySem.F.plainAttrs_list PySem.F.slot_list_append PySem.F.type_list_append mt_append (pe_fld (pv 0) rfl) (pa_cons (pv 2) pa_nil)))
    (pss_one (ps_expr (pe_bm PySem.F.plainAttrs_list PySem.F.slot_list_append PySem.F.type_list_append mt_append (pe_fld (pv 0) rfl) (pa_cons (pe_call h_later_days.ok (hr.mono (by decide)) rfl h_later_days.g h_later_days.kp h_later_days.b .nil pass0 (pa_cons (pe_fld (pv 0) rfl) (pa_cons (pv 2) pa_nil))) pa_nil))))))), run_X h fun ds R hA => ?_⟩
    obtain ⟨p, t, A, k, d, s, rfl, ⟨o, os, ns, fw⟩, rfl⟩ := hA
    have fw1 := fw.w
    have fw2 := fw.c
    have fw3 := fw.t
    refine do_dropX1 (xp_fapp (i := 0) (k := 3) rfl ⟨oc.cl, oc.taken⟩ lk_taken rfl (is_var rfl) (by rw [List.length_map]; omega)) fun _ ρ' h => ?_
    subst h
    refine do_seq (do_fput (i := 0) (k := 4) (d := .int (k.way.length : Int)) rfl ⟨oc.cl, oc.places⟩ lk_plc rfl (Is.to (is_lenL (is_fL (i := 0) rfl ⟨oc.cl, oc.way⟩ lk_way)) (by rw [List.length_map])) (is_var rfl) (kok_dS s) (by rw [places_len]; omega) ?_)
    rw [places_push ns]
    refine do_dropX1 (xp_fapp (i := 0) (k := 1) rfl ⟨oc.cl, oc.way⟩ lk_way rfl (is_var rfl) (by rw [List.length_map]; omega)) fun _ ρ' h => ?_
    subst h
    refine do_dropX (xp_llapp (i := 0) (k := 2) rfl ⟨oc.cl, oc.choices⟩ lk_choices rfl (c_later_days o os (isA_cons (is_fD (i := 0) rfl ⟨oc.cl, oc.of⟩ lk_of) (isA_cons (is_var rfl) isA_nil))) (by rw [List.length_map]; omega)) fun _ ρ' ⟨a, h⟩ => ?_
    subst h
    refine ⟨_, _, _, rfl, rfl, ⟨A.v, A.lw, A.lc, A.cs ++ [a], A.lt, A.lp, A.lo⟩, ?_⟩
    show obE P w C p _ = wkE P w C p t _ (goOn t k d s)
    unfold goOn
    simp only [wkE, List.map_append, List.map_cons, List.map_nil]
    rfl
def A_Walk_go_back (P : Program) (w : World) (C : Addr) (es : List Ent) (Y : PyData → Ent → Prop) : Prop := ∃ p t A w0 s c0 c tk ov, es = [wkE P w C p t A ⟨w0 ++ [s], c0 ++ [c], tk, ov⟩] ∧ (¬ s ∈ w0 ∧ ¬ s ∈ ov ∧ ov.length ≤ 1000) ∧ Y = fun r e => r = .none ∧ ∃ A, e = wkE P w C p t A ⟨w0, c0, tk.dropLast, ov ++ [s]⟩
def sp_Walk_go_back (P : Program) (w : World) (C : Addr) : Sp := spX 0 (A_Walk_go_back P w C)
theorem ln_Walk_go_back {P : Program} {w : World} {C : Addr} : ∀ es Y, A_Walk_go_back P w C es Y → es.length = 1 := fun es Y ⟨_, _, _, _, _, _, _, _, _, h, _⟩ => by rw [h]; rfl
theorem c_Walk_go_back {P : Program} {w : World} {C p : Addr} {ρ : List Ent} {i : Nat} {t : Tk} {A : WA} {w0 : List Sd} {s : Sd} {c0 : List (List (List Int))} {c tk : List (List Int)} {ov : List Sd} (n1 : ¬ s ∈ w0) (n2 : ¬ s ∈ ov) (n3 : ov.length ≤ 1000) (he : ρ[i]? = some (wkE P w C p t A ⟨w0 ++ [s], c0 ++ [c], tk, ov⟩)) : XP (tMeth C "go_back" (sp_Walk_go_back P w C) [] E0 (tVar i) tNil) ρ (fun _ ρ' => ∃ A, ρ' = ρ.set i (wkE P w C p t A ⟨w0, c0, tk.dropLast, ov ++ [s]⟩)) :=
  XP.mono (xp_meth (ds := []) he (lk_no (by decide +kernel)) isA_nil ⟨p, t, A, w0, s, c0, c, tk, ov, rfl, ⟨n1, n2, n3⟩, rfl⟩ (fun d u F' R' ⟨_, A, y⟩ => by injection y)) fun d ρ' ⟨e, ⟨_, A, h1⟩, h2⟩ => ⟨A, by rw [h2, h1]⟩
theorem ok_Walk_go_back {P : Program} {w : World} {K : PySem.W.Frag} {mg : Str → Option Value} {base : Heap} {f : Addr} {fd : FuncData} (F : FnP K "go_back" "Walk.go_back" s_Walk_go_back f fd) (md : Md mg) {C : Addr} (oc : OcW K C) : FnOk P w K mg base CX0 1 f fd ["self"] (sp_Walk_go_back P w C) := by
  refine FunD.ok F sc_Walk_go_back (fun vs H Q E h => len_X (fun ds R hA => ?_) h) (fun cdv A outer s H vs Q E hr h => ?_)
  · exact ln_Walk_go_back ds R hA
  · have nd := sc_Walk_go_back.nd
    refine ⟨_, PSs.nox (pss_cons (ps_set (i := 1) nd rfl (by first | exact Or.inl rfl | exact Or.inr rfl) (pe_bm0 PySem.F.plainAttrs_list PySem.F.slot_list_pop PySem.F.type_list_pop mt_pop (pe_fld (pv 0) rfl)))
    (pss_cons (ps_expr (pe_bm0 PySem.F.plainAttrs_list PySem.F.slot_list_pop PySem.F.type_list_pop mt_pop (pe_fld (pv 0) rfl)))
    (pss_cons (ps_expr (pe_npop (hu65 hr) (pe_fld (pv 0) rfl) (pv 1) ⟨rfl, rfl, rfl, rfl⟩))
    (pss_cons (ps_nput (hu65 hr) (pe_fld (pv 0) rfl) (pv 1) pe_bl rfl)
    (pss_one (ps_if (pt_cmpR (k_neD K hr.units) (pe_fld (pv 0) rfl) (pe_lst pa_nil) (nomark _))
    (pss_one (ps_expr (pe_bm0 PySem.F.plainAttrs_list PySem.F.slot_list_pop PySem.F.type_list_pop mt_pop (pe_fld (pv 0) rfl))))
    pss_nil)))))), run_X h fun ds R hA => ?_⟩
    obtain ⟨p, t, A, w0, s, c0, c, tk, ov, rfl, ⟨n1, n2, n3⟩, rfl⟩ := hA
    have ew : (w0 ++ [s]).map dS = w0.map dS ++ [dS s] := by rw [List.map_append]; rfl
    have ec : (c0 ++ [c]).map (fun c => c.map tI) = c0.map (fun c => c.map tI) ++ [c.map tI] := by rw [List.map_append]; rfl
    show Do _ [obE P w C p (wF A.v (dT t) A.lw ((w0 ++ [s]).map dS) A.lc A.cs ((c0 ++ [c]).map fun c => c.map tI) A.lt (tk.map tI) A.lp (placesK (w0 ++ [s])) A.lo (overK ov)), .no] _
    rw [ew, ec]
    refine do_asgX1 (xp_fpop (i := 0) (k := 1) rfl ⟨oc.cl, oc.way⟩ lk_way rfl) fun d ρ' h => ?_
    obtain ⟨rfl, rfl⟩ := h
    refine do_seq (do_llpop (i := 0) (k := 2) rfl ⟨oc.cl, oc.choices⟩ lk_choices rfl fun cs => ?_)
    refine do_dropX1 (xp_dpop (i := 0) (k := 4) (d := .int (w0.length : Int)) rfl ⟨oc.cl, oc.places⟩ lk_plc rfl (is_var rfl) (kok_dS s) ?_) fun d ρ' h => ?_
    · rw [lk_places, if_pos (List.mem_append.mpr (.inr (List.mem_singleton.mpr rfl))), List.idxOf_append, if_neg n1]
      simp
    obtain ⟨_, rfl⟩ := h
    rw [places_pop n1]
    refine do_seq (do_fput (i := 0) (k := 5) (d := .bool true) rfl ⟨oc.cl, oc.over⟩ lk_ov rfl is_bl (is_var rfl) (kok_dS s) (by rw [over_len]; omega) ?_)
    rw [over_push n2]
    rcases List.eq_nil_or_concat tk with rfl | ⟨tk, d, rfl⟩
    · exact do_if (b := false) (ist_test (is_neNil (is_fL (i := 0) rfl ⟨oc.cl, oc.taken⟩ lk_taken) (shaped_lT []))) (fun e => by cases e) fun _ => do_next ⟨_, _, _, rfl, rfl, ⟨A.v, A.lw, A.lc, cs, A.lt, A.lp, A.lo⟩, rfl⟩
    ·
      have et : (tk ++ [d]).map tI = tk.map tI ++ [tI d] := by rw [List.map_append]; rfl
      simp only [List.concat_eq_append]
      rw [et, List.dropLast_concat]
      refine do_if (b := true) (IsB.to (ist_test (is_neNil (is_fL (i := 0) rfl ⟨oc.cl, oc.taken⟩ lk_taken) (et ▸ shaped_lT (tk ++ [d])))) ?_) (fun _ => ?_) fun e => by cases e
      · cases tk.map tI <;> rfl
      refine do_dropX (xp_fpop (i := 0) (k := 3) rfl ⟨oc.cl, oc.taken⟩ lk_taken rfl) fun d ρ' h => ?_
      obtain ⟨_, rfl⟩ := h
      exact ⟨_, _, _, rfl, rfl, ⟨A.v, A.lw, A.lc, cs, A.lt, A.lp, A.lo⟩, rfl⟩
def ringOf (k : Wk) (d : List Int) (s : Sd) : Ans := .on (k.taken.take (k.way.idxOf s)) (k.taken.drop (k.way.idxOf s) ++ [d])
def A_Walk_ring (P : Program) (w : World) (C : Addr) (es : List Ent) (Y : PyData → Prop) : Prop := ∃ p t A k d s, es = [wkE P w C p t A k, .dat (tI d), .dat (dS s)] ∧ (s ∈ k.way ∧ k.taken.length ≤ 1000) ∧ Y = fun x => x = dA (ringOf k d s)
def sp_Walk_ring (P : Program) (w : World) (C : Addr) : Sp := spQ 0 (A_Walk_ring P w C)
theorem ln_Walk_ring {P : Program} {w : World} {C : Addr} : ∀ es Y, A_Walk_ring P w C es Y → es.length = 3 := fun es Y ⟨_, _, _, _, _, _, h, _⟩ => by rw [h]; rfl
theorem c_Walk_ring {P : Program} {w : World} {C p : Addr} {ρ : List Ent} {i : Nat} {tx : TA} {t : Tk} {A : WA} {k : Wk} {d : List Int} {s : Sd} (ms : s ∈ k.way) (hl : k.taken.length ≤ 1000) (he : ρ[i]? = some (wkE P w C p t A k)) (ha : IsA tx ρ [tI d, dS s]) : Is (tMeth C "ring" (sp_Walk_ring P w C) [] E0 (tVar i) tx) ρ (dA (ringOf k d s)) :=
  isP_methQ he (lk_no (by decide +kernel)) ha ⟨p, t, A, k, d, s, rfl, ⟨ms, hl⟩, rfl⟩
theorem ok_Walk_ring {P : Program} {w : World} {K : PySem.W.Frag} {mg : Str → Option Value} {base : Heap} {f : Addr} {fd : FuncData} (F : FnP K "ring" "Walk.ring" s_Walk_ring f fd) (md : Md mg) {C : Addr} (oc : OcW K C) : FnOk P w K mg base CX0 1 f fd ["self", "day", "stand"] (sp_Walk_ring P w C) := by
  refine FunD.ok F sc_Walk_ring (fun vs H Q E h => len_Q (fun ds R hA => ?_) h) (fun cdv A outer s H vs Q E hr h => ?_)
  · exact ln_Walk_ring ds R hA
  · have nd := sc_Walk_ring.nd
    refine ⟨_, PSs.nox (pss_cons (ps_set (i := 3) nd rfl (by first | exact Or.inl rfl | exact Or.inr rfl) (pe_nget (hu65 hr) (pe_fld (pv 0) rfl) (pv 2) (fun _ _ => rfl)))
    (pss_one (ps_ret (pe_tup (pa_cons pe_str (pa_cons (pe_callTy (k_tuple K) (by rfl) md.tuple (by decide +kernel) (pa_cons (pe_slice (k_sl K) (pe_fld (pv 0) rfl) po_none (po_some (pv 3))) pa_nil)) (pa_cons (pe_callTy (k_tuple K) (by rfl) md.tuple (by decide +kernel) (pa_cons (pe_op op_cat (pe_slice (k_sl K) (pe_fld (pv 0) rfl) (po_some (pv 3)) po_none) (pe_lst (pa_cons (pv 1) pa_nil))) pa_nil)) pa_nil))))))), run_Q h fun ds R hA => ?_⟩
    obtain ⟨p, t, A, k, d, s, rfl, ⟨ms, hl⟩, rfl⟩ := hA
    refine dq_let (d := .int (k.way.idxOf s : Int)) (is_dget (kvs := placesK k.way) (is_fDc (i := 0) rfl ⟨oc.cl, oc.places⟩ lk_plc) (is_var rfl) (kok_dS s) (by rw [lk_places, if_pos ms])) (dq_ret ?_)
    have hd := List.length_drop (i := k.way.idxOf s) (l := k.taken)
    refine is_tup (isA_cons is_str (isA_cons (Is.to (is_tupL (isL_new (isN_to (n := k.way.idxOf s) (is_fL (i := 0) rfl ⟨oc.cl, oc.taken⟩ lk_taken) (is_var rfl)))) ?_) (isA_cons (Is.to (is_tupL (isL_new (isN_cat (isL_new (isN_from (n := k.way.idxOf s) (is_fL (i := 0) rfl ⟨oc.cl, oc.taken⟩ lk_taken) (is_var rfl))) (isL_new (isN_lst (isA_cons (is_var rfl) isA_nil))) ?_))) ?_) isA_nil)))
    · rw [List.map_take]
    · rw [List.length_drop, List.length_map]; show _ + 1 ≤ 100000; omega
    · rw [List.map_append, List.map_drop]; rfl
end W36
end
section
set_option Elab.async false
set_option linter.all false
set_option maxRecDepth 100000
set_option maxHeartbeats 4000000
/-! How many stands can be come to. -/
namespace W36
theorem nodup_le {α : Type} [DecidableEq α] : ∀ {l m : List α}, l.Nodup → (∀ x ∈ l, x ∈ m) → l.length ≤ m.length
  | [], _, _, _ => Nat.zero_le _
  | x :: l, m, h, k => by
    rw [List.nodup_cons] at h
    have hx := k x List.mem_cons_self
    have ih := nodup_le (l := l) (m := m.erase x) h.2 fun y hy => (List.mem_erase_of_ne (fun z => h.1 (by rw [← z]; exact hy))).mpr (k y (List.mem_cons_of_mem _ hy))
    rw [List.length_erase_of_mem hx] at ih
    have : 0 < m.length := List.length_pos_of_mem hx
    rw [List.length_cons]; omega
theorem sorted_eq : ∀ {a b : List Int}, a.Pairwise (· < ·) → b.Pairwise (· < ·) → (∀ x, x ∈ a ↔ x ∈ b) → a = b
  | [], [], _, _, _ => rfl
  | [], y :: b, _, _, h => absurd ((h y).mpr List.mem_cons_self) List.not_mem_nil
  | x :: a, [], _, _, h => absurd ((h x).mp List.mem_cons_self) List.not_mem_nil
  | x :: a, y :: b, ha, hb, h => by
    cases ha with
    | cons a1 a2 =>
      cases hb with
      | cons b1 b2 =>
        have exy : x = y := by
          rcases List.mem_cons.mp ((h x).mp List.mem_cons_self) with e | e
          · exact e
          · rcases List.mem_cons.mp ((h y).mpr List.mem_cons_self) with e2 | e2
            · exact e2.symm
            · have := b1 x e; have := a1 y e2; omega
        subst exy
        rw [sorted_eq a2 b2 fun z => ⟨fun hz => ?_, fun hz => ?_⟩]
        · rcases List.mem_cons.mp ((h z).mp (List.mem_cons_of_mem _ hz)) with e | e
          · have := a1 z hz; omega
          · exact e
        · rcases List.mem_cons.mp ((h z).mpr (List.mem_cons_of_mem _ hz)) with e | e
          · have := b1 z hz; omega
          · exact e
theorem flat_len {α β : Type} {f : α → List β} {c : Nat} : ∀ {l : List α}, (∀ a ∈ l, (f a).length = c) → (l.flatMap f).length = l.length * c
  | [], _ => by simp
  | a :: l, h => by
    rw [List.flatMap_cons, List.length_append, h a List.mem_cons_self, flat_len fun b hb => h b (List.mem_cons_of_mem _ hb), List.length_cons, Nat.add_mul]; omega
/-- the waits there can be -/
def wl : List Int → List (List Int)
  | [] => [[]]
  | n :: ns => (List.range n.toNat).flatMap fun (w : Nat) => (wl ns).map fun r => ((w : Int) + 1) :: r
theorem wl_len : ∀ {ns : List Int}, (∀ n ∈ ns, 1 ≤ n ∧ n ≤ 40) → ((wl ns).length : Int) = prod ns
  | [], _ => rfl
  | n :: ns, h => by
    have ih := wl_len (ns := ns) fun m hm => h m (List.mem_cons_of_mem _ hm)
    have hn := h n List.mem_cons_self
    rw [wl, flat_len (c := (wl ns).length) (fun a _ => List.length_map ..), List.length_range, prod, ← ih, Int.natCast_mul]
    congr 1
    omega
theorem wl_mem : ∀ {ns ws : List Int}, ws.length = ns.length → (∀ (i : Nat) (w n : Int), ws[i]? = some w → ns[i]? = some n → 1 ≤ w ∧ w ≤ n) → ws ∈ wl ns
  | [], [], _, _ => List.mem_singleton.mpr rfl
  | [], _ :: _, h, _ => by simp at h
  | _ :: _, [], h, _ => by simp at h
  | n :: ns, w :: ws, h, k => by
    have h0 := k 0 w n rfl rfl
    rw [wl, List.mem_flatMap]
    refine ⟨(w - 1).toNat, List.mem_range.mpr (by omega), List.mem_map.mpr ⟨ws, wl_mem (by simpa using h) fun i a b ha hb => k (i + 1) a b (by simpa using ha) (by simpa using hb), ?_⟩⟩
    congr 1
    omega
/-- the pairs of a list -/
def prs : List Int → List (List Int)
  | [] => []
  | x :: xs => (xs.map fun y => [x, y]) ++ prs xs
theorem prs_len : ∀ ns : List Int, 2 * (prs ns).length = ns.length * (ns.length - 1)
  | [] => rfl
  | x :: xs => by
    have ih := prs_len xs
    rw [prs, List.length_append, List.length_map, List.length_cons, Nat.add_sub_cancel, Nat.mul_add, ih, Nat.add_mul, Nat.one_mul]
    cases xs.length with
    | zero => rfl
    | succ m =>
      have e : (m + 1) * (m + 1) = (m + 1) * m + (m + 1) := Nat.mul_succ _ _
      rw [Nat.add_sub_cancel]; omega
theorem prs_mem : ∀ {ns : List Int} {a b : Int}, ns.Pairwise (· < ·) → a ∈ ns → b ∈ ns → a < b → [a, b] ∈ prs ns
  | [], _, _, _, h, _, _ => by cases h
  | x :: xs, a, b, h, ha, hb, hl => by
    cases h with
    | cons h1 h2 =>
      rw [prs, List.mem_append]
      rcases List.mem_cons.mp ha with e | e
      · subst e
        rcases List.mem_cons.mp hb with e2 | e2
        · omega
        · exact .inl (List.mem_map.mpr ⟨b, e2, rfl⟩)
      · rcases List.mem_cons.mp hb with e2 | e2
        · have := h1 a e; omega
        · exact .inr (prs_mem h2 e e2 hl)
def bl (long : List Int) (h : Int) : List (List Int) := [] :: (long.map (fun i => [i]) ++ if h = 1 then [] else prs long)
theorem bl_len (long : List Int) (h : Int) : ((bl long h).length : Int) = manyBusy long.length h := by
  have p := prs_len long
  unfold bl manyBusy
  rw [List.length_cons, List.length_append, List.length_map]
  split
  · simp; omega
  · have e : (long.length : Int) * ((long.length : Int) - 1) = 2 * ((prs long).length : Int) := by
      cases q : long.length with
      | zero =>
        have z : (prs long).length = 0 := by rw [q] at p; omega
        rw [z]; rfl
      | succ m =>
        rw [q, Nat.add_sub_cancel] at p
        have : ((2 * (prs long).length : Nat) : Int) = (((m + 1) * m : Nat) : Int) := by rw [p]
        rw [Int.natCast_mul, Int.natCast_mul] at this
        rw [show ((m + 1 : Nat) : Int) - 1 = (m : Int) by omega]
        omega
    rw [e, Int.mul_ediv_cancel_left _ (by decide)]
    omega
theorem bl_mem {long b : List Int} {h : Int} {lo hi : Int} (hs : long.Pairwise (· < ·)) (hb : rising b lo hi = true) (hm : ∀ i ∈ b, i ∈ long) (hl : (b.length : Int) ≤ h) (h2 : h = 1 ∨ h = 2) : b ∈ bl long h := by
  have bp := rising_pair hb
  unfold bl
  match b, hb, hm, hl, bp with
  | [], _, _, _, _ => exact List.mem_cons_self
  | [i], _, hm, _, _ => exact List.mem_cons_of_mem _ (List.mem_append.mpr (.inl (List.mem_map.mpr ⟨i, hm i List.mem_cons_self, rfl⟩)))
  | [i, j], _, hm, hl, bp =>
    have hh : h ≠ 1 := by intro z; rw [z] at hl; simp at hl
    rw [if_neg hh]
    cases bp with
    | cons b1 _ => exact List.mem_cons_of_mem _ (List.mem_append.mpr (.inr (prs_mem hs (hm i List.mem_cons_self) (hm j (List.mem_cons_of_mem _ List.mem_cons_self)) (b1 j List.mem_cons_self))))
  | i :: j :: m :: r, _, _, hl, _ => simp only [List.length_cons] at hl; omega
abbrev Cell := Int × List Int × List Int
def cells (t : Tk) : List Cell := (List.range t.off.length).flatMap fun (p : Nat) => (wl t.nums).flatMap fun ws => (bl t.long t.hands).map fun b => ((p : Int), ws, b)
theorem cells_len {t : Tk} (o : TaskOk t) : ((cells t).length : Int) = roomI t := by
  have h1 := wl_len o.nums.mem
  have h2 := bl_len t.long t.hands
  unfold cells roomI
  rw [flat_len (c := (wl t.nums).length * (bl t.long t.hands).length) (fun p _ => flat_len fun ws _ => List.length_map ..), List.length_range, Int.natCast_mul, Int.natCast_mul, h1, h2, Int.mul_comm (prod t.nums), Int.mul_assoc]
def code (s : Sd) : Cell := (s.phase, s.waits, s.busy)
theorem code_mem {t : Tk} {s : Sd} (o : TaskOk t) (os : StandOk t s) : code s ∈ cells t := by
  unfold cells code
  refine List.mem_flatMap.mpr ⟨s.phase.toNat, List.mem_range.mpr (by have := os.phase; omega), List.mem_flatMap.mpr ⟨s.waits, wl_mem os.waits.len os.waits.mem, List.mem_map.mpr ⟨s.busy, bl_mem (rising_pair o.long) os.busy.r os.busy.m os.busy.l o.hands, ?_⟩⟩⟩
  have := os.phase
  congr 1
  omega
/-- a stand that can be come to -/
def Reach (t : Tk) (x : Sd) : Prop := ∃ s d, WaitsOk t.nums s.waits ∧ DayOk t d ∧ nextS t s d = some x
theorem Reach.ok {t : Tk} {x : Sd} (o : TaskOk t) (h : Reach t x) : StandOk t x := let ⟨_, _, h1, h2, h3⟩ := h; next_ok o h1 h2 h3
theorem next_day {t : Tk} {s x : Sd} {d : List Int} (o : TaskOk t) (ow : WaitsOk t.nums s.waits) (h : nextS t s d = some x) (i : Nat) (hi : i < t.nums.length) : ((i : Int) ∈ d ↔ x.waits[i]? = t.nums[i]? ∨ (i : Int) ∈ x.busy) := by
  unfold nextS at h
  split at h
  · cases h
  · cases h
    simp only
    rw [waitsB_get hi]
    have hn : t.nums[i]? = some t.nums[i] := List.getElem?_eq_getElem hi
    have hil : i < s.waits.length := by rw [ow.len]; exact hi
    have hs : s.waits[i]? = some s.waits[i] := List.getElem?_eq_getElem hil
    have sm := ow.mem i _ _ hs hn
    unfold waitB
    rw [getD_of hn, getD_of hs, hn]
    constructor
    · intro hd
      by_cases c : (¬ (i : Int) ∈ t.long ∨ (i : Int) ∈ s.busy)
      · rw [if_pos ⟨hd, c⟩]; exact .inl rfl
      · refine .inr (List.mem_filter.mpr ⟨hd, ?_⟩)
        rw [not_or, Decidable.not_not] at c
        simp [c.1, c.2]
    · rintro (hw | hb)
      · split at hw
        · rename_i c; exact c.1
        · injection hw with hw; omega
      · exact (List.mem_filter.mp hb).1
theorem code_inj {t : Tk} {x y : Sd} (o : TaskOk t) (hx : Reach t x) (hy : Reach t y) (h : code x = code y) : x = y := by
  obtain ⟨s, d, w1, d1, n1⟩ := hx
  obtain ⟨s', d', w2, d2, n2⟩ := hy
  unfold code at h
  rw [Prod.mk.injEq, Prod.mk.injEq] at h
  obtain ⟨h1, h2, h3⟩ := h
  have ed : d = d' := by
    refine sorted_eq (rising_pair d1.r.r) (rising_pair d2.r.r) fun z => ?_
    have key : ∀ {z : Int}, 0 ≤ z ∧ z ≤ (t.nums.length : Int) - 1 → (z ∈ d ↔ z ∈ d') := fun {z} hz => by
      have a := next_day o w1 n1 z.toNat (by omega)
      have b := next_day o w2 n2 z.toNat (by omega)
      rw [show ((z.toNat : Nat) : Int) = z by omega] at a b
      rw [a, b, h2, h3]
    constructor
    · intro hz; exact (key (rising_mem d1.r.r z hz)).mp hz
    · intro hz; exact (key (rising_mem d2.r.r z hz)).mpr hz
  have el : x.last = y.last := by
    unfold nextS at n1 n2
    split at n1
    · cases n1
    · split at n2
      · cases n2
      · cases n1; cases n2; rw [ed]
  cases x; cases y
  simp only at h1 h2 h3 el
  rw [h1, h2, h3, el]
theorem reach_card {t : Tk} (o : TaskOk t) {l : List Sd} (hn : l.Nodup) (h : ∀ s ∈ l, Reach t s) : (l.length : Int) ≤ roomI t := by
  have h1 : (l.map code).Nodup := by
    rw [List.nodup_iff_pairwise_ne] at hn ⊢
    rw [List.pairwise_map]
    exact List.Pairwise.imp_of_mem (fun ha hb ne e => ne (code_inj o (h _ ha) (h _ hb) e)) hn
  have h2 := nodup_le h1 (m := cells t) fun c hc => by
    obtain ⟨s, hs, rfl⟩ := List.mem_map.mp hc
    exact code_mem o ((h s hs).ok o)
  rw [List.length_map] at h2
  rw [← cells_len o]
  omega
end W36
end
section
set_option Elab.async false
set_option linter.all false
set_option maxRecDepth 100000
set_option maxHeartbeats 4000000
/-! The walk through all stands: what stands between two steps, and what its ends show. -/
namespace W36
theorem get_snoc {α : Type} {xs : List α} {x y : α} {i : Nat} (h : (xs ++ [x])[i]? = some y) : (i < xs.length ∧ xs[i]? = some y) ∨ (i = xs.length ∧ y = x) := by
  by_cases q : i < xs.length
  · rw [List.getElem?_append_left q] at h; exact .inl ⟨q, h⟩
  · rw [List.getElem?_append_right (by omega)] at h
    by_cases e : i = xs.length
    · subst e; rw [Nat.sub_self] at h; cases h; exact .inr ⟨rfl, rfl⟩
    · rw [List.getElem?_eq_none (by simp; omega)] at h; cases h
theorem get_lt {α : Type} {xs : List α} {y : α} {i : Nat} (h : xs[i]? = some y) : i < xs.length := (List.getElem?_eq_some_iff.mp h).1
theorem idx_at {x : Sd} : ∀ {xs : List Sd}, x ∈ xs → xs[xs.idxOf x]? = some x
  | [], h => by cases h
  | y :: xs, h => by
    rw [List.idxOf_cons]
    by_cases e : y = x
    · subst e; simp
    · have : (y == x) = false := by simpa using e
      rw [this]
      rcases List.mem_cons.mp h with z | z
      · exact absurd z.symm e
      · exact idx_at z
structure WInv (t : Tk) (s0 : Sd) (k : Wk) : Prop where
  un : ∀ s, s ∈ k.way ++ k.over → s = s0 ∨ Reach t s
  nd : (k.way ++ k.over).Nodup
  cl : k.ch.length = k.way.length
  tl : k.taken.length + 1 = k.way.length ∨ (k.way = [] ∧ k.taken = [])
  pa : ∀ (i : Nat) (s s' : Sd), k.way[i]? = some s → k.way[i + 1]? = some s' → ∃ d, k.taken[i]? = some d ∧ canDo t s d = true ∧ DayOk t d ∧ nextS t s d = some s'
  ch : ∀ (i : Nat) (s : Sd) (c : List (List Int)), k.way[i]? = some s → k.ch[i]? = some c → (∀ d ∈ c, d ∈ laterDays t s) ∧ ∀ d ∈ laterDays t s, d ∈ c ∨ ∀ s', nextS t s d = some s' → s' ∈ k.over ∨ k.way[i + 1]? = some s'
  ov : ∀ (j : Nat) (s : Sd), k.over[j]? = some s → ∀ d ∈ laterDays t s, ∀ s', nextS t s d = some s' → s' ∈ k.over.take j
  ro : (k.way = [] ∧ s0 ∈ k.over) ∨ k.way[0]? = some s0
def sumC : List (List (List Int)) → Nat
  | [] => 0
  | c :: cs => c.length + sumC cs
theorem sumC_app : ∀ a b, sumC (a ++ b) = sumC a + sumC b
  | [], b => by simp [sumC]
  | c :: a, b => by rw [List.cons_append, sumC, sumC, sumC_app a b, Nat.add_assoc]
def mu (k : Wk) : Nat := sumC k.ch + k.way.length + (302 - (k.way.length + k.over.length)) * 200
section
variable {t : Tk} {s0 s s' : Sd} {w0 ov : List Sd} {c0 : List (List (List Int))} {c tk : List (List Int)} {d : List Int}
theorem WInv.okU {k : Wk} (I : WInv t s0 k) (o : TaskOk t) (os : StandOk t s0) {s : Sd} (h : s ∈ k.way ++ k.over) : StandOk t s := by
  rcases I.un s h with e | e
  · rw [e]; exact os
  · exact e.ok o
theorem WInv.few {k : Wk} (I : WInv t s0 k) (o : TaskOk t) : k.way.length + k.over.length ≤ 301 := by
  have h1 : ((k.way ++ k.over).erase s0).Nodup := I.nd.erase s0
  have h2 := reach_card o h1 fun s hs => by
    have hm := List.mem_of_mem_erase hs
    rcases I.un s hm with e | e
    · subst e
      exact absurd hs (List.Nodup.not_mem_erase I.nd)
    · exact e
  have h3 := o.room
  have h4 : (k.way ++ k.over).length ≤ ((k.way ++ k.over).erase s0).length + 1 := by
    rw [List.length_erase]; split <;> omega
  rw [List.length_append] at h4
  omega
theorem start_inv : WInv t s0 ⟨[s0], [laterDays t s0], [], []⟩ where
  un := fun s h => .inl (by simpa using h)
  nd := by simp
  cl := rfl
  tl := .inl rfl
  pa := fun i s s' h1 h2 => by simp at h2
  ch := fun i s c h1 h2 => by
    have i0 : i = 0 := by have := get_lt h1; simp at this; omega
    subst i0
    cases h1; cases h2
    exact ⟨fun d h => h, fun d h => .inl h⟩
  ov := fun j s h => by simp at h
  ro := .inr rfl
theorem back_inv (I : WInv t s0 ⟨w0 ++ [s], c0 ++ [[]], tk, ov⟩) : WInv t s0 ⟨w0, c0, tk.dropLast, ov ++ [s]⟩ := by
  have cl : c0.length = w0.length := by have := I.cl; simp only [List.length_append, List.length_singleton] at this; omega
  have tl : tk.length = w0.length := by
    rcases I.tl with h | ⟨h, _⟩
    · simp only [List.length_append, List.length_singleton] at h; omega
    · simp at h
  refine ⟨fun x h => I.un x ?_, ?_, cl, ?_, fun i a b h1 h2 => ?_, fun i a c h1 h2 => ?_, fun j a h => ?_, ?_⟩
  · simp only [List.mem_append, List.mem_singleton] at h ⊢
    rcases h with h | h | h
    · exact .inl (.inl h)
    · exact .inr h
    · exact .inl (.inr h)
  · have := I.nd
    simp only [List.append_assoc] at this ⊢
    refine (List.Perm.nodup_iff ?_).mp this
    exact List.Perm.append_left _ List.perm_append_comm
  · by_cases e : w0 = []
    · subst e
      refine .inr ⟨rfl, ?_⟩
      have : tk = [] := List.length_eq_zero_iff.mp tl
      simp [this]
    · refine .inl ?_
      have : 0 < w0.length := List.length_pos_iff.mpr e
      show tk.dropLast.length + 1 = w0.length
      rw [List.length_dropLast]; omega
  · obtain ⟨d, e1, e2⟩ := I.pa i a b (by show (w0 ++ [s])[i]? = _; rw [List.getElem?_append_left (get_lt h1)]; exact h1) (by show (w0 ++ [s])[i + 1]? = _; rw [List.getElem?_append_left (get_lt h2)]; exact h2)
    refine ⟨d, ?_, e2⟩
    have := get_lt h2
    show tk.dropLast[i]? = some d
    rw [List.getElem?_dropLast, if_pos (by have : i + 1 < w0.length := get_lt h2; omega)]
    exact e1
  · obtain ⟨q1, q2⟩ := I.ch i a c (by show (w0 ++ [s])[i]? = _; rw [List.getElem?_append_left (get_lt h1)]; exact h1) (by show (c0 ++ [[]])[i]? = _; rw [List.getElem?_append_left (get_lt h2)]; exact h2)
    refine ⟨q1, fun d hd => ?_⟩
    rcases q2 d hd with h | h
    · exact .inl h
    · refine .inr fun s' hs' => ?_
      rcases h s' hs' with y | y
      · exact .inl (List.mem_append.mpr (.inl y))
      · rcases get_snoc y with ⟨_, z⟩ | ⟨_, z⟩
        · exact .inr z
        · exact .inl (by rw [z]; exact List.mem_append.mpr (.inr (List.mem_singleton.mpr rfl)))
  · rcases get_snoc h with ⟨h1, h2⟩ | ⟨h1, h2⟩
    · intro d hd s' hs'
      have := I.ov j a h2 d hd s' hs'
      rw [List.take_append_of_le_length (Nat.le_of_lt h1)]
      exact this
    · subst h2
      intro d hd s' hs'
      obtain ⟨_, q2⟩ := I.ch w0.length a [] (by show (w0 ++ [a])[w0.length]? = _; rw [List.getElem?_append_right (Nat.le_refl _), Nat.sub_self]; rfl) (by show (c0 ++ [[]])[w0.length]? = _; rw [← cl, List.getElem?_append_right (Nat.le_refl _), Nat.sub_self]; rfl)
      rcases q2 d hd with y | y
      · cases y
      · rcases y s' hs' with z | z
        · rw [h1, List.take_left']; exact z; rfl
        · rw [show (⟨w0 ++ [a], c0 ++ [[]], tk, ov⟩ : Wk).way = w0 ++ [a] from rfl, List.getElem?_eq_none (by simp)] at z; cases z
  · rcases I.ro with h | h
    · simp at h
    · rcases get_snoc h with ⟨_, z⟩ | ⟨y, z⟩
      · exact .inr z
      · exact .inl ⟨List.length_eq_zero_iff.mp y.symm, by rw [z]; exact List.mem_append.mpr (.inr (List.mem_singleton.mpr rfl))⟩
theorem back_mu (I : WInv t s0 ⟨w0 ++ [s], c0 ++ [[]], tk, ov⟩) : mu ⟨w0, c0, tk.dropLast, ov ++ [s]⟩ < mu ⟨w0 ++ [s], c0 ++ [[]], tk, ov⟩ := by
  unfold mu
  simp only [sumC_app, sumC, List.length_append, List.length_singleton, List.length_nil]
  rw [show w0.length + (ov.length + 1) = w0.length + 1 + ov.length by omega]
  omega
theorem top_cl (I : WInv t s0 ⟨w0 ++ [s], c0 ++ [c], tk, ov⟩) : c0.length = w0.length := by
  have := I.cl
  simp only [List.length_append, List.length_singleton] at this
  omega
theorem top_tl (I : WInv t s0 ⟨w0 ++ [s], c0 ++ [c], tk, ov⟩) : tk.length = w0.length := by
  rcases I.tl with h | ⟨h, _⟩
  · simp only [List.length_append, List.length_singleton] at h; omega
  · simp at h
theorem top_at : (w0 ++ [s])[w0.length]? = some s := by rw [List.getElem?_append_right (Nat.le_refl _), Nat.sub_self]; rfl
theorem top_day (I : WInv t s0 ⟨w0 ++ [s], c0 ++ [c ++ [d]], tk, ov⟩) : d ∈ laterDays t s :=
  (I.ch w0.length s (c ++ [d]) top_at (by show (c0 ++ [c ++ [d]])[w0.length]? = _; rw [← top_cl I]; exact List.getElem?_append_right (Nat.le_refl _) |>.trans (by rw [Nat.sub_self]; rfl))).1 d (List.mem_append.mpr (.inr (List.mem_singleton.mpr rfl)))
/-- a choice is gone -/
theorem skip_inv (I : WInv t s0 ⟨w0 ++ [s], c0 ++ [c ++ [d]], tk, ov⟩) (h : ∀ s', nextS t s d = some s' → s' ∈ ov) : WInv t s0 ⟨w0 ++ [s], c0 ++ [c], tk, ov⟩ where
  un := I.un
  nd := I.nd
  cl := by have := I.cl; simpa using this
  tl := I.tl
  pa := I.pa
  ch := fun i a c' h1 h2 => by
    rcases get_snoc h2 with ⟨q, z⟩ | ⟨q, z⟩
    · exact I.ch i a c' h1 (by show (c0 ++ [c ++ [d]])[i]? = _; rw [List.getElem?_append_left q]; exact z)
    · subst z
      obtain ⟨r1, r2⟩ := I.ch i a (c' ++ [d]) h1 (by show (c0 ++ [c' ++ [d]])[i]? = _; rw [q, List.getElem?_append_right (Nat.le_refl _), Nat.sub_self]; rfl)
      have ea : a = s := by
        have := top_cl I
        rcases get_snoc h1 with ⟨y, _⟩ | ⟨_, y⟩
        · omega
        · exact y
      refine ⟨fun x hx => r1 x (List.mem_append.mpr (.inl hx)), fun x hx => ?_⟩
      rcases r2 x hx with y | y
      · rcases List.mem_append.mp y with y | y
        · exact .inl y
        · rw [List.mem_singleton] at y
          subst y
          exact .inr fun s' hs' => .inl (h s' (by rw [← ea]; exact hs'))
      · exact .inr y
  ov := I.ov
  ro := I.ro
theorem skip_mu : mu ⟨w0 ++ [s], c0 ++ [c], tk, ov⟩ < mu ⟨w0 ++ [s], c0 ++ [c ++ [d]], tk, ov⟩ := by
  unfold mu
  simp only [sumC_app, sumC, List.length_append, List.length_singleton]
  omega
/-- on to a new stand -/
theorem on_inv (I : WInv t s0 ⟨w0 ++ [s], c0 ++ [c ++ [d]], tk, ov⟩) (o : TaskOk t) (os : StandOk t s0) (h : nextS t s d = some s') (n1 : ¬ s' ∈ w0 ++ [s]) (n2 : ¬ s' ∈ ov) : WInv t s0 (goOn t ⟨w0 ++ [s], c0 ++ [c], tk, ov⟩ d s') := by
  have cl := top_cl I
  have tl := top_tl I
  have dl := top_day I
  obtain ⟨dk, dc⟩ := later_mem dl
  have sk := I.okU o os (s := s) (List.mem_append.mpr (.inl (List.mem_append.mpr (.inr (List.mem_singleton.mpr rfl)))))
  have hl : (w0 ++ [s]).length = w0.length + 1 := by simp
  show WInv t s0 ⟨(w0 ++ [s]) ++ [s'], (c0 ++ [c]) ++ [laterDays t s'], tk ++ [d], ov⟩
  refine ⟨fun x hx => ?_, ?_, by simp [cl], .inl (by simp [tl]), fun i a b h1 h2 => ?_, fun i a c' h1 h2 => ?_, I.ov, ?_⟩
  · simp only [List.mem_append, List.mem_singleton] at hx
    rcases hx with (hx | hx) | hx
    · exact I.un x (by simp only [List.mem_append, List.mem_singleton]; exact .inl hx)
    · subst hx; exact .inr ⟨s, d, sk.waits, dk, h⟩
    · exact I.un x (by simp only [List.mem_append]; exact .inr hx)
  · have := I.nd
    rw [List.append_assoc]
    refine (List.Perm.nodup_iff (l₁ := s' :: ((w0 ++ [s]) ++ ov)) ?_).mp (List.nodup_cons.mpr ⟨fun z => (List.mem_append.mp z).elim n1 n2, this⟩)
    exact List.perm_middle.symm
  · rcases get_snoc h2 with ⟨q, z⟩ | ⟨q, z⟩
    · have q' : i < (w0 ++ [s]).length := by omega
      have h1' : (w0 ++ [s])[i]? = some a := by rw [List.getElem?_append_left q'] at h1; exact h1
      obtain ⟨d', e1, e2⟩ := I.pa i a b h1' z
      exact ⟨d', by show (tk ++ [d])[i]? = _; rw [List.getElem?_append_left (get_lt e1)]; exact e1, e2⟩
    · subst z
      have ei : i = w0.length := by omega
      have q' : i < (w0 ++ [s]).length := by omega
      have h1' : (w0 ++ [s])[i]? = some a := by rw [List.getElem?_append_left q'] at h1; exact h1
      rw [ei, top_at] at h1'
      cases h1'
      refine ⟨d, ?_, dc, dk, h⟩
      show (tk ++ [d])[i]? = _
      rw [ei, ← tl, List.getElem?_append_right (Nat.le_refl _), Nat.sub_self]; rfl
  · rcases get_snoc h1 with ⟨q, z⟩ | ⟨q, z⟩
    · have q2 : i < (c0 ++ [c]).length := by simp; omega
      have h2' : (c0 ++ [c])[i]? = some c' := by
        have h2 : ((c0 ++ [c]) ++ [laterDays t s'])[i]? = some c' := h2
        rw [List.getElem?_append_left q2] at h2; exact h2
      have up : ∀ {x : Sd}, (w0 ++ [s])[i + 1]? = some x → ((w0 ++ [s]) ++ [s'])[i + 1]? = some x := fun {x} y => by rw [List.getElem?_append_left (get_lt y)]; exact y
      rcases get_snoc h2' with ⟨r, y⟩ | ⟨r, y⟩
      · obtain ⟨p1, p2⟩ := I.ch i a c' z (by show (c0 ++ [c ++ [d]])[i]? = _; rw [List.getElem?_append_left r]; exact y)
        refine ⟨p1, fun x hx => (p2 x hx).imp id fun g s2 hs2 => (g s2 hs2).imp id up⟩
      · subst y
        obtain ⟨p1, p2⟩ := I.ch i a (c' ++ [d]) z (by show (c0 ++ [c' ++ [d]])[i]? = _; rw [r, List.getElem?_append_right (Nat.le_refl _), Nat.sub_self]; rfl)
        have ei : i = w0.length := by omega
        rw [ei, top_at] at z
        cases z
        refine ⟨fun x hx => p1 x (List.mem_append.mpr (.inl hx)), fun x hx => ?_⟩
        rcases p2 x hx with y | y
        · rcases List.mem_append.mp y with y | y
          · exact .inl y
          · rw [List.mem_singleton] at y
            subst y
            refine .inr fun s2 hs2 => .inr ?_
            rw [h] at hs2
            cases hs2
            show ((w0 ++ [s]) ++ [s'])[i + 1]? = some s'
            rw [ei, ← hl, List.getElem?_append_right (Nat.le_refl _), Nat.sub_self]; rfl
        · exact .inr fun s2 hs2 => (y s2 hs2).imp id up
    · subst z
      have h2 : ((c0 ++ [c]) ++ [laterDays t a])[i]? = some c' := h2
      rw [q, show (w0 ++ [s]).length = (c0 ++ [c]).length by simp [cl], List.getElem?_append_right (Nat.le_refl _), Nat.sub_self] at h2
      cases h2
      exact ⟨fun x hx => hx, fun x hx => .inl hx⟩
  · rcases I.ro with z | z
    · simp at z
    · exact .inr (by
        show ((w0 ++ [s]) ++ [s'])[0]? = some s0
        rw [List.getElem?_append_left (get_lt z)]; exact z)
theorem on_mu (J : WInv t s0 (goOn t ⟨w0 ++ [s], c0 ++ [c], tk, ov⟩ d s')) (o : TaskOk t) : mu (goOn t ⟨w0 ++ [s], c0 ++ [c], tk, ov⟩ d s') < mu ⟨w0 ++ [s], c0 ++ [c ++ [d]], tk, ov⟩ := by
  have f := J.few o
  have al := allDays_len (m := (t.nums.length : Int)) (h := t.hands) (by have := o.nums.len; omega)
  have ll : (laterDays t s').length ≤ 100 := Nat.le_trans (List.length_filter_le _ _) al
  unfold goOn at f ⊢
  unfold mu
  simp only [sumC_app, sumC, List.length_append, List.length_singleton] at f ⊢
  rw [show 302 - (w0.length + 1 + ov.length) = (302 - (w0.length + 1 + 1 + ov.length)) + 1 by omega, Nat.add_mul]
  omega
/-! ### a ring -/
theorem led_path : ∀ (days : List (List Int)) (ss : List Sd) (s : Sd), ss.length = days.length → (∀ (i : Nat) (a b : Sd), (s :: ss)[i]? = some a → (s :: ss)[i + 1]? = some b → ∃ d, days[i]? = some d ∧ canDo t a d = true ∧ nextS t a d = some b) → ledS t s days = (s :: ss).getLast?
  | [], [], s, _, _ => rfl
  | [], _ :: _, s, h, _ => by simp at h
  | _ :: _, [], s, h, _ => by simp at h
  | d :: days, x :: ss, s, h, k => by
    obtain ⟨d', e1, e2, e3⟩ := k 0 s x rfl rfl
    cases e1
    rw [ledS, if_pos e2, e3]
    show ledS t x days = _
    rw [led_path days ss x (by simpa using h) fun i a b ha hb => ?_]
    · rfl
    · obtain ⟨d2, f1, f2⟩ := k (i + 1) a b (by simpa using ha) (by simpa using hb)
      exact ⟨d2, by simpa using f1, f2⟩
theorem ledS_app : ∀ (a b : List (List Int)) (s : Sd), ledS t s (a ++ b) = (ledS t s a).bind fun x => ledS t x b
  | [], b, s => rfl
  | d :: a, b, s => by
    rw [List.cons_append, ledS, ledS]
    split
    · cases nextS t s d with
      | none => rfl
      | some x => exact ledS_app a b x
    · rfl
theorem wUnder_refl (a : List Int) : wUnder a a = true := by
  unfold wUnder
  rw [List.all_eq_true]
  intro i _
  exact decide_eq_true (Int.le_refl _)
theorem under_refl (s : Sd) : liesUnder s s = true := by
  unfold liesUnder
  rw [wUnder_refl]
  simp
theorem path_led {way : List Sd} {taken : List (List Int)} {i j : Nat} {a b : Sd} (pa : ∀ (i : Nat) (s s' : Sd), way[i]? = some s → way[i + 1]? = some s' → ∃ d, taken[i]? = some d ∧ canDo t s d = true ∧ DayOk t d ∧ nextS t s d = some s') (hl : taken.length + 1 = way.length) (hi : way[i]? = some a) (hj : way[j]? = some b) (ij : i ≤ j) : ledS t a ((taken.drop i).take (j - i)) = some b := by
  have il := get_lt hi
  have jl := get_lt hj
  have e := led_path (t := t) ((taken.drop i).take (j - i)) ((way.drop (i + 1)).take (j - i)) a (by simp; omega) fun m x y hx hy => ?_
  · rw [e]
    by_cases q : j = i
    · subst q
      rw [hi] at hj; cases hj
      simp
    · rw [List.getLast?_eq_getElem?, List.length_cons, Nat.add_sub_cancel]
      have ln : ((way.drop (i + 1)).take (j - i)).length = j - i := by simp; omega
      rw [ln, show j - i = (j - i - 1) + 1 by omega, List.getElem?_cons_succ, List.getElem?_take_of_lt (by omega), List.getElem?_drop, show i + 1 + (j - i - 1) = j by omega]
      exact hj
  · have at' : ∀ {m : Nat} {x : Sd}, (a :: (way.drop (i + 1)).take (j - i))[m]? = some x → way[i + m]? = some x ∧ m ≤ j - i := fun {m x} h => by
      cases m with
      | zero => simp at h; subst h; exact ⟨hi, Nat.zero_le _⟩
      | succ m =>
        rw [List.getElem?_cons_succ] at h
        have ml := get_lt h
        have : ((way.drop (i + 1)).take (j - i)).length ≤ j - i := List.length_take_le ..
        rw [List.getElem?_take_of_lt (by omega), List.getElem?_drop] at h
        exact ⟨by rw [show i + (m + 1) = i + 1 + m by omega]; exact h, by omega⟩
    obtain ⟨h1, _⟩ := at' hx
    obtain ⟨h2, h3⟩ := at' hy
    obtain ⟨d, e1, e2, _, e3⟩ := pa (i + m) x y h1 (by rw [show i + m + 1 = i + (m + 1) by omega]; exact h2)
    exact ⟨d, by rw [List.getElem?_take_of_lt (by omega), List.getElem?_drop]; exact e1, e2, e3⟩
theorem ring_ok (I : WInv t s0 ⟨w0 ++ [s], c0 ++ [c ++ [d]], tk, ov⟩) (o : TaskOk t) (os : StandOk t s0) (h : nextS t s d = some s') (m : s' ∈ w0 ++ [s]) {k : Wk} (kw : k.way = w0 ++ [s]) (kt : k.taken = tk) : AnsOk t (ringOf k d s') ∧ ansB t s0 (ringOf k d s') = true := by
  have tl := top_tl I
  have dl := top_day I
  obtain ⟨dk, dc⟩ := later_mem dl
  have fw := I.few o
  simp only [List.length_append, List.length_singleton] at fw
  have days : ∀ x ∈ tk, DayR t.nums.length x := fun x hx => by
    obtain ⟨i, hi⟩ := List.mem_iff_getElem?.mp hx
    have il := get_lt hi
    have l1 : i < (w0 ++ [s]).length := by simp; omega
    have l2 : i + 1 < (w0 ++ [s]).length := by simp; omega
    obtain ⟨d', e1, _, e2, _⟩ := I.pa i _ _ (List.getElem?_eq_getElem l1) (List.getElem?_eq_getElem l2)
    rw [show (⟨w0 ++ [s], c0 ++ [c ++ [d]], tk, ov⟩ : Wk).taken = tk from rfl, hi] at e1
    cases e1
    exact e2.r
  have r0 : (w0 ++ [s])[0]? = some s0 := by
    rcases I.ro with z | z
    · simp at z
    · exact z
  obtain ⟨i, hi⟩ : ∃ i, i = (w0 ++ [s]).idxOf s' := ⟨_, rfl⟩
  have ai : (w0 ++ [s])[i]? = some s' := by rw [hi]; exact idx_at m
  have il := get_lt ai
  simp only [List.length_append, List.length_singleton] at il
  unfold ringOf
  rw [kw, kt, ← hi]
  have hp := I.pa
  have hl : tk.length + 1 = (w0 ++ [s]).length := by simp [tl]
  have l1 : ledS t s0 (tk.take i) = some s' := by
    have := path_led (t := t) (i := 0) (j := i) hp hl r0 ai (Nat.zero_le _)
    simpa using this
  have l2 : ledS t s' (tk.drop i) = some s := by
    have := path_led (t := t) (i := i) (j := w0.length) hp hl ai top_at (by omega)
    rwa [List.take_of_length_le (by rw [List.length_drop, tl]; omega)] at this
  have l3 : ledS t s [d] = some s' := by rw [ledS, if_pos dc, h]; rfl
  have l4 : ledS t s' (tk.drop i ++ [d]) = some s' := by rw [ledS_app, l2]; exact l3
  refine ⟨⟨⟨fun x hx => days x (List.mem_of_mem_take hx), ?_⟩, ⟨fun x hx => ?_, ?_⟩, by simp⟩, ?_⟩
  · have := List.length_take_le i tk; omega
  · rcases List.mem_append.mp hx with y | y
    · exact days x (List.mem_of_mem_drop y)
    · rw [List.mem_singleton.mp y]; exact dk.r
  · rw [List.length_append, List.length_drop, List.length_singleton]; omega
  · show onHolds t s0 (tk.take i) (tk.drop i ++ [d]) = true
    unfold onHolds
    rw [ledS_app, l1]
    show (match ledS t s' (tk.drop i ++ [d]) with | none => false | some one => (match ledS t one (tk.drop i ++ [d]) with | none => false | some two => liesUnder one two)) = true
    rw [l4]
    show (match ledS t s' (tk.drop i ++ [d]) with | none => false | some two => liesUnder s' two) = true
    rw [l4]
    exact under_refl s'
end
end W36
end
section
set_option Elab.async false
set_option linter.all false
set_option maxRecDepth 100000
set_option maxHeartbeats 4000000
/-! All stands walked: the answer holds. -/
namespace W36
theorem find_putR (rs : Rows) (k j : PB) (v : List Sd) : (((putR rs k v).find? fun p => decide (p.1 = j)).map (·.2)) = if k = j then some v else ((rs.find? fun p => decide (p.1 = j)).map (·.2)) := by
  unfold putR
  by_cases q : (rs.find? fun p => decide (p.1 = k)).isSome = true
  · rw [if_pos q]
    induction rs with
    | nil => simp at q
    | cons p rs ih =>
      rw [List.map_cons, List.find?_cons, List.find?_cons]
      by_cases e : p.1 = k
      · rw [if_pos e]
        by_cases e2 : k = j
        · subst e2; simp [e]
        · have e3 : ¬ p.1 = j := fun z => e2 (e.symm.trans z)
          simp only [e3, decide_false]
          rw [if_neg e2]
          clear ih q
          induction rs with
          | nil => rfl
          | cons a rs ih =>
            rw [List.map_cons, List.find?_cons, List.find?_cons]
            by_cases f : a.1 = k
            · rw [if_pos f]
              have f2 : ¬ a.1 = j := fun z => e2 (f.symm.trans z)
              simp only [f2, decide_false]
              exact ih
            · rw [if_neg f]
              by_cases g : a.1 = j
              · simp [g]
              · simp only [g, decide_false]; exact ih
      · rw [if_neg e]
        have q' : (rs.find? fun p => decide (p.1 = k)).isSome = true := by simpa [List.find?_cons, e] using q
        by_cases g : p.1 = j
        · have e2 : ¬ k = j := fun z => e (g.trans z.symm)
          simp [g, e2]
        · simp only [g, decide_false]; exact ih q'
  · rw [if_neg q, List.find?_append]
    by_cases e : k = j
    · subst e
      have : (rs.find? fun p => decide (p.1 = k)) = none := by
        cases z : rs.find? fun p => decide (p.1 = k) with
        | none => rfl
        | some r => rw [z] at q; exact absurd rfl q
      rw [this]
      simp
    · rw [if_neg e]
      simp [e]
theorem rowsOf_put (rs : Rows) (k : PB) (v : List Sd) (y : Sd) : rowsOf (putR rs k v) y = if k = pbOf y then v else rowsOf rs y := by
  unfold rowsOf
  rw [find_putR]
  split <;> rfl
theorem wUnder_trans {a b c : List Int} (h1 : wUnder a b = true) (h2 : wUnder b c = true) (hl : a.length = b.length) : wUnder a c = true := by
  unfold wUnder at h1 h2 ⊢
  rw [List.all_eq_true] at h1 h2 ⊢
  intro i hi
  have p1 := of_decide_eq_true (h1 i hi)
  have p2 := of_decide_eq_true (h2 i (by rw [← hl]; exact hi))
  exact decide_eq_true (Int.le_trans p1 p2)
theorem under_trans {a b c : Sd} (h1 : liesUnder a b = true) (h2 : liesUnder b c = true) (hl : a.waits.length = b.waits.length) : liesUnder a c = true := by
  unfold liesUnder at h1 h2 ⊢
  simp only [Bool.and_eq_true, decide_eq_true_eq, List.all_eq_true] at h1 h2 ⊢
  obtain ⟨⟨a1, a2⟩, a3, a4⟩ := h1
  obtain ⟨⟨b1, b2⟩, b3, b4⟩ := h2
  exact ⟨⟨a1.trans b1, a2.trans b2⟩, wUnder_trans a3 b3 hl, fun i hi => a4 i (b4 i hi)⟩
theorem cov_iff {rs : Rows} {y : Sd} : covB rs y = true ↔ ∃ z ∈ rowsOf rs y, y = z ∨ liesUnder y z = true := by
  unfold covB
  rw [Bool.or_eq_true, decide_eq_true_eq, List.any_eq_true]
  constructor
  · rintro (h | ⟨z, h1, h2⟩)
    · exact ⟨y, h, .inl rfl⟩
    · exact ⟨z, h1, .inr h2⟩
  · rintro ⟨z, h1, h2 | h2⟩
    · exact .inl (h2 ▸ h1)
    · exact .inr ⟨z, h1, h2⟩
theorem cov_self (rs : Rows) (x : Sd) : covB (addR rs x) x = true := by
  unfold addR
  split
  · assumption
  · rw [cov_iff, rowsOf_put, if_pos rfl]
    exact ⟨x, List.mem_append.mpr (.inr (List.mem_singleton.mpr rfl)), .inl rfl⟩
theorem cov_keep {t : Tk} {n : Nat} {rs : Rows} {x y : Sd} (ro : RowsOk t n rs) (oy : StandOk t y) (h : covB rs y = true) : covB (addR rs x) y = true := by
  unfold addR
  split
  · exact h
  · rw [cov_iff] at h ⊢
    rw [rowsOf_put]
    split
    · rename_i e
      obtain ⟨z, h1, h2⟩ := h
      have er : rowsOf rs x = rowsOf rs y := by unfold rowsOf; rw [e]
      rw [er]
      by_cases c : liesUnder z x = true
      · refine ⟨x, List.mem_append.mpr (.inr (List.mem_singleton.mpr rfl)), .inr ?_⟩
        rcases h2 with h2 | h2
        · rw [h2]; exact c
        · have oz := (ro.of y).1 z h1
          exact under_trans h2 c (by rw [oy.waits.len, oz.waits.len])
      · exact ⟨z, List.mem_append.mpr (.inl (List.mem_filter.mpr ⟨h1, by simpa using c⟩)), h2⟩
    · exact h
theorem go_ok {t : Tk} {ov : List Sd} (o : TaskOk t) (os : ∀ x ∈ ov, StandOk t x) (ho : ∀ (j : Nat) (s : Sd), ov[j]? = some s → ∀ d ∈ laterDays t s, ∀ s', nextS t s d = some s' → s' ∈ ov.take j) :
    ∀ (rest done : List Sd) (rs : Rows) (n : Nat), RowsOk t n rs → (∀ y ∈ done, covB rs y = true) → ov = done ++ rest → ∃ rs', walkGo t rs rest = some rs' ∧ ∀ y ∈ ov, covB rs' y = true
  | [], done, rs, n, ro, hc, e => ⟨rs, rfl, fun y hy => hc y (by rw [e, List.append_nil] at hy; exact hy)⟩
  | x :: rest, done, rs, n, ro, hc, e => by
    have hx : ov[done.length]? = some x := by rw [e, List.getElem?_append_right (Nat.le_refl _), Nat.sub_self]; rfl
    have ox := os x (List.mem_of_getElem? hx)
    have hr : runsB t rs x = true := by
      unfold runsB
      rw [List.all_eq_true]
      intro d hd
      unfold runB
      cases en : nextS t x d with
      | none => rfl
      | some s' =>
        have := ho done.length x hx d hd s' en
        rw [e, List.take_left'] at this
        · exact hc s' this
        · rfl
    rw [walkGo, if_pos hr]
    refine go_ok o os ho rest (done ++ [x]) (addR rs x) (n + 1) (addR_ok ro ox) (fun y hy => ?_) (by rw [e]; simp)
    rcases List.mem_append.mp hy with z | z
    · exact cov_keep ro (os y (by rw [e]; exact List.mem_append.mpr (.inl z))) (hc y z)
    · rw [List.mem_singleton.mp z]; exact cov_self rs x
theorem walk_ok {t : Tk} {s0 : Sd} {c0 : List (List (List Int))} {tk : List (List Int)} {ov : List Sd} (I : WInv t s0 ⟨[], c0, tk, ov⟩) (o : TaskOk t) (os : StandOk t s0) : AnsOk t (.walk ov) ∧ ansB t s0 (.walk ov) = true := by
  have m : s0 ∈ ov := by
    rcases I.ro with ⟨_, z⟩ | z
    · exact z
    · simp at z
  have fw := I.few o
  have oa : ∀ x ∈ ov, StandOk t x := fun x hx => I.okU o os (List.mem_append.mpr (.inr hx))
  refine ⟨⟨List.length_pos_of_mem m, by simp at fw; omega, oa⟩, ?_⟩
  obtain ⟨rs, h1, h2⟩ := go_ok o oa I.ov ov [] [] 0 ⟨(fun e he => by cases he), (fun e he => by cases he), Nat.le_refl _⟩ (fun y hy => by cases hy) rfl
  show walkB t s0 ov = true
  unfold walkB
  rw [h1]
  exact h2 s0 m
end W36
end
section
set_option Elab.async false
set_option linter.all false
set_option maxRecDepth 100000
set_option maxHeartbeats 4000000
namespace W36
open PySem L2 Evl
abbrev YStep (P : Program) (w : World) (C p : Addr) (t : Tk) (s0 : Sd) (k : Wk) (r : PyData) (e : Ent) : Prop := (∃ A' k', r = .none ∧ e = wkE P w C p t A' k' ∧ WInv t s0 k' ∧ mu k' < mu k) ∨ (∃ A' k' a, r = dA a ∧ e = wkE P w C p t A' k' ∧ AnsOk t a ∧ ansB t s0 a = true)
def A_Walk_step (P : Program) (w : World) (C : Addr) (es : List Ent) (Y : PyData → Ent → Prop) : Prop := ∃ p t s0 A k, es = [wkE P w C p t A k] ∧ (TaskOk t ∧ StandOk t s0 ∧ WInv t s0 k ∧ k.way ≠ []) ∧ Y = YStep P w C p t s0 k
def sp_Walk_step (P : Program) (w : World) (C : Addr) : Sp := spX 0 (A_Walk_step P w C)
theorem ln_Walk_step {P : Program} {w : World} {C : Addr} : ∀ es Y, A_Walk_step P w C es Y → es.length = 1 := fun es Y ⟨_, _, _, _, _, h, _⟩ => by rw [h]; rfl
theorem c_Walk_step {P : Program} {w : World} {C p : Addr} {ρ : List Ent} {i : Nat} {t : Tk} {s0 : Sd} {A : WA} {k : Wk} (o : TaskOk t) (os : StandOk t s0) (I : WInv t s0 k) (nw : k.way ≠ []) (he : ρ[i]? = some (wkE P w C p t A k)) : XP (tMeth C "step" (sp_Walk_step P w C) [] E0 (tVar i) tNil) ρ (fun r ρ' => ∃ e, YStep P w C p t s0 k r e ∧ ρ' = ρ.set i e) :=
  xp_meth (ds := []) he (lk_no (by decide +kernel)) isA_nil ⟨p, t, s0, A, k, rfl, ⟨o, os, I, nw⟩, rfl⟩ (fun d u F' R' y => by
    rcases y with ⟨_, _, _, y, _⟩ | ⟨_, _, _, _, y, _⟩ <;> injection y)
theorem shaped_llT {c : List (List Int)} : SeqAt.shaped (.list (c.map tI)) = true := shaped_lT c
theorem dA_none (a : Ans) : dA a ≠ .none := by cases a <;> exact fun z => by cases z
theorem ok_Walk_step {P : Program} {w : World} {K : PySem.W.Frag} {mg : Str → Option Value} {base : Heap} {f : Addr} {fd : FuncData} (F : FnP K "step" "Walk.step" s_Walk_step f fd) (md : Md mg) {C : Addr} (oc : OcW K C) {f_Walk_go_back : Addr} {fd_Walk_go_back : FuncData} (h_Walk_go_back : HasM P w K mg base C 1 "go_back" ["self"] (sp_Walk_go_back P w C) f_Walk_go_back fd_Walk_go_back) {f_later_stand : Addr} {fd_later_stand : FuncData} (h_later_stand : Has P w K mg base 2 "later_stand" ["task", "stand", "day"] sp_later_stand f_later_stand fd_later_stand) {f_Walk_ring : Addr} {fd_Walk_ring : FuncData} (h_Walk_ring : HasM P w K mg base C 1 "ring" ["self", "day", "stand"] (sp_Walk_ring P w C) f_Walk_ring fd_Walk_ring) {f_Walk_go_on : Addr} {fd_Walk_go_on : FuncData} (h_Walk_go_on : HasM P w K mg base C 4 "go_on" ["self", "day", "stand"] (sp_Walk_go_on P w C) f_Walk_go_on fd_Walk_go_on) : FnOk P w K mg base CX0 5 f fd ["self"] (sp_Walk_step P w C) := by
  refine FunD.ok F sc_Walk_step (fun vs H Q E h => len_X (fun ds R hA => ?_) h) (fun cdv A outer s H vs Q E hr h => ?_)
  · exact ln_Walk_step ds R hA
  · have nd := sc_Walk_step.nd
    refine ⟨_, PSs.nox (pss_cons (ps_set (i := 1) nd rfl (by first | exact Or.inl rfl | exact Or.inr rfl) (pe_op op_sub (pe_callB (k_len K) (by rfl) md.len PySem.boot_len (pa_cons (pe_fld (pv 0) rfl) pa_nil)) pe_int))
    (pss_cons (ps_if (pt_cmpR (k_eqD K hr.units) (pe_ix (kx_L K) (pe_fld (pv 0) rfl) (pv 1) (fun _ _ => rfl)) (pe_lst pa_nil) (nomark _))
    (pss_cons (ps_expr (pe_meth0 (pv 0) oc.cl h_Walk_go_back.m h_Walk_go_back.ok (hr.mono (by decide)) h_Walk_go_back.b .nil pass0))
    (pss_one (ps_ret pe_non)))
    pss_nil)
    (pss_cons (ps_set (i := 2) nd rfl (by first | exact Or.inl rfl | exact Or.inr rfl) (pe_bm0 PySem.F.plainAttrs_list PySem.F.slot_list_pop PySem.F.type_list_pop mt_pop (pe_ix (kx_L K) (pe_fld (pv 0) rfl) (pv 1) (fun _ _ => rfl))))
    (pss_cons (ps_set (i := 3) nd rfl (by first | exact Or.inl rfl | exact Or.inr rfl) (pe_call h_later_stand.ok (hr.mono (by decide)) rfl h_later_stand.g h_later_stand.kp h_later_stand.b .nil pass0 (pa_cons (pe_fld (pv 0) rfl) (pa_cons (pe_ix (kx_L K) (pe_fld (pv 0) rfl) (pv 1) (fun _ _ => rfl)) (pa_cons (pv 2) pa_nil)))))
    (pss_cons (ps_if (PW.pt (pw_or (pt_cmp (pc_isN (pv 3))) (pw_or1 (pt_cmp (pc_nin (hu65 hr) (pv 3) (pe_fld (pv 0) rfl))))))
    (pss_one (ps_ret pe_non))
    pss_nil)
    (pss_cons (ps_if (pt_cmp (pc_nin (hu65 hr) (pv 3) (pe_fld (pv 0) rfl)))
    (pss_one (ps_ret (pe_meth (pv 0) oc.cl h_Walk_ring.m h_Walk_ring.ok (hr.mono (by decide)) h_Walk_ring.b .nil pass0 (pa_cons (pv 2) (pa_cons (pv 3) pa_nil)))))
    pss_nil)
    (pss_cons (ps_expr (pe_meth (pv 0) oc.cl h_Walk_go_on.m h_Walk_go_on.ok (hr.mono (by decide)) h_Walk_go_on.b .nil pass0 (pa_cons (pv 2) (pa_cons (pv 3) pa_nil))))
    (pss_one (ps_ret pe_non))))))))), run_X h fun ds R hA => ?_⟩
    obtain ⟨p, t, s0, A, k, rfl, ⟨o, os, I, nw⟩, rfl⟩ := hA
    obtain ⟨way, ch, tk, ov⟩ := k
    obtain ⟨w0, s, rfl⟩ : ∃ w0 s, way = w0 ++ [s] := by
      rcases List.eq_nil_or_concat way with h | ⟨a, b, h⟩
      · exact absurd h nw
      · exact ⟨a, b, by rw [h, List.concat_eq_append]⟩
    obtain ⟨c0, c, rfl⟩ : ∃ c0 c, ch = c0 ++ [c] := by
      rcases List.eq_nil_or_concat ch with h | ⟨a, b, h⟩
      · have := I.cl; rw [h] at this; simp at this
      · exact ⟨a, b, by rw [h, List.concat_eq_append]⟩
    have cl := top_cl I
    have tl := top_tl I
    have fw := I.few o
    simp only [List.length_append, List.length_singleton] at fw
    have sm : s ∈ w0 ++ [s] := List.mem_append.mpr (.inr (List.mem_singleton.mpr rfl))
    have sk := I.okU o os (s := s) (List.mem_append.mpr (.inl sm))
    have nd := I.nd
    have sw : ¬ s ∈ w0 := fun z => by
      have := (List.nodup_append.mp (List.nodup_append.mp nd).1).2.2 s z s (List.mem_singleton.mpr rfl)
      exact this rfl
    have so : ¬ s ∈ ov := fun z => (List.nodup_append.mp nd).2.2 s sm s z rfl
    refine do_let (d := .int (w0.length : Int)) (Is.to (is_iI (g := fun i j => i - j) (a := ((w0 ++ [s]).length : Int)) (b := 1) (Is.to (is_lenL (is_fL (i := 0) rfl ⟨oc.cl, oc.way⟩ lk_way)) (by rw [List.length_map])) is_int) (by rw [List.length_append, List.length_singleton]; congr 1; omega)) ?_
    have hc : ((c0 ++ [c]).map fun c => c.map tI)[w0.length]? = some (c.map tI) := by rw [List.getElem?_map, ← cl, List.getElem?_append_right (Nat.le_refl _), Nat.sub_self]; rfl
    have hw : ((w0 ++ [s]).map dS)[w0.length]? = some (dS s) := by rw [List.getElem?_map, top_at]; rfl
    refine do_seq (do_if (b := (c.map tI).isEmpty) (ist_test (is_eqNil (isL_ll (i := 0) (m := w0.length) rfl ⟨oc.cl, oc.choices⟩ lk_choices (is_var rfl) rfl hc) shaped_llT)) (fun e => ?_) fun e => do_next ?_)
    · have hn : c = [] := by cases c with
        | nil => rfl
        | cons x c => cases e
      subst hn
      refine do_dropX1 (c_Walk_go_back (i := 0) sw so (by omega) rfl) fun d ρ' ⟨A', h⟩ => ?_
      subst h
      exact do_retS is_non fun d hd => ⟨_, _, _, rfl, .inl ⟨A', _, hd, rfl, back_inv I, back_mu I⟩⟩
    obtain ⟨c', d, rfl⟩ : ∃ c' d, c = c' ++ [d] := by
      rcases List.eq_nil_or_concat c with h | ⟨a, b, h⟩
      · rw [h] at e; cases e
      · exact ⟨a, b, by rw [h, List.concat_eq_append]⟩
    have hc' : ((c0 ++ [c' ++ [d]]).map fun c => c.map tI)[w0.length]? = some (c'.map tI ++ [tI d]) := by rw [hc, List.map_append]; rfl
    obtain ⟨dk, dc⟩ := later_mem (top_day I)
    refine do_asgX1 (xp_llpop2 (i := 0) (k := 2) (m := w0.length) rfl ⟨oc.cl, oc.choices⟩ lk_choices rfl (is_var rfl) rfl hc') fun r ρ' h => ?_
    obtain ⟨rfl, rfl⟩ := h
    have hs : ((c0 ++ [c' ++ [d]]).map fun c => c.map tI).set w0.length (c'.map tI) = (c0 ++ [c']).map fun c => c.map tI := by
      rw [← cl, List.map_append, List.map_append, List.set_append_right _ _ (by rw [List.length_map]; exact Nat.le_refl _), List.length_map, Nat.sub_self]; rfl
    rw [hs]
    show Do _ [wkE P w C p t A ⟨w0 ++ [s], c0 ++ [c'], tk, ov⟩, .dat (.int (w0.length : Int)), .dat (tI d), .no] _
    refine do_let (c_later_stand o sk.waits.len dk.r.l (isA_cons (is_fD (i := 0) rfl ⟨oc.cl, oc.of⟩ lk_of) (isA_cons (is_ixL (n := w0.length) (is_fL (i := 0) rfl ⟨oc.cl, oc.way⟩ lk_way) (is_var rfl) rfl hw) (isA_cons (is_var rfl) isA_nil)))) ?_
    cases en : nextS t s d with
    | none =>
      refine do_when (b := true) (ist_or (x := true) (y := true) (ist_B (is_isN (d := .none) (is_var rfl))) fun e => by cases e) (fun _ => ?_) fun e => by cases e
      exact do_retS is_non fun r hr => ⟨_, _, _, rfl, .inl ⟨A, _, hr, rfl, skip_inv I (fun s' hs' => by rw [en] at hs'; cases hs'), skip_mu⟩⟩
    | some s' =>
      refine do_when (b := decide (s' ∈ ov)) (IsB.to (ist_or (ist_B (is_isN (d := dS s') (is_var rfl))) fun _ => ist_B (is_din (kvs := overK ov) (is_fDc (i := 0) rfl ⟨oc.cl, oc.over⟩ lk_ov) (is_var rfl) (kok_dS s'))) (by rw [lk_over]; rfl)) (fun e2 => ?_) fun e2 => ?_
      · have m := of_decide_eq_true e2
        exact do_retS is_non fun r hr => ⟨_, _, _, rfl, .inl ⟨A, _, hr, rfl, skip_inv I (fun x hx => by rw [en] at hx; cases hx; exact m), skip_mu⟩⟩
      have n2 := of_decide_eq_false e2
      refine do_when (b := decide (s' ∈ w0 ++ [s])) (IsB.to (ist_B (is_din (kvs := placesK (w0 ++ [s])) (is_fDc (i := 0) rfl ⟨oc.cl, oc.places⟩ lk_plc) (is_var rfl) (kok_dS s'))) (by rw [lk_places]; split <;> simp_all)) (fun e3 => ?_) fun e3 => ?_
      · have m := of_decide_eq_true e3
        obtain ⟨r1, r2⟩ := ring_ok I o os en m (k := ⟨w0 ++ [s], c0 ++ [c'], tk, ov⟩) rfl rfl
        exact do_retS (c_Walk_ring (i := 0) (k := ⟨w0 ++ [s], c0 ++ [c'], tk, ov⟩) m (by show tk.length ≤ 1000; omega) rfl (isA_cons (is_var rfl) (isA_cons (is_var rfl) isA_nil))) fun r hr => ⟨_, _, _, rfl, .inr ⟨A, _, _, hr, rfl, r1, r2⟩⟩
      · have n1 := of_decide_eq_false e3
        have J := on_inv I o os en n1 n2
        have os' := next_ok o sk.waits dk en
        refine do_dropX1 (c_Walk_go_on (i := 0) (k := ⟨w0 ++ [s], c0 ++ [c'], tk, ov⟩) (d := d) o os' n1 ⟨by show (w0 ++ [s]).length ≤ 1000; rw [List.length_append, List.length_singleton]; omega, by show (c0 ++ [c']).length ≤ 1000; rw [List.length_append, List.length_singleton]; omega, by show tk.length ≤ 1000; omega, by show ov.length ≤ 1000; omega⟩ rfl (isA_cons (is_var rfl) (isA_cons (is_var rfl) isA_nil))) fun r ρ' ⟨A', h⟩ => ?_
        subst h
        exact do_retS is_non fun r hr => ⟨_, _, _, rfl, .inl ⟨A', _, hr, rfl, J, on_mu J o⟩⟩
def Good (t : Tk) (s : Sd) (x : PyData) : Prop := ∃ a, x = dA a ∧ AnsOk t a ∧ ansB t s a = true
def A_walked (ds : List PyData) (R : PyData → Prop) : Prop := ∃ (t : Tk) (s : Sd), ds = [dT t, dS s] ∧ (TaskOk t ∧ StandOk t s) ∧ R = Good t s
def sp_walked : Sp := spD A_walked
theorem ln_walked : ∀ ds R, A_walked ds R → ds.length = 2 := fun ds R ⟨_, _, h, _⟩ => by rw [h]; rfl
theorem c_walked {tx : TA} {ρ : List Ent} {t : Tk} {s : Sd} (o : TaskOk t) (os : StandOk t s) (ha : IsA tx ρ [dT t, dS s]) : IsP (tCall sp_walked [] E0 tx) ρ (Good t s) := isP_call ha ⟨t, s, rfl, ⟨o, os⟩, rfl⟩
theorem over_keys (ov : List Sd) : (overK ov).map (·.1) = ov.map dS := by unfold overK; rw [List.map_map]; rfl
theorem is_isN_dA {ρ : List Ent} {te : TE} {a : Ans} (h : Is te ρ (dA a)) : Is (tIsN te) ρ (.bool false) := (is_isN h).to (by cases a <;> rfl)
theorem ok_walked {P : Program} {w : World} {K : PySem.W.Frag} {mg : Str → Option Value} {base : Heap} {f : Addr} {fd : FuncData} (F : FnP K "walked" "walked" s_walked f fd) (md : Md mg) {C : Addr} (oc : OcW K C) {f_Walk_init : Addr} {fd_Walk_init : FuncData} (h_Walk_init : HasI P w K mg base C 4 "Walk" ["self", "task", "stand"] (sp_Walk_init P w C) f_Walk_init fd_Walk_init) {f_Walk_step : Addr} {fd_Walk_step : FuncData} (h_Walk_step : HasM P w K mg base C 5 "step" ["self"] (sp_Walk_step P w C) f_Walk_step fd_Walk_step) : FnOk P w K mg base CX0 6 f fd ["task", "stand"] sp_walked := by
  refine FunD.ok F sc_walked (fun vs H Q E h => len_D (fun ds R hA => ?_) h) (fun cdv A outer s H vs Q E hr h => ?_)
  · exact ln_walked ds R hA
  · have nd := sc_walked.nd
    refine ⟨_, PSs.nox (pss_cons (ps_set (i := 2) nd rfl (by first | exact Or.inl rfl | exact Or.inr rfl) (pe_make h_Walk_init.mkc h_Walk_init.ok (hr.mono (by decide)) rfl h_Walk_init.hm h_Walk_init.b .nil pass0 (pa_cons (pv 0) (pa_cons (pv 1) pa_nil))))
    (pss_cons (ps_set (i := 3) nd rfl (by first | exact Or.inl rfl | exact Or.inr rfl) pe_non)
    (pss_cons (ps_while PassesOwn.never (PW.pt (pw_and (pt_cmp (pc_isN (pv 3))) (pw_and1 (pt_cmpR (k_neD K hr.units) (pe_fld (pv 2) rfl) (pe_lst pa_nil) (nomark _)))))
    (pss_one (ps_set (i := 3) nd rfl (by first | exact Or.inl rfl | exact Or.inr rfl) (pe_meth0 (pv 2) oc.cl h_Walk_step.m h_Walk_step.ok (hr.mono (by decide)) h_Walk_step.b .nil pass0))))
    (pss_cons (ps_if (pt_cmp (pc_isN (pv 3)))
    (pss_one (ps_ret (pe_tup (pa_cons pe_str (pa_cons (pe_callTy (call_ntup rfl) (by rfl) md.tuple (by decide +kernel) (pa_cons (pe_fld (pv 2) rfl) pa_nil)) pa_nil)))))
    pss_nil)
    (pss_one (ps_ret (pv 3))))))), run_D h fun ds R hA => ?_⟩
    obtain ⟨t, s, rfl, ⟨o, os⟩, rfl⟩ := hA
    refine do_seq (do_make (P := P) (w := w) (C := C) (ds := [dT t, dS s]) (A := A_Walk_init P w C) (Y' := fun p d e => d = .none ∧ ∃ A, e = wkE P w C p t A ⟨[s], [laterDays t s], [], []⟩) (isA_cons (is_var rfl) (isA_cons (is_var rfl) isA_nil)) (fun p => ⟨p, t, s, rfl, ⟨o, os⟩, rfl⟩) (fun p d u F' R' ⟨h1, l, h2⟩ => ⟨h1, by injection h2⟩) fun p e ⟨_, A, he⟩ => ?_)
    subst he
    refine do_let is_non ?_
    refine do_seq (do_whileM (I := fun m ρ => (∃ A k, ρ = [.dat (dT t), .dat (dS s), wkE P w C p t A k, .dat .none] ∧ WInv t s k ∧ mu k + 1 = m) ∨ (∃ a A k, ρ = [.dat (dT t), .dat (dS s), wkE P w C p t A k, .dat (dA a)] ∧ AnsOk t a ∧ ansB t s a = true ∧ m = 0)) ⟨_, _, .inl ⟨A, _, rfl, start_inv, rfl⟩, Le.refl _⟩ ?_)
    rintro m ρ1 (⟨A, k, rfl, I, hm⟩ | ⟨a, A, k, rfl, ga, gb, hm⟩)
    · refine ⟨!(k.way.map dS).isEmpty, IsB.to (ist_and (ist_B (is_isN (d := .none) (is_var rfl))) fun _ => ist_test (is_neNil (is_fL (i := 2) rfl ⟨oc.cl, oc.way⟩ lk_way) (shaped_lS _))) (by rfl), fun e => ?_, fun e => ?_⟩
      · have nw : k.way ≠ [] := fun z => by rw [z] at e; cases e
        refine do_asgX (c_Walk_step (i := 2) o os I nw rfl) fun r ρ' ⟨e', y, h⟩ => ?_
        subst h
        rcases y with ⟨A', k', rfl, rfl, I', hmu⟩ | ⟨A', k', a, rfl, rfl, g1, g2⟩
        · exact ⟨_, ⟨mu k' + 1, by omega, .inl ⟨A', k', rfl, I', rfl⟩⟩, Le.refl _⟩
        · exact ⟨_, ⟨0, by omega, .inr ⟨a, A', k', rfl, g1, g2, rfl⟩⟩, Le.refl _⟩
      · obtain ⟨way, ch, tk, ov⟩ := k
        have hw : way = [] := by cases way with
          | nil => rfl
          | cons x r => cases e
        subst hw
        obtain ⟨g1, g2⟩ := walk_ok I o os
        refine do_when (b := true) (ist_B (is_isN (d := .none) (is_var rfl))) (fun _ => ?_) fun e => by cases e
        refine do_retD (d := dA (.walk ov)) (is_tup (isA_cons is_str (isA_cons (Is.to (is_dtup (is_fDc (i := 2) rfl ⟨oc.cl, oc.over⟩ lk_ov)) ?_) isA_nil))) ⟨_, rfl, g1, g2⟩
        rw [over_keys]
    · refine ⟨false, ist_and (x := false) (y := false) (ist_B (is_isN_dA (a := a) (is_var rfl))) (fun e => by cases e), (fun e => by cases e), fun _ => ?_⟩
      refine do_when (b := false) (ist_B (is_isN_dA (a := a) (is_var rfl))) (fun e => by cases e) fun _ => ?_
      exact do_retD (is_var rfl) ⟨a, rfl, ga, gb⟩
end W36
end
section
set_option Elab.async false
set_option linter.all false
set_option maxRecDepth 100000
set_option maxHeartbeats 4000000
namespace W36
open PySem L2 Evl
def A_answer_of (ds : List PyData) (R : PyData → Prop) : Prop := ∃ (t : Tk) (s : Sd), ds = [dT t, dS s] ∧ (TaskOk t ∧ StandOk t s) ∧ R = Good t s
def sp_answer_of : Sp := spD A_answer_of
theorem ln_answer_of : ∀ ds R, A_answer_of ds R → ds.length = 2 := fun ds R ⟨_, _, h, _⟩ => by rw [h]; rfl
theorem c_answer_of {tx : TA} {ρ : List Ent} {t : Tk} {s : Sd} (o : TaskOk t) (os : StandOk t s) (ha : IsA tx ρ [dT t, dS s]) : IsP (tCall sp_answer_of [] E0 tx) ρ (Good t s) := isP_call ha ⟨t, s, rfl, ⟨o, os⟩, rfl⟩
theorem ok_answer_of {P : Program} {w : World} {K : PySem.W.Frag} {mg : Str → Option Value} {base : Heap} {f : Addr} {fd : FuncData} (F : FnP K "answer_of" "answer_of" s_answer_of f fd) (md : Md mg) {f_least_crowd : Addr} {fd_least_crowd : FuncData} (h_least_crowd : Has P w K mg base 5 "least_crowd" ["task"] sp_least_crowd f_least_crowd fd_least_crowd) {f_walked : Addr} {fd_walked : FuncData} (h_walked : Has P w K mg base 6 "walked" ["task", "stand"] sp_walked f_walked fd_walked) : FnOk P w K mg base CX0 7 f fd ["task", "stand"] sp_answer_of := by
  refine FunD.ok F sc_answer_of (fun vs H Q E h => len_D (fun ds R hA => ?_) h) (fun cdv A outer s H vs Q E hr h => ?_)
  · exact ln_answer_of ds R hA
  · have nd := sc_answer_of.nd
    refine ⟨_, PSs.nox (pss_cons (ps_set (i := 2) nd rfl (by first | exact Or.inl rfl | exact Or.inr rfl) (pe_call h_least_crowd.ok (hr.mono (by decide)) rfl h_least_crowd.g h_least_crowd.kp h_least_crowd.b .nil pass0 (pa_cons (pv 0) pa_nil)))
    (pss_cons (ps_if (pt_cmp (pc_notN (pv 2)))
    (pss_one (ps_ret (pe_tup (pa_cons pe_str (pa_cons (pe_ix (kx_T K) (pv 2) pe_int (fun _ _ => rfl)) (pa_cons (pe_ix (kx_T K) (pv 2) pe_int (fun _ _ => rfl)) pa_nil))))))
    pss_nil)
    (pss_one (ps_ret (pe_call h_walked.ok (hr.mono (by decide)) rfl h_walked.g h_walked.kp h_walked.b .nil pass0 (pa_cons (pv 0) (pa_cons (pv 1) pa_nil))))))), run_D h fun ds R hA => ?_⟩
    obtain ⟨t, s, rfl, ⟨o, os⟩, rfl⟩ := hA
    refine do_letP (c_least_crowd o (isA_cons (is_var rfl) isA_nil)) fun x hx => ?_
    rcases hx with rfl | ⟨d, p, rfl, h1, h2, h3, h4, h5⟩
    · refine do_when (b := false) (ist_B (is_notN (d := .none) (is_var rfl))) (fun e => by cases e) fun _ => ?_
      exact do_ret (c_walked o os (isA_cons (is_var rfl) (isA_cons (is_var rfl) isA_nil))) fun d h => h
    · refine do_when (b := true) (ist_B (is_notN (d := .tuple [.int d, .int p]) (is_var rfl))) (fun _ => ?_) fun e => by cases e
      exact do_retD (d := dA (.count d p)) (is_tup (isA_cons is_str (isA_cons (is_ixT (n := 0) (is_var rfl) is_int rfl rfl) (isA_cons (is_ixT (n := 1) (is_var rfl) is_int rfl rfl) isA_nil)))) ⟨.count d p, rfl, ⟨h1, by omega, h3, h4⟩, decide_eq_true h5⟩
def A_answer (ds : List PyData) (R : PyData → Prop) : Prop := ∃ (t : Tk) (s : Sd), ds = [dT t, dS s] ∧ (TaskOk t ∧ StandOk t s) ∧ R = Good t s
def sp_answer : Sp := spD A_answer
theorem ln_answer : ∀ ds R, A_answer ds R → ds.length = 2 := fun ds R ⟨_, _, h, _⟩ => by rw [h]; rfl
theorem c_answer {tx : TA} {ρ : List Ent} {t : Tk} {s : Sd} (o : TaskOk t) (os : StandOk t s) (ha : IsA tx ρ [dT t, dS s]) : IsP (tCall sp_answer [] E0 tx) ρ (Good t s) := isP_call ha ⟨t, s, rfl, ⟨o, os⟩, rfl⟩
theorem ok_answer {P : Program} {w : World} {K : PySem.W.Frag} {mg : Str → Option Value} {base : Heap} {f : Addr} {fd : FuncData} (F : FnP K "answer" "answer" s_answer f fd) (md : Md mg) {f_asked_task : Addr} {fd_asked_task : FuncData} (h_asked_task : Has P w K mg base 11 "asked_task" ["thing"] sp_asked_task f_asked_task fd_asked_task) {f_asked_stand : Addr} {fd_asked_stand : FuncData} (h_asked_stand : Has P w K mg base 9 "asked_stand" ["task", "thing"] sp_asked_stand f_asked_stand fd_asked_stand) {f_asked_room : Addr} {fd_asked_room : FuncData} (h_asked_room : Has P w K mg base 3 "asked_room" ["task"] sp_asked_room f_asked_room fd_asked_room) {f_answer_of : Addr} {fd_answer_of : FuncData} (h_answer_of : Has P w K mg base 7 "answer_of" ["task", "stand"] sp_answer_of f_answer_of fd_answer_of) : FnOk P w K mg base CX0 12 f fd ["task", "stand"] sp_answer := by
  refine FunD.ok F sc_answer (fun vs H Q E h => len_D (fun ds R hA => ?_) h) (fun cdv A outer s H vs Q E hr h => ?_)
  · exact ln_answer ds R hA
  · have nd := sc_answer.nd
    refine ⟨_, PSs.nox (pss_cons (ps_set (i := 0) nd rfl (by first | exact Or.inl rfl | exact Or.inr rfl) (pe_call h_asked_task.ok (hr.mono (by decide)) rfl h_asked_task.g h_asked_task.kp h_asked_task.b .nil pass0 (pa_cons (pv 0) pa_nil)))
    (pss_cons (ps_set (i := 1) nd rfl (by first | exact Or.inl rfl | exact Or.inr rfl) (pe_call h_asked_stand.ok (hr.mono (by decide)) rfl h_asked_stand.g h_asked_stand.kp h_asked_stand.b .nil pass0 (pa_cons (pv 0) (pa_cons (pv 1) pa_nil))))
    (pss_cons (ps_expr (pe_call h_asked_room.ok (hr.mono (by decide)) rfl h_asked_room.g h_asked_room.kp h_asked_room.b .nil pass0 (pa_cons (pv 0) pa_nil)))
    (pss_one (ps_ret (pe_call h_answer_of.ok (hr.mono (by decide)) rfl h_answer_of.g h_answer_of.kp h_answer_of.b .nil pass0 (pa_cons (pv 0) (pa_cons (pv 1) pa_nil)))))))), run_D h fun ds R hA => ?_⟩
    obtain ⟨t, s, rfl, ⟨o, os⟩, rfl⟩ := hA
    refine do_let (c_asked_task o (isA_cons (is_var rfl) isA_nil)) ?_
    refine do_let (c_asked_stand o os (isA_cons (is_var rfl) (isA_cons (is_var rfl) isA_nil))) ?_
    refine do_dropX1 (xp_is (c_asked_room o (isA_cons (is_var rfl) isA_nil))) fun d ρ' h => ?_
    obtain ⟨_, rfl⟩ := h
    exact do_ret (c_answer_of o os (isA_cons (is_var rfl) (isA_cons (is_var rfl) isA_nil))) fun d h => h
end W36
end
section
set_option Elab.async false
set_option linter.all false
set_option maxRecDepth 100000
set_option maxHeartbeats 4000000
/-! sorted of data, also of tuples with an empty one ahead. -/
namespace PySem.W
open PySem PySem.Calls PyProof.Rows SeqAt
section
variable {prog : Program} {w : World} {A : Around} {E : Value → Shared → Prop} {s : Shared}
theorem call_tuple_lt {Q : Value → Shared → Prop} {l b : Addr} {items items2 : Array Value} {e r : Nat → Bool} (hl : s.heap.IsTuple l items) (hb : s.heap.IsTuple b items2)
    (he : ∀ j (h1 : j < items.size) (h2 : j < items2.size), EqAt A.in1 s items[j] items2[j] (e j)) (hr : ∀ j (h1 : j < items.size) (h2 : j < items2.size), e j = false → RcLt A.in1 s items[j] items2[j] (r j))
    (h : Q (.bool (firstLt e r (decide (items.size < items2.size)) (List.range (min items.size items2.size)))) s) : wpAny (model prog w) A (call (.builtin "tuple.__lt__") [.ref l, .ref b]) Q E s := by
  obtain ⟨⟨cls, dd, data, sl⟩, ho, hc, n, hd⟩ := id hl
  obtain ⟨⟨cls2, dd2, data2, sl2⟩, ho2, hc2, n2, hd2⟩ := id hb
  simp only at hc hd hc2 hd2
  subst hc hd hc2 hd2
  exact call_meets F.slot_tuple_lt ⟨_, ho, rfl⟩ F.entry_tuple_lt (F.args_tuple_lt_2 _ _) (tuple_ltAt l b items items2 n n2 dd dd2 sl sl2 e r) ⟨ho, ho2, he, hr, h⟩
theorem oneLt_tup {xs ys : List PyData} {a b : Value} {as bs : List Addr} {Q : Bool → Shared → Prop} (ra : Reads s.heap a (.tuple xs) as) (rb : Reads s.heap b (.tuple ys) bs) (hal : alikeAll xs ys = true)
    (hu : A.units + min (PyData.tuple xs).depth (PyData.tuple ys).depth < cLine) (hq : Q (dataLt (.tuple xs) (.tuple ys)) s) : wpAny (model prog w) A (oneLt' true a b) Q E s := by
  cases ra with
  | @tuple l o vs n _ as₁ h1 h2 h3 h4 =>
    cases rb with
    | @tuple l' o' vs' n' _ bs₁ k1 k2 k3 k4 =>
      have n1 : vs.size = xs.length := by simpa using ReadsAll.length _ _ _ h4
      have n2 : vs'.size = ys.length := by simpa using ReadsAll.length _ _ _ k4
      rw [dataLt_tuple, ← firstLt_toks xs ys hal, ← n1, ← n2] at hq
      rw [oneLt'_eq]
      simp only [if_true]
      refine wpAny_bind (wpAny_cRoomFor (room_here hu) ?_)
      refine wpAny_bind (wpAny_callSpecialIfBound?_slot (T := "tuple") ⟨_, h1, h2⟩ F.slot_tuple_lt (call_tuple_lt (e := pairEq xs ys) (r := fun j => dataLt (xs.getD j .none) (ys.getD j .none)) ⟨_, h1, h2, _, h3⟩ ⟨_, k1, k2, _, k3⟩ (fun j j1 j2 => ?_) (fun j j1 j2 hj => ?_) ?_))
      · have := eqAt_alikeAll xs ys A.in1 s vs.toList vs'.toList _ _ h4 k4 hal (room_in hu) j (by simpa using j1) (by simpa using j2)
        simpa using this
      · have := rcLt_alikeAll xs ys A.in1 s vs.toList vs'.toList _ _ h4 k4 hal (room_in hu) j (by simpa using j1) (by simpa using j2) hj
        simpa using this
      · exact wpAny_truthy_bool hq
end
section
variable {M : Model} {A : Around} {E : Value → Shared → Prop} {s : Shared}
theorem mix_firsts : ∀ (vs : List Value) {Q : List (Option Value) → Shared → Prop}, (∀ v ∈ vs, ∃ a o xs n, v = .ref a ∧ s.heap.get? a = some o ∧ o.cls = .type "tuple" ∧ o.data = .seq xs n) → (∀ fs, fs.length = vs.length → Q fs s) → wpAny M A (vs.mapM firstOfTuple') Q E s
  | [], _, _, h => by rw [List.mapM_nil]; exact wpAny_pure (h [] rfl)
  | v :: vs, Q, t, h => by
    obtain ⟨a, o, xs, n, rfl, ho, hc, hd⟩ := t v List.mem_cons_self
    rw [List.mapM_cons]
    refine wpAny_bind ?_
    rw [kas_first_eq]
    refine wpAny_bind (Looks.here (show Looks M s.heap (typeOf (.ref a)) o.cls from (Looks.ld ho).andThen .now) ?_)
    rw [hc, if_neg (by first | decide | simp)]
    refine wpAny_bind (listItems_at ho hd (wpAny_pure ?_))
    exact wpAny_bind (mix_firsts vs (fun v hv => t v (List.mem_cons_of_mem _ hv)) fun fs hf => wpAny_pure (h _ (by rw [List.length_cons, List.length_cons, hf])))
theorem mix_kind {a₀ : Addr} {o₀ : Obj} {n₀ : Nat} {vs : List Value} {Q : SortKind → Shared → Prop} (h0 : s.heap.get? a₀ = some o₀) (c0 : o₀.cls = .type "tuple") (d0 : o₀.data = .seq #[] n₀) (t : ∀ v ∈ vs, ∃ a o xs n, v = .ref a ∧ s.heap.get? a = some o ∧ o.cls = .type "tuple" ∧ o.data = .seq xs n)
    (h : Q oneType' s) : wpAny M A (keyKind' (Value.ref a₀ :: vs).toArray) Q E s := by
  rw [keyKind'_eq, List.mapM_toArray, map_eq_pure_bind]
  refine wpAny_bind (wpAny_bind ?_)
  rw [List.mapM_cons]
  refine wpAny_bind ?_
  rw [kas_first_eq]
  refine wpAny_bind (Looks.here (show Looks M s.heap (typeOf (.ref a₀)) o₀.cls from (Looks.ld h0).andThen .now) ?_)
  rw [c0, if_neg (by first | decide | simp)]
  refine wpAny_bind (listItems_at h0 d0 (wpAny_pure ?_))
  refine wpAny_bind (mix_firsts vs t fun fs _ => wpAny_pure (wpAny_pure ?_))
  have hall : ((((#[] : Array Value)[0]? :: fs).toArray.all fun x => x.isSome) = true) = False := by simp
  rw [if_neg (by rw [hall]; exact id)]
  rw [if_neg (by simp)]
  have ht : ∀ v ∈ Value.ref a₀ :: vs, Looks M s.heap (typeOf v) (Value.type "tuple") := fun v hv => by
    rcases List.mem_cons.mp hv with e | e
    · subst e; exact c0 ▸ (Looks.ld h0).andThen .now
    · obtain ⟨a, o, xs, n, rfl, ho, hc, _⟩ := t v e
      exact hc ▸ (Looks.ld ho).andThen .now
  rw [oneTypeOnly'_eq, List.mapM_toArray, map_eq_pure_bind]
  refine wpAny_bind (wpAny_bind (wpAny_bind (kas_mapM (r := Value.type "tuple") _ (fun v hv Q' hq => (ht v hv).here hq) (wpAny_pure ?_))))
  have hall2 : ((List.map (fun _ => Value.type "tuple") (Value.ref a₀ :: vs)).toArray.all fun x => x == Value.type "tuple") = true := by
    simp only [List.all_toArray, List.all_map, List.all_eq_true]
    intro _ _
    first | rfl | decide
  have h02 : (List.map (fun _ => Value.type "tuple") (Value.ref a₀ :: vs)).toArray[0]? = some (Value.type "tuple") := by simp
  rw [h02]
  simp only [hall2, if_true]
  exact wpAny_pure (wpAny_pure h)
end
/-- data that can be sorted: as before, or tuples with an empty one ahead -/
def SortOk (ds : List PyData) : Prop := Sortable ds ∨ ((∀ d, d ∈ ds → ∃ xs, d = .tuple xs) ∧ ∃ r, ds = .tuple [] :: r)
section
variable {prog : Program} {w : World} {A : Around} {E : Value → Shared → Prop} {s : Shared}
theorem tups_of {h : Heap} : ∀ {vs : List Value} {ds : List PyData}, EachIs (fun v d => ∃ as, Reads h v d as) vs ds → (∀ d, d ∈ ds → ∃ xs, d = .tuple xs) → ∀ v ∈ vs, ∃ a o xs n, v = .ref a ∧ h.get? a = some o ∧ o.cls = .type "tuple" ∧ o.data = .seq xs n
  | _, _, .nil, _, v, hv => by cases hv
  | _, _, .cons (b := d) ⟨as, r⟩ t, hd, v, hv => by
    rcases List.mem_cons.mp hv with e | e
    · subst e
      obtain ⟨xs, rfl⟩ := hd d List.mem_cons_self
      cases r with
      | tuple h1 h2 h3 h4 => exact ⟨_, _, _, _, rfl, h1, h2, h3⟩
    · exact tups_of t (fun d hm => hd d (List.mem_cons_of_mem _ hm)) v e
theorem SortsAt.mixed {vs : List Value} {ds : List PyData} (e : EachIs (fun v d => ∃ as, Reads s.heap v d as) vs ds) (hal : AllAlike ds) (ht : ∀ d, d ∈ ds → ∃ xs, d = .tuple xs) (h0 : ∃ r, ds = .tuple [] :: r) (hu : ∀ d, d ∈ ds → A.units + d.depth < cLine) : SortsAt prog w A s (dataKind s.heap ds) vs := by
  have room : ∀ {d d' : PyData}, d ∈ ds → A.units + min d.depth d'.depth < cLine := fun {d d'} hd => Nat.lt_of_le_of_lt (Nat.add_le_add_left (Nat.min_le_left _ _) _) (hu d hd)
  refine ⟨fun v hv => ?_, oneType', ?_, fun h2 E Q hq => ?_⟩
  · obtain ⟨d, hd, as, r⟩ := e.left v hv
    exact ⟨_, dataKind_some hal hd r⟩
  · intro E x y a b Q ha hb hq
    obtain ⟨d, as, hd, ra, rfl⟩ := dataKind_inv ha
    obtain ⟨d', as', hd', rb, rfl⟩ := dataKind_inv hb
    rw [keyLt'_oneType]
    obtain ⟨xs, rfl⟩ := ht d hd
    obtain ⟨ys, rfl⟩ := ht d' hd'
    exact oneLt_tup ra rb (by simpa [alike] using hal _ hd _ hd') (room hd) hq
  · obtain ⟨r, rfl⟩ := h0
    clear h2
    cases e with
    | cons h t =>
      obtain ⟨as, rd⟩ := h
      cases rd with
      | @tuple l o xs n _ _ h1 h2 h3 h4 =>
        have hx : xs = #[] := by
          cases q : xs.toList with
          | nil => exact Array.toList_eq_nil_iff.mp q
          | cons y r => rw [q] at h4; cases h4
        subst hx
        exact mix_kind h1 h2 h3 (tups_of t fun d hd => ht d (List.mem_cons_of_mem _ hd)) hq
theorem SortsAt.ofOk {vs : List Value} {ds : List PyData} (e : EachIs (fun v d => ∃ as, Reads s.heap v d as) vs ds) (hal : AllAlike ds) (hk : SortOk ds) (hu : ∀ d, d ∈ ds → A.units + d.depth < cLine) : SortsAt prog w A s (dataKind s.heap ds) vs := by
  rcases hk with h | ⟨h1, h2⟩
  · exact SortsAt.data e hal h hu
  · exact SortsAt.mixed e hal h1 h2 hu
theorem sorted_dataOk {β : Type} {vs : List Value} {bs : List β} {enc : β → PyData} {R : Value → β → Prop} {l : Addr} {Q : Value → Shared → Prop} (hl : s.heap.IsList l vs.toArray) (e : EachIs R vs bs) (er : EachIs (fun v b => ∃ as, Reads s.heap v (enc b) as) vs bs) (hal : AllAlike (bs.map enc)) (hk : SortOk (bs.map enc)) (hL : bs.length ≤ sizeLine)
    (hu : ∀ b, b ∈ bs → A.units + 2 + (enc b).depth < cLine) (h : ∀ out, out.length = bs.length → EachIs R out (bs.mergeSort (dataLe false enc)) → Q (.ref (s.heap.objs.size + 1)) { s with heap := sortedAll s.heap vs (List.toArray out) }) :
    wpAny (model prog w) A (call (.builtin "sorted") [.ref l]) Q E s := by
  have er' : EachIs (fun v b => ∃ as, Reads (sortingHeap (copyHeap s.heap vs) (s.heap.objs.size + 1) vs) v (enc b) as) vs bs := er.mono fun _ _ ⟨as, r⟩ => ⟨as, PyProof.Rows.Reads.keeps (fun _ _ => sorting_copy_old) r⟩
  exact sorted_vals hl (SortsAt.ofOk (s := { s with heap := sortingHeap (copyHeap s.heap vs) (s.heap.objs.size + 1) vs }) (each_map (R := fun v d => ∃ as, Reads (sortingHeap (copyHeap s.heap vs) (s.heap.objs.size + 1) vs) v d as) enc er') hal hk (bound_map hu)) (by rw [e.length]; exact hL)
    (h _ (by rw [sortVals_length false rfl]; exact e.length) (sortVals_data false e er' hal))
end
end PySem.W
namespace W36
open PySem PySem.Spec PyProof.Rows L2 Evl
def rSrtD (K : PySem.W.Frag) : List V → Hp → VK → Prop := fun vs H Q => ∃ (a : Addr) (bs : List (V × PyData)), vs = [V.ref a] ∧ SqL K H a (bs.map (·.1)) ∧ (∀ b ∈ bs, Dp K H b.1 b.2) ∧ PySem.W.AllAlike (bs.map (·.2)) ∧ PySem.W.SortOk (bs.map (·.2)) ∧ (∀ b ∈ bs, b.2.depth ≤ 8) ∧
  ∀ p, H p = none → Q (.ref p) (upd H p (.lst ((bs.mergeSort (PySem.W.dataLe false (·.2))).map (·.1))))
theorem each_vals : ∀ {bs : List (V × PyData)} {its : List Value}, Vals (bs.map (·.1)) its → PySem.W.EachIs (fun v b => RelV b.1 v) its bs
  | [], _, r => by cases r; exact .nil
  | b :: bs, _, r => by
    rw [List.map_cons] at r
    cases r with
    | cons h t => exact .cons h (each_vals t)
theorem vals_each : ∀ {bs : List (V × PyData)} {its : List Value}, PySem.W.EachIs (fun v b => RelV b.1 v) its bs → Vals (bs.map (·.1)) its
  | [], _, r => by cases r; exact .nil
  | b :: bs, _, r => by
    cases r with
    | cons h t => rw [List.map_cons]; exact .cons h (vals_each t)
theorem cr_srtD {X : Cx} (hu : X.A.units + 65 < cLine) : CallR X (.builtin "sorted") (rSrtD X.K) := by
  intro pins s σ H vs us Q I r h
  obtain ⟨a, bs, rfl, hs, hb, hal, hk, hd, q⟩ := h
  obtain ⟨its, rv, hl, hz⟩ := I.list hs
  rw [Vals.ref1 r]
  have e := each_vals rv
  have hz' : bs.length ≤ sizeLine := by rw [List.length_map] at hz; exact hz
  refine PySem.W.sorted_dataOk hl.isList e ((PySem.W.each_mem e).mono fun v b ⟨rb, mb⟩ => Dp.reads I b.2 b.1 v (hb b mb) rb) hal hk hz' (fun b mb => ?_) fun out ho eo => ?_
  · have := hd b mb; omega
  · obtain ⟨ep, he'⟩ := PyProof.Rows.sortedAll_at s.heap its out.toArray
    have ev := vals_each eo
    refine ⟨.ref _, upd H (s.heap.objs.size + 1) (.lst ((bs.mergeSort (PySem.W.dataLe false (·.2))).map (·.1))), I.laid (t' := s.toks) (fun _ _ => PyProof.Rows.sortedAll_old) (Nat.le_succ _) ⟨?_, out, ep, ev, he'⟩, rfl, q _ (I.hok.fresh (Nat.le_succ _))⟩
    rw [List.length_map, List.length_mergeSort]; exact hz'
theorem k_srtD (K : PySem.W.Frag) {X : Cx} (hu : X.A.units + 65 < cLine) (h : X.K = K := by rfl) : CallR X (.builtin "sorted") (rSrtD K) := h ▸ cr_srtD hu
theorem dtall_zip {G : Hp} : ∀ {xs : List V} {ds : List PyData}, DtAll G xs ds → ∃ bs : List (V × PyData), bs.map (·.1) = xs ∧ bs.map (·.2) = ds ∧ ∀ b ∈ bs, Dt G b.1 b.2
  | _, [], h => by cases h; exact ⟨[], rfl, rfl, fun _ z => nomatch z⟩
  | _, d :: ds, h => by
    cases h with
    | @cons v vs _ _ h1 h2 =>
      obtain ⟨bs, e1, e2, e3⟩ := dtall_zip h2
      refine ⟨(v, d) :: bs, by rw [List.map_cons, e1], by rw [List.map_cons, e2], fun b hb => ?_⟩
      rcases List.mem_cons.mp hb with e | e
      · subst e; exact h1
      · exact e3 b e
theorem dtall_of {G : Hp} : ∀ {bs : List (V × PyData)}, (∀ b ∈ bs, Dt G b.1 b.2) → DtAll G (bs.map (·.1)) (bs.map (·.2))
  | [], _ => .nil
  | b :: bs, h => .cons (h b List.mem_cons_self) (dtall_of fun x hx => h x (List.mem_cons_of_mem _ hx))
/-- sorted(xs): ds is the image of bs -/
theorem isN_srt {K : PySem.W.Frag} {ρ : List Ent} {ta : TE} {β : Type} {bs : List β} {enc : β → PyData} (ha : IsL ta ρ (bs.map enc)) (hal : PySem.W.AllAlike (bs.map enc)) (hk : PySem.W.SortOk (bs.map enc)) (hd : ∀ b ∈ bs, (enc b).depth ≤ 8) :
    IsN (tCB (rSrtD K) (tCons ta tNil)) ρ ((bs.mergeSort (PySem.W.dataLe false enc)).map enc) := fun σ G H E Q q =>
  ha σ G H E _ fun l xs G1 H1 n1 nl h1 h2 => by
    obtain ⟨cs, e1, e2, e3⟩ := dtall_zip h2
    refine ⟨l, cs, rfl, by rw [e1]; exact sq_of h1, fun b hb => ((e3 b hb).up n1.e.ex).dp, by rw [e2]; exact hal, by rw [e2]; exact hk, fun b hb => ?_, fun p hp => ?_⟩
    · have : b.2 ∈ bs.map enc := by rw [← e2]; exact List.mem_map.mpr ⟨b, hb, rfl⟩
      obtain ⟨c, hc, e⟩ := List.mem_map.mp this
      rw [← e]; exact hd c hc
    · have m := Nx.newH (o := .lst ((cs.mergeSort (PySem.W.dataLe false (·.2))).map (·.1))) n1.e hp
      have hp0 : H p = none := by
        cases z : H p with
        | none => rfl
        | some o => exact absurd hp (n1.w.d p (ex_not z))
      have es : (cs.mergeSort (PySem.W.dataLe false (·.2))).map (·.2) = (bs.mergeSort (PySem.W.dataLe false enc)).map enc := by
        have a1 := List.map_mergeSort (r := PySem.W.dataLe false (fun b : V × PyData => b.2)) (s := PySem.W.dataLe false (fun x : PyData => x)) (f := fun b : V × PyData => b.2) (l := cs) (fun a _ b _ => rfl)
        have a2 := List.map_mergeSort (r := PySem.W.dataLe false enc) (s := PySem.W.dataLe false (fun x : PyData => x)) (f := enc) (l := bs) (fun a _ b _ => rfl)
        rw [a2, ← e2]
        exact a1
      refine q _ _ _ _ _ rfl (n1.trans m) hp0 (ex_none n1.e.ex hp) upd_same ?_
      rw [← es]
      exact dtall_of fun b hb => e3 b (List.mem_mergeSort.mp hb)
end W36
end
section
set_option Elab.async false
set_option linter.all false
set_option maxRecDepth 100000
set_option maxHeartbeats 4000000
/-! sum(lists, []). -/
namespace PySem
open Sem (wp)
theorem args_sum2 (a b : Value) : argsOk "sum" ⟨[a, b], []⟩ := by unfold argsOk; kernel_rfl
theorem sub_list_str' : isSubtype (.type "list") (.type "str") = pure false := by rw [isSubtype_type]; kernel_rfl
theorem sub_list_bytes' : isSubtype (.type "list") (.type "bytes") = pure false := by rw [isSubtype_type]; kernel_rfl
theorem sub_list_bytearray' : isSubtype (.type "list") (.type "bytearray") = pure false := by rw [isSubtype_type]; kernel_rfl
abbrev Lst (h : Heap) (a : Addr) (xs : List Value) : Prop := ∃ n, h.get? a = some { cls := .type "list", dict := none, data := .seq xs.toArray n, slots := #[] }
section
variable {prog : Program} {w : World} {A : Around} {R : Result → Shared → Prop} {I ax S : Addr} {items : Array Value} {bs : List Addr} {lss : List (List Value)}
theorem take_flat {α : Type} {l : List (List α)} {i : Nat} {x : List α} (h : l[i]? = some x) : (l.take (i + 1)).flatten = (l.take i).flatten ++ x := by
  rw [List.take_add_one, h]
  simp
theorem sum_lists_loop (hh : A.in1.handled = none) (hne : ax ≠ I) (hSI : S ≠ I) (hSx : S ≠ ax) (hit : items = (bs.map Value.ref).toArray) (hl : bs.length = lss.length) (hsz : lss.flatten.length ≤ 100000) (hd : ∀ b ∈ bs, b ≠ I ∧ b ≠ S) :
    ∀ (k i : Nat) (s : Shared) (acc : Addr) (c : Nat), items.size - i = k → i ≤ items.size → s.heap.IsListIter I ax i → s.heap.IsList ax items → s.heap.get? S = some { cls := .type "list", dict := none, data := .seq #[.ref acc] c, slots := #[] } →
      Lst s.heap acc (lss.take i).flatten → acc ≠ S → acc ≠ I → (∀ (j : Nat) (b : Addr) (ls : List Value), bs[j]? = some b → lss[j]? = some ls → Lst s.heap b ls) →
      (∀ h' tk acc', (∀ b o, b ≠ S → b ≠ I → s.heap.get? b = some o → h'.get? b = some o) → Lst h' acc' lss.flatten → ((k = 0 ∧ acc' = acc) ∨ (k ≠ 0 ∧ s.heap.objs.size ≤ acc')) → R (.ok (.ret (.ref acc'))) { s with heap := h', toks := tk }) →
      codeAny (model prog w) A (.builtin "sum.loop" ⟨[.ref I, .ref S, rawInt 2, rawInt 0], []⟩) R s := by
  have W := Walks.list (prog := prog) (w := w) (A := A.in1) hh I ax hne items
  have fsz : ∀ i, (lss.take i).flatten.length ≤ lss.flatten.length := fun i => by
    have : lss.flatten = (lss.take i).flatten ++ (lss.drop i).flatten := by rw [← List.flatten_append, List.take_append_drop]
    rw [this, List.length_append]; omega
  intro k
  induction k with
  | zero =>
    intro i s acc c hk hi st1 st2 hS hacc n1 n2 hb hR
    have hin : i = items.size := by omega
    subst hin
    refine codeAny_builtin F.entry_sum_loop ?_
    rw [Around.under_plainId F.plain_sum_loop _]
    show wpAny _ A.in1 (seqItems? (.ref S) >>= _) _ _ s
    refine wpAny_bind (wpAny_seqItems hS rfl ?_)
    show wpAny _ A.in1 (tryCatch (pyNext (.ref I)) _ >>= _) _ _ s
    refine wpAny_bind (wpAny_tryCatch (W.done s _ _ ⟨st1, st2⟩ fun h1 tk1 hk1 => ?_))
    have keep : ∀ b o, b ≠ S → b ≠ I → s.heap.get? b = some o → h1.get? b = some o := fun b o _ bi e => hk1 b o (by simp [bi]) e
    have full : (lss.take items.size).flatten = lss.flatten := by
      rw [List.take_of_length_le]; rw [hit]; simp [hl]
    refine wpAny_pure (hR h1 tk1 acc keep ?_ (.inl ⟨rfl, rfl⟩))
    obtain ⟨n, e⟩ := hacc
    exact ⟨n, by rw [← full]; exact keep _ _ n1 n2 e⟩
  | succ k ih =>
    intro i s acc c hk hi st1 st2 hS hacc n1 n2 hb hR
    have hlt : i < items.size := by omega
    refine codeAny_builtin F.entry_sum_loop ?_
    rw [Around.under_plainId F.plain_sum_loop _]
    show wpAny _ A.in1 (seqItems? (.ref S) >>= _) _ _ s
    refine wpAny_bind (wpAny_seqItems hS rfl ?_)
    show wpAny _ A.in1 (tryCatch (pyNext (.ref I)) _ >>= _) _ _ s
    refine wpAny_bind (wpAny_tryCatch (wpAny_pyNext_list_item st1 st2 (x := items[i]) (by simp [hlt]) fun h1 st1' hs1 => ?_))
    have keep1 : ∀ b o, b ≠ I → s.heap.get? b = some o → h1.get? b = some o := fun b o bi e => hs1.extBut b o bi e
    have st2' : h1.IsList ax items := st2.extBut hs1.extBut hne
    obtain ⟨v, hvv⟩ : ∃ v, v = items[i] := ⟨_, rfl⟩
    have hP : items[i]? = some v := by rw [hvv]; simp [hlt]
    rw [← hvv]
    have hbl : i < bs.length := by rw [hit] at hlt; simpa using hlt
    have hbi : bs[i]? = some bs[i] := List.getElem?_eq_getElem hbl
    have hlli : i < lss.length := by omega
    have hli : lss[i]? = some lss[i] := List.getElem?_eq_getElem hlli
    have hv : v = .ref bs[i] := by
      have : items[i]? = some v := hP
      rw [hit] at this
      simp [hbl] at this
      exact this.symm
    subst hv
    obtain ⟨m1, e1⟩ := hacc
    obtain ⟨m2, e2⟩ := hb i _ _ hbi hli
    have bd := hd bs[i] (List.mem_of_getElem? hbi)
    have e1' := keep1 _ _ n2 e1
    have e2' := keep1 _ _ bd.1 e2
    have hS' := keep1 _ _ hSI hS
    have fs := fsz (i + 1)
    rw [take_flat hli, List.length_append] at fs
    show wpAny _ A.in1 ((holding [Value.ref bs[i]] (binaryOp .Add (.ref acc) (.ref bs[i]))).attempt >>= _) _ _ _
    refine wpAny_bind (wpAny_attempt (wpAny_holding (P.add_list e1' e2' ?_ (by rw [List.size_toArray, List.size_toArray, sizeLine_eq]; omega))))
    show wpAny _ A.in1 (updateSeq S (fun _ => #[.ref h1.objs.size]) >>= _) _ _ _
    have e3 : (h1.push { cls := .type "list", data := .seq ((lss.take i).flatten.toArray ++ lss[i].toArray) }).get? S = some { cls := .type "list", dict := none, data := .seq #[.ref acc] c, slots := #[] } := Heap.get?_push_of_some _ hS'
    refine wpAny_bind (wpAny_updateSeq e3 rfl ?_)
    have hS₂ := Heap.get?_update_self (Obj.mapSeq fun _ => #[Value.ref h1.objs.size]) e3 rfl
    refine wpAny_bind (wpAny_letGo ?_)
    have lt1 : s.heap.objs.size ≤ h1.objs.size := by first | exact Nat.le_of_eq hs1.1.symm | exact Nat.le_of_eq hs1.1 | exact hs1.1
    have keep2 : ∀ b o, b ≠ S → b ≠ I → s.heap.get? b = some o → (((h1.push { cls := .type "list", data := .seq ((lss.take i).flatten.toArray ++ lss[i].toArray) }).update S (Obj.mapSeq fun _ => #[Value.ref h1.objs.size])).update S (Obj.mapSeq fun _ => #[Value.ref h1.objs.size])).get? b = some o := fun b o bS bI e =>
      (Heap.get?_update_other _ _ (fun q : S = b => bS q.symm)).trans ((Heap.get?_update_other _ _ (fun q : S = b => bS q.symm)).trans (Heap.get?_push_of_some _ (keep1 b o bI e)))
    have newS : h1.objs.size ≠ S := fun q => absurd (Heap.lt_size hS') (by rw [← q]; exact Nat.lt_irrefl _)
    have newI : h1.objs.size ≠ I := fun q => by
      obtain ⟨_, e, _⟩ := st1'
      exact absurd (Heap.lt_size e) (by rw [← q]; exact Nat.lt_irrefl _)
    refine wpAny_bind (wpAny_updateSeq hS₂ rfl (wpAny_pure ⟨plainId_quiet F.plain_sum_loop _, ih (i + 1) _ h1.objs.size _ (by omega) hlt ?_ ?_ (Heap.get?_update_self _ hS₂ rfl) ?_ newS newI (fun j b ls hj hlj => ?_) fun h' tk acc' kp ha hor => ?_⟩))
    · exact st1'.at fun o e => (Heap.get?_update_other _ _ (fun q : S = I => hSI q)).trans ((Heap.get?_update_other _ _ (fun q : S = I => hSI q)).trans (Heap.get?_push_of_some _ e))
    · exact st2'.at fun o e => (Heap.get?_update_other _ _ (fun q : S = ax => hSx q)).trans ((Heap.get?_update_other _ _ (fun q : S = ax => hSx q)).trans (Heap.get?_push_of_some _ e))
    · refine ⟨0, ?_⟩
      refine (Heap.get?_update_other _ _ (fun q : S = _ => newS q.symm)).trans ((Heap.get?_update_other _ _ (fun q : S = _ => newS q.symm)).trans ?_)
      rw [take_flat hli]
      have := Heap.get?_push_size h1 (o := { cls := .type "list", data := .seq ((lss.take i).flatten.toArray ++ lss[i].toArray) }) rfl
      rw [this]
      simp
    · obtain ⟨m, e⟩ := hb j b ls hj hlj
      have bd2 := hd b (List.mem_of_getElem? hj)
      exact ⟨m, keep2 _ _ bd2.2 bd2.1 e⟩
    · refine hR h' tk acc' (fun b o bS bI e => kp b o bS bI (keep2 b o bS bI e)) ha (.inr ⟨Nat.succ_ne_zero _, ?_⟩)
      rcases hor with ⟨_, q⟩ | ⟨_, q⟩
      · rw [q]; exact lt1
      · have q' : h1.objs.size + 1 ≤ acc' := by simpa only [Heap.size_update, Heap.size_push] using q
        exact Nat.le_trans lt1 (Nat.le_of_succ_le q')
end
section
variable {prog : Program} {w : World} {A : Around} {E : Value → Shared → Prop} {s : Shared} {ax z : Addr} {items : Array Value} {bs : List Addr} {lss : List (List Value)}
theorem call_sum_lists {Q : Value → Shared → Prop} (hh : A.handled = none) (hx : s.heap.IsList ax items) (hit : items = (bs.map Value.ref).toArray) (hl : bs.length = lss.length) (hsz : lss.flatten.length ≤ 100000)
    (hb : ∀ (j : Nat) (b : Addr) (ls : List Value), bs[j]? = some b → lss[j]? = some ls → Lst s.heap b ls) (hz : Lst s.heap z [])
    (h : ∀ h' tk acc', (∀ b o, s.heap.get? b = some o → h'.get? b = some o) → Lst h' acc' lss.flatten → ((bs = [] ∧ acc' = z) ∨ (bs ≠ [] ∧ s.heap.objs.size ≤ acc')) → Q (.ref acc') { s with heap := h', toks := tk }) :
    wpAny (model prog w) A (call (.builtin "sum") [.ref ax, .ref z]) Q E s := by
  obtain ⟨nz, ez⟩ := hz
  have zl : z < s.heap.objs.size := Heap.lt_size ez
  have axl : ax < s.heap.objs.size := by obtain ⟨o, e, _⟩ := hx; exact Heap.lt_size e
  have blt : ∀ b ∈ bs, b < s.heap.objs.size := fun b hm => by
    obtain ⟨j, hj⟩ := List.mem_iff_getElem?.mp hm
    have jl := (List.getElem?_eq_some_iff.mp hj).1
    obtain ⟨n, e⟩ := hb j b lss[j] hj (List.getElem?_eq_getElem (by omega))
    exact Heap.lt_size e
  have k1 : ∀ b o, s.heap.get? b = some o → (s.heap.push { cls := .type "list_iterator", data := .fields #[.ref ax, .int 0 0] }).get? b = some o := fun b o e => Heap.get?_push_of_some _ e
  have zT : Shared.TypeIs { s with heap := s.heap.push { cls := .type "list_iterator", data := .fields #[.ref ax, .int 0 0] } } (.ref z) "list" := ⟨_, k1 _ _ ez, rfl⟩
  refine call_function_tree F.kind_sum F.plain_sum F.entry_sum (args_sum2 _ _) ?_
  unfold Builtin.«sum»
  simp only [List.length_cons, List.length_nil]
  rw [if_neg (by decide)]
  refine wpAny_bind (wpAny_of_eq (show Builtin.Builtins.bindParams "sum" ["start"] 0 ⟨[.ref z], []⟩ = pure [some (.ref z)] from rfl) ?_)
  refine wpAny_bind (wpAny_pyIter_list hx ?_)
  refine wpAny_bind (wpAny_pure ?_)
  simp only [List.forIn_cons, List.forIn_nil]
  refine wpAny_bind (wpAny_bind (wpAny_bind (wpAny_isInstance (T := "list") (b := false) zT sub_list_str' ?_)))
  simp only [Bool.false_eq_true, if_false]
  refine wpAny_pure (wpAny_bind (wpAny_bind (wpAny_isInstance (T := "list") (b := false) zT sub_list_bytes' ?_)))
  simp only [Bool.false_eq_true, if_false]
  refine wpAny_pure (wpAny_bind (wpAny_bind (wpAny_isInstance (T := "list") (b := false) zT sub_list_bytearray' ?_)))
  simp only [Bool.false_eq_true, if_false]
  refine wpAny_pure (wpAny_pure ?_)
  refine wpAny_bind (wpAny_newObj_type ?_)
  have hI : (s.heap.push { cls := .type "list_iterator", data := .fields #[.ref ax, .int 0 0] }).objs.size = s.heap.objs.size + 1 := Heap.size_push _ _
  have k2 : ∀ b o, (s.heap.push { cls := .type "list_iterator", data := .fields #[.ref ax, .int 0 0] }).get? b = some o → ((s.heap.push { cls := .type "list_iterator", data := .fields #[.ref ax, .int 0 0] }).push { cls := .type "list", data := .seq ([Value.ref z]).toArray }).get? b = some o := fun b o e => Heap.get?_push_of_some _ e
  refine wpAny_pure ⟨plainId_quiet F.plain_sum_loop _, sum_lists_loop (I := s.heap.objs.size) (ax := ax) (S := (s.heap.push { cls := .type "list_iterator", data := .fields #[.ref ax, .int 0 0] }).objs.size) (bs := bs) (lss := lss) hh (Nat.ne_of_lt axl) (by rw [hI]; exact Nat.succ_ne_self _) (by rw [hI]; exact Nat.ne_of_gt (Nat.lt_succ_of_lt axl)) hit hl hsz (fun b hm => ⟨Nat.ne_of_lt (blt b hm), by rw [hI]; exact Nat.ne_of_lt (Nat.lt_succ_of_lt (blt b hm))⟩)
    items.size 0 _ z 0 rfl (Nat.zero_le _) ?_ ?_ (Heap.get?_push_size _ rfl) ?_ (by rw [hI]; exact Nat.ne_of_lt (Nat.lt_succ_of_lt zl)) (Nat.ne_of_lt zl) (fun j b ls hj hlj => ?_) fun h' tk acc' kp ha hor => ?_⟩
  · exact ⟨_, k2 _ _ (Heap.get?_push_size _ rfl), rfl, rfl⟩
  · exact hx.at fun o e => k2 _ _ (k1 _ _ e)
  · exact ⟨nz, by simpa using k2 _ _ (k1 _ _ ez)⟩
  · obtain ⟨n, e⟩ := hb j b ls hj hlj
    exact ⟨n, k2 _ _ (k1 _ _ e)⟩
  · refine h h' tk acc' (fun b o e => kp b o ?_ ?_ (k2 _ _ (k1 _ _ e))) ha ?_
    · rw [hI]; exact Nat.ne_of_lt (Nat.lt_succ_of_lt (Heap.lt_size e))
    · exact Nat.ne_of_lt (Heap.lt_size e)
    · rcases hor with ⟨q1, q2⟩ | ⟨q1, q2⟩
      · left
        refine ⟨?_, q2⟩
        rw [hit] at q1
        simpa using q1
      · right
        refine ⟨fun e => q1 (by rw [hit, e]; rfl), ?_⟩
        have q3 : s.heap.objs.size + 1 + 1 ≤ acc' := by simpa only [Heap.size_push] using q2
        omega
end
end PySem
namespace W36
open PySem PySem.Spec PyProof.Rows L2 Evl
def rSumL : List V → Hp → VK → Prop := fun vs H Q => ∃ (a z : Addr) (es : List (Addr × List V)), vs = [.ref a, .ref z] ∧ H a = some (.lst (es.map fun e => V.ref e.1)) ∧ H z = some (.lst []) ∧ (∀ e ∈ es, H e.1 = some (.lst e.2)) ∧ (es.flatMap (·.2)).length ≤ 100000 ∧
  (es = [] → Q (.ref z) H) ∧ ∀ p, es ≠ [] → H p = none → Q (.ref p) (upd H p (.lst (es.flatMap (·.2))))
theorem refs_vals : ∀ {es : List (Addr × List V)} {its : List Value}, Vals (es.map fun e => V.ref e.1) its → its = (es.map (·.1)).map Value.ref
  | [], _, r => by cases r; rfl
  | e :: es, _, r => by
    rw [List.map_cons] at r
    cases r with
    | cons h t =>
      rw [List.map_cons, List.map_cons, ← refs_vals t]
      rw [show _ = Value.ref e.1 from h]
theorem lists_of {P : Program} {w : World} {H : Hp} {h : Heap} (ok : HOk P w H h) : ∀ {es : List (Addr × List V)}, (∀ e ∈ es, H e.1 = some (.lst e.2)) → ∃ lss : List (List Value), lss.length = es.length ∧ (∀ (j : Nat) (b : Addr) (ls : List Value), (es.map (·.1))[j]? = some b → lss[j]? = some ls → Lst h b ls) ∧ Vals (es.flatMap (·.2)) lss.flatten
  | [], _ => ⟨[], rfl, fun j b ls h _ => by simp at h, .nil⟩
  | e :: es, hm => by
    obtain ⟨lss, h1, h2, h3⟩ := lists_of ok fun x hx => hm x (List.mem_cons_of_mem _ hx)
    obtain ⟨_, its, n, r, e2⟩ := (show ObjOk P w H h e.1 (.lst e.2) from ok _ _ (hm e List.mem_cons_self))
    refine ⟨its :: lss, by rw [List.length_cons, List.length_cons, h1], fun j b ls hj hl => ?_, ?_⟩
    · cases j with
      | zero => simp at hj hl; subst hj hl; exact ⟨n, e2⟩
      | succ j => exact h2 j b ls (by simpa using hj) (by simpa using hl)
    · rw [List.flatMap_cons, List.flatten_cons]; exact r.append h3
theorem cr_sumL {X : Cx} (hc : X.calm = true) : CallR X (.builtin "sum") rSumL := by
  intro pins s σ H vs us Q I r h
  obtain ⟨a, z, es, rfl, ha, hz, he, hsz, q0, q1⟩ := h
  obtain ⟨u1, u2, rfl, r1, r2⟩ := vals2 r
  obtain rfl : u1 = Value.ref a := r1
  obtain rfl : u2 = Value.ref z := r2
  obtain ⟨_, its, n, rv, e1⟩ := (show ObjOk X.prog X.w H s.heap a (.lst _) from I.hok _ _ ha)
  obtain ⟨_, its0, n0, rv0, e0⟩ := (show ObjOk X.prog X.w H s.heap z (.lst []) from I.hok _ _ hz)
  cases rv0
  obtain ⟨lss, l1, l2, l3⟩ := lists_of I.hok he
  have ei := refs_vals rv
  refine call_sum_lists (bs := es.map (·.1)) (lss := lss) (I.ok.hd hc) ⟨_, e1, rfl, n, rfl⟩ (by rw [ei]) (by rw [List.length_map, l1]) (by rw [← l3.length]; exact hsz) l2 ⟨n0, e0⟩ fun h' tk acc' kp ⟨m, ea⟩ hor => ?_
  rcases hor with ⟨b1, b2⟩ | ⟨b1, b2⟩
  · have : es = [] := by simpa using b1
    exact ⟨.ref z, H, I.kept kp, by rw [b2]; rfl, q0 this⟩
  · refine ⟨.ref acc', upd H acc' (.lst (es.flatMap (·.2))), I.laid (t' := tk) kp b2 ⟨Nat.le_trans hsz (by decide), lss.flatten, m, l3, ea⟩, rfl, q1 acc' (fun e => b1 (by rw [e]; rfl)) (I.hok.fresh b2)⟩
end W36
end
section
set_option Elab.async false
set_option linter.all false
set_option maxRecDepth 100000
set_option maxHeartbeats 4000000
/-! set(a list of ints), sorted of it. -/
namespace L2
open PySem PySem.Spec PyProof.Rows
section
variable {P : Program} {w : World} {A : Around} {E : Value → Shared → Prop} {s : Shared}
theorem callSet_codes {arg : Value} {Q Q₁ : Value → Shared → Prop} (hnew : codeAny (model P w) A.in1 (.call (.builtin "set.__new__") ⟨[.type "set", arg], []⟩) (wants Q₁ E) s)
    (hnext : ∀ obj s₁, Q₁ obj s₁ → s₁.TypeIs obj "set" ∧ wpAny (model P w) A.in1.in1 (Builtin.«set.__init__» ⟨[obj, arg], []⟩)
        (fun fin s' => match fin with | .done f => wants (fun r s₂ => r = .none ∧ Q obj s₂) E (.ok f) s' | .again c' => c'.quiet = true ∧ codeAny (model P w) A.in1 c' (wants (fun r s₂ => r = .none ∧ Q obj s₂) E) s')
        (fun e s' => wants (fun r s₂ => r = .none ∧ Q obj s₂) E (.error e) s') s₁) : wpAny (model P w) A (call (.type "set") [arg]) Q E s := by
  obtain ⟨c, tl, hmro⟩ := F.called_set.mro
  have hmade := F.called_set.made
  have hsub := F.called_set.sub
  have h1 := F.called_set.notType
  have h2 := F.called_set.canCreate
  have hct := F.typeCall_set_1 arg
  refine wpAny_call (codeAny_of_tree ?_)
  show wpAny _ _ (callAny (.type "set") _) _ _ _
  refine wpAny_pure ⟨Code.quiet_builtin _ (by decide +kernel), codeAny_builtin F.entry_type_call ?_⟩
  rw [Around.under_plain (weight_type_call_type "set" [arg] []) rfl]
  repeat (any_goals (first | assumption | wp_step))
  refine codeAny_mono hnew fun r s₁ hr => ?_
  cases r with
  | error e => exact hr
  | ok fl =>
    cases fl with
    | ret obj =>
      obtain ⟨hT, hsi⟩ := hnext _ _ hr
      have hli := F.called_set.init.lookup
      have hbi := F.called_set.init.bind obj
      repeat (any_goals (first | assumption | wp_step))
      refine codeAny_mono (codeAny_call_builtin F.called_set.init.plain F.entry_set_init (check_set_init_1 hT hsi)) fun r₂ s₂ hr₂ => ?_
      cases r₂ with
      | error e => exact hr₂
      | ok fl₂ =>
        cases fl₂ with
        | ret r =>
          obtain ⟨rfl, hq⟩ := hr₂
          repeat (any_goals (first | assumption | wp_step))
        | _ => exact hr₂.elim
    | _ => exact hr.elim
theorem call_set_listI {l : Addr} {items : Array Value} (ns : List Int) {Q : Value → Shared → Prop} (hh : A.handled = none) (hl : s.heap.IsList l items) (hit : IntsAre items.toList ns) (hb : ns.length + 1 < scanBound)
    (h : ∀ (h' : Heap) (tk c : Nat), SetR w h' s.heap.objs.size (fun j => decide (j ∈ ns)) c → c ≤ ns.length → (∀ b o, s.heap.get? b = some o → h'.get? b = some o) → Q (.ref s.heap.objs.size) { s with heap := h', toks := tk }) :
    wpAny (model P w) A (call (.type "set") [.ref l]) Q E s := by
  have hisz : items.size = ns.length := by rw [← Array.length_toList]; exact IntsAre.length hit
  obtain ⟨b0, hb0⟩ : ∃ b, b = (!w.params.followText "set-order") := ⟨_, rfl⟩
  refine callSet_codes (Q₁ := fun obj s₁ => obj = .ref s.heap.objs.size ∧ s₁ = { s with heap := s.heap.push { cls := .type "set", dict := none, data := .set #[] 0 (.fresh 0 0 (!w.params.followText "set-order")) } }) (code_set_led1 (A := A.in1) _ ⟨rfl, rfl⟩) ?_
  rintro obj s₁ ⟨rfl, rfl⟩
  have new : (s.heap.push { cls := .type "set", dict := none, data := .set #[] 0 (.fresh 0 0 (!w.params.followText "set-order")) }).get? s.heap.objs.size = some { cls := .type "set", dict := none, data := .set #[] 0 (.fresh 0 0 (!w.params.followText "set-order")) } := Heap.get?_push_size _ rfl
  refine ⟨⟨_, new, rfl⟩, ?_⟩
  have hl1 : (s.heap.push { cls := .type "set", dict := none, data := .set #[] 0 (.fresh 0 0 (!w.params.followText "set-order")) }).IsList l items := hl.at fun o e => Heap.get?_push_of_some _ e
  have lS : l < s.heap.objs.size := by obtain ⟨o, e, _⟩ := hl; exact Heap.lt_size e
  obtain ⟨⟨lc, ld, lda, ls⟩, hol, hlc, nl, hld⟩ := id hl1
  simp only at hlc hld
  subst hlc hld
  have hsls := F.sub_list_set
  have hslf := F.sub_list_frozenset
  have hne : (Value.type "list" == Value.type "dict") = false := by decide
  unfold Builtin.«set.__init__» noKeywords Builtin.Frozenset.updateFrom
  generalize hPI : pyIter = PI
  wp_walk
  subst hPI
  refine wpAny_pyIter_list hl1 ?_
  refine wpAny_bind (wpAny_runValue ?_)
  have hz1 : (s.heap.push { cls := .type "set", dict := none, data := .set #[] 0 (.fresh 0 0 (!w.params.followText "set-order")) }).objs.size = s.heap.objs.size + 1 := Heap.size_push ..
  have hneI : l ≠ (s.heap.push { cls := .type "set", dict := none, data := .set #[] 0 (.fresh 0 0 (!w.params.followText "set-order")) }).objs.size := by
    rw [hz1]; exact Nat.ne_of_lt (Nat.lt_succ_of_lt lS)
  refine set_update_ints ((Walks.list (by simp [hh]) _ l hneI items).toS) s.heap.objs.size ?_ ns hisz hb (fun i v hv => ?_) (items.size - 0) 0 _ (by omega) (Nat.zero_le _) ⟨⟨_, Heap.get?_push_size _ rfl, rfl, rfl⟩, hl1.push _⟩ ⟨0, Nat.le_refl 0, setR_new_at (Heap.get?_push_of_some _ new)⟩ fun s' c hm hc hS => ?_
  · rw [hz1]
    simp only [List.mem_cons, List.not_mem_nil, or_false, not_or]
    exact ⟨Nat.ne_of_lt (Nat.lt_succ_self _), Nat.ne_of_gt lS⟩
  · have hi : i < ns.length := by rw [← hisz]; exact (Array.getElem?_eq_some_iff.mp hv).1
    obtain ⟨t, e⟩ := PyProof.Rows.IntsAre.int_at hit i v (by rw [Array.getElem?_toList]; exact hv)
    refine ⟨ns[i], t, List.getElem?_eq_getElem hi, ?_⟩
    rw [e, List.getD_eq_getElem?_getD, List.getElem?_eq_getElem hi] <;> rfl
  · obtain ⟨h', g2, d', tk', os'⟩ := s'
    have eg : g2 = s.gens := hm.gens
    have ed : d' = s.drawn := hm.drawn
    have eo : os' = s.os := hm.os
    subst eg ed eo
    show wpAny _ _ _ _ _ _
    refine wpAny_pure ?_
    show wpAny _ _ (ret Value.none) _ _ _
    rw [hisz] at hc
    refine wpAny_pure ⟨rfl, h h' tk' c hS hc fun b o e => ?_⟩
    have b0 := Heap.lt_size e
    refine hm.heap b o ?_ (Heap.get?_push_of_some _ (Heap.get?_push_of_some _ e))
    rw [hz1]
    simp only [List.mem_cons, List.not_mem_nil, or_false, not_or]
    exact ⟨Nat.ne_of_lt b0, Nat.ne_of_lt (Nat.lt_succ_of_lt b0)⟩
end
section
variable {X : Cx}
/-- set(xs), xs a list of ints -/
def rSetLI (K : PySem.W.Frag) (w : World) : List V → Hp → VK → Prop := fun vs H Q => ∃ (a : Addr) (ns : List Int), vs = [V.ref a] ∧ SqL K H a (ns.map V.int) ∧ ns.length < 60 ∧ ∀ p c, H p = none → c ≤ ns.length → Q (.ref p) (upd H p (SetO w p (fun j => decide (j ∈ ns)) c))
theorem cr_setLI (hc : X.calm = true) : CallR X (.type "set") (rSetLI X.K X.w) := by
  intro pins s σ H vs us Q I r h
  obtain ⟨a, ns, rfl, hs, hn, q⟩ := h
  obtain ⟨its, rv, pl, hz⟩ := I.list hs
  rw [Vals.ref1 r]
  refine call_set_listI ns (I.ok.hd hc) pl.isList (by simpa using rv.ints) (by unfold scanBound; omega) fun h' tk c R hcl k => ?_
  exact ⟨.ref _, upd H s.heap.objs.size (SetO X.w s.heap.objs.size (fun j => decide (j ∈ ns)) c), I.laid (t' := tk) k (Nat.le_refl _) (setO_new R), rfl, q _ c (I.hok.fresh (Nat.le_refl _)) hcl⟩
end
end L2
namespace W36
open PySem L2 Evl
theorem k_setLI (K : PySem.W.Frag) (w : World) {X : Cx} (hc : X.calm = true) (h : X.K = K := by rfl) (hw : X.w = w := by rfl) : CallR X (.type "set") (rSetLI K w) := h ▸ hw ▸ cr_setLI hc
theorem k_sortedSet (w : World) {X : Cx} (hc : X.calm = true) (hw : X.w = w := by rfl) : CallR X (.builtin "sorted") (rSortedSet w) := hw ▸ cr_sortedSet hc
/-- sorted(set(xs)) -/
theorem isNP_sortedSet {K : PySem.W.Frag} {w : World} {ρ : List Ent} {ta : TE} {ns : List Int} (ha : IsL ta ρ (ns.map .int)) (hn : ns.length < 60) :
    IsNP (tCB (rSortedSet w) (tCons (tCB (rSetLI K w) (tCons ta tNil)) tNil)) ρ (fun ds => ∃ ms : List Int, ds = ms.map .int ∧ ms.Pairwise (· < ·) ∧ ∀ k, k ∈ ms ↔ k ∈ ns) := fun σ G H E Q q =>
  ha σ G H E _ fun l xs G1 H1 n1 nl h1 h2 => by
    rw [h2.ints] at h1
    refine ⟨l, ns, rfl, sq_of h1, hn, fun p c hp hc => ?_⟩
    have m := Nx.newH (o := SetO w p (fun j => decide (j ∈ ns)) c) n1.e hp
    refine ⟨p, _, c, rfl, upd_same, by omega, fun ms r h3 h4 h5 hr => ?_⟩
    have m2 := Nx.newH (o := .lst (ms.map V.int)) m.e hr
    refine q r _ (ms.map .int) _ _ ⟨ms, rfl, h3, fun k => ?_⟩ ((n1.trans m).trans m2) ?_ (ex_none m.e.ex hr) upd_same (DtAll.of_ints ms)
    · rw [h4 k]; exact decide_eq_true_iff
    · cases z : H r with
      | none => rfl
      | some o => exact absurd hr ((n1.trans m).w.d r (ex_not z))
/-- sum(lists, []), a new list of new lists -/
theorem isN_sumL {ρ : List Ent} {ta : TE} {dss : List (List PyData)} (hz : dss.flatten.length ≤ 100000)
    (ha : ∀ σ G H, Env G H σ ρ → ∀ Q : VK, (∀ a (es : List (Addr × List V)) G' H', Nx σ ρ G H G' H' → H' a = some (.lst (es.map fun e => V.ref e.1)) → (∀ l, Sdr ρ σ l → a ≠ l) → (∀ e ∈ es, H' e.1 = some (.lst e.2) ∧ ∀ l, Sdr ρ σ l → e.1 ≠ l) → DtAll G' (es.flatMap (·.2)) dss.flatten → Q (.ref a) H') → ta σ H Q) :
    IsN (tCB rSumL (tCons ta (tCons (tLst tNil) tNil))) ρ dss.flatten := fun σ G H E Q q => ha σ G H E _ fun a es G1 H1 n1 h1 na he hd => by
  refine ⟨Nat.zero_le _, fun z hz0 => ?_⟩
  have m := Nx.newH (o := .lst []) n1.e hz0
  have az : a ≠ z := ne_of_none h1 hz0
  have hz1 : H z = none := by
    cases c : H z with
    | none => rfl
    | some o => exact absurd hz0 (n1.w.d z (ex_not c))
  refine ⟨a, z, es, rfl, by rw [upd_ne az]; exact h1, upd_same, fun e hm => by rw [upd_ne (ne_of_none (he e hm).1 hz0)]; exact (he e hm).1, by rw [hd.length]; exact hz, fun e0 => ?_, fun p ne hp => ?_⟩
  · subst e0
    have e1 : dss.flatten = [] := by
      have := hd.length
      exact List.length_eq_zero_iff.mp (by simpa using this.symm)
    refine q z [] _ G1 _ rfl (n1.trans m) hz1 (ex_none n1.e.ex hz0) upd_same ?_
    rw [e1]; exact .nil
  · have m2 := Nx.newH (o := .lst (es.flatMap (·.2))) m.e hp
    refine q p _ _ G1 _ rfl ((n1.trans m).trans m2) ?_ (ex_none m.e.ex hp) upd_same hd
    cases c : H p with
    | none => rfl
    | some o => exact absurd hp ((n1.trans m).w.d p (ex_not c))
end W36
end
section
set_option Elab.async false
set_option linter.all false
set_option maxRecDepth 100000
set_option maxHeartbeats 4000000
/-! The script and the draws as things; lists of one's own popped; int(b), max. -/
namespace W36
open PySem L2 Evl
/-! ### the script -/
abbrev scE (K : PySem.W.Frag) (a : Addr) (ns : List Int) : Ent := .spc (.ref a) (fun _ => False) (fun G _ => SqL K G a (ns.map V.int))
section
variable {K : PySem.W.Frag} {ρ : List Ent} {σ : L2.St} {G H G' H' : Hp} {a l : Addr} {ns : List Int} {i j : Nat} {te tb ta : TE} {tx : TA} {E : XK} {d : PyData} {ds : List PyData}
theorem sql_up {xs : List V} (h : SqL K G a xs) (e : Ex G H) : SqL K H a xs := by
  rcases h with (h | ⟨o, h⟩) | h
  · exact .inl (.inl (e _ _ h))
  · exact .inl (.inr ⟨o, e _ _ h⟩)
  · exact .inr h
theorem sc_ok (h : SqL K G a (ns.map V.int)) : EntOk G H (scE K a ns) := ⟨h, fun l z => z.elim, fun G H G' H' h g x k => sql_up h g⟩
theorem is_lenS (h : ρ[i]? = some (scE K a ns)) : Is (tCB (rLn K) (tCons (tVar i) tNil)) ρ (.int (ns.length : Int)) := fun σ G H E Q q => by
  obtain ⟨h1, h2, _, _⟩ := E.spc i _ _ _ h
  have := q (.int (ns.length : Int)) _ G H rfl (Nx.refl E) (.int _)
  refine ⟨_, h1, a, _, rfl, .inl (sql_up h2 E.ex), ?_⟩
  rw [List.length_map]
  exact this
theorem is_ixS {b x : Int} {n : Nat} (h : ρ[i]? = some (scE K a ns)) (hb : Is tb ρ (.int b)) (hi : b = (n : Int)) (hx : ns[n]? = some x) : Is (tOp (rIxL K) (tVar i) tb) ρ (.int x) := fun σ G H E Q q => by
  obtain ⟨h1, h2, _, _⟩ := E.spc i _ _ _ h
  refine ⟨_, h1, hb σ G H E _ fun y e' G2 H2 he n2 hy => ?_⟩
  subst he
  cases hy
  obtain ⟨_, h2, _, _⟩ := n2.e.spc i _ _ _ h
  subst hi
  exact ⟨a, _, _, .int x, rfl, rfl, sql_up h2 n2.e.ex, atI_nat (by rw [List.getElem?_map, hx]; rfl), q _ _ G2 H2 rfl n2 (.int x)⟩
def spS (K : PySem.W.Frag) (A : List Int → List PyData → (PyData → Prop) → Prop) : Sp := fun vs H Q _ => ∃ G a us ns ds Y, vs = .ref a :: us ∧ Ex G H ∧ SqL K G a (ns.map V.int) ∧ DtAll G us ds ∧ A ns ds Y ∧ ∀ v d G' H', Y d → Gw S0 G H G' H' → Dt G' v d → Q v H'
def spT (K : PySem.W.Frag) (A : List Int → List PyData → (List PyData → Prop) → Prop) : Sp := fun vs H Q _ => ∃ G a us ns ds Y, vs = .ref a :: us ∧ Ex G H ∧ SqL K G a (ns.map V.int) ∧ DtAll G us ds ∧ A ns ds Y ∧
  ∀ p xs es G' H', Y es → Gw S0 G H G' H' → H p = none → G' p = none → H' p = some (.lst xs) → DtAll G' xs es → Q (.ref p) H'
theorem dtall_ents : ∀ {us : List V} {ds : List PyData}, DtAll G us ds → Paired (EntV G) us (ds.map .dat)
  | _, [], h => by cases h; exact .nil
  | _, d :: ds, h => by cases h with | cons h1 h2 => exact .cons h1 (dtall_ents h2)
theorem run_S {A : List Int → List PyData → (PyData → Prop) → Prop} {N : List Str} {vs : List V} {Q : VK} {t : TS} (h : spS K A vs H Q E) (k : ∀ a ns ds Y, A ns ds Y → Do t (parsE N.length (scE K a ns :: ds.map .dat)) (Rts Y)) : t { nx := fun _ H' => Q .non H', rt := Q } (start N vs) H := by
  obtain ⟨G, a, us, ns, ds, Y, rfl, e, hs, hv, hA, q⟩ := h
  have w0 : ∀ {G' H'}, Gw (Own (parsE N.length (scE K a ns :: ds.map .dat)) (start N (.ref a :: us))) G H G' H' → Gw S0 G H G' H' := fun w => w.wide fun l z => parsE_own (j := 0) rfl (oneB_dats _ _) z
  refine k a ns ds Y hA _ _ G H (parsE_env (j := 0) e (.cons rfl (dtall_ents hv)) rfl (oneB_dats _ _) (sc_ok hs)) fun o p => ?_
  cases o with
  | nx ρ' => exact fun σ' G' H' s => q _ _ G' H' p (w0 s.w) .non
  | rt d => exact fun v G' H' w dv => q v d G' H' p (w0 w) dv
  | rtS d ρ' => exact (show False from p).elim
  | bk ρ' => exact (show False from p).elim
  | ct ρ' => exact (show False from p).elim
  | rtN es =>
    intro l xs G' H' w f gl h1 h2
    have hl : H l = none := f.elim (fun z => (parsE_own (j := 0) rfl (oneB_dats _ _) z).elim) id
    refine q (.ref l) (.list es) (upd G' l (.lst xs)) H' p ?_ (.lst upd_same (h2.up (Ex.new gl)))
    have w := w0 w
    refine ⟨w.h, w.d, w.g.trans (Ex.new gl), fun a o z => ?_, fun a z1 z2 => ?_⟩
    · by_cases c : a = l
      · subst c; rw [upd_same] at z; cases z; exact h1
      · rw [upd_ne c] at z; exact w.v a o z
    · by_cases c : a = l
      · subst c; exact absurd hl z2
      · rw [upd_ne c]; exact w.n a z1 z2
theorem run_T {A : List Int → List PyData → (List PyData → Prop) → Prop} {N : List Str} {vs : List V} {Q : VK} {t : TS} (h : spT K A vs H Q E) (k : ∀ a ns ds Y, A ns ds Y → Do t (parsE N.length (scE K a ns :: ds.map .dat)) (RtsN Y)) : t { nx := fun _ H' => Q .non H', rt := Q } (start N vs) H := by
  obtain ⟨G, a, us, ns, ds, Y, rfl, e, hs, hv, hA, q⟩ := h
  have w0 : ∀ {G' H'}, Gw (Own (parsE N.length (scE K a ns :: ds.map .dat)) (start N (.ref a :: us))) G H G' H' → Gw S0 G H G' H' := fun w => w.wide fun l z => parsE_own (j := 0) rfl (oneB_dats _ _) z
  refine k a ns ds Y hA _ _ G H (parsE_env (j := 0) e (.cons rfl (dtall_ents hv)) rfl (oneB_dats _ _) (sc_ok hs)) fun o p => ?_
  cases o with
  | rtN es => exact fun l xs G' H' w f gl h1 h2 => q l xs es G' H' p (w0 w) (f.elim (fun z => (parsE_own (j := 0) rfl (oneB_dats _ _) z).elim) id) gl h1 h2
  | nx ρ' => exact (show False from p).elim
  | rt d => exact (show False from p).elim
  | rtS d ρ' => exact (show False from p).elim
  | bk ρ' => exact (show False from p).elim
  | ct ρ' => exact (show False from p).elim
theorem len_S {A : List Int → List PyData → (PyData → Prop) → Prop} {n : Nat} {vs : List V} {Q : VK} (hA : ∀ ns ds Y, A ns ds Y → ds.length = n) (h : spS K A vs H Q E) : vs.length = n + 1 := by
  obtain ⟨G, a, us, ns, ds, Y, rfl, e, hs, hv, a', q⟩ := h
  rw [List.length_cons, hv.length, hA _ _ _ a']
theorem len_T {A : List Int → List PyData → (List PyData → Prop) → Prop} {n : Nat} {vs : List V} {Q : VK} (hA : ∀ ns ds Y, A ns ds Y → ds.length = n) (h : spT K A vs H Q E) : vs.length = n + 1 := by
  obtain ⟨G, a, us, ns, ds, Y, rfl, e, hs, hv, a', q⟩ := h
  rw [List.length_cons, hv.length, hA _ _ _ a']
theorem isP_callS {A : List Int → List PyData → (PyData → Prop) → Prop} {Y : PyData → Prop} (hi : ρ[i]? = some (scE K a ns)) (ha : IsA tx ρ ds) (h : A ns ds Y) : IsP (tCall (spS K A) [] E (tCons (tVar i) tx)) ρ Y := fun σ G H En Q q => by
  obtain ⟨h1, _⟩ := En.spc i _ _ _ hi
  refine ⟨_, h1, ha σ G H En _ fun vs G1 H1 n hv => ?_⟩
  obtain ⟨_, h2, _, _⟩ := n.e.spc i _ _ _ hi
  rw [List.append_nil]
  exact ⟨G1, a, vs, ns, ds, Y, rfl, n.e.ex, h2, hv, h, fun v d G2 H2 r w hv => q v d G2 H2 r (n.trans (Nx.of0 n.e w)) hv⟩
theorem isNP_callT {A : List Int → List PyData → (List PyData → Prop) → Prop} {Y : List PyData → Prop} (hi : ρ[i]? = some (scE K a ns)) (ha : IsA tx ρ ds) (h : A ns ds Y) : IsNP (tCall (spT K A) [] E (tCons (tVar i) tx)) ρ Y := fun σ G H En Q q => by
  obtain ⟨h1, _⟩ := En.spc i _ _ _ hi
  refine ⟨_, h1, ha σ G H En _ fun vs G1 H1 n hv => ?_⟩
  obtain ⟨_, h2, _, _⟩ := n.e.spc i _ _ _ hi
  rw [List.append_nil]
  exact ⟨G1, a, vs, ns, ds, Y, rfl, n.e.ex, h2, hv, h, fun p xs es G2 H2 r w hp gp h1 h2 => q p xs es G2 H2 r (n.trans (Nx.of0 n.e w)) (by
    cases z : H p with
    | none => rfl
    | some o => exact absurd hp (n.w.d p (ex_not z))) gp h1 h2⟩
/-! ### the draws -/
abbrev drE (l : Addr) : Ent := .spc (.ref l) (fun a => a = l) (fun _ H => ∃ ns : List Int, H l = some (.lst (ns.map V.int)))
theorem dr_stab : Stab (fun a => a = l) (fun _ H => ∃ ns : List Int, H l = some (.lst (ns.map V.int))) := fun G H G' H' ⟨ns, h⟩ g x k => ⟨ns, k l _ rfl h⟩
/-- the draws as a list that expressions may change -/
theorem Env.toDrw (En : Env G H σ ρ) (h : ρ[i]? = some (drE l)) : Env G H σ (ρ.set i .drw) where
  ex := En.ex
  len := by rw [List.length_set]; exact En.len
  dat := fun m d e => by
    rw [get_set] at e
    by_cases q : i = m
    · rw [if_pos q] at e; split at e <;> cases e
    · rw [if_neg q] at e; exact En.dat m d e
  own := fun m ds e => by
    rw [get_set] at e
    by_cases q : i = m
    · rw [if_pos q] at e; split at e <;> cases e
    · rw [if_neg q] at e; exact En.own m ds e
  drw := fun m e => by
    by_cases q : i = m
    · subst q
      obtain ⟨h1, ⟨ns, h2⟩, h3, _⟩ := En.spc i _ _ _ h
      exact ⟨l, ns, h1, h2, (h3 l rfl).1⟩
    · rw [get_set, if_neg q] at e; exact En.drw m e
  spc := fun m v F R e => by
    rw [get_set] at e
    by_cases q : i = m
    · rw [if_pos q] at e; split at e <;> cases e
    · rw [if_neg q] at e; exact En.spc m v F R e
  sep := fun m1 m2 b n x y => by
    have back : ∀ {m : Nat}, Ow (ρ.set i .drw) σ m b → Ow ρ σ m b := by
      rintro m ⟨e', h1, h2⟩
      rw [get_set] at h1
      by_cases q : i = m
      · subst q
        rw [if_pos rfl] at h1
        split at h1
        · cases h1
          have h2 : σ[i]? = some (some (.ref b)) := h2
          rw [(En.spc i _ _ _ h).1] at h2
          cases h2
          exact ⟨_, h, rfl⟩
        · cases h1
      · rw [if_neg q] at h1; exact ⟨_, h1, h2⟩
    exact En.sep m1 m2 b n (back x) (back y)
theorem Env.ofDrw {En0 : Env G H σ ρ} (En : Env G' H' σ (ρ.set i .drw)) (w : Gw (Own ρ σ) G H G' H') (h : ρ[i]? = some (drE l)) : Env G' H' σ ρ where
  ex := En.ex
  len := En0.len
  dat := fun m d e => En.dat m d (by
    rw [get_set, if_neg]
    · exact e
    · intro q; subst q; rw [h] at e; cases e)
  own := fun m d e => En.own m d (by
    rw [get_set, if_neg]
    · exact e
    · intro q; subst q; rw [h] at e; cases e)
  drw := fun m e => En.drw m (by
    rw [get_set, if_neg]
    · exact e
    · intro q; subst q; rw [h] at e; cases e)
  spc := fun m v F R e => by
    by_cases q : i = m
    · subst q
      rw [h] at e
      cases e
      obtain ⟨l', ns, h1, h2, h3⟩ := En.drw i (by rw [get_set, if_pos rfl, if_pos (List.getElem?_eq_some_iff.mp h).1])
      have h0 := (En0.spc i _ _ _ h).1
      rw [h0] at h1
      cases h1
      exact ⟨h0, ⟨ns, h2⟩, fun b z => by rw [z]; exact ⟨h3, ex_not h2⟩, dr_stab⟩
    · exact En.spc m v F R (by rw [get_set, if_neg q]; exact e)
  sep := En0.sep
theorem xp_drw {Y : PyData → Prop} (h : ρ[i]? = some (drE l)) (k : IsP te (ρ.set i .drw) Y) : XP te ρ (fun d ρ' => Y d ∧ ρ' = ρ) := fun σ G H En Q q => k σ G H (En.toDrw h) Q fun v d G' H' y n hv => by
  have own : ∀ b, Sdr (ρ.set i .drw) σ b → Own ρ σ b := fun b z => by
    obtain ⟨m, e', h1, h2⟩ := z.own
    rw [get_set] at h1
    by_cases q : i = m
    · subst q
      rw [if_pos rfl] at h1
      split at h1
      · cases h1
        have h2 : σ[i]? = some (some (.ref b)) := h2
        rw [(En.spc i _ _ _ h).1] at h2
        cases h2
        exact ⟨i, _, h, rfl⟩
      · cases h1
    · rw [if_neg q] at h1; exact ⟨m, _, h1, h2⟩
  have w := n.w.wide own
  exact q v d ρ G' H' ⟨y, rfl⟩ ⟨w, Env.ofDrw (En0 := En) n.e w h, fun b z => .inl z⟩ hv
/-- a call that draws, inside an expression -/
theorem isP_callD {A : List Ent → (PyData → Ent → Prop) → Prop} {Y : PyData → Prop} (hi : ρ[i]? = some .drw) (ha : IsA tx ρ ds) (h : ∀ l, A (drE l :: ds.map .dat) (fun d e => Y d ∧ e = drE l)) : IsP (tCall (spX 0 A) [] E (tCons (tVar i) tx)) ρ Y := fun σ G H En Q q => by
  obtain ⟨l, ns, h1, _, _⟩ := En.drw i hi
  refine ⟨_, h1, ha σ G H En _ fun vs G1 H1 n hv => ?_⟩
  obtain ⟨l', ms, h2, h3, h4⟩ := n.e.drw i hi
  rw [h1] at h2
  cases h2
  rw [List.append_nil]
  refine ⟨G1, drE l :: ds.map .dat, .ref l, _, _, _, n.e.ex, .cons rfl (dtall_ents hv), rfl, oneB_dats _ _, ⟨⟨ms, h3⟩, fun b z => by rw [z]; exact ⟨h4, ex_not h3⟩, dr_stab⟩, h l, fun d u v' F' R' G' H' y w ok hf hu => ?_⟩
  obtain ⟨y1, y2⟩ := y
  injection y2 with y2 y3 y4
  subst y2 y3 y4
  obtain ⟨⟨ks, k1⟩, k2, _⟩ := ok
  have w' : Gw (Sdr ρ σ) G1 H1 G' H' := w.wide fun b z => ⟨i, hi, by rw [z]; exact h1⟩
  refine q u d G' H' y1 (n.trans ⟨w', n.e.back w' fun m em => ?_⟩) hu
  obtain ⟨l2, n2, e1, e2, e3⟩ := n.e.drw m em
  by_cases c : l2 = l
  · subst c; exact ⟨_, ks, e1, k1⟩
  · exact ⟨l2, n2, e1, w.h l2 _ c e2⟩
theorem xp_callD {A : List Ent → (PyData → Ent → Prop) → Prop} {Y : PyData → Prop} (hi : ρ[i]? = some (drE l)) (ha : IsA tx (ρ.set i .drw) ds) (h : ∀ l, A (drE l :: ds.map .dat) (fun d e => Y d ∧ e = drE l)) : XP (tCall (spX 0 A) [] E (tCons (tVar i) tx)) ρ (fun d ρ' => Y d ∧ ρ' = ρ) :=
  xp_drw hi (isP_callD (by rw [get_set, if_pos rfl, if_pos (List.getElem?_eq_some_iff.mp hi).1]) ha h)
/-- draws = a new list of ints -/
theorem do_asgDr {Z : Out → Prop} (h : IsNP te ρ (fun ds => ∃ ns : List Int, ds = ns.map .int)) (k : ∀ l, Z (.nx (ρ.set j (drE l)))) : Do (tAsg te (gName j)) ρ Z := fun D σ G H En q => h σ G H En _ fun p xs ds G' H' ⟨ns, hn⟩ n hp gp h1 h2 => by
  subst hn
  rw [h2.ints] at h1
  exact q _ (k p) _ G' H' (Sx.setE En (Sx.of n).w n.e ⟨⟨ns, h1⟩, fun b z => by rw [z]; exact ⟨gp, ex_not h1⟩, dr_stab⟩ fun b z => by rw [z]; exact hp)
/-- xs.pop(), a list of one's own -/
theorem xp_popO (h : ρ[i]? = some (.own (ds ++ [d]))) : XP (tBM0 K "list" rPop (tVar i)) ρ (fun d' ρ' => d' = d ∧ ρ' = ρ.set i (.own ds)) := fun σ G H En Q q => by
  obtain ⟨p, xs, h1, h2, h3, h4⟩ := En.own i _ h
  obtain ⟨y, y1, y2, y3⟩ := h4.unsnoc
  refine ⟨_, h1, .inl ⟨rfl, xs, sq_of h2⟩, p, xs, y, rfl, rfl, h2, y1, ?_⟩
  have ow : Ow ρ σ i p := ⟨_, h, h1⟩
  have w : Gw (Own ρ σ) G H G (upd H p (.lst xs.dropLast)) := Gw.put En.ex h3 ⟨i, ow⟩
  have e2 : σ.set i (some (.ref p)) = σ := by
    refine List.ext_getElem? fun m => ?_
    rw [get_set]
    by_cases c : i = m
    · subst c; rw [if_pos rfl, h1, if_pos (List.getElem?_eq_some_iff.mp h1).1]
    · rw [if_neg c]
  have E2 : Env G (upd H p (.lst xs.dropLast)) (σ.set i (some (.ref p))) (ρ.set i .no) := by
    refine (En.setN (j := i) (x := some (.ref p))).put h3 fun ⟨m, y⟩ => ?_
    obtain ⟨mi, om⟩ := ow_set (x := some (.ref p)) rfl y
    exact En.sep m i p mi om ow
  have E3 := E2.setO (j := i) (p := p) (ds := ds) (xs := xs.dropLast) upd_same h3 (fun m hm y => by
    obtain ⟨mi, om⟩ := ow_set (x := some (.ref p)) rfl y
    exact En.sep m i p mi om ow) y3
  rw [List.set_set, List.set_set, e2] at E3
  refine q y d _ G _ ⟨rfl, rfl⟩ ⟨w, E3, fun b z => ?_⟩ y2
  have z2 : Own (ρ.set i (.own ds)) (σ.set i (some (.ref p))) b := by rw [e2]; exact z
  exact (own_setO z2).elim (fun c => .inl (c ▸ ⟨i, ow⟩)) .inl
/-! ### int, max -/
theorem is_intB {b : Bool} (h : Is ta ρ (.bool b)) : Is (tCB (fun xs H Q => (∃ i, xs = [V.int i] ∧ Q (.int i) H) ∨ ∃ k, xs = [V.bl k] ∧ Q (.int (if k then 1 else 0)) H) (tCons ta tNil)) ρ (.int (if b then 1 else 0)) :=
  is_cb (isA_cons h isA_nil) (fun H vs Q hv q => by
    cases hv with
    | cons h1 h2 => cases h1; cases h2; exact .inr ⟨b, rfl, q _ (.int _)⟩) (fun _ z => by cases z) fun _ z => by cases z
theorem is_max {x y : Int} (ha : Is ta ρ (.int x)) (hb : Is tb ρ (.int y)) : Is (tCB (fun xs H Q => ∃ i j, xs = [V.int i, V.int j] ∧ Q (.int (if j > i then j else i)) H) (tCons ta (tCons tb tNil))) ρ (.int (if y > x then y else x)) :=
  is_cb (isA_cons ha (isA_cons hb isA_nil)) (fun H vs Q hv q => by
    cases hv with
    | cons h1 h2 =>
      cases h2 with
      | cons h2 h3 => cases h1; cases h2; cases h3; exact ⟨x, y, rfl, q _ (.int _)⟩) (fun _ z => by cases z) fun _ z => by cases z
end
/-! ints known by a word -/
abbrev isW (p : Int → Prop) : PyData → Prop := fun d => ∃ n, d = .int n ∧ p n
abbrev isI : PyData → Prop := isW fun _ => True
section
variable {ρ : List Ent} {ta tb : TE} {p p1 p2 : Int → Prop} {C : Int → Int → Prop} {g : Int → Int → Int} {h : Int → Int → Bool}
theorem isW_of {n : Int} (ha : Is ta ρ (.int n)) (hp : p n) : IsP ta ρ (isW p) := ha.mono fun d e => ⟨n, e, hp⟩
theorem isP_iW (ha : IsP ta ρ (isW p1)) (hb : IsP tb ρ (isW p2)) (hp : ∀ a b, p1 a → p2 b → p (g a b)) : IsP (tOp (rI0 fun i j => .int (g i j)) ta tb) ρ (isW p) :=
  isP_op2 ha hb fun H x y d e Q ⟨a, ea, pa⟩ ⟨b, eb, pb⟩ hx hy q => by
    subst ea eb
    cases hx; cases hy
    exact ⟨a, b, rfl, rfl, q _ _ ⟨_, rfl, hp a b pa pb⟩ (.int _)⟩
theorem isP_cW (ha : IsP ta ρ (isW p1)) (hb : IsP tb ρ (isW p2)) (hc : ∀ a b, p1 a → p2 b → C a b) (hp : ∀ a b, p1 a → p2 b → p (g a b)) : IsP (tOp (rI C fun i j => .int (g i j)) ta tb) ρ (isW p) :=
  isP_op2 ha hb fun H x y d e Q ⟨a, ea, pa⟩ ⟨b, eb, pb⟩ hx hy q => by
    subst ea eb
    cases hx; cases hy
    exact ⟨a, b, rfl, rfl, hc a b pa pb, q _ _ ⟨_, rfl, hp a b pa pb⟩ (.int _)⟩
abbrev isBool : PyData → Prop := fun d => ∃ b, True ∧ d = .bool b
theorem isP_eqW (ha : IsP ta ρ (isW p1)) (hb : IsP tb ρ (isW p2)) : IsP (tOp rEq ta tb) ρ isBool :=
  isP_op2 ha hb fun H x y d e Q ⟨a, ea, pa⟩ ⟨b, eb, pb⟩ hx hy q => by
    subst ea eb
    cases hx; cases hy
    exact ⟨rfl, q _ _ ⟨_, trivial, rfl⟩ (.bl _)⟩
theorem isP_intB (h : IsP ta ρ isBool) : IsP (tCB (fun xs H Q => (∃ i, xs = [V.int i] ∧ Q (.int i) H) ∨ ∃ k, xs = [V.bl k] ∧ Q (.int (if k then 1 else 0)) H) (tCons ta tNil)) ρ (isW fun n => n = 0 ∨ n = 1) := fun σ G H E Q q =>
  h σ G H E _ fun v d G1 H1 ⟨b, _, hd⟩ n hv => by
    subst hd
    cases hv
    refine .inr ⟨b, rfl, q _ _ G1 H1 ⟨_, rfl, ?_⟩ n (.int _)⟩
    cases b
    · exact .inl rfl
    · exact .inr rfl
theorem isP_max {x : Int} (ha : Is ta ρ (.int x)) (hb : IsP tb ρ (isW p1)) : IsP (tCB (fun xs H Q => ∃ i j, xs = [V.int i, V.int j] ∧ Q (.int (if j > i then j else i)) H) (tCons ta (tCons tb tNil))) ρ isI := fun σ G H E Q q =>
  ha σ G H E _ fun v d G1 H1 hd n1 hv => hb σ G1 H1 n1.e _ fun u e G2 H2 ⟨y, he, _⟩ n2 hu => by
    subst hd he
    cases hv; cases hu
    exact ⟨x, y, rfl, q _ _ G2 H2 ⟨_, rfl, trivial⟩ (n1.trans n2) (.int _)⟩
end
end W36
end
section
set_option Elab.async false
set_option linter.all false
set_option maxRecDepth 100000
set_option maxHeartbeats 4000000
namespace W36
open PySem L2 Evl
def A_law_cell (ns : List Int) (ds : List PyData) (R : PyData → Prop) : Prop := ∃ k : Int, ds = [.int k] ∧ (0 ≤ k ∧ k ≤ 100000) ∧ R = isI
def sp_law_cell (K : PySem.W.Frag) : Sp := spS K A_law_cell
theorem ln_law_cell : ∀ ns ds R, A_law_cell ns ds R → ds.length = 1 := fun ns ds R ⟨_, h, _⟩ => by rw [h]; rfl
theorem c_law_cell {K : PySem.W.Frag} {tx : TA} {ρ : List Ent} {i : Nat} {a : Addr} {ns : List Int} {k : Int} (hi : ρ[i]? = some (scE K a ns)) (hk : 0 ≤ k ∧ k ≤ 100000) (ha : IsA tx ρ [.int k]) : IsP (tCall (sp_law_cell K) [] E0 (tCons (tVar i) tx)) ρ isI := isP_callS hi ha ⟨k, rfl, hk, rfl⟩
theorem at_int {ns : List Int} {k : Nat} (h : k < ns.length) : ns[k]? = some ns[k] := List.getElem?_eq_getElem h
theorem ok_law_cell {P : Program} {w : World} {K : PySem.W.Frag} {mg : Str → Option Value} {base : Heap} {f : Addr} {fd : FuncData} (F : FnP K "_law_cell" "_law_cell" s_law_cell f fd) (md : Md mg) : FnOk P w K mg base CX0 1 f fd ["_law_script", "_law_k"] (sp_law_cell K) := by
  refine FunD.ok F sc_law_cell (fun vs H Q E h => len_S (fun ns ds R hA => ?_) h) (fun cdv A outer s H vs Q E hr h => ?_)
  · exact ln_law_cell ns ds R hA
  · have nd := sc_law_cell.nd
    refine ⟨_, PSs.nox (pss_cons (ps_if (pt_cmpR op_lt (pv 1) (pe_callB (k_len K) (by rfl) md.len PySem.boot_len (pa_cons (pv 0) pa_nil)) (nomark _))
    (pss_one (ps_ret (pe_ix (kx_L K) (pv 0) (pv 1) (fun _ _ => rfl))))
    pss_nil)
    (pss_cons (ps_set (i := 2) nd rfl (by first | exact Or.inl rfl | exact Or.inr rfl) (pe_op op_add pe_int (pe_op op_mul (pe_op op_mul pe_int (pv 1)) (pv 1))))
    (pss_cons (ps_if (pt_cmpR op_gt (pe_callB (k_len K) (by rfl) md.len PySem.boot_len (pa_cons (pv 0) pa_nil)) pe_int (nomark _))
    (pss_one (ps_set (i := 2) nd rfl (by first | exact Or.inl rfl | exact Or.inr rfl) (pe_op op_add (pv 2) (pe_op op_mul (pe_op op_mod (pe_ix (kx_L K) (pv 0) pe_int (fun _ _ => rfl)) pe_int) (pe_op op_add (pe_op op_mul pe_int (pv 1)) pe_int)))))
    pss_nil)
    (pss_one (ps_ret (pv 2)))))), run_S h fun a ns ds R hA => ?_⟩
    obtain ⟨k, rfl, hk, rfl⟩ := hA
    refine do_when (ist_test (is_bI (is_var rfl) (is_lenS (K := K) rfl))) (fun e => ?_) fun e => ?_
    · have e := of_decide_eq_true e
      have kl : k.toNat < ns.length := by omega
      exact do_retD (is_ixS (n := k.toNat) rfl (is_var rfl) (by omega) (at_int kl)) ⟨_, rfl, trivial⟩
    · refine do_let (is_iI is_int (is_cI (is_cI is_int (is_var rfl) (.inl ⟨by decide, by decide⟩)) (is_var rfl) (.inr ⟨by omega, by omega⟩))) ?_
      refine do_seq (do_if (ist_test (is_bI (is_lenS (K := K) rfl) is_int)) (fun e2 => ?_) fun e2 => do_next ?_)
      · have e2 := of_decide_eq_true e2
        have kl : 0 < ns.length := by omega
        refine do_asgP (Y := isI) ((is_iI (is_var rfl) (is_cI (is_cI (is_ixS (n := 0) rfl is_int rfl (at_int kl)) is_int (by show (0 : Int) < 99991; decide)) (is_iI (is_cI is_int (is_var rfl) (.inl ⟨by decide, by decide⟩)) is_int) (.inr ⟨by omega, by omega⟩))).mono fun d e => ⟨_, e, trivial⟩) fun d hd => ?_
        obtain ⟨n, hd, _⟩ := hd
        subst hd
        exact do_retD (is_var rfl) ⟨_, rfl, trivial⟩
      · exact do_retD (is_var rfl) ⟨_, rfl, trivial⟩
def A_law_next (es : List Ent) (Y : PyData → Ent → Prop) : Prop := ∃ l, es = [drE l] ∧ Y = fun d e => isI d ∧ e = drE l
def sp_law_next : Sp := spX 0 A_law_next
theorem ln_law_next : ∀ es Y, A_law_next es Y → es.length = 1 := fun es Y ⟨_, h, _⟩ => by rw [h]; rfl
theorem c_law_next {ρ : List Ent} {i : Nat} (hi : ρ[i]? = some .drw) : IsP (tCall sp_law_next [] E0 (tCons (tVar i) tNil)) ρ isI := isP_callD (ds := []) hi isA_nil fun l => ⟨l, rfl, rfl⟩
theorem x_law_next {ρ : List Ent} {i : Nat} {l : Addr} (hi : ρ[i]? = some (drE l)) : XP (tCall sp_law_next [] E0 (tCons (tVar i) tNil)) ρ (fun d ρ' => isI d ∧ ρ' = ρ) := xp_callD (ds := []) hi isA_nil fun l => ⟨l, rfl, rfl⟩
/-- how many draws are left -/
theorem isT_lenDr {K : PySem.W.Frag} {ρ : List Ent} {l : Addr} (h : ρ[0]? = some (drE l)) : ∀ σ G H, Env G H σ ρ → ∃ ns : List Int, σ[0]? = some (some (.ref l)) ∧ H l = some (.lst (ns.map V.int)) ∧ G l = none := fun σ G H E => by
  obtain ⟨h1, ⟨ns, h2⟩, h3, _⟩ := E.spc 0 _ _ _ h
  exact ⟨ns, h1, h2, (h3 l rfl).1⟩
theorem dr_own {ρ : List Ent} {i : Nat} {l : Addr} (h : ρ[i]? = some (drE l)) {σ : L2.St} {G H : Hp} (E : Env G H σ ρ) (ns : List Int) : Sx σ ρ G H σ ρ G (upd H l (.lst (ns.map V.int))) := by
  obtain ⟨h1, ⟨ms, h2⟩, h3, h4⟩ := E.spc i _ _ _ h
  have := Sx.setS (F' := fun a => a = l) (R' := fun _ H => ∃ ns : List Int, H l = some (.lst (ns.map V.int))) E (Nx.refl E) h (Gw.put (o := .lst (ns.map V.int)) E.ex (h3 l rfl).1 rfl) ⟨⟨ns, upd_same⟩, fun b z => by rw [z]; exact ⟨(h3 l rfl).1, by rw [upd_same]; exact fun z => by cases z⟩, dr_stab⟩ fun b z => .inl z
  rwa [set_same h] at this
theorem ints_snoc : ∀ {ns : List Int}, ns ≠ [] → ∃ y : Int, (ns.map V.int)[(ns.map V.int).length - 1]? = some (.int y) ∧ (ns.map V.int).dropLast = ns.dropLast.map V.int := fun {ns} h => by
  rcases List.eq_nil_or_concat ns with e | ⟨ms, y, e⟩
  · exact absurd e h
  · rw [List.concat_eq_append] at e
    subst e
    exact ⟨y, by simp, by simp⟩
theorem ok_law_next {P : Program} {w : World} {K : PySem.W.Frag} {mg : Str → Option Value} {base : Heap} {f : Addr} {fd : FuncData} (F : FnP K "_law_next" "_law_next" s_law_next f fd) (md : Md mg) : FnOk P w K mg base CX0 1 f fd ["_law_draws_here"] sp_law_next := by
  refine FunD.ok F sc_law_next (fun vs H Q E h => len_X (fun ds R hA => ?_) h) (fun cdv A outer s H vs Q E hr h => ?_)
  · exact ln_law_next ds R hA
  · have nd := sc_law_next.nd
    refine ⟨_, PSs.nox (pss_cons (ps_if (pt_cmpR op_gt (pe_callB (k_len K) (by rfl) md.len PySem.boot_len (pa_cons (pv 0) pa_nil)) pe_int (nomark _))
    (pss_one (ps_ret (pe_bm0 PySem.F.plainAttrs_list PySem.F.slot_list_pop PySem.F.type_list_pop mt_pop (pv 0))))
    pss_nil)
    (pss_one (ps_ret pe_int))), run_X h fun ds R hA => ?_⟩
    obtain ⟨l, rfl, rfl⟩ := hA
    intro D σ G H En q
    have en0 : (parsE N_law_next.length [drE l])[0]? = some (drE l) := rfl
    obtain ⟨ms, d1, d2, d3⟩ := isT_lenDr (K := K) en0 σ G H En
    refine ⟨.ref l, d1, l, _, rfl, .inl (sq_of d2), _, _, rfl, rfl, _, rfl, ?_⟩
    rw [List.length_map]
    by_cases hm : ms = []
    · subst hm
      refine iteF ?_
      exact q (.rtS (.int 0) _) ⟨_, _, _, rfl, ⟨0, rfl, trivial⟩, rfl⟩ _ σ G H (Sx.of (Nx.refl En)) (.int 0)
    · have hl : 0 < ms.length := List.length_pos_iff.mpr hm
      have hd : decide ((ms.length : Int) > 0) = true := decide_eq_true (by omega)
      rw [hd]
      refine iteT ?_
      obtain ⟨y, y1, y2⟩ := ints_snoc hm
      refine ⟨.ref l, d1, .inl ⟨rfl, _, sq_of d2⟩, l, _, .int y, rfl, rfl, d2, y1, ?_⟩
      rw [y2]
      exact q (.rtS (.int y) _) ⟨_, _, _, rfl, ⟨y, rfl, trivial⟩, rfl⟩ _ σ G _ (dr_own en0 En ms.dropLast) (.int y)
end W36
end
section
set_option Elab.async false
set_option linter.all false
set_option maxRecDepth 100000
set_option maxHeartbeats 4000000
namespace W36
open PySem L2 Evl
abbrev isNs : List PyData → Prop := fun es => ∃ ns : List Int, es = ns.map .int ∧ ns.length ≤ 1000
def A_law_draws (ns : List Int) (ds : List PyData) (R : List PyData → Prop) : Prop := ∃ at' many : Int, ds = [.int at', .int many] ∧ (0 ≤ at' ∧ at' ≤ 1000 ∧ 0 ≤ many ∧ many ≤ 1000) ∧ R = isNs
def sp_law_draws (K : PySem.W.Frag) : Sp := spT K A_law_draws
theorem ln_law_draws : ∀ ns ds R, A_law_draws ns ds R → ds.length = 2 := fun ns ds R ⟨_, _, h, _⟩ => by rw [h]; rfl
theorem c_law_draws {K : PySem.W.Frag} {tx : TA} {ρ : List Ent} {i : Nat} {a : Addr} {ns : List Int} {k m : Int} (hi : ρ[i]? = some (scE K a ns)) (hk : 0 ≤ k ∧ k ≤ 1000 ∧ 0 ≤ m ∧ m ≤ 1000) (ha : IsA tx ρ [.int k, .int m]) : IsNP (tCall (sp_law_draws K) [] E0 (tCons (tVar i) tx)) ρ isNs := isNP_callT hi ha ⟨k, m, rfl, hk, rfl⟩
theorem ok_law_draws {P : Program} {w : World} {K : PySem.W.Frag} {mg : Str → Option Value} {base : Heap} {f : Addr} {fd : FuncData} (F : FnP K "_law_draws" "_law_draws" s_law_draws f fd) (md : Md mg) {f_law_cell : Addr} {fd_law_cell : FuncData} (h_law_cell : Has P w K mg base 1 "_law_cell" ["_law_script", "_law_k"] (sp_law_cell K) f_law_cell fd_law_cell) : FnOk P w K mg base CX0 2 f fd ["_law_script", "_law_at", "_law_many"] (sp_law_draws K) := by
  refine FunD.ok F sc_law_draws (fun vs H Q E h => len_T (fun ns ds R hA => ?_) h) (fun cdv A outer s H vs Q E hr h => ?_)
  · exact ln_law_draws ns ds R hA
  · have nd := sc_law_draws.nd
    refine ⟨_, PSs.nox (pss_cons (ps_set (i := 3) nd rfl (by first | exact Or.inl rfl | exact Or.inr rfl) (pe_lst pa_nil))
    (pss_cons (ps_set (i := 4) nd rfl (by first | exact Or.inl rfl | exact Or.inr rfl) (pe_callB (call_max2 rfl) (by rfl) md.max (by decide +kernel) (pa_cons pe_int (pa_cons (pe_call h_law_cell.ok (hr.mono (by decide)) rfl h_law_cell.g h_law_cell.kp h_law_cell.b .nil pass0 (pa_cons (pv 0) (pa_cons (pv 1) pa_nil))) pa_nil))))
    (pss_cons (ps_if (pt_cmpR op_ge (pv 4) (pe_op op_pow pe_int pe_int) (nomark _))
    (pss_cons (ps_for PassesOwn.never rfl (pi_range1 (by rfl) md.range (pa_cons (pv 2) pa_nil)) (pg_name (i := 5) nd rfl (by first | exact Or.inl rfl | exact Or.inr rfl))
    (pss_cons (ps_expr (pe_bm PySem.F.plainAttrs_list PySem.F.slot_list_append PySem.F.type_list_append mt_append (pv 3) (pa_cons (pe_op op_mod (pv 4) pe_int) pa_nil)))
    (pss_one (ps_set (i := 4) nd rfl (by first | exact Or.inl rfl | exact Or.inr rfl) (pe_op op_fdiv (pv 4) pe_int)))))
    (pss_one (ps_ret (pv 3))))
    pss_nil)
    (pss_cons (ps_set (i := 6) nd rfl (by first | exact Or.inl rfl | exact Or.inr rfl) (pe_op op_mod (pe_op op_mul (pe_op op_mod (pv 4) pe_int) pe_int) pe_int))
    (pss_cons (ps_for PassesOwn.never rfl (pi_range1 (by rfl) md.range (pa_cons (pv 2) pa_nil)) (pg_name (i := 5) nd rfl (by first | exact Or.inl rfl | exact Or.inr rfl))
    (pss_cons (ps_set (i := 6) nd rfl (by first | exact Or.inl rfl | exact Or.inr rfl) (pe_op op_mod (pe_op op_add (pe_op op_add (pe_op op_add (pe_op op_mul (pv 6) pe_int) (pe_call h_law_cell.ok (hr.mono (by decide)) rfl h_law_cell.g h_law_cell.kp h_law_cell.b .nil pass0 (pa_cons (pv 0) (pa_cons (pe_op op_add (pe_op op_add (pv 1) pe_int) (pe_op op_mod (pv 5) pe_int)) pa_nil)))) (pe_op op_mul (pv 5) (pv 5))) pe_int) pe_int))
    (pss_one (ps_expr (pe_bm PySem.F.plainAttrs_list PySem.F.slot_list_append PySem.F.type_list_append mt_append (pv 3) (pa_cons (pe_op op_fdiv (pe_op op_mod (pe_op op_add (pe_op op_mul (pv 6) pe_int) (pe_op op_mul pe_int (pv 5))) pe_int) pe_int) pa_nil))))))
    (pss_one (ps_ret (pv 3)))))))), run_T h fun a ns ds R hA => ?_⟩
    obtain ⟨k, m, rfl, ⟨hk1, hk2, hm1, hm2⟩, rfl⟩ := hA
    refine do_letN (isN_lst isA_nil) ?_
    refine do_letP (isP_max is_int (c_law_cell (i := 0) rfl ⟨hk1, by omega⟩ (isA_cons (is_var rfl) isA_nil))) fun d hd => ?_
    obtain ⟨left, hd, _⟩ := hd
    subst hd
    refine do_seq (do_if (ist_test (is_bI (is_var rfl) (is_cI is_int is_int ⟨by decide, by decide, by decide⟩))) (fun _ => ?_) fun _ => do_next ?_)
    · refine do_seq (do_forR1 (m := m) (n := m.toNat) (I := fun j ρ => ∃ (le : Int) (fs : List Int), ρ = [scE K a ns, .dat (.int k), .dat (.int m), .own (fs.map .int), .dat (.int le), .no, .no] ∧ fs.length = j) (isA_cons (is_var rfl) isA_nil) rfl (by omega) ⟨_, ⟨left, [], rfl, rfl⟩, Le.refl _⟩ ?_ ?_)
      · rintro j ρ1 hj ⟨le, fs, rfl, hl⟩
        refine do_seq (do_app (i := 3) (ds := fs.map .int) (Y := fun x => x = .int (le % 10000)) rfl (is_cI (is_var rfl) is_int (by show (0 : Int) < 10000; decide)) (by rw [List.length_map]; omega) fun d hd => ?_)
        subst hd
        refine (do_asg (is_cI (is_var rfl) is_int ⟨by decide, by decide⟩)).mono fun o ho => ?_
        subst ho
        exact ⟨_, ⟨le / 10000, fs ++ [le % 10000], rfl, by simp [hl]⟩, by
          refine ⟨rfl, rfl, rfl, ?_, rfl, True.intro⟩
          rw [List.map_append]; rfl⟩
      · rintro ρ1 ⟨le, fs, rfl, hl⟩
        exact do_retO (i := 3) rfl ⟨fs, rfl, by omega⟩
    · refine do_let (is_cI (is_cI (is_cI (is_var rfl) is_int (by show (0 : Int) < 2147483647; decide)) is_int (.inr ⟨by decide, by decide⟩)) is_int (by show (0 : Int) < 2147483647; decide)) ?_
      refine do_seq (do_forR1 (m := m) (n := m.toNat) (I := fun j ρ => ∃ (dr : Int) (fs : List Int), ρ = [scE K a ns, .dat (.int k), .dat (.int m), .own (fs.map .int), .dat (.int left), .no, .dat (.int dr)] ∧ fs.length = j) (isA_cons (is_var rfl) isA_nil) rfl (by omega) ⟨_, ⟨_, [], rfl, rfl⟩, rfl, rfl, rfl, rfl, rfl, rfl, True.intro⟩ ?_ ?_)
      · rintro j ρ1 hj ⟨dr, fs, rfl, hl⟩
        refine do_letP (Y := isI) (isP_cW (p1 := fun _ => True) (p2 := fun x => x = 2147483629) (isP_iW (p1 := fun _ => True) (p2 := fun _ => True) (isP_iW (p1 := fun _ => True) (p2 := fun _ => True) (isP_iW (p1 := fun _ => True) (p2 := fun _ => True) (isW_of (is_cI (is_var rfl) is_int (.inr ⟨by decide, by decide⟩)) trivial) (c_law_cell (i := 0) rfl ?_ (isA_cons (is_iI (is_iI (is_var rfl) is_int) (is_cI (is_var rfl) is_int (by show (0 : Int) < 30; decide))) isA_nil)) fun _ _ _ _ => trivial) (isW_of (is_cI (is_var rfl) (is_var rfl) (.inr ⟨by omega, by omega⟩)) trivial) fun _ _ _ _ => trivial) (isW_of is_int trivial) fun _ _ _ _ => trivial) (isW_of is_int rfl) (fun a b _ hb => by show (0 : Int) < b; rw [hb]; decide) fun _ _ _ _ => trivial) fun d hd => ?_
        · show 0 ≤ k + 1 + (j : Int) % 30 ∧ k + 1 + (j : Int) % 30 ≤ 100000; omega
        obtain ⟨x, hd, _⟩ := hd
        subst hd
        refine do_app (i := 3) (ds := fs.map .int) (Y := fun y => y = .int ((x * 39373 + 11 * (j : Int)) % 2147483647 / 16)) rfl (is_cI (is_cI (is_iI (is_cI (is_var rfl) is_int (.inr ⟨by decide, by decide⟩)) (is_cI is_int (is_var rfl) (.inl ⟨by decide, by decide⟩))) is_int (by show (0 : Int) < 2147483647; decide)) is_int ⟨by decide, by decide⟩) (by rw [List.length_map]; omega) fun d hd => ?_
        subst hd
        exact ⟨_, ⟨x, fs ++ [(x * 39373 + 11 * (j : Int)) % 2147483647 / 16], rfl, by simp [hl]⟩, by
          refine ⟨rfl, rfl, rfl, ?_, rfl, rfl, True.intro⟩
          rw [List.map_append]; rfl⟩
      · rintro ρ1 ⟨dr, fs, rfl, hl⟩
        exact do_retO (i := 3) rfl ⟨fs, rfl, by omega⟩
theorem two_pow8 : ∀ i : Nat, i < 8 → (0 : Int) < 1 * 2 ^ i ∧ (1 : Int) * 2 ^ i < 1073741824 := by decide
abbrev isRowM (m : Int) : PyData → Prop := fun d => ∃ ns, d = tI ns ∧ rising ns 0 (m - 1) = true
def A_law_long (es : List Ent) (Y : PyData → Ent → Prop) : Prop := ∃ (l : Addr) (m : Int), es = drE l :: [PyData.int m].map .dat ∧ (0 ≤ m ∧ m ≤ 8) ∧ Y = fun d e => isRowM m d ∧ e = drE l
def sp_law_long : Sp := spX 0 A_law_long
theorem ln_law_long : ∀ es Y, A_law_long es Y → es.length = 2 := fun es Y ⟨_, _, h, _⟩ => by rw [h]; rfl
theorem x_law_long {ρ : List Ent} {i : Nat} {l : Addr} {m : Int} {tx : TA} (hm : 0 ≤ m ∧ m ≤ 8) (hi : ρ[i]? = some (drE l)) (ha : IsA tx (ρ.set i .drw) [.int m]) : XP (tCall sp_law_long [] E0 (tCons (tVar i) tx)) ρ (fun d ρ' => isRowM m d ∧ ρ' = ρ) := xp_callD hi ha fun l => ⟨l, m, rfl, hm, rfl⟩
theorem range_rising {n : Nat} (p : Nat → Bool) : rising (((List.range n).filter p).map fun i : Nat => (i : Int)) 0 ((n : Int) - 1) = true := by
  refine rising_of ?_ fun x hx => ?_
  · rw [List.pairwise_map]
    exact ((List.pairwise_lt_range (n := n)).filter p).imp fun h => by omega
  · obtain ⟨i, hi, rfl⟩ := List.mem_map.mp hx
    have := List.mem_range.mp (List.mem_filter.mp hi).1
    omega
theorem ok_law_long {P : Program} {w : World} {K : PySem.W.Frag} {mg : Str → Option Value} {base : Heap} {f : Addr} {fd : FuncData} (F : FnP K "_law_long" "_law_long" s_law_long f fd) (md : Md mg) {f_law_next : Addr} {fd_law_next : FuncData} (h_law_next : Has P w K mg base 1 "_law_next" ["_law_draws_here"] sp_law_next f_law_next fd_law_next) : FnOk P w K mg base CX0 2 f fd ["_law_draws_here", "_law_many"] sp_law_long := by
  refine FunD.ok F sc_law_long (fun vs H Q E h => len_X (fun ds R hA => ?_) h) (fun cdv A outer s H vs Q E hr h => ?_)
  · exact ln_law_long ds R hA
  · have nd := sc_law_long.nd
    refine ⟨_, PSs.nox (pss_cons (ps_set (i := 2) nd rfl (by first | exact Or.inl rfl | exact Or.inr rfl) (pe_call h_law_next.ok (hr.mono (by decide)) rfl h_law_next.g h_law_next.kp h_law_next.b .nil pass0 (pa_cons (pv 0) pa_nil)))
    (pss_cons (ps_if (pt_cmpR op_gt (pe_op op_mod (pv 2) pe_int) pe_int (nomark _))
    (pss_one (ps_ret (pe_tup pa_nil)))
    pss_nil)
    (pss_one (ps_ret (pe_callTy (k_tuple K) (by rfl) md.tuple (by decide +kernel) (pa_cons (pe_lc (own := [("_law_i", 3)]) (g := gName 3) rfl nd (pi_range1 (by rfl) md.range (pa_cons (pv 1) pa_nil)) (blkOk_by (own := [("_law_i", 3)]) (N := N_law_long) (sc := defScope s_law_long) (by decide +kernel)) (fun _ _ _ _ _ => pg_name (i := 3) nd rfl (Or.inl rfl)) (fun _ _ _ _ _ => (pts_one (pt_cmpR op_eq (pe_op op_mod (pe_op op_fdiv (pe_op op_fdiv (pv 2) pe_int) (pe_op op_shl pe_int (pv 3))) pe_int) pe_int (nomark _)))) (fun _ _ _ _ _ => (pv 3))) pa_nil)))))), run_X h fun ds R hA => ?_⟩
    obtain ⟨l, m, rfl, hm, rfl⟩ := hA
    refine do_asgX1 (x_law_next (i := 0) rfl) fun d ρ' h => ?_
    obtain ⟨⟨dr, hd, _⟩, rfl⟩ := h
    subst hd
    refine do_when (ist_test (is_bI (is_cI (is_var rfl) is_int (by show (0 : Int) < 3; decide)) is_int)) (fun _ => ?_) fun _ => ?_
    · exact do_retS (is_tup isA_nil) fun d hd => ⟨_, _, _, rfl, ⟨[], hd, rfl⟩, rfl⟩
    · refine do_retS (is_tupL (isL_new (isN_lcR1 (m := m) (n := m.toNat) (p := fun i => decide (dr / 4 / (1 * 2 ^ (i : Int).toNat) % 3 = 0)) (f := fun i => .int (i : Int)) (isA_cons (is_var rfl) isA_nil) rfl (by omega) (notDrw_of rfl (by intro z; cases z)) (fun i hi => ?_) fun i hi _ => is_var rfl))) fun d hd => ⟨_, _, _, rfl, ⟨((List.range m.toNat).filter fun i : Nat => decide (dr / 4 / (1 * 2 ^ (i : Int).toNat) % 3 = 0)).map fun i : Nat => (i : Int), ?_, ?_⟩, rfl⟩
      · refine ist_test (is_eqI (is_cI (is_cI (is_cI (is_var rfl) is_int ⟨by decide, by decide⟩) (is_cI is_int (is_var rfl) ⟨by omega, by omega, by decide⟩) ?_) is_int (by show (0 : Int) < 3; decide)) is_int)
        exact two_pow8 _ (by omega)
      · rw [hd, tI, List.map_map]; rfl
      · have := range_rising (n := m.toNat) fun i => decide (dr / 4 / (1 * 2 ^ (i : Int).toNat) % 3 = 0)
        have e : ((m.toNat : Nat) : Int) - 1 = m - 1 := by omega
        rw [← e]; exact this
abbrev isOff (le : Int) : PyData → Prop := fun d => ∃ os : List Int, d = tI os ∧ (1 ≤ os.length ∧ os.length ≤ 7) ∧ (os.length : Int) ≤ le ∧ ∀ o ∈ os, o = 0 ∨ o = 1
def A_law_off (es : List Ent) (Y : PyData → Ent → Prop) : Prop := ∃ (l : Addr) (m : Int), es = drE l :: [PyData.int m].map .dat ∧ 1 ≤ m ∧ Y = fun d e => isOff m d ∧ e = drE l
def sp_law_off : Sp := spX 0 A_law_off
theorem ln_law_off : ∀ es Y, A_law_off es Y → es.length = 2 := fun es Y ⟨_, _, h, _⟩ => by rw [h]; rfl
theorem x_law_off {ρ : List Ent} {i : Nat} {l : Addr} {m : Int} {tx : TA} (hm : 1 ≤ m) (hi : ρ[i]? = some (drE l)) (ha : IsA tx (ρ.set i .drw) [.int m]) : XP (tCall sp_law_off [] E0 (tCons (tVar i) tx)) ρ (fun d ρ' => isOff m d ∧ ρ' = ρ) := xp_callD hi ha fun l => ⟨l, m, rfl, hm, rfl⟩
theorem ok_law_off {P : Program} {w : World} {K : PySem.W.Frag} {mg : Str → Option Value} {base : Heap} {f : Addr} {fd : FuncData} (F : FnP K "_law_off" "_law_off" s_law_off f fd) (md : Md mg) {f_law_next : Addr} {fd_law_next : FuncData} (h_law_next : Has P w K mg base 1 "_law_next" ["_law_draws_here"] sp_law_next f_law_next fd_law_next) : FnOk P w K mg base CX0 2 f fd ["_law_draws_here", "_law_left"] sp_law_off := by
  refine FunD.ok F sc_law_off (fun vs H Q E h => len_X (fun ds R hA => ?_) h) (fun cdv A outer s H vs Q E hr h => ?_)
  · exact ln_law_off ds R hA
  · have nd := sc_law_off.nd
    refine ⟨_, PSs.nox (pss_cons (ps_set (i := 2) nd rfl (by first | exact Or.inl rfl | exact Or.inr rfl) (pe_call h_law_next.ok (hr.mono (by decide)) rfl h_law_next.g h_law_next.kp h_law_next.b .nil pass0 (pa_cons (pv 0) pa_nil)))
    (pss_cons (ps_set (i := 3) nd rfl (by first | exact Or.inl rfl | exact Or.inr rfl) (pe_op op_add pe_int (pe_op op_mod (pe_op op_fdiv (pv 2) pe_int) pe_int)))
    (pss_cons (ps_if (PW.pt (pw_or (pt_cmpR op_gt (pe_op op_mod (pv 2) pe_int) pe_int (nomark _)) (pw_or1 (pt_cmpR op_gt (pv 3) (pv 1) (nomark _)))))
    (pss_one (ps_ret (pe_tup (pa_cons pe_int pa_nil))))
    pss_nil)
    (pss_one (ps_ret (pe_callTy (k_tuple K) (by rfl) md.tuple (by decide +kernel) (pa_cons (pe_lc (own := [("_law_k", 4)]) (g := gName 4) rfl nd (pi_range1 (by rfl) md.range (pa_cons (pv 3) pa_nil)) (blkOk_by (own := [("_law_k", 4)]) (N := N_law_off) (sc := defScope s_law_off) (by decide +kernel)) (fun _ _ _ _ _ => pg_name (i := 4) nd rfl (Or.inl rfl)) (fun _ _ _ _ _ => pts_nil) (fun _ _ _ _ _ => (pe_callTy call_int1 (by rfl) md.int (by decide +kernel) (pa_cons (pe_cmpR op_eq (pe_op op_mod (pe_op op_fdiv (pe_op op_fdiv (pv 2) pe_int) (pe_op op_shl pe_int (pv 4))) pe_int) pe_int (nomark _)) pa_nil)))) pa_nil))))))), run_X h fun ds R hA => ?_⟩
    obtain ⟨l, m, rfl, hm, rfl⟩ := hA
    refine do_asgX1 (x_law_next (i := 0) rfl) fun d ρ' h => ?_
    obtain ⟨⟨dr, hd, _⟩, rfl⟩ := h
    subst hd
    refine do_let (is_iI is_int (is_cI (is_cI (is_var rfl) is_int ⟨by decide, by decide⟩) is_int (by show (0 : Int) < 7; decide))) ?_
    refine do_when (b := decide (dr % 3 > 0) || decide (1 + dr / 3 % 7 > m)) (ist_or (ist_test (is_bI (is_cI (is_var rfl) is_int (by show (0 : Int) < 3; decide)) is_int)) fun _ => ist_test (is_bI (is_var rfl) (is_var rfl))) (fun _ => ?_) fun e => ?_
    · exact do_retS (is_tup (isA_cons is_int isA_nil)) fun d hd => ⟨_, _, _, rfl, ⟨[0], hd, ⟨by decide, by decide⟩, by simpa using hm, fun o ho => .inl (List.mem_singleton.mp ho)⟩, rfl⟩
    · obtain ⟨sz, hsz⟩ : ∃ z, z = 1 + dr / 3 % 7 := ⟨_, rfl⟩
      have e2 : sz ≤ m := by
        rw [Bool.or_eq_false_iff] at e
        have := of_decide_eq_false e.2
        omega
      have s1 : 1 ≤ sz ∧ sz ≤ 7 := by omega
      rw [← hsz]
      refine do_retS (is_tupL (isL_new (isN_lcR1 (m := sz) (n := sz.toNat) (p := fun _ => true) (f := fun i => .int (if decide (dr / 32 / (1 * 2 ^ (i : Int).toNat) % 4 = 0) then 1 else 0)) (isA_cons (is_var rfl) isA_nil) rfl (by omega) (notDrw_of rfl (by intro z; cases z)) (fun i hi => ist_yes) fun i hi _ => is_intB (is_eqI (is_cI (is_cI (is_cI (is_var rfl) is_int ⟨by decide, by decide⟩) (is_cI is_int (is_var rfl) ⟨by omega, by omega, by decide⟩) ?_) is_int (by show (0 : Int) < 4; decide)) is_int)))) fun d hd => ⟨_, _, _, rfl, ⟨(List.range sz.toNat).map fun i : Nat => if decide (dr / 32 / (1 * 2 ^ (i : Int).toNat) % 4 = 0) then 1 else 0, ?_, ⟨by simp; omega, by simp; omega⟩, by simp; omega, fun o ho => ?_⟩, rfl⟩
      · exact two_pow8 _ (by omega)
      · rw [hd, List.filter_eq_self.mpr (fun _ _ => rfl), tI, List.map_map]; rfl
      · obtain ⟨i, _, rfl⟩ := List.mem_map.mp ho
        split
        · exact .inr rfl
        · exact .inl rfl
abbrev lexP (p q : Int × Int) : Prop := p.1 < q.1 ∨ (p.1 = q.1 ∧ p.2 < q.2)
structure TiedOk (m : Int) (ps : List (Int × Int)) : Prop where
  m : ∀ p ∈ ps, 0 ≤ p.1 ∧ p.1 < p.2 ∧ p.2 ≤ m - 1
  s : ps.Pairwise lexP
  l : ps.length ≤ 100
abbrev isTies (m : Int) : PyData → Prop := fun d => ∃ ps : List (Int × Int), d = .tuple (ps.map dPr) ∧ TiedOk m ps
def A_law_tied (es : List Ent) (Y : PyData → Ent → Prop) : Prop := ∃ (l : Addr) (m : Int), es = drE l :: [PyData.int m].map .dat ∧ (0 ≤ m ∧ m ≤ 8) ∧ Y = fun d e => isTies m d ∧ e = drE l
def sp_law_tied : Sp := spX 0 A_law_tied
theorem ln_law_tied : ∀ es Y, A_law_tied es Y → es.length = 2 := fun es Y ⟨_, _, h, _⟩ => by rw [h]; rfl
theorem c_law_tied {ρ : List Ent} {i : Nat} {m : Int} {tx : TA} (hm : 0 ≤ m ∧ m ≤ 8) (hi : ρ[i]? = some .drw) (ha : IsA tx ρ [.int m]) : IsP (tCall sp_law_tied [] E0 (tCons (tVar i) tx)) ρ (isTies m) := isP_callD hi ha fun l => ⟨l, m, rfl, hm, rfl⟩
/-- what has been found so far: below (b, c) from the side -/
structure Found (b : Int) (c : Int) (ps : List (Int × Int)) : Prop where
  m : ∀ p ∈ ps, 0 ≤ p.1 ∧ p.1 < p.2 ∧ (p.2 < b ∨ (p.2 = b ∧ p.1 < c))
  nd : ps.Nodup
theorem pairs_alike (p q : Int × Int) : PySem.W.alike (dPr p) (dPr q) = true := by simp [PySem.W.alike, PySem.W.alikeAll]
theorem sorted_pairs_ok {m : Int} {ps : List (Int × Int)} (h : Found m 0 ps) (hl : ps.length ≤ 100) : TiedOk m (ps.mergeSort (PySem.W.dataLe false dPr)) := by
  have e : PySem.W.dataLe false dPr = fun p q : Int × Int => decide (p.1 < q.1 ∨ (p.1 = q.1 ∧ p.2 ≤ q.2)) := PySem.W.dataLe_ii (fun p : Int × Int => p.1) fun p => p.2
  refine ⟨fun p hp => ?_, ?_, by rw [List.length_mergeSort]; exact hl⟩
  · have := h.m p (List.mem_mergeSort.mp hp)
    omega
  · have s := List.pairwise_mergeSort (le := fun p q : Int × Int => decide (p.1 < q.1 ∨ (p.1 = q.1 ∧ p.2 ≤ q.2))) (fun a b c h1 h2 => by
      simp only [decide_eq_true_eq] at h1 h2 ⊢; omega) (fun a b => by
      simp only [Bool.or_eq_true, decide_eq_true_eq]; omega) ps
    have n : (ps.mergeSort (PySem.W.dataLe false dPr)).Nodup := (List.mergeSort_perm ps _).nodup_iff.mpr h.nd
    rw [e] at n ⊢
    rw [List.nodup_iff_pairwise_ne] at n
    refine List.Pairwise.imp₂ (fun a b h1 h2 => ?_) s n
    simp only [decide_eq_true_eq] at h1
    by_cases c : a.1 < b.1
    · exact .inl c
    · refine .inr ⟨by omega, ?_⟩
      have : a.2 ≠ b.2 := fun z => h2 (Prod.ext (by omega) z)
      omega
theorem ok_law_tied {P : Program} {w : World} {K : PySem.W.Frag} {mg : Str → Option Value} {base : Heap} {f : Addr} {fd : FuncData} (F : FnP K "_law_tied" "_law_tied" s_law_tied f fd) (md : Md mg) {f_law_next : Addr} {fd_law_next : FuncData} (h_law_next : Has P w K mg base 1 "_law_next" ["_law_draws_here"] sp_law_next f_law_next fd_law_next) : FnOk P w K mg base CX0 2 f fd ["_law_draws_here", "_law_many"] sp_law_tied := by
  refine FunD.ok F sc_law_tied (fun vs H Q E h => len_X (fun ds R hA => ?_) h) (fun cdv A outer s H vs Q E hr h => ?_)
  · exact ln_law_tied ds R hA
  · have nd := sc_law_tied.nd
    refine ⟨_, PSs.nox (pss_cons (ps_set (i := 2) nd rfl (by first | exact Or.inl rfl | exact Or.inr rfl) (pe_call h_law_next.ok (hr.mono (by decide)) rfl h_law_next.g h_law_next.kp h_law_next.b .nil pass0 (pa_cons (pv 0) pa_nil)))
    (pss_cons (ps_set (i := 3) nd rfl (by first | exact Or.inl rfl | exact Or.inr rfl) (pe_lst pa_nil))
    (pss_cons (ps_for PassesOwn.never rfl (pi_range1 (by rfl) md.range (pa_cons (pv 1) pa_nil)) (pg_name (i := 4) nd rfl (by first | exact Or.inl rfl | exact Or.inr rfl))
    (pss_one (ps_for PassesOwn.never rfl (pi_range1 (by rfl) md.range (pa_cons (pv 4) pa_nil)) (pg_name (i := 5) nd rfl (by first | exact Or.inl rfl | exact Or.inr rfl))
    (pss_one (ps_if (PW.pt (pw_and (pt_cmpR op_eq (pe_op op_mod (pv 2) pe_int) pe_int (nomark _)) (pw_and1 (pt_cmpR op_eq (pe_op op_mod (pe_op op_fdiv (pe_op op_fdiv (pv 2) pe_int) (pe_op op_add (pe_op op_add pe_int (pv 5)) (pe_op op_mul pe_int (pv 4)))) pe_int) pe_int (nomark _)))))
    (pss_one (ps_expr (pe_bm PySem.F.plainAttrs_list PySem.F.slot_list_append PySem.F.type_list_append mt_append (pv 3) (pa_cons (pe_tup (pa_cons (pv 5) (pa_cons (pv 4) pa_nil))) pa_nil))))
    pss_nil)))))
    (pss_one (ps_ret (pe_callTy (k_tuple K) (by rfl) md.tuple (by decide +kernel) (pa_cons (pe_callB (k_srtD K (hu65 hr)) (by rfl) md.sorted (by decide +kernel) (pa_cons (pv 3) pa_nil)) pa_nil))))))), run_X h fun ds R hA => ?_⟩
    obtain ⟨l, m, rfl, hm, rfl⟩ := hA
    refine do_asgX1 (x_law_next (i := 0) rfl) fun d ρ' h => ?_
    obtain ⟨⟨dr, hd, _⟩, rfl⟩ := h
    subst hd
    refine do_letN (isN_lst isA_nil) ?_
    refine do_seq (do_forR1 (m := m) (n := m.toNat) (I := fun j ρ => ∃ ps : List (Int × Int), ρ = [drE l, .dat (.int m), .dat (.int dr), .own (ps.map dPr), .no, .no] ∧ Found (j : Int) 0 ps ∧ ps.length ≤ 8 * j) (isA_cons (is_var rfl) isA_nil) rfl (by omega) ⟨_, ⟨[], rfl, ⟨(fun p hp => by cases hp), List.nodup_nil⟩, Nat.zero_le _⟩, Le.refl _⟩ ?_ ?_)
    · rintro j ρ1 hj ⟨ps, rfl, hf, hl⟩
      refine do_forR1 (m := (j : Int)) (n := j) (I := fun i ρ => ∃ ps : List (Int × Int), ρ = [drE l, .dat (.int m), .dat (.int dr), .own (ps.map dPr), .dat (.int (j : Int)), .no] ∧ Found (j : Int) (i : Int) ps ∧ ps.length ≤ 8 * j + i) (isA_cons (is_var rfl) isA_nil) (by omega) (by omega) ⟨_, ⟨ps, rfl, hf, hl⟩, rfl, rfl, rfl, rfl, rfl, True.intro⟩ ?_ ?_
      · rintro i ρ1 hi ⟨qs, rfl, hg, hl2⟩
        refine do_if (ist_and (ist_test (is_eqI (is_cI (is_var rfl) is_int (by show (0 : Int) < 3; decide)) is_int)) fun _ => ist_test (is_eqI (is_cI (is_cI (is_cI (is_var rfl) is_int ⟨by decide, by decide⟩) (is_iI (is_iI is_int (is_var rfl)) (is_cI is_int (is_var rfl) (.inl ⟨by decide, by decide⟩))) ⟨?_, ?_⟩) is_int (by show (0 : Int) < 4; decide)) is_int)) (fun _ => ?_) fun _ => do_next ?_
        · omega
        · omega
        · refine do_app (i := 3) (ds := qs.map dPr) (Y := fun y => y = dPr ((i : Int), (j : Int))) rfl (is_tup (isA_cons (is_var rfl) (isA_cons (is_var rfl) isA_nil))) (by rw [List.length_map]; omega) fun d hd => ?_
          subst hd
          refine ⟨_, ⟨qs ++ [((i : Int), (j : Int))], rfl, ⟨fun p hp => ?_, ?_⟩, by rw [List.length_append, List.length_singleton]; omega⟩, by
            refine ⟨rfl, rfl, rfl, ?_, rfl, True.intro⟩
            rw [List.map_append]; rfl⟩
          · rcases List.mem_append.mp hp with z | z
            · have := hg.m p z
              omega
            · rw [List.mem_singleton] at z
              subst z
              exact ⟨Int.natCast_nonneg _, by show (i : Int) < (j : Int); omega, .inr ⟨rfl, by show (i : Int) < ((i + 1 : Nat) : Int); omega⟩⟩
          · refine List.nodup_append.mpr ⟨hg.nd, List.nodup_cons.mpr ⟨List.not_mem_nil, List.nodup_nil⟩, fun p hp q hq e => ?_⟩
            rw [List.mem_singleton] at hq
            subst hq e
            have := hg.m _ hp
            simp only at this
            omega
        · exact ⟨_, ⟨qs, rfl, ⟨fun p hp => by have := hg.m p hp; omega, hg.nd⟩, by omega⟩, rfl, rfl, rfl, rfl, rfl, True.intro⟩
      · rintro ρ1 ⟨qs, rfl, hg, hl2⟩
        exact ⟨_, ⟨qs, rfl, ⟨fun p hp => by have := hg.m p hp; omega, hg.nd⟩, by omega⟩, rfl, rfl, rfl, rfl, True.intro⟩
    · rintro ρ1 ⟨ps, rfl, hf, hl⟩
      have hf' : Found m 0 ps := by
        rw [show ((m.toNat : Nat) : Int) = m by omega] at hf; exact hf
      refine do_retS (is_tupL (isL_new (isN_srt (K := K) (bs := ps) (enc := dPr) (isL_own rfl) (PySem.W.AllAlike.of pairs_alike) (.inl (PySem.W.Sortable.tuples fun p => ⟨_, _, rfl⟩)) fun p _ => by simp [PyData.depth, PyData.depthAll]))) fun d hd => ⟨_, _, _, rfl, ⟨_, hd, sorted_pairs_ok hf' (by omega)⟩, rfl⟩
end W36
end
section
set_option Elab.async false
set_option linter.all false
set_option maxRecDepth 100000
set_option maxHeartbeats 4000000
/-! Arguments known by a word; a loop over a range that is drawn. -/
namespace W36
open PySem L2 Evl
section
variable {ρ : List Ent} {te : TE} {tx : TA} {tb : TS} {P : Out → Prop} {j : Nat} {R : List PyData → Prop} {Y : PyData → Prop} {ds : List PyData} {d : PyData}
def IsAP (tx : TA) (ρ : List Ent) (R : List PyData → Prop) : Prop := ∀ σ G H, Env G H σ ρ → ∀ Q : List V → Hp → Prop, (∀ vs ds G' H', R ds → Nx σ ρ G H G' H' → DtAll G' vs ds → Q vs H') → tx σ H Q
theorem isAP_nil : IsAP tNil ρ (fun ds => ds = []) := fun σ G H E Q q => q [] [] G H rfl (Nx.refl E) .nil
theorem isAP_cons (h : IsP te ρ Y) (k : IsAP tx ρ R) : IsAP (tCons te tx) ρ (fun l => ∃ d ds, Y d ∧ R ds ∧ l = d :: ds) := fun σ G H E Q q => h σ G H E _ fun v d G1 H1 y n1 hv => k σ G1 H1 n1.e _ fun vs ds G2 H2 r n2 hvs =>
  q (v :: vs) (d :: ds) G2 H2 ⟨d, ds, y, r, rfl⟩ (n1.trans n2) (.cons (hv.up n2.w.g) hvs)
theorem isAP_mono {R' : List PyData → Prop} (h : IsAP tx ρ R) (k : ∀ ds, R ds → R' ds) : IsAP tx ρ R' := fun σ G H E Q q => h σ G H E Q fun vs ds G' H' r => q vs ds G' H' (k ds r)
theorem isP_tupA (ha : IsAP tx ρ R) (hl : ∀ ds, R ds → ds.length ≤ 100000) : IsP (tTup tx) ρ (fun d => ∃ ds, R ds ∧ d = .tuple ds) := fun σ G H E Q q =>
  ha σ G H E _ fun xs ds G1 H1 r n1 hxs => ⟨by rw [hxs.length]; exact sz_of (hl ds r), fun p hp =>
    have m := Nx.new (o := .tup xs) n1.e hp
    q _ _ _ _ ⟨ds, r, rfl⟩ (n1.trans m) (.tup upd_same (hxs.up m.w.g))⟩
theorem isNP_lstA (ha : IsAP tx ρ R) (hl : ∀ ds, R ds → ds.length ≤ 100000) : IsNP (tLst tx) ρ R := fun σ G H E Q q =>
  ha σ G H E _ fun xs ds G1 H1 r n1 hxs => ⟨by rw [hxs.length]; exact sz_of (hl ds r), fun p hp =>
    have m := Nx.newH (o := .lst xs) n1.e hp
    q _ _ _ _ _ r (n1.trans m) (by
      cases z : H p with
      | none => rfl
      | some o => exact absurd hp (n1.w.d p (ex_not z))) (ex_none n1.e.ex hp) upd_same hxs⟩
/-- an argument that is an int, known by a word, with effects -/
def XA1 (tx : TA) (ρ : List Ent) (p : Int → Prop) : Prop := ∀ σ G H, Env G H σ ρ → ∀ Q : List V → Hp → Prop, (∀ (m : Int) G' H', p m → Sx σ ρ G H σ ρ G' H' → Q [.int m] H') → tx σ H Q
theorem xa1 {p : Int → Prop} (h : XP te ρ (fun d ρ' => isW p d ∧ ρ' = ρ)) : XA1 (tCons te tNil) ρ p := fun σ G H E Q q => h σ G H E _ fun v d ρ' G' H' ⟨⟨n, hd, hp⟩, e⟩ s hv => by
  subst hd e
  cases hv
  exact q n G' H' hp s
theorem do_forR1X {I : Nat → List Ent → Prop} {p : Int → Prop} {b : Nat} (hs : XA1 tx ρ p) (hp : ∀ m, p m → 0 ≤ m ∧ m ≤ b) (hb : b ≤ 1000000) (h0 : ∃ ρ0, I 0 ρ0 ∧ Le ρ0 ρ) (ht : ∀ i ρ1, i < b → I i ρ1 → Do tb (ρ1.set j (.dat (.int (i : Int)))) (Lp P (I (i + 1)))) (hd : ∀ n ρ1, n ≤ b → I n ρ1 → P (.nx ρ1)) :
    Do (tFor (iRng1 tx) (gName j) tb) ρ P := fun D σ G H E q => hs σ G H E _ fun m G1 H1 hm s => by
  have h1 := hp m hm
  refine ⟨m, rfl, by omega, by omega, forR_core (n := m.toNat) s.e h0 (fun i ρ1 hi i1 => ?_) (fun ρ1 i1 => hd m.toNat ρ1 (by omega) i1) fun o p => (q o p).after s⟩
  rw [Int.zero_add]
  exact ht i ρ1 (by omega) i1
end
/-! what the numbers of a task can be -/
def pick (dr : Int) : List Int := [2, 3, 4, 6, 1 + dr / 16 % 4, 2 + dr / 16 % 5, 3 + dr / 16 % 8, 5, 8, 12] ++ [7, 3, 4, 2, 5, 1 + dr / 16 % 40]
theorem pick_ok (dr : Int) : ∀ n ∈ pick dr, 1 ≤ n ∧ n ≤ 40 := fun n hn => by
  simp only [pick, List.mem_append, List.mem_cons, List.not_mem_nil, or_false] at hn
  omega
theorem pick_at (dr : Int) : ∃ n, (pick dr)[(dr % 16).toNat]? = some n ∧ 1 ≤ n ∧ n ≤ 40 := by
  have hl : (dr % 16).toNat < (pick dr).length := by show (dr % 16).toNat < 16; omega
  exact ⟨_, List.getElem?_eq_getElem hl, pick_ok dr _ (List.getElem_mem hl)⟩
structure NumsSo (ns : List Int) (le : Int) : Prop where
  m : ∀ n ∈ ns, 1 ≤ n ∧ n ≤ 40
  l : 1 ≤ le
  pr : prod ns * le ≤ 300
theorem nums_more {ns : List Int} {le n : Int} (h : NumsSo ns le) (hn : 1 ≤ n ∧ n ≤ 40) (hl : n ≤ le) : NumsSo (ns ++ [n]) (le / n) := by
  refine ⟨fun x hx => ?_, ?_, ?_⟩
  · rcases List.mem_append.mp hx with z | z
    · exact h.m x z
    · rw [List.mem_singleton.mp z]; exact hn
  · exact (Int.le_ediv_iff_mul_le (by omega)).mpr (by omega)
  · rw [prod_app, show prod [n] = n by simp [prod], Int.mul_assoc]
    have h1 := prod_pos h.m
    have h2 : n * (le / n) ≤ le := Int.mul_ediv_self_le (by omega)
    have := Int.mul_le_mul_of_nonneg_left h2 (show 0 ≤ prod ns by omega)
    exact Int.le_trans this h.pr
theorem nums_ok {ns : List Int} {le : Int} (h : NumsSo ns le) (hl : ns.length ≤ 8) : NumsOk ns := by
  refine ⟨hl, h.m, ?_⟩
  have h1 := prod_pos h.m
  have := Int.mul_le_mul_of_nonneg_left h.l (show 0 ≤ prod ns by omega)
  have := h.pr
  omega
theorem many_rows {m h : Int} (hh : h = 1 ∨ h = 2) : manyBusy m h = 1 + m + (h - 1) * (m * (m - 1) / 2) := by
  unfold manyBusy
  rcases hh with e | e
  · subst e; simp
  · subst e
    rw [if_neg (by decide), show (2 : Int) - 1 = 1 by decide, Int.one_mul]
theorem room_le {ns : List Int} {le r o : Int} (h : NumsSo ns le) (hr : r * o ≤ le) : o * r * prod ns ≤ 300 := by
  have h1 := prod_pos h.m
  rw [Int.mul_comm o r]
  have := Int.mul_le_mul_of_nonneg_right hr (show 0 ≤ prod ns by omega)
  have h3 := h.pr
  rw [Int.mul_comm] at h3
  omega
end W36
end
section
set_option Elab.async false
set_option linter.all false
set_option maxRecDepth 100000
set_option maxHeartbeats 4000000
namespace W36
open PySem L2 Evl
abbrev isTask : PyData → Prop := fun d => ∃ t, d = dT t ∧ TaskOk t
def A_law_task (es : List Ent) (Y : PyData → Ent → Prop) : Prop := ∃ (l : Addr), es = drE l :: [PyData.int 300].map .dat ∧ Y = fun d e => isTask d ∧ e = drE l
def sp_law_task : Sp := spX 0 A_law_task
theorem ln_law_task : ∀ es Y, A_law_task es Y → es.length = 2 := fun es Y ⟨_, h, _⟩ => by rw [h]; rfl
theorem x_law_task {ρ : List Ent} {i : Nat} {l : Addr} {tx : TA} (hi : ρ[i]? = some (drE l)) (ha : IsA tx (ρ.set i .drw) [.int 300]) : XP (tCall sp_law_task [] E0 (tCons (tVar i) tx)) ρ (fun d ρ' => isTask d ∧ ρ' = ρ) := xp_callD hi ha fun l => ⟨l, rfl, rfl⟩
theorem ok_law_task {P : Program} {w : World} {K : PySem.W.Frag} {mg : Str → Option Value} {base : Heap} {f : Addr} {fd : FuncData} (F : FnP K "_law_task" "_law_task" s_law_task f fd) (md : Md mg) {f_law_next : Addr} {fd_law_next : FuncData} (h_law_next : Has P w K mg base 1 "_law_next" ["_law_draws_here"] sp_law_next f_law_next fd_law_next) {f_law_off : Addr} {fd_law_off : FuncData} (h_law_off : Has P w K mg base 2 "_law_off" ["_law_draws_here", "_law_left"] sp_law_off f_law_off fd_law_off) {f_law_long : Addr} {fd_law_long : FuncData} (h_law_long : Has P w K mg base 2 "_law_long" ["_law_draws_here", "_law_many"] sp_law_long f_law_long fd_law_long) {f_law_tied : Addr} {fd_law_tied : FuncData} (h_law_tied : Has P w K mg base 2 "_law_tied" ["_law_draws_here", "_law_many"] sp_law_tied f_law_tied fd_law_tied) : FnOk P w K mg base CX0 3 f fd ["_law_draws_here", "_law_most"] sp_law_task := by
  refine FunD.ok F sc_law_task (fun vs H Q E h => len_X (fun ds R hA => ?_) h) (fun cdv A outer s H vs Q E hr h => ?_)
  · exact ln_law_task ds R hA
  · have nd := sc_law_task.nd
    refine ⟨_, PSs.nox (pss_cons (ps_set (i := 2) nd rfl (by first | exact Or.inl rfl | exact Or.inr rfl) (pe_lst pa_nil))
    (pss_cons (ps_set (i := 3) nd rfl (by first | exact Or.inl rfl | exact Or.inr rfl) (pv 1))
    (pss_cons (ps_for PassesOwn.never rfl (pi_range1 (by rfl) md.range (pa_cons (pe_op op_mod (pe_call h_law_next.ok (hr.mono (by decide)) rfl h_law_next.g h_law_next.kp h_law_next.b .nil pass0 (pa_cons (pv 0) pa_nil)) pe_int) pa_nil)) (pg_name (i := 4) nd rfl (by first | exact Or.inl rfl | exact Or.inr rfl))
    (pss_cons (ps_set (i := 5) nd rfl (by first | exact Or.inl rfl | exact Or.inr rfl) (pe_call h_law_next.ok (hr.mono (by decide)) rfl h_law_next.g h_law_next.kp h_law_next.b .nil pass0 (pa_cons (pv 0) pa_nil)))
    (pss_cons (ps_set (i := 6) nd rfl (by first | exact Or.inl rfl | exact Or.inr rfl) (pe_lst (pa_cons pe_int (pa_cons pe_int (pa_cons pe_int (pa_cons pe_int (pa_cons (pe_op op_add pe_int (pe_op op_mod (pe_op op_fdiv (pv 5) pe_int) pe_int)) (pa_cons (pe_op op_add pe_int (pe_op op_mod (pe_op op_fdiv (pv 5) pe_int) pe_int)) (pa_cons (pe_op op_add pe_int (pe_op op_mod (pe_op op_fdiv (pv 5) pe_int) pe_int)) (pa_cons pe_int (pa_cons pe_int (pa_cons pe_int pa_nil))))))))))))
    (pss_cons (ps_set (i := 7) nd rfl (by first | exact Or.inl rfl | exact Or.inr rfl) (pe_ix (kx_L K) (pe_op op_cat (pv 6) (pe_lst (pa_cons pe_int (pa_cons pe_int (pa_cons pe_int (pa_cons pe_int (pa_cons pe_int (pa_cons (pe_op op_add pe_int (pe_op op_mod (pe_op op_fdiv (pv 5) pe_int) pe_int)) pa_nil)))))))) (pe_op op_mod (pv 5) pe_int) (fun _ _ => rfl)))
    (pss_one (ps_if (pt_cmpR op_le (pv 7) (pv 3) (nomark _))
    (pss_cons (ps_expr (pe_bm PySem.F.plainAttrs_list PySem.F.slot_list_append PySem.F.type_list_append mt_append (pv 2) (pa_cons (pv 7) pa_nil)))
    (pss_one (ps_set (i := 3) nd rfl (by first | exact Or.inl rfl | exact Or.inr rfl) (pe_op op_fdiv (pv 3) (pv 7)))))
    pss_nil))))))
    (pss_cons (ps_set (i := 8) nd rfl (by first | exact Or.inl rfl | exact Or.inr rfl) (pe_op op_add pe_int (pe_callTy call_int1 (by rfl) md.int (by decide +kernel) (pa_cons (pe_cmpR op_eq (pe_op op_mod (pe_call h_law_next.ok (hr.mono (by decide)) rfl h_law_next.g h_law_next.kp h_law_next.b .nil pass0 (pa_cons (pv 0) pa_nil)) pe_int) pe_int (nomark _)) pa_nil))))
    (pss_cons (ps_set (i := 9) nd rfl (by first | exact Or.inl rfl | exact Or.inr rfl) (pe_call h_law_off.ok (hr.mono (by decide)) rfl h_law_off.g h_law_off.kp h_law_off.b .nil pass0 (pa_cons (pv 0) (pa_cons (pv 3) pa_nil))))
    (pss_cons (ps_set (i := 10) nd rfl (by first | exact Or.inl rfl | exact Or.inr rfl) (pe_call h_law_long.ok (hr.mono (by decide)) rfl h_law_long.g h_law_long.kp h_law_long.b .nil pass0 (pa_cons (pv 0) (pa_cons (pe_callB (k_len K) (by rfl) md.len PySem.boot_len (pa_cons (pv 2) pa_nil)) pa_nil))))
    (pss_cons (ps_set (i := 11) nd rfl (by first | exact Or.inl rfl | exact Or.inr rfl) (pe_op op_add (pe_op op_add pe_int (pe_callB (k_len K) (by rfl) md.len PySem.boot_len (pa_cons (pv 10) pa_nil))) (pe_op op_mul (pe_op op_sub (pv 8) pe_int) (pe_op op_fdiv (pe_op op_mul (pe_callB (k_len K) (by rfl) md.len PySem.boot_len (pa_cons (pv 10) pa_nil)) (pe_op op_sub (pe_callB (k_len K) (by rfl) md.len PySem.boot_len (pa_cons (pv 10) pa_nil)) pe_int)) pe_int))))
    (pss_cons (ps_if (pt_cmpR op_gt (pe_op op_mul (pv 11) (pe_callB (k_len K) (by rfl) md.len PySem.boot_len (pa_cons (pv 9) pa_nil))) (pv 3) (nomark _))
    (pss_one (ps_set (i := 10) nd rfl (by first | exact Or.inl rfl | exact Or.inr rfl) (pe_tup pa_nil)))
    pss_nil)
    (pss_one (ps_ret (pe_tup (pa_cons (pe_callTy (k_tuple K) (by rfl) md.tuple (by decide +kernel) (pa_cons (pv 2) pa_nil)) (pa_cons (pv 8) (pa_cons (pv 9) (pa_cons (pv 10) (pa_cons (pe_call h_law_tied.ok (hr.mono (by decide)) rfl h_law_tied.g h_law_tied.kp h_law_tied.b .nil pass0 (pa_cons (pv 0) (pa_cons (pe_callB (k_len K) (by rfl) md.len PySem.boot_len (pa_cons (pv 2) pa_nil)) pa_nil))) pa_nil)))))))))))))))), run_X h fun ds R hA => ?_⟩
    obtain ⟨l, rfl, rfl⟩ := hA
    refine do_letN (isN_lst isA_nil) ?_
    refine do_let (is_var rfl) ?_
    refine do_seq (do_forR1X (b := 6) (p := fun m => 0 ≤ m ∧ m ≤ 6) (I := fun k ρ => ∃ (ns : List Int) (le : Int), ρ = [drE l, .dat (.int 300), .own (ns.map .int), .dat (.int le), .no, .no, .no, .no, .no, .no, .no, .no] ∧ ns.length ≤ k ∧ NumsSo ns le)
      (xa1 (xp_drw (i := 0) rfl (isP_cW (p1 := fun _ => True) (p2 := fun x => x = 7) (c_law_next rfl) (isW_of is_int rfl) (fun a b _ hb => by show (0 : Int) < b; rw [hb]; decide) fun a b _ hb => by rw [hb]; show 0 ≤ a % 7 ∧ a % 7 ≤ 6; omega))) (fun m h => h) (by decide) ⟨_, ⟨[], 300, rfl, Nat.le_refl _, ⟨(fun n hn => by cases hn), by decide, by simp [prod]⟩⟩, Le.refl _⟩ ?_ ?_)
    · rintro k ρ1 hk ⟨ns, le, rfl, hl, so⟩
      refine do_asgX1 (x_law_next (i := 0) rfl) fun d ρ' h => ?_
      obtain ⟨⟨dr, hd, _⟩, rfl⟩ := h
      subst hd
      have a4 : ∀ {c m : Int} {ρ : List Ent}, ρ[5]? = some (.dat (.int dr)) → 0 < m → Is (tOp (rI0 fun i j => .int (i + j)) (tC (.int c)) (tOp (rI (fun _ j => 0 < j) fun i j => .int (i % j)) (tOp (rI CDiv fun i j => .int (i / j)) (tVar 5) (tC (.int 16))) (tC (.int m)))) ρ (.int (c + dr / 16 % m)) := fun h hm => is_iI is_int (is_cI (is_cI (is_var h) is_int ⟨by decide, by decide⟩) is_int hm)
      refine do_let (d := .list (([2, 3, 4, 6, 1 + dr / 16 % 4, 2 + dr / 16 % 5, 3 + dr / 16 % 8, 5, 8, 12] : List Int).map .int)) (is_new (isN_lst (isA_cons is_int (isA_cons is_int (isA_cons is_int (isA_cons is_int (isA_cons (a4 rfl (by decide)) (isA_cons (a4 rfl (by decide)) (isA_cons (a4 rfl (by decide)) (isA_cons is_int (isA_cons is_int (isA_cons is_int isA_nil)))))))))))) ?_
      obtain ⟨n, hn, hn1, hn2⟩ := pick_at dr
      refine do_let (d := .int n) (is_ixL (n := (dr % 16).toNat) (isL_new (isN_cat (es := ([7, 3, 4, 2, 5, 1 + dr / 16 % 40] : List Int).map .int) (isL_dat (is_var rfl)) (isL_new (isN_lst (isA_cons is_int (isA_cons is_int (isA_cons is_int (isA_cons is_int (isA_cons is_int (isA_cons (a4 rfl (by decide)) isA_nil)))))))) (by simp))) (is_cI (is_var rfl) is_int (by show (0 : Int) < 16; decide)) (by omega) ?_) ?_
      · rw [← List.map_append, List.getElem?_map]
        show ((pick dr)[(dr % 16).toNat]?).map PyData.int = some (.int n)
        rw [hn]; rfl
      refine do_if (ist_test (is_bI (is_var rfl) (is_var rfl))) (fun e => ?_) fun e => do_next ?_
      · have e := of_decide_eq_true e
        refine do_seq (do_app (i := 2) (ds := ns.map .int) (Y := fun x => x = .int n) rfl (is_var rfl) (by rw [List.length_map]; omega) fun d hd => ?_)
        subst hd
        refine (do_asg (is_cI (is_var rfl) (is_var rfl) ⟨by omega, by omega⟩)).mono fun o ho => ?_
        subst ho
        exact ⟨_, ⟨ns ++ [n], le / n, rfl, by rw [List.length_append, List.length_singleton]; omega, nums_more so ⟨hn1, hn2⟩ e⟩, by
          refine ⟨rfl, rfl, ?_, rfl, True.intro⟩
          rw [List.map_append]; rfl⟩
      · exact ⟨_, ⟨ns, le, rfl, by omega, so⟩, rfl, rfl, rfl, rfl, True.intro⟩
    · rintro k ρ1 hk ⟨ns, le, rfl, hl, so⟩
      have sl := so.l
      refine do_asgX1 (xp_drw (i := 0) rfl (isP_iW (p := fun h => h = 1 ∨ h = 2) (p1 := fun x => x = 1) (isW_of is_int rfl) (isP_intB (isP_eqW (p1 := fun _ => True) (p2 := fun _ => True) (isP_cW (p1 := fun _ => True) (p2 := fun x => x = 3) (c_law_next rfl) (isW_of is_int rfl) (fun a b _ hb => by show (0 : Int) < b; rw [hb]; decide) fun _ _ _ _ => trivial) (isW_of is_int trivial))) fun a b ha hb => by rw [ha]; rcases hb with z | z <;> rw [z] <;> decide)) fun d ρ' h => ?_
      obtain ⟨⟨hands, hd, hh⟩, rfl⟩ := h
      subst hd
      refine do_asgX1 (x_law_off (i := 0) (m := le) sl rfl (isA_cons (is_var rfl) isA_nil)) fun d ρ' h => ?_
      obtain ⟨⟨os, hd, o1, o2, o3⟩, rfl⟩ := h
      subst hd
      refine do_asgX1 (x_law_long (i := 0) (m := (ns.length : Int)) (by omega) rfl (isA_cons (Is.to (is_lenL (isL_own rfl)) (by rw [List.length_map])) isA_nil)) fun d ρ' h => ?_
      obtain ⟨⟨lg, hd, hlg⟩, rfl⟩ := h
      subst hd
      have lgl : lg.length ≤ 8 := by
        have := nodup_le (rising_nodup hlg) (m := (List.range 8).map fun i : Nat => (i : Int)) fun x hx => by
          have := rising_mem hlg x hx
          exact List.mem_map.mpr ⟨x.toNat, List.mem_range.mpr (by omega), by omega⟩
        simpa using this
      have len : ∀ {ρ : List Ent} {i : Nat} {xs : List Int}, ρ[i]? = some (.dat (tI xs)) → Is (tCB (rLn K) (tCons (tVar i) tNil)) ρ (.int (xs.length : Int)) := fun h => Is.to (is_lenT (is_var h)) (by rw [List.length_map])
      refine do_let (d := .int (manyBusy lg.length hands)) (Is.to (is_iI (is_iI is_int (len rfl)) (is_cI (is_iI (is_var rfl) is_int) (is_cI (is_cI (len rfl) (is_iI (len rfl) is_int) (.inl ⟨by omega, by omega⟩)) is_int ⟨by decide, by decide⟩) (.inl ?_))) ?_) ?_
      · rcases hh with z | z <;> rw [z] <;> exact ⟨by decide, by decide⟩
      · rw [many_rows hh]
      have mb : 0 ≤ manyBusy lg.length hands ∧ manyBusy lg.length hands < 1000 := by
        have h0 : 0 ≤ (lg.length : Int) * ((lg.length : Int) - 1) := by
          cases q : lg.length with
          | zero => decide
          | succ n => exact Int.mul_nonneg (by omega) (by omega)
        have h1 : (lg.length : Int) * ((lg.length : Int) - 1) ≤ 8 * 8 := by
          by_cases z : lg.length = 0
          · rw [z]; decide
          · exact Int.mul_le_mul (by omega) (by omega) (by omega) (by omega)
        unfold manyBusy
        split <;> omega
      have fin : ∀ (lg' : List Int) (hr' : rising lg' 0 ((ns.length : Int) - 1) = true) (hq : manyBusy lg'.length hands * (os.length : Int) ≤ le) (rows : PyData), Do (tRet (tTup (tCons (tCB (rTp K) (tCons (tVar 2) tNil)) (tCons (tVar 8) (tCons (tVar 9) (tCons (tVar 10) (tCons (tCall sp_law_tied [] E0 (tCons (tVar 0) (tCons (tCB (rLn K) (tCons (tVar 2) tNil)) tNil))) tNil))))))) [drE l, .dat (.int 300), .own (ns.map .int), .dat (.int le), .no, .no, .no, .no, .dat (.int hands), .dat (tI os), .dat (tI lg'), .dat rows] (RtX 0 fun d e => isTask d ∧ e = drE l) := fun lg' hr' hq rows => by
        refine do_retX (xp_drw (i := 0) rfl (isP_tupA (isAP_cons (is_tupL (isL_own rfl)) (isAP_cons (is_var rfl) (isAP_cons (is_var rfl) (isAP_cons (is_var rfl) (isAP_cons (c_law_tied (m := (ns.length : Int)) (by omega) rfl (isA_cons (Is.to (is_lenL (isL_own rfl)) (by rw [List.length_map])) isA_nil)) isAP_nil))))) fun ds h => ?_)) fun d ρ' h => ?_
        · obtain ⟨_, _, _, ⟨_, _, _, ⟨_, _, _, ⟨_, _, _, ⟨_, _, _, h, rfl⟩, rfl⟩, rfl⟩, rfl⟩, rfl⟩ := h
          rw [h]; exact Nat.le_of_ble_eq_true rfl
        · obtain ⟨⟨ds, hds, rfl⟩, rfl⟩ := h
          obtain ⟨d1, _, rfl, ⟨d2, _, rfl, ⟨d3, _, rfl, ⟨d4, _, rfl, ⟨d5, _, ⟨ps, rfl, tk⟩, rfl, rfl⟩, rfl⟩, rfl⟩, rfl⟩, rfl⟩ := hds
          refine ⟨_, _, _, rfl, ⟨⟨ns, hands, os, lg', ps⟩, rfl, ?_⟩, rfl⟩
          exact ⟨nums_ok so (by show ns.length ≤ 8; omega), hh, o1, o3, hr', tk.m, tk.s, tk.l, room_le so hq⟩
      refine do_seq (do_if (ist_test (is_bI (is_cI (is_var rfl) (len rfl) (.inl ⟨by omega, by omega⟩)) (is_var rfl))) (fun e => ?_) fun e => do_next ?_)
      · refine (do_asg (d := tI []) (is_tup isA_nil)).mono fun o ho => ?_
        subst ho
        refine fin [] rfl ?_ _
        have : manyBusy (([] : List Int).length : Int) hands = 1 := by unfold manyBusy; split <;> rfl
        rw [this]; omega
      · have e := of_decide_eq_false e
        exact fin lg hlg (by omega) _
end W36
end
section
set_option Elab.async false
set_option linter.all false
set_option maxRecDepth 100000
set_option maxHeartbeats 4000000
/-! sum of lists that are data; the ends of the ties. -/
namespace W36
open PySem L2 Evl
theorem dtall_lists {G : Hp} : ∀ {dss : List (List PyData)} {xs : List V}, DtAll G xs (dss.map .list) → ∃ es : List (Addr × List V), xs = es.map (fun e => V.ref e.1) ∧ (∀ e ∈ es, G e.1 = some (.lst e.2)) ∧ DtAll G (es.flatMap (·.2)) dss.flatten
  | [], _, h => by cases h; exact ⟨[], rfl, (fun e z => by cases z), .nil⟩
  | ds :: dss, _, h => by
    rw [List.map_cons] at h
    cases h with
    | cons h1 h2 =>
      cases h1 with
      | @lst a ys _ g1 g2 =>
        obtain ⟨es, e1, e2, e3⟩ := dtall_lists h2
        refine ⟨(a, ys) :: es, by rw [List.map_cons, e1], fun e he => ?_, ?_⟩
        · rcases List.mem_cons.mp he with z | z
          · subst z; exact g1
          · exact e2 e z
        · rw [List.flatMap_cons, List.flatten_cons]; exact g2.app e3
theorem isN_sumD {ρ : List Ent} {ta : TE} {dss : List (List PyData)} (hz : dss.flatten.length ≤ 100000) (ha : IsN ta ρ (dss.map .list)) : IsN (tCB rSumL (tCons ta (tCons (tLst tNil) tNil))) ρ dss.flatten :=
  isN_sumL hz fun σ G H E Q q => ha σ G H E Q fun p xs ds G' H' hd n hp gp h1 h2 => by
    subst hd
    obtain ⟨es, rfl, e2, e3⟩ := dtall_lists h2
    refine q p es G' H' n h1 (fun l z e => (E.not_sdr z).2 (e ▸ hp)) (fun e he => ⟨n.w.v _ _ (e2 e he), fun l z y => ?_⟩) e3
    have := (n.e.not_sdr z).1
    rw [← y, e2 e he] at this
    cases this
def endsOf (t : Tk) : List Int := t.tied.flatMap fun p => [p.1, p.2]
theorem endsOf_mem (t : Tk) (i : Int) : i ∈ endsOf t ↔ i ∈ inTies t := by
  rw [inTies_mem, endsOf, List.mem_flatMap]
  constructor
  · rintro ⟨p, hp, h⟩; exact ⟨p, hp, by simpa using h⟩
  · rintro ⟨p, hp, h⟩; exact ⟨p, hp, by simpa using h⟩
theorem ends_flat (t : Tk) : (t.tied.map fun p => ([.int p.1, .int p.2] : List PyData)).flatten = (endsOf t).map .int := by
  rw [endsOf]
  induction t.tied with
  | nil => rfl
  | cons p ps ih => rw [List.map_cons, List.flatten_cons, List.flatMap_cons, List.map_append, ih]; rfl
theorem ends_len (t : Tk) : (endsOf t).length = 2 * t.tied.length := by
  rw [endsOf]
  induction t.tied with
  | nil => rfl
  | cons p ps ih => rw [List.flatMap_cons, List.length_append, ih, List.length_cons]; simp; omega
/-- sum([list(pair) for pair in tied], []) -/
theorem isN_ends {K : PySem.W.Frag} {ρ : List Ent} {tl : TE} {j : Nat} {t : Tk} (hl : t.tied.length ≤ 100) (hs : Is tl ρ (.tuple (t.tied.map dPr))) (hj : notDrw ρ j) (hjl : j < ρ.length) :
    IsN (tCB rSumL (tCons (tLc (iTup K tl) (gName j) tYes (tCB (rLi K) (tCons (tVar j) tNil)) [j]) (tCons (tLst tNil) tNil))) ρ ((endsOf t).map .int) := by
  have e := isN_sumD (ρ := ρ) (dss := t.tied.map fun p => ([.int p.1, .int p.2] : List PyData)) (ta := tLc (iTup K tl) (gName j) tYes (tCB (rLi K) (tCons (tVar j) tNil)) [j]) (by rw [ends_flat, List.length_map, ends_len]; omega) (IsN.to (isN_lcT (xs := t.tied) (enc := dPr) (p := fun _ => true) (f := fun p => .list [.int p.1, .int p.2]) hs (by omega) hj (fun x hx => ist_yes) fun x hx _ => is_new (isN_liT (is_var (d := dPr x) (by rw [get_set, if_pos rfl, if_pos (by rw [List.length_set]; exact hjl)])))) (by rw [List.filter_eq_self.mpr (fun _ _ => rfl), List.map_map]; rfl))
  rwa [ends_flat] at e
end W36
end
section
set_option Elab.async false
set_option linter.all false
set_option maxRecDepth 100000
set_option maxHeartbeats 4000000
namespace W36
open PySem L2 Evl
def A_law_next_stand (ds : List PyData) (R : PyData → Prop) : Prop := ∃ (t : Tk) (s : Sd) (day : List Int), ds = [dT t, dS s, tI day] ∧ (TaskOk t ∧ s.waits.length = t.nums.length ∧ day.length ≤ 2) ∧ R = fun x => x = dO (nextS t s day)
def sp_law_next_stand : Sp := spD A_law_next_stand
theorem ln_law_next_stand : ∀ ds R, A_law_next_stand ds R → ds.length = 3 := fun ds R ⟨_, _, _, h, _⟩ => by rw [h]; rfl
theorem c_law_next_stand {tx : TA} {ρ : List Ent} {t : Tk} {s : Sd} {day : List Int} (o : TaskOk t) (ow : s.waits.length = t.nums.length) (od : day.length ≤ 2) (ha : IsA tx ρ [dT t, dS s, tI day]) : Is (tCall sp_law_next_stand [] E0 tx) ρ (dO (nextS t s day)) := isP_call ha ⟨t, s, day, rfl, ⟨o, ow, od⟩, rfl⟩
theorem ok_law_next_stand {P : Program} {w : World} {K : PySem.W.Frag} {mg : Str → Option Value} {base : Heap} {f : Addr} {fd : FuncData} (F : FnP K "_law_next_stand" "_law_next_stand" s_law_next_stand f fd) (md : Md mg) : FnOk P w K mg base CX0 1 f fd ["_law_task_here", "_law_stand", "_law_day"] sp_law_next_stand := by
  refine FunD.ok F sc_law_next_stand (fun vs H Q E h => len_D (fun ds R hA => ?_) h) (fun cdv A outer s H vs Q E hr h => ?_)
  · exact ln_law_next_stand ds R hA
  · have nd := sc_law_next_stand.nd
    refine ⟨_, PSs.nox (pss_cons (ps_asg (pv 0) (pg_tup rfl (pgs_cons (pg_name (i := 3) nd rfl (by first | exact Or.inl rfl | exact Or.inr rfl)) (pgs_cons (pg_name (i := 4) nd rfl (by first | exact Or.inl rfl | exact Or.inr rfl)) (pgs_cons (pg_name (i := 5) nd rfl (by first | exact Or.inl rfl | exact Or.inr rfl)) (pgs_cons (pg_name (i := 6) nd rfl (by first | exact Or.inl rfl | exact Or.inr rfl)) (pgs_cons (pg_name (i := 7) nd rfl (by first | exact Or.inl rfl | exact Or.inr rfl)) pgs_nil)))))))
    (pss_cons (ps_asg (pv 1) (pg_tup rfl (pgs_cons (pg_name (i := 8) nd rfl (by first | exact Or.inl rfl | exact Or.inr rfl)) (pgs_cons (pg_name (i := 9) nd rfl (by first | exact Or.inl rfl | exact Or.inr rfl)) (pgs_cons (pg_name (i := 10) nd rfl (by first | exact Or.inl rfl | exact Or.inr rfl)) (pgs_cons (pg_name (i := 11) nd rfl (by first | exact Or.inl rfl | exact Or.inr rfl)) pgs_nil))))))
    (pss_cons (ps_set (i := 12) nd rfl (by first | exact Or.inl rfl | exact Or.inr rfl) (pe_lst pa_nil))
    (pss_cons (ps_for PassesOwn.never rfl (pi_range1 (by rfl) md.range (pa_cons (pe_callB (k_len K) (by rfl) md.len PySem.boot_len (pa_cons (pv 3) pa_nil)) pa_nil)) (pg_name (i := 13) nd rfl (by first | exact Or.inl rfl | exact Or.inr rfl))
    (pss_cons (ps_set (i := 14) nd rfl (by first | exact Or.inl rfl | exact Or.inr rfl) (pe_and (pe_cmpR (k_in K) (pv 13) (pv 2) (by with_unfolding_all rfl)) (pe_one (pe_or (pe_cmpR (k_nin K) (pv 13) (pv 6) (by with_unfolding_all rfl)) (pe_one (pe_cmpR (k_in K) (pv 13) (pv 10) (by with_unfolding_all rfl)))))))
    (pss_one (ps_expr (pe_bm PySem.F.plainAttrs_list PySem.F.slot_list_append PySem.F.type_list_append mt_append (pv 12) (pa_cons (pe_ix (kx_L K) (pe_lst (pa_cons (pe_op op_sub (pe_ix (kx_T K) (pv 9) (pv 13) (fun _ _ => rfl)) pe_int) (pa_cons (pe_ix (kx_T K) (pv 3) (pv 13) (fun _ _ => rfl)) pa_nil))) (pe_callTy call_int1 (by rfl) md.int (by decide +kernel) (pa_cons (pv 14) pa_nil)) (fun _ _ => rfl)) pa_nil))))))
    (pss_cons (ps_if (pt_cmpR (k_in K) pe_int (pv 12) (by with_unfolding_all rfl))
    (pss_one (ps_ret pe_non))
    pss_nil)
    (pss_cons (ps_set (i := 15) nd rfl (by first | exact Or.inl rfl | exact Or.inr rfl) (pe_callB (cr_sumL rfl) (by rfl) md.sum (by decide +kernel) (pa_cons (pe_lc (own := [("_law_pair", 17)]) (g := gName 17) rfl nd (k_pt K (pv 7)) (blkOk_by (own := [("_law_pair", 17)]) (N := N_law_next_stand) (sc := defScope s_law_next_stand) (by decide +kernel)) (fun _ _ _ _ _ => pg_name (i := 17) nd rfl (Or.inl rfl)) (fun _ _ _ _ _ => pts_nil) (fun _ _ _ _ _ => (pe_callTy (k_list K) (by rfl) md.list (by decide +kernel) (pa_cons (pv 17) pa_nil)))) (pa_cons (pe_lst pa_nil) pa_nil))))
    (pss_cons (ps_set (i := 16) nd rfl (by first | exact Or.inl rfl | exact Or.inr rfl) (pe_callTy (k_tuple K) (by rfl) md.tuple (by decide +kernel) (pa_cons (pe_lc (own := [("_law_i", 13)]) (g := gName 13) rfl nd (k_pt K (pv 2)) (blkOk_by (own := [("_law_i", 13)]) (N := N_law_next_stand) (sc := defScope s_law_next_stand) (by decide +kernel)) (fun _ _ _ _ _ => pg_name (i := 13) nd rfl (Or.inl rfl)) (fun _ _ _ _ _ => (pts_one (PW.pt (pw_and (pt_cmpR (k_in K) (pv 13) (pv 6) (by with_unfolding_all rfl)) (pw_and1 (pt_cmpR (k_nin K) (pv 13) (pv 10) (by with_unfolding_all rfl))))))) (fun _ _ _ _ _ => (pv 13))) pa_nil)))
    (pss_one (ps_ret (pe_tup (pa_cons (pe_op op_mod (pe_op op_add (pv 8) pe_int) (pe_callB (k_len K) (by rfl) md.len PySem.boot_len (pa_cons (pv 5) pa_nil))) (pa_cons (pe_callTy (k_tuple K) (by rfl) md.tuple (by decide +kernel) (pa_cons (pv 12) pa_nil)) (pa_cons (pv 16) (pa_cons (pe_callTy (k_tuple K) (by rfl) md.tuple (by decide +kernel) (pa_cons (pe_lc (own := [("_law_i", 13)]) (g := gName 13) rfl nd (k_pt K (pv 2)) (blkOk_by (own := [("_law_i", 13)]) (N := N_law_next_stand) (sc := defScope s_law_next_stand) (by decide +kernel)) (fun _ _ _ _ _ => pg_name (i := 13) nd rfl (Or.inl rfl)) (fun _ _ _ _ _ => (pts_one (pt_cmpR (k_in K) (pv 13) (pv 15) (by with_unfolding_all rfl)))) (fun _ _ _ _ _ => (pv 13))) pa_nil)) pa_nil)))))))))))))), run_D h fun ds R hA => ?_⟩
    obtain ⟨t, s, day, rfl, ⟨o, ow, od⟩, rfl⟩ := hA
    have ol := o.nums.len
    have otl := o.tl
    have off := o.offl
    refine do_letT (is_var rfl) (tg_tup (tgs_cons (tgs_cons (tgs_cons (tgs_cons (tgs_cons tgs_nil)))))) ?_
    refine do_letT (is_var rfl) (tg_tup (tgs_cons (tgs_cons (tgs_cons (tgs_cons tgs_nil))))) ?_
    refine do_letN (isN_lst isA_nil) ?_
    refine do_seq (do_forR1 (m := (t.nums.length : Int)) (n := t.nums.length) (I := fun k ρ => ρ = [.dat (dT t), .dat (dS s), .dat (tI day), .dat (tI t.nums), .dat (.int t.hands), .dat (tI t.off), .dat (tI t.long), .dat (.tuple (t.tied.map dPr)), .dat (.int s.phase), .dat (tI s.waits), .dat (tI s.busy), .dat (tI s.last), .own (((waitsB t s day).take k).map .int), .no, .no, .no, .no, .no]) (isA_cons (Is.to (is_lenT (is_var rfl)) (by rw [List.length_map])) isA_nil) (by omega) (by omega) ⟨_, rfl, Le.refl _⟩ ?_ ?_)
    · rintro k ρ1 hk rfl
      have hn : t.nums[k]? = some t.nums[k] := List.getElem?_eq_getElem hk
      have hw : s.waits[k]? = some (s.waits[k]'(by omega)) := List.getElem?_eq_getElem (by omega)
      obtain ⟨dn, hdn⟩ : ∃ b, b = (decide ((k : Int) ∈ day) && (!decide ((k : Int) ∈ t.long) || decide ((k : Int) ∈ s.busy))) := ⟨_, rfl⟩
      refine do_let (d := .bool dn) (Is.to (is_andV (is_inT (is_var rfl) (is_var rfl)) fun _ => is_orV (is_ninT (is_var rfl) (is_var rfl)) fun _ => is_inT (is_var rfl) (is_var rfl)) (by rw [hdn])) ?_
      have hx : ([s.waits[k]'(by omega) - 1, t.nums[k]] : List Int)[(if dn then 1 else 0 : Nat)]? = some (waitB t s day k) := by
        unfold waitB
        rw [getD_of hn, getD_of hw]
        by_cases c : (k : Int) ∈ day ∧ (¬ (k : Int) ∈ t.long ∨ (k : Int) ∈ s.busy)
        · rw [if_pos c]
          have : dn = true := by rw [hdn]; simpa using c
          rw [this]; rfl
        · rw [if_neg c]
          have : dn = false := by
            cases dn with
            | false => rfl
            | true => exact absurd (by simpa using hdn.symm) c
          rw [this]; rfl
      refine do_app (i := 12) (ds := ((waitsB t s day).take k).map .int) (Y := fun x => x = .int (waitB t s day k)) rfl (is_ixL (n := if dn then 1 else 0) (ds := ([s.waits[k]'(by omega) - 1, t.nums[k]] : List Int).map .int) (isL_new (isN_lst (isA_cons (is_iI (is_ixT (b := (k : Int)) (n := k) (is_var rfl) (is_var rfl) rfl (by rw [List.getElem?_map, hw]; rfl)) is_int) (isA_cons (is_ixT (b := (k : Int)) (n := k) (is_var rfl) (is_var rfl) rfl (by rw [List.getElem?_map, hn]; rfl)) isA_nil)))) (is_intB (is_var rfl)) (by cases dn <;> rfl) (by rw [List.getElem?_map, hx]; rfl)) (by simp; omega) fun d hd => ?_
      subst hd
      refine ⟨_, rfl, rfl, rfl, rfl, rfl, rfl, rfl, rfl, rfl, rfl, rfl, rfl, rfl, ?_, True.intro⟩
      rw [take_succ_of (waitsB_get hk), List.map_append]; rfl
    · rintro ρ1 rfl
      rw [List.take_of_length_le (by simp [waitsB])]
      refine do_when (ist_test (is_inL is_int (isL_own rfl))) (fun e => ?_) fun e => ?_
      · refine do_retD is_non ?_
        show PyData.none = dO (nextS t s day)
        rw [nextS, if_pos (of_decide_eq_true e)]
      refine do_letN (isN_ends (K := K) (t := t) otl (is_var rfl) (notDrw_of rfl (by intro z; cases z)) (Nat.le_of_ble_eq_true rfl)) ?_
      refine do_let (is_tupL (isL_new (isN_lcT (xs := day) (enc := .int) (p := fun i => decide (i ∈ t.long) && !decide (i ∈ s.busy)) (f := .int) (is_var rfl) (by omega) (notDrw_of rfl (by intro z; cases z)) (fun x hx => ist_and (ist_test (is_inT (is_var rfl) (is_var rfl))) fun _ => ist_test (is_ninT (is_var rfl) (is_var rfl))) fun x hx _ => is_var rfl))) ?_
      refine do_retD (is_tup (isA_cons (is_cI (is_iI (is_var rfl) is_int) (is_lenT (is_var rfl)) ?_) (isA_cons (is_tupL (isL_own rfl)) (isA_cons (is_var rfl) (isA_cons (is_tupL (isL_new (isN_lcT (xs := day) (enc := .int) (p := fun i => decide (i ∈ endsOf t)) (f := .int) (is_var rfl) (by omega) (notDrw_of rfl (by intro z; cases z)) (fun x hx => ist_test (is_inL (is_var rfl) (isL_own rfl))) fun x hx _ => is_var rfl))) isA_nil))))) ?_
      · rw [List.length_map]; show (0 : Int) < _; omega
      · show PyData.tuple _ = dO (nextS t s day)
        rw [nextS, if_neg (of_decide_eq_false e), List.length_map]
        have e3 : (fun i => decide (i ∈ endsOf t)) = fun i => decide (i ∈ inTies t) := funext fun i => decide_eq_decide.mpr (endsOf_mem t i)
        rw [e3]
end W36
end
section
set_option Elab.async false
set_option linter.all false
set_option maxRecDepth 100000
set_option maxHeartbeats 4000000
namespace W36
open PySem L2 Evl
abbrev isDays (t : Tk) : List PyData → Prop := fun ds => ∃ dl : List (List Int), ds = dl.map tI ∧ (∀ d ∈ dl, DayOk t d) ∧ dl.length ≤ 100
def A_law_days (ds : List PyData) (R : List PyData → Prop) : Prop := ∃ (t : Tk) (s : Sd), ds = [dT t, dS s] ∧ (TaskOk t ∧ StandOk t s) ∧ R = isDays t
def sp_law_days : Sp := spN A_law_days
theorem ln_law_days : ∀ ds R, A_law_days ds R → ds.length = 2 := fun ds R ⟨_, _, h, _⟩ => by rw [h]; rfl
theorem c_law_days {tx : TA} {ρ : List Ent} {t : Tk} {s : Sd} (o : TaskOk t) (os : StandOk t s) (ha : IsA tx ρ [dT t, dS s]) : IsNP (tCall sp_law_days [] E0 tx) ρ (isDays t) := isNP_call ha ⟨t, s, rfl, ⟨o, os⟩, rfl⟩
/-- days as they are made: the empty one first, if it is there -/
structure Mk0 (t : Tk) (dl : List (List Int)) : Prop where
  d : ∀ d ∈ dl, DayOk t d
  h : ∃ r, dl = [] :: r ∧ ∀ d ∈ r, d ≠ []
theorem single_ok {t : Tk} (o : TaskOk t) {i : Nat} (hi : i < t.nums.length) : DayOk t [(i : Int)] := by
  have := o.h2
  exact ⟨⟨rising_of (List.pairwise_singleton _ _) fun n hn => by rw [List.mem_singleton.mp hn]; omega, by simp⟩, by simp; omega⟩
theorem double_ok {t : Tk} (h : t.hands = 2) {i j : Nat} (hi : i < j) (hj : j < t.nums.length) : DayOk t [(i : Int), (j : Int)] :=
  ⟨⟨rising_of (List.pairwise_pair.mpr (by omega)) fun n hn => by
    simp only [List.mem_cons, List.not_mem_nil, or_false] at hn
    rcases hn with e | e <;> rw [e] <;> omega, by simp⟩, by simp; omega⟩
theorem mk0_app {t : Tk} {dl ds : List (List Int)} (h : Mk0 t dl) (k : ∀ d ∈ ds, DayOk t d ∧ d ≠ []) : Mk0 t (dl ++ ds) := by
  obtain ⟨r, e, hr⟩ := h.h
  refine ⟨fun d hd => (List.mem_append.mp hd).elim (h.d d) fun z => (k d z).1, r ++ ds, by rw [e]; rfl, fun d hd => (List.mem_append.mp hd).elim (hr d) fun z => (k d z).2⟩
theorem days_alike (a b : List Int) : PySem.W.alike (tI a) (tI b) = true := by
  show PySem.W.alikeAll (a.map .int) (b.map .int) = true
  exact PySem.W.alike_ints a b
theorem days_sort {dl : List (List Int)} {r : List (List Int)} (h : ∀ d ∈ r, d ≠ []) (k : dl = [] :: r ∨ dl = r) : PySem.W.SortOk (dl.map tI) := by
  rcases k with e | e
  · subst e
    refine .inr ⟨fun d hd => ?_, r.map tI, rfl⟩
    obtain ⟨x, _, rfl⟩ := List.mem_map.mp hd
    exact ⟨_, rfl⟩
  · subst e
    refine .inl (.inl fun d hd => ?_)
    obtain ⟨x, hx, rfl⟩ := List.mem_map.mp hd
    cases x with
    | nil => exact absurd rfl (h _ hx)
    | cons y ys => exact ⟨_, _, rfl⟩
theorem depth_tI1 (d : List Int) : (tI d).depth ≤ 8 := by rw [depth_tI]; decide
theorem ok_law_days {P : Program} {w : World} {K : PySem.W.Frag} {mg : Str → Option Value} {base : Heap} {f : Addr} {fd : FuncData} (F : FnP K "_law_days" "_law_days" s_law_days f fd) (md : Md mg) : FnOk P w K mg base CX0 1 f fd ["_law_task_here", "_law_stand"] sp_law_days := by
  refine FunD.ok F sc_law_days (fun vs H Q E h => len_N (fun ds R hA => ?_) h) (fun cdv A outer s H vs Q E hr h => ?_)
  · exact ln_law_days ds R hA
  · have nd := sc_law_days.nd
    refine ⟨_, PSs.nox (pss_cons (ps_asg (pv 0) (pg_tup rfl (pgs_cons (pg_name (i := 2) nd rfl (by first | exact Or.inl rfl | exact Or.inr rfl)) (pgs_cons (pg_name (i := 3) nd rfl (by first | exact Or.inl rfl | exact Or.inr rfl)) (pgs_cons (pg_name (i := 4) nd rfl (by first | exact Or.inl rfl | exact Or.inr rfl)) (pgs_cons (pg_name (i := 5) nd rfl (by first | exact Or.inl rfl | exact Or.inr rfl)) (pgs_cons (pg_name (i := 6) nd rfl (by first | exact Or.inl rfl | exact Or.inr rfl)) pgs_nil)))))))
    (pss_cons (ps_asg (pv 1) (pg_tup rfl (pgs_cons (pg_name (i := 7) nd rfl (by first | exact Or.inl rfl | exact Or.inr rfl)) (pgs_cons (pg_name (i := 8) nd rfl (by first | exact Or.inl rfl | exact Or.inr rfl)) (pgs_cons (pg_name (i := 9) nd rfl (by first | exact Or.inl rfl | exact Or.inr rfl)) (pgs_cons (pg_name (i := 10) nd rfl (by first | exact Or.inl rfl | exact Or.inr rfl)) pgs_nil))))))
    (pss_cons (ps_set (i := 11) nd rfl (by first | exact Or.inl rfl | exact Or.inr rfl) (pe_lst (pa_cons (pe_tup pa_nil) pa_nil)))
    (pss_cons (ps_if (pt_cmpR op_eq (pe_ix (kx_T K) (pv 4) (pv 7) (fun _ _ => rfl)) pe_int (nomark _))
    (pss_cons (ps_set (i := 11) nd rfl (by first | exact Or.inl rfl | exact Or.inr rfl) (pe_op op_cat (pv 11) (pe_lc (own := [("_law_i", 16)]) (g := gName 16) rfl nd (pi_range1 (by rfl) md.range (pa_cons (pe_callB (k_len K) (by rfl) md.len PySem.boot_len (pa_cons (pv 2) pa_nil)) pa_nil)) (blkOk_by (own := [("_law_i", 16)]) (N := N_law_days) (sc := defScope s_law_days) (by decide +kernel)) (fun _ _ _ _ _ => pg_name (i := 16) nd rfl (Or.inl rfl)) (fun _ _ _ _ _ => pts_nil) (fun _ _ _ _ _ => (pe_tup (pa_cons (pv 16) pa_nil))))))
    (pss_one (ps_for PassesOwn.never rfl (pi_range1 (by rfl) md.range (pa_cons (pe_op op_mul (pe_callB (k_len K) (by rfl) md.len PySem.boot_len (pa_cons (pv 2) pa_nil)) (pe_callTy call_int1 (by rfl) md.int (by decide +kernel) (pa_cons (pe_cmpR op_eq (pv 3) pe_int (nomark _)) pa_nil))) pa_nil)) (pg_name (i := 12) nd rfl (by first | exact Or.inl rfl | exact Or.inr rfl))
    (pss_one (ps_set (i := 11) nd rfl (by first | exact Or.inl rfl | exact Or.inr rfl) (pe_op op_cat (pv 11) (pe_lc (own := [("_law_i", 16)]) (g := gName 16) rfl nd (pi_range1 (by rfl) md.range (pa_cons (pv 12) pa_nil)) (blkOk_by (own := [("_law_i", 16)]) (N := N_law_days) (sc := defScope s_law_days) (by decide +kernel)) (fun _ _ _ _ _ => pg_name (i := 16) nd rfl (Or.inl rfl)) (fun _ _ _ _ _ => pts_nil) (fun _ _ _ _ _ => (pe_tup (pa_cons (pv 16) (pa_cons (pv 12) pa_nil)))))))))))
    pss_nil)
    (pss_cons (ps_set (i := 13) nd rfl (by first | exact Or.inl rfl | exact Or.inr rfl) (pe_lst pa_nil))
    (pss_cons (ps_for PassesOwn.never rfl (k_pl K (pv 11)) (pg_name (i := 14) nd rfl (by first | exact Or.inl rfl | exact Or.inr rfl))
    (pss_cons (ps_setLc (i := 15) (own := [("_law_one", 17)]) (g := gName 17) rfl nd rfl rfl (sw_true rfl rfl rfl (by decide +kernel)) (k_pt K (pv 6)) (blkOk_by (own := [("_law_one", 17)]) (N := N_law_days) (sc := defScope s_law_days) (by decide +kernel)) (fun _ _ _ _ _ => pg_name (i := 17) nd rfl (Or.inl rfl)) (fun _ _ _ _ _ => (pts_one (PW.pt (pw_or (PW.pt (pw_and (pt_cmpR (k_in K) (pe_ix (kx_T K) (pv 17) pe_int (fun _ _ => rfl)) (pv 14) (by with_unfolding_all rfl)) (pw_and1 (pt_cmpR (k_in K) (pe_ix (kx_T K) (pv 17) pe_int (fun _ _ => rfl)) (pv 10) (by with_unfolding_all rfl))))) (pw_or1 (PW.pt (pw_and (pt_cmpR (k_in K) (pe_ix (kx_T K) (pv 17) pe_int (fun _ _ => rfl)) (pv 14) (by with_unfolding_all rfl)) (pw_and1 (pt_cmpR (k_in K) (pe_ix (kx_T K) (pv 17) pe_int (fun _ _ => rfl)) (pv 10) (by with_unfolding_all rfl)))))))))) (fun _ _ _ _ _ => (pv 17)))
    (pss_one (ps_if (PW.pt (pw_and (pt_cmpR (k_eqD K hr.units) (pv 15) (pe_lst pa_nil) (nomark _)) (pw_and1 (pt_cmpR (k_eqD K hr.units) (pe_lc (own := [("_law_i", 16)]) (g := gName 16) rfl nd (k_pt K (pv 9)) (blkOk_by (own := [("_law_i", 16)]) (N := N_law_days) (sc := defScope s_law_days) (by decide +kernel)) (fun _ _ _ _ _ => pg_name (i := 16) nd rfl (Or.inl rfl)) (fun _ _ _ _ _ => (pts_one (pt_cmpR (k_nin K) (pv 16) (pv 14) (by with_unfolding_all rfl)))) (fun _ _ _ _ _ => (pv 16))) (pe_lst pa_nil) (nomark _)))))
    (pss_one (ps_expr (pe_bm PySem.F.plainAttrs_list PySem.F.slot_list_append PySem.F.type_list_append mt_append (pv 13) (pa_cons (pv 14) pa_nil))))
    pss_nil))))
    (pss_one (ps_ret (pe_callB (k_srtD K (hu65 hr)) (by rfl) md.sorted (by decide +kernel) (pa_cons (pv 13) pa_nil)))))))))), run_N h fun ds R hA => ?_⟩
    obtain ⟨t, s, rfl, ⟨o, os⟩, rfl⟩ := hA
    have ol := o.nums.len
    have otl := o.tl
    have off := o.offl
    have oh := o.h2
    have op := os.phase
    have obl := os.busy.l
    refine do_letT (is_var rfl) (tg_tup (tgs_cons (tgs_cons (tgs_cons (tgs_cons (tgs_cons tgs_nil)))))) ?_
    refine do_letT (is_var rfl) (tg_tup (tgs_cons (tgs_cons (tgs_cons (tgs_cons tgs_nil))))) ?_
    refine do_let (d := .list ([[]].map tI)) (is_new (isN_lst (isA_cons (is_tup isA_nil) isA_nil))) ?_
    have nl : ∀ {ρ : List Ent}, ρ[2]? = some (.dat (tI t.nums)) → Is (tCB (rLn K) (tCons (tVar 2) tNil)) ρ (.int (t.nums.length : Int)) := fun h => Is.to (is_lenT (is_var h)) (by rw [List.length_map])
    refine do_seq ((?_ : Do _ _ (fun o' => ∃ (dl : List (List Int)), o' = .nx [.dat (dT t), .dat (dS s), .dat (tI t.nums), .dat (.int t.hands), .dat (tI t.off), .dat (tI t.long), .dat (.tuple (t.tied.map dPr)), .dat (.int s.phase), .dat (tI s.waits), .dat (tI s.busy), .dat (tI s.last), .dat (.list (dl.map tI)), .no, .no, .no, .no, .no, .no] ∧ Mk0 t dl ∧ dl.length ≤ 100)).mono fun o' ⟨dl, ho, mk, dll⟩ => ?_)
    · have m0 : Mk0 t [[]] := ⟨fun d hd => by
        rw [List.mem_singleton.mp hd]; exact ⟨⟨rfl, by simp⟩, by simp; omega⟩, [], rfl, fun d hd => by cases hd⟩
      refine do_if (ist_test (is_eqI (is_ixT (b := s.phase) (n := s.phase.toNat) (is_var rfl) (is_var rfl) (by omega) (off_at op)) is_int)) (fun _ => ?_) fun _ => do_next ⟨[[]], rfl, m0, by simp⟩
      have fl : ∀ n : Nat, (List.range n).filter (fun _ => true) = List.range n := fun n => List.filter_eq_self.mpr fun _ _ => rfl
      refine do_let (d := .list (([[]] ++ (List.range t.nums.length).map fun i : Nat => [(i : Int)]).map tI)) (is_new (IsN.to (isN_cat (isL_dat (is_var rfl)) (isL_new (isN_lcR1 (m := (t.nums.length : Int)) (n := t.nums.length) (p := fun _ => true) (f := fun i => tI [(i : Int)]) (isA_cons (nl rfl) isA_nil) (by omega) (by omega) (notDrw_of rfl (by intro z; cases z)) (fun i hi => ist_yes) fun i hi _ => is_tup (isA_cons (is_var rfl) isA_nil))) (by rw [fl]; simp; omega)) (by rw [fl, List.map_append, List.map_map]; rfl))) ?_
      have m1 : Mk0 t ([[]] ++ (List.range t.nums.length).map fun i : Nat => [(i : Int)]) := mk0_app m0 fun d hd => by
        obtain ⟨i, hi, rfl⟩ := List.mem_map.mp hd
        exact ⟨single_ok o (List.mem_range.mp hi), by simp⟩
      refine do_forR1 (m := (t.nums.length : Int) * (if decide (t.hands = 2) then 1 else 0)) (n := if t.hands = 2 then t.nums.length else 0) (I := fun k ρ => ∃ dl : List (List Int), ρ = [.dat (dT t), .dat (dS s), .dat (tI t.nums), .dat (.int t.hands), .dat (tI t.off), .dat (tI t.long), .dat (.tuple (t.tied.map dPr)), .dat (.int s.phase), .dat (tI s.waits), .dat (tI s.busy), .dat (tI s.last), .dat (.list (dl.map tI)), .no, .no, .no, .no, .no, .no] ∧ Mk0 t dl ∧ dl.length ≤ 9 + 8 * k)
        (isA_cons (is_cI (nl rfl) (is_intB (is_eqI (is_var rfl) is_int)) (.inl ⟨by omega, by omega⟩)) isA_nil) ?_ ?_ ⟨_, ⟨_, rfl, m1, by simp; omega⟩, Le.refl _⟩ ?_ ?_
      · by_cases c : t.hands = 2
        · simp [c]
        · simp [c]
      · by_cases c : t.hands = 2
        · simp [c]; omega
        · simp [c]
      · rintro k ρ1 hk ⟨dl, rfl, mk, dll⟩
        have h2 : t.hands = 2 := by
          by_cases c : t.hands = 2
          · exact c
          · rw [if_neg c] at hk; omega
        rw [if_pos h2] at hk
        refine (do_asg (d := .list ((dl ++ (List.range k).map fun i : Nat => [(i : Int), (k : Int)]).map tI)) (is_new (IsN.to (isN_cat (isL_dat (is_var rfl)) (isL_new (isN_lcR1 (m := (k : Int)) (n := k) (p := fun _ => true) (f := fun i => tI [(i : Int), (k : Int)]) (isA_cons (is_var rfl) isA_nil) (by omega) (by omega) (notDrw_of rfl (by intro z; cases z)) (fun i hi => ist_yes) fun i hi _ => is_tup (isA_cons (is_var rfl) (isA_cons (is_var rfl) isA_nil)))) (by rw [fl]; simp; omega)) (by rw [fl, List.map_append, List.map_map]; rfl)))).mono fun o2 ho2 => ?_
        subst ho2
        exact ⟨_, ⟨_, rfl, mk0_app mk fun d hd => by
          obtain ⟨i, hi, rfl⟩ := List.mem_map.mp hd
          exact ⟨double_ok h2 (List.mem_range.mp hi) hk, by simp⟩, by simp; omega⟩, rfl, rfl, rfl, rfl, rfl, rfl, rfl, rfl, rfl, rfl, rfl, rfl, True.intro⟩
      · rintro ρ1 ⟨dl, rfl, mk, dll⟩
        exact ⟨dl, rfl, mk, by split at dll <;> omega⟩
    subst ho
    refine do_letN (isN_lst isA_nil) ?_
    obtain ⟨r, hr1, hr2⟩ := mk.h
    refine do_seq (do_forLm (xs := dl) (enc := tI) (I := fun k ρ => ∃ fs : List (List Int), ρ = [.dat (dT t), .dat (dS s), .dat (tI t.nums), .dat (.int t.hands), .dat (tI t.off), .dat (tI t.long), .dat (.tuple (t.tied.map dPr)), .dat (.int s.phase), .dat (tI s.waits), .dat (tI s.busy), .dat (tI s.last), .dat (.list (dl.map tI)), .no, .own (fs.map tI), .no, .no, .no, .no] ∧ (∀ d ∈ fs, d ∈ dl) ∧ fs.length ≤ k ∧ ∃ r, (∀ d ∈ r, d ≠ []) ∧ (fs = [] :: r ∨ fs = r)) (is_var rfl) (fun x => tg_name) ⟨_, ⟨[], rfl, (fun d hd => by cases hd), Nat.le_refl _, [], (fun d hd => by cases hd), .inr rfl⟩, Le.refl _⟩ ?_ ?_)
    · rintro k day ρ1 hk ⟨fs, rfl, f1, f2, r', f3, f4⟩
      have kl := (List.getElem?_eq_some_iff.mp hk).1
      have dr := (mk.d day (List.mem_of_getElem? hk)).r
      refine do_letN (isN_lcT (xs := t.tied) (enc := dPr) (p := fun q => (decide (q.1 ∈ day) && decide (q.2 ∈ s.last)) || (decide (q.2 ∈ day) && decide (q.1 ∈ s.last))) (f := dPr) (is_var rfl) (by omega) (notDrw_of rfl (by intro z; cases z)) (fun x hx => ist_or (ist_and (ist_test (is_inT (is_ixT (n := 0) (is_var rfl) is_int rfl rfl) (is_var rfl))) fun _ => ist_test (is_inT (is_ixT (n := 1) (is_var rfl) is_int rfl rfl) (is_var rfl))) fun _ => ist_and (ist_test (is_inT (is_ixT (n := 1) (is_var rfl) is_int rfl rfl) (is_var rfl))) fun _ => ist_test (is_inT (is_ixT (n := 0) (is_var rfl) is_int rfl rfl) (is_var rfl))) fun x hx _ => is_var rfl) ?_
      have sp : ∀ ps : List (Int × Int), SeqAt.shaped (.list (ps.map dPr)) = true := fun ps => by
        have := shaped_lT (ps.map fun p => [p.1, p.2])
        rw [List.map_map] at this
        exact this
      refine do_if (ist_and (ist_test (is_eqNil (isL_own rfl) (sp _))) fun _ => ist_test (is_eqNilI (isL_new (isN_lcT (xs := s.busy) (enc := .int) (p := fun i => !decide (i ∈ day)) (f := .int) (is_var rfl) (by omega) (notDrw_of rfl (by intro z; cases z)) (fun x hx => ist_test (is_ninT (is_var rfl) (is_var rfl))) fun x hx _ => is_var rfl)))) (fun _ => ?_) fun _ => do_next ?_
      · refine do_app (i := 13) (ds := fs.map tI) (Y := fun x => x = tI day) rfl (is_var rfl) (by rw [List.length_map]; omega) fun d hd => ?_
        subst hd
        refine ⟨_, ⟨fs ++ [day], rfl, fun d hd => ?_, by rw [List.length_append, List.length_singleton]; omega, ?_⟩, rfl, rfl, rfl, rfl, rfl, rfl, rfl, rfl, rfl, rfl, rfl, rfl, ?_, True.intro⟩
        · rcases List.mem_append.mp hd with z | z
          · exact f1 d z
          · rw [List.mem_singleton.mp z]; exact List.mem_of_getElem? hk
        · by_cases k0 : k = 0
          · subst k0
            have e0 : fs = [] := List.length_eq_zero_iff.mp (by omega)
            have d0 : day = [] := by rw [hr1] at hk; simpa using hk.symm
            exact ⟨[], (fun d hd => by cases hd), .inl (by rw [e0, d0]; rfl)⟩
          · have dm : day ≠ [] := by
              obtain ⟨k', rfl⟩ : ∃ k', k = k' + 1 := ⟨k - 1, by omega⟩
              rw [hr1, List.getElem?_cons_succ] at hk
              exact hr2 day (List.mem_of_getElem? hk)
            refine ⟨r' ++ [day], fun d hd => ?_, ?_⟩
            · rcases List.mem_append.mp hd with z | z
              · exact f3 d z
              · rw [List.mem_singleton.mp z]; exact dm
            · rcases f4 with z | z
              · exact .inl (by rw [z]; rfl)
              · exact .inr (by rw [z])
        · rw [List.map_append]; rfl
      · exact ⟨_, ⟨fs, rfl, f1, by omega, r', f3, f4⟩, rfl, rfl, rfl, rfl, rfl, rfl, rfl, rfl, rfl, rfl, rfl, rfl, rfl, True.intro⟩
    · rintro ρ1 ⟨fs, rfl, f1, f2, r', f3, f4⟩
      refine do_retN (isN_srt (K := K) (bs := fs) (enc := tI) (isL_own rfl) (PySem.W.AllAlike.of days_alike) (days_sort f3 f4) fun b _ => depth_tI1 b) fun es he => ?_
      subst he
      exact ⟨_, rfl, fun d hd => mk.d d (f1 d (List.mem_mergeSort.mp hd)), by rw [List.length_mergeSort]; omega⟩
end W36
end
section
set_option Elab.async false
set_option linter.all false
set_option maxRecDepth 100000
set_option maxHeartbeats 4000000
/-! Dicts in a slot; a loop over a list known by a word. -/
namespace W36
open PySem L2 Evl
section
variable {P : Program} {w : World} {K : PySem.W.Frag} {ρ : List Ent} {i j : Nat} {a : Addr} {kvs : DKV} {k d : PyData} {tk tv tl : TE} {g : TG} {tb : TS} {Z : Out → Prop}
abbrev dcE (P : Program) (w : World) (a : Addr) (kvs : DKV) : Ent := .spc (.ref a) (fun l => l = a) (fun G H => DicAt P w G H a kvs)
theorem dc_stab : Stab (fun l => l = a) (fun G H => DicAt P w G H a kvs) := fun G H G' H' h g x z => DicAt.up h g fun o y => z a o rfl y
theorem do_asgDc (q : ∀ a, Z (.nx (ρ.set j (dcE P w a [])))) : Do (tAsg (tNNew P w) (gName j)) ρ Z := fun D σ G H E qq => by
  intro p hp
  have n := Nx.newH (o := NdO P w p []) E hp
  exact qq _ (q p) _ G _ (Sx.setE E (Sx.of n).w n.e ⟨⟨[], upd_same, .nil⟩, fun l z => by rw [z]; exact ⟨ex_none E.ex hp, by rw [upd_same]; exact fun z => by cases z⟩, dc_stab⟩ fun l z => by rw [z]; exact hp)
theorem is_vDc (h : ρ[i]? = some (dcE P w a kvs)) : IsDc P w (tVar i) ρ kvs := fun σ G H E Q q => by
  obtain ⟨h1, h2, h3, h4⟩ := E.spc i _ _ _ h
  refine ⟨_, h1, q a h2 fun ⟨m, m1, m2⟩ => ?_⟩
  by_cases c : i = m
  · subst c; rw [h] at m1; cases m1
  · exact E.sep i m a c ⟨_, h, rfl⟩ ⟨_, m1, m2⟩
theorem do_vput (h : ρ[i]? = some (dcE P w a kvs)) (hv : Is tv ρ d) (hk : Is tk ρ k) (ok : KOk k) (hz : kvs.length < 1000000) (q : Z (.nx (ρ.set i (dcE P w a (ptD kvs k d))))) : Do (sNPut P w (tVar i) tk tv) ρ Z := fun D σ G H E qq => hv σ G H E _ fun v d' G1 H1 hd n1 hv1 => by
  subst hd
  obtain ⟨h1, _⟩ := n1.e.spc i _ _ _ h
  refine ⟨_, h1, hk σ G1 H1 n1.e _ fun y k' G2 H2 hk' n2 hy => ?_⟩
  subst hk'
  obtain ⟨b, rfl⟩ := ref_of ok hy
  obtain ⟨_, h2, h3, _⟩ := n2.e.spc i _ _ _ h
  obtain ⟨xs, g, r⟩ := DicAt.nd h2 n2.e.ex
  refine ⟨a, b, xs, _, rfl, rfl, g, key_B n2.e.ex ok hy, by rw [← r.length]; exact hz, ?_⟩
  exact qq _ q σ G2 _ (Sx.setS E (n1.trans n2) h (Gw.put n2.w.v (h3 a rfl).1 rfl) ⟨⟨_, upd_same, r.put ok hy (hv1.up n2.w.g)⟩, fun l z => by rw [z]; exact ⟨(h3 a rfl).1, by rw [upd_same]; exact fun z => by cases z⟩, dc_stab⟩ fun l z => .inl z)
theorem do_forLX {α : Type} {enc : α → PyData} {Wp : List α → Prop} {I : List α → Nat → List Ent → Prop} {f : α → List Ent → List Ent} (hs : XP tl ρ (fun d ρ' => (∃ xs, d = .list (xs.map enc) ∧ Wp xs) ∧ ρ' = ρ)) (hg : ∀ x, Tg g (enc x) (f x))
    (h0 : ∀ xs, Wp xs → ∃ ρ0, I xs 0 ρ0 ∧ Le ρ0 ρ) (ht : ∀ xs, Wp xs → ∀ i x ρ1, xs[i]? = some x → I xs i ρ1 → Do tb (f x ρ1) (Lp Z (I xs (i + 1)))) (hd : ∀ xs, Wp xs → ∀ ρ1, I xs xs.length ρ1 → Z (.nx ρ1)) : Do (tFor (iList K tl) g tb) ρ Z := fun D σ G H E q => hs σ G H E _ fun v d ρ' G1 H1 ⟨⟨xs, hx, hw⟩, hρ⟩ n' hv => by
  subst hx hρ
  cases hv with
  | @lst a vs _ g1 g2 =>
    obtain ⟨ρ0, i0, l0⟩ := h0 xs hw
    have vis : ∀ {G' H' σ' ρ2}, Sx σ ρ' G1 H1 σ' ρ2 G' H' → H' a = some (.lst vs) := fun s => s.w.v _ _ (s.w.g _ _ g1)
    refine ⟨a, rfl, ⟨vs, sq_of (n'.w.v _ _ g1)⟩, for_list (xs := vs) (fun i σ' H' => Wd σ ρ' G1 H1 (I xs i) σ' H') ⟨ρ0, G1, i0, (Sx.of (Nx.refl n'.e)).le l0⟩ (fun i σ' H' _ ⟨_, _, _, s⟩ => sq_of (vis s)) (fun i x σ' H' hi ⟨ρ1, G', i1, s⟩ => ?_) (fun σ' H' ⟨ρ1, G', i1, s⟩ => ?_)⟩
    · obtain ⟨d, hdd, dx⟩ := g2.back hi
      obtain ⟨y, hy, _, rfl⟩ := map_get hdd
      refine hg y ρ1 σ' G' H' x s.e (dx.up s.w.g) _ fun σ2 E2 o2 => ?_
      have s2 : Sx σ ρ' G1 H1 σ2 (f y ρ1) G' H' := ⟨s.w, E2, fun l z => s.o l (o2 l z)⟩
      exact ht xs hw i y ρ1 hy i1 _ σ2 G' H' E2 (lp_post (fun o p => (q o p).after n') s2 fun σ3 H3 w => w)
    · rw [g2.length, List.length_map] at i1
      exact q _ (hd xs hw ρ1 i1) σ' G' H' (n'.trans s)
end
end W36
end
section
set_option Elab.async false
set_option linter.all false
set_option maxRecDepth 100000
set_option maxHeartbeats 4000000
namespace W36
open PySem L2 Evl
def A_law_behind_it (ds : List PyData) (R : PyData → Prop) : Prop := ∃ (t : Tk) (s : Sd), ds = [dT t, dS s] ∧ (TaskOk t ∧ StandOk t s) ∧ R = isW fun n => n ≤ roomI t
def sp_law_behind_it : Sp := spD A_law_behind_it
theorem ln_law_behind_it : ∀ ds R, A_law_behind_it ds R → ds.length = 2 := fun ds R ⟨_, _, h, _⟩ => by rw [h]; rfl
theorem c_law_behind_it {tx : TA} {ρ : List Ent} {t : Tk} {s : Sd} (o : TaskOk t) (os : StandOk t s) (ha : IsA tx ρ [dT t, dS s]) : IsP (tCall sp_law_behind_it [] E0 tx) ρ (isW fun n => n ≤ roomI t) := isP_call ha ⟨t, s, rfl, ⟨o, os⟩, rfl⟩
structure BInv (t : Tk) (fs ws : List Sd) : Prop where
  nd : fs.Nodup
  r : ∀ x ∈ fs, Reach t x
  ok : ∀ x ∈ ws, StandOk t x
  l : ws.length ≤ fs.length + 1
theorem BInv.few {t : Tk} {fs ws : List Sd} (I : BInv t fs ws) (o : TaskOk t) : (fs.length : Int) ≤ roomI t ∧ fs.length ≤ 300 := by
  have h := reach_card o I.nd I.r
  have := o.room
  omega
theorem BInv.more {t : Tk} {fs ws : List Sd} {x : Sd} (I : BInv t fs ws) (o : TaskOk t) (hr : Reach t x) (hn : ¬ x ∈ fs) : BInv t (fs ++ [x]) (ws ++ [x]) := by
  refine ⟨?_, fun y hy => ?_, fun y hy => ?_, ?_⟩
  · refine List.nodup_append.mpr ⟨I.nd, List.nodup_cons.mpr ⟨List.not_mem_nil, List.nodup_nil⟩, fun a ha b hb e => ?_⟩
    rw [List.mem_singleton] at hb
    subst hb e
    exact hn ha
  · rcases List.mem_append.mp hy with z | z
    · exact I.r y z
    · rw [List.mem_singleton.mp z]; exact hr
  · rcases List.mem_append.mp hy with z | z
    · exact I.ok y z
    · rw [List.mem_singleton.mp z]; exact hr.ok o
  · have := I.l
    simp only [List.length_append, List.length_singleton]; omega
theorem ok_law_behind_it {P : Program} {w : World} {K : PySem.W.Frag} {mg : Str → Option Value} {base : Heap} {f : Addr} {fd : FuncData} (F : FnP K "_law_behind_it" "_law_behind_it" s_law_behind_it f fd) (md : Md mg) {f_law_days : Addr} {fd_law_days : FuncData} (h_law_days : Has P w K mg base 1 "_law_days" ["_law_task_here", "_law_stand"] sp_law_days f_law_days fd_law_days) {f_law_next_stand : Addr} {fd_law_next_stand : FuncData} (h_law_next_stand : Has P w K mg base 1 "_law_next_stand" ["_law_task_here", "_law_stand", "_law_day"] sp_law_next_stand f_law_next_stand fd_law_next_stand) : FnOk P w K mg base CX0 2 f fd ["_law_task_here", "_law_stand"] sp_law_behind_it := by
  refine FunD.ok F sc_law_behind_it (fun vs H Q E h => len_D (fun ds R hA => ?_) h) (fun cdv A outer s H vs Q E hr h => ?_)
  · exact ln_law_behind_it ds R hA
  · have nd := sc_law_behind_it.nd
    refine ⟨_, PSs.nox (pss_cons (ps_set (i := 2) nd rfl (by first | exact Or.inl rfl | exact Or.inr rfl) pe_nnew)
    (pss_cons (ps_set (i := 3) nd rfl (by first | exact Or.inl rfl | exact Or.inr rfl) (pe_lst (pa_cons (pv 1) pa_nil)))
    (pss_cons (ps_while PassesOwn.never (pt_cmpR (k_neD K hr.units) (pv 3) (pe_lst pa_nil) (nomark _))
    (pss_cons (ps_set (i := 4) nd rfl (by first | exact Or.inl rfl | exact Or.inr rfl) (pe_bm0 PySem.F.plainAttrs_list PySem.F.slot_list_pop PySem.F.type_list_pop mt_pop (pv 3)))
    (pss_one (ps_for PassesOwn.never rfl (k_pl K (pe_call h_law_days.ok (hr.mono (by decide)) rfl h_law_days.g h_law_days.kp h_law_days.b .nil pass0 (pa_cons (pv 0) (pa_cons (pv 4) pa_nil)))) (pg_name (i := 5) nd rfl (by first | exact Or.inl rfl | exact Or.inr rfl))
    (pss_cons (ps_set (i := 6) nd rfl (by first | exact Or.inl rfl | exact Or.inr rfl) (pe_call h_law_next_stand.ok (hr.mono (by decide)) rfl h_law_next_stand.g h_law_next_stand.kp h_law_next_stand.b .nil pass0 (pa_cons (pv 0) (pa_cons (pv 4) (pa_cons (pv 5) pa_nil)))))
    (pss_one (ps_if (PW.pt (pw_and (pt_cmp (pc_notN (pv 6))) (pw_and1 (pt_cmp (pc_nnotin (hu65 hr) (pv 6) (pv 2))))))
    (pss_cons (ps_nput (hu65 hr) (pv 2) (pv 6) pe_bl rfl)
    (pss_one (ps_expr (pe_bm PySem.F.plainAttrs_list PySem.F.slot_list_append PySem.F.type_list_append mt_append (pv 3) (pa_cons (pv 6) pa_nil)))))
    pss_nil)))))))
    (pss_one (ps_ret (pe_callB call_nlen (by rfl) md.len PySem.boot_len (pa_cons (pv 2) pa_nil))))))), run_D h fun ds R hA => ?_⟩
    obtain ⟨t, s, rfl, ⟨o, os⟩, rfl⟩ := hA
    refine do_seq (do_asgDc (P := P) (w := w) fun a => ?_)
    refine do_letN (ds := [s].map dS) (isN_lst (isA_cons (is_var rfl) isA_nil)) ?_
    refine do_seq (do_whileM (I := fun m ρ => ∃ fs ws, ρ = [.dat (dT t), .dat (dS s), dcE P w a (overK fs), .own (ws.map dS), .no, .no, .no] ∧ BInv t fs ws ∧ 2 * (300 - fs.length) + ws.length = m) ⟨_, _, ⟨[], [s], rfl, ⟨List.nodup_nil, (fun x hx => by cases hx), fun x hx => by rw [List.mem_singleton.mp hx]; exact os, by simp⟩, rfl⟩, Le.refl _⟩ ?_)
    rintro m ρ1 ⟨fs, ws, rfl, I, hm⟩
    refine ⟨!(ws.map dS).isEmpty, ist_test (is_neNil (isL_own rfl) (shaped_lS _)), fun e => ?_, fun e => ?_⟩
    · obtain ⟨w0, x, rfl⟩ : ∃ w0 x, ws = w0 ++ [x] := by
        rcases List.eq_nil_or_concat ws with h | ⟨a, b, h⟩
        · rw [h] at e; cases e
        · exact ⟨a, b, by rw [h, List.concat_eq_append]⟩
      have ox := I.ok x (List.mem_append.mpr (.inr (List.mem_singleton.mpr rfl)))
      have ew : (w0 ++ [x]).map dS = w0.map dS ++ [dS x] := by rw [List.map_append]; rfl
      rw [ew]
      refine do_asgX1 (xp_popO (i := 3) rfl) fun d ρ' h => ?_
      obtain ⟨rfl, rfl⟩ := h
      have il := I.l
      simp only [List.length_append, List.length_singleton] at il hm
      refine do_forLX (Wp := fun dl => ∀ d ∈ dl, DayOk t d) (enc := tI) (I := fun dl k ρ => ∃ fs ws, ρ = [.dat (dT t), .dat (dS s), dcE P w a (overK fs), .own (ws.map dS), .dat (dS x), .no, .no] ∧ BInv t fs ws ∧ 2 * (300 - fs.length) + ws.length < m) (xp_is ((isP_new (c_law_days o ox (isA_cons (is_var rfl) (isA_cons (is_var rfl) isA_nil)))).mono fun d hd => ?_)) (fun x => tg_name)
        (fun dl hdl => ⟨_, ⟨fs, w0, rfl, ⟨I.nd, I.r, fun y hy => I.ok y (List.mem_append.mpr (.inl hy)), by omega⟩, by omega⟩, Le.refl _⟩) ?_ ?_
      · obtain ⟨ds, ⟨dl, rfl, h1, _⟩, rfl⟩ := hd
        exact ⟨dl, rfl, h1⟩
      · rintro dl hdl k day ρ1 hk ⟨gs, vs, rfl, J, hj⟩
        have dk := hdl day (List.mem_of_getElem? hk)
        have jf := J.few o
        have jl := J.l
        refine do_let (c_law_next_stand o ox.waits.len dk.r.l (isA_cons (is_var rfl) (isA_cons (is_var rfl) (isA_cons (is_var rfl) isA_nil)))) ?_
        cases en : nextS t x day with
        | none => exact do_if (b := false) (ist_and (x := false) (y := false) (ist_B (is_notN (d := .none) (is_var rfl))) fun e => by cases e) (fun e => by cases e) fun _ => do_next ⟨_, ⟨gs, vs, rfl, J, hj⟩, rfl, rfl, rfl, rfl, rfl, True.intro⟩
        | some y =>
          refine do_if (b := !decide (y ∈ gs)) (IsB.to (ist_and (ist_B (is_notN (d := dS y) (is_var rfl))) fun _ => ist_B (is_dnin (kvs := overK gs) (is_vDc (i := 2) rfl) (is_var rfl) (kok_dS y))) (by rw [lk_over]; rfl)) (fun e => ?_) fun e => do_next ⟨_, ⟨gs, vs, rfl, J, hj⟩, rfl, rfl, rfl, rfl, rfl, True.intro⟩
          have ny : ¬ y ∈ gs := by simpa using e
          refine do_seq (do_vput (i := 2) (kvs := overK gs) (d := .bool true) rfl is_bl (is_var rfl) (kok_dS y) (by rw [over_len]; omega) ?_)
          rw [over_push ny]
          have J' := J.more o ⟨x, day, ox.waits, dk, en⟩ ny
          refine do_app (i := 3) (ds := vs.map dS) (Y := fun z => z = dS y) rfl (is_var rfl) (by rw [List.length_map]; omega) fun d hd => ?_
          subst hd
          have jf' := J'.few o
          simp only [List.length_append, List.length_singleton] at jf'
          exact ⟨_, ⟨gs ++ [y], vs ++ [y], rfl, J', by simp only [List.length_append, List.length_singleton]; omega⟩, by
            refine ⟨rfl, rfl, rfl, ?_, rfl, True.intro⟩
            rw [List.map_append]; rfl⟩
      · rintro dl hdl ρ1 ⟨gs, vs, rfl, J, hj⟩
        exact ⟨_, ⟨_, hj, gs, vs, rfl, J, rfl⟩, rfl, rfl, rfl, rfl, True.intro⟩
    · refine do_retD (is_dlen (is_vDc (i := 2) rfl)) ⟨_, rfl, ?_⟩
      rw [over_len]; exact (I.few o).1
end W36
end
section
set_option Elab.async false
set_option linter.all false
set_option maxRecDepth 100000
set_option maxHeartbeats 4000000
/-! Words for tests, slices; a made-up stand is a stand. -/
namespace W36
open PySem L2 Evl
section
variable {K : PySem.W.Frag} {ρ : List Ent} {ta tb te : TE} {tt tu : TT} {R : List PyData → Prop}
theorem isNP_to {n : Nat} (ha : IsNP ta ρ R) (hb : Is tb ρ (.int (n : Int))) : IsNP (tSl (rSlL K) ta tNoPart (tPart tb)) ρ (fun es => ∃ ds, R ds ∧ es = ds.take n) := fun σ G H E Q q =>
  ha σ G H E _ fun l xs ds G1 H1 r n1 hp gp h1 h2 => hb σ G1 H1 n1.e _ fun y e' G2 H2 he n2 hy => by
    subst he
    cases hy
    have nl : ¬ Sdr ρ σ l := fun z => (E.not_sdr z).2 hp
    refine ⟨_, rfl, l, xs, rfl, sq_of (n2.at nl h1), fun p hp => ?_⟩
    have w := Nx.newH (o := .lst (cutV xs none (some (n : Int)))) n2.e hp
    refine q _ (xs.take n) _ _ _ ⟨ds, r, rfl⟩ ((n1.trans n2).trans w) (by
        cases z : H p with
        | none => rfl
        | some o => exact absurd hp ((n1.trans n2).w.d p (ex_not z))) (ex_none n2.w.v hp) (by rw [upd_same, cut_to]) ((h2.up n2.w.g).take n)
theorem istP_test (h : IsP te ρ isBool) : IsT (tTest te) ρ (fun _ => True) := fun σ G H E Q q => h σ G H E _ fun v d G' H' ⟨b, _, hd⟩ n hv => by
  subst hd
  cases hv
  exact ⟨b, rfl, q b G' H' trivial n⟩
theorem ist_andP {x : Bool} {B : Bool → Prop} (h : IsB tt ρ x) (k : x = true → IsT tu ρ B) : IsT (tAnd tt tu) ρ (fun b => b = true → x = true) := fun σ G H E Q q => h σ G H E _ fun b G' H' hb n => by
  subst hb
  cases b with
  | true => exact iteT (k rfl σ G' H' n.e _ fun c G2 H2 hc m => q c G2 H2 (fun _ => rfl) (n.trans m))
  | false => exact iteF (q false G' H' (fun z => z) n)
end
/-! ### a made-up stand -/
theorem tied28 {t : Tk} (o : TaskOk t) : t.tied.length ≤ 28 := by
  have nd : t.tied.Nodup := o.srt.imp fun {p q} h e => by subst e; omega
  have ol := o.nums.len
  have := nodup_le nd (m := (List.range 8).flatMap fun j : Nat => (List.range j).map fun i : Nat => ((i : Int), (j : Int))) fun p hp => by
    have := o.tied p hp
    exact List.mem_flatMap.mpr ⟨p.2.toNat, List.mem_range.mpr (by omega), List.mem_map.mpr ⟨p.1.toNat, List.mem_range.mpr (by omega), Prod.ext (by show ((p.1.toNat : Nat) : Int) = p.1; omega) (by show ((p.2.toNat : Nat) : Int) = p.2; omega)⟩⟩
  exact Nat.le_trans this (by decide)
theorem made_ok {t : Tk} {ph : Int} {ws ms bs os : List Int} (o : TaskOk t) (hp : 0 ≤ ph ∧ ph < t.off.length) (hw : WaitsOk t.nums ws) (m1 : ms.Pairwise (· < ·)) (m2 : ∀ k, k ∈ ms ↔ k ∈ endsOf t)
    (b1 : bs.Sublist t.long) (b2 : (bs.length : Int) ≤ t.hands) (o1 : os.Sublist ms) (o2 : ∀ x ∈ os, ¬ x ∈ bs) {n : Nat} (hn : (n : Int) = t.hands - bs.length) :
    StandOk t ⟨ph, ws, bs, (ms.filter (fun i => decide (i ∈ bs)) ++ os.take n).mergeSort (PySem.W.dataLe false PyData.int)⟩ := by
  have ol := o.nums.len
  have mr : ∀ k ∈ ms, 0 ≤ k ∧ k ≤ 7 := fun k hk => by
    obtain ⟨p, hp, h⟩ := (inTies_mem t k).mp ((endsOf_mem t k).mp ((m2 k).mp hk))
    have := o.tied p hp
    rcases h with h | h <;> omega
  have lr := rising_mem o.long
  have bp : bs.Pairwise (· < ·) := (rising_pair o.long).sublist b1
  have bm : ∀ i ∈ bs, i ∈ t.long := fun i hi => b1.subset hi
  have mn : ms.Nodup := m1.imp fun h => by omega
  have l1n : (ms.filter (fun i => decide (i ∈ bs))).Nodup := mn.filter _
  have l1l : (ms.filter (fun i => decide (i ∈ bs))).length ≤ bs.length := nodup_le l1n fun x hx => of_decide_eq_true (List.mem_filter.mp hx).2
  have otl : (os.take n).length ≤ n := List.length_take_le ..
  have om : ∀ x ∈ os.take n, x ∈ ms ∧ ¬ x ∈ bs := fun x hx => ⟨o1.subset (List.mem_of_mem_take hx), o2 x (List.mem_of_mem_take hx)⟩
  have on : (os.take n).Nodup := (mn.sublist o1).sublist (List.take_sublist _ _)
  have un : (ms.filter (fun i => decide (i ∈ bs)) ++ os.take n).Nodup := List.nodup_append.mpr ⟨l1n, on, fun a ha b hb e => by
    subst e; exact (om _ hb).2 (of_decide_eq_true (List.mem_filter.mp ha).2)⟩
  obtain ⟨L, hL⟩ : ∃ L, L = (ms.filter (fun i => decide (i ∈ bs)) ++ os.take n).mergeSort (PySem.W.dataLe false PyData.int) := ⟨_, rfl⟩
  have pm : L.Perm (ms.filter (fun i => decide (i ∈ bs)) ++ os.take n) := by rw [hL]; exact List.mergeSort_perm _ _
  have Lm : ∀ x ∈ L, x ∈ ms := fun x hx => by
    rcases List.mem_append.mp (pm.mem_iff.mp hx) with z | z
    · exact (List.mem_filter.mp z).1
    · exact (om x z).1
  have Ls : L.Pairwise (· < ·) := by
    have e : PySem.W.dataLe false PyData.int = fun a b : Int => decide (a ≤ b) := PySem.W.dataLe_int (fun x : Int => x)
    have s := List.pairwise_mergeSort (le := fun a b : Int => decide (a ≤ b)) (fun a b c h1 h2 => by
      simp only [decide_eq_true_eq] at h1 h2 ⊢; omega) (fun a b => by
      simp only [Bool.or_eq_true, decide_eq_true_eq]; omega) (ms.filter (fun i => decide (i ∈ bs)) ++ os.take n)
    have n2 : L.Nodup := pm.nodup_iff.mpr un
    rw [List.nodup_iff_pairwise_ne] at n2
    rw [← e, ← hL] at s
    refine List.Pairwise.imp₂ (fun a b h1 h2 => ?_) s n2
    simp only [decide_eq_true_eq] at h1
    omega
  have Ll := pm.length_eq
  rw [List.length_append] at Ll
  rw [← hL]
  refine ⟨hp, hw, ⟨rising_of bp fun i hi => ?_, b2, bm⟩, ⟨rising_of Ls fun i hi => mr i (Lm i hi), ?_, fun i hi => (endsOf_mem t i).mp ((m2 i).mp (Lm i hi))⟩, ?_, fun i hi ht => ?_⟩
  · have := lr i (bm i hi); omega
  · show (L.length : Int) ≤ t.hands; omega
  · show (bs.length : Int) + (L.filter fun i => !decide (i ∈ bs)).length ≤ t.hands
    have e : (L.filter fun i => !decide (i ∈ bs)).length = ((ms.filter (fun i => decide (i ∈ bs)) ++ os.take n).filter fun i => !decide (i ∈ bs)).length := (pm.filter _).length_eq
    rw [e, List.filter_append, List.length_append]
    have e0 : (ms.filter (fun i => decide (i ∈ bs))).filter (fun i => !decide (i ∈ bs)) = [] := List.filter_eq_nil_iff.mpr fun x hx => by
      have := (List.mem_filter.mp hx).2
      simp only [this, Bool.not_true]; exact fun z => by cases z
    have e1 := List.length_filter_le (fun i => !decide (i ∈ bs)) (os.take n)
    rw [e0, List.length_nil]
    omega
  · show i ∈ L
    refine pm.mem_iff.mpr (List.mem_append.mpr (.inl (List.mem_filter.mpr ⟨(m2 i).mpr ((endsOf_mem t i).mpr ht), decide_eq_true hi⟩)))
end W36
end
section
set_option Elab.async false
set_option linter.all false
set_option maxRecDepth 100000
set_option maxHeartbeats 4000000
namespace W36
open PySem L2 Evl
abbrev isStand (t : Tk) : PyData → Prop := fun d => ∃ s, d = dS s ∧ StandOk t s
def A_law_made_up (es : List Ent) (Y : PyData → Ent → Prop) : Prop := ∃ (l : Addr) (t : Tk), es = drE l :: [dT t].map .dat ∧ TaskOk t ∧ Y = fun d e => isStand t d ∧ e = drE l
def sp_law_made_up : Sp := spX 0 A_law_made_up
theorem ln_law_made_up : ∀ es Y, A_law_made_up es Y → es.length = 2 := fun es Y ⟨_, _, h, _⟩ => by rw [h]; rfl
theorem c_law_made_up {ρ : List Ent} {i : Nat} {t : Tk} {tx : TA} (o : TaskOk t) (hi : ρ[i]? = some .drw) (ha : IsA tx ρ [dT t]) : IsP (tCall sp_law_made_up [] E0 (tCons (tVar i) tx)) ρ (isStand t) := isP_callD hi ha fun l => ⟨l, t, rfl, o, rfl⟩
theorem wait_pick (dr n : Int) (hn : 1 ≤ n) : ∃ x, ([1 + dr / 4 % n, n, 1, if n - 1 > 1 then n - 1 else 1] : List Int)[(dr % 4).toNat]? = some x ∧ 1 ≤ x ∧ x ≤ n := by
  have hl : (dr % 4).toNat < ([1 + dr / 4 % n, n, 1, if n - 1 > 1 then n - 1 else 1] : List Int).length := by show (dr % 4).toNat < 4; omega
  refine ⟨_, List.getElem?_eq_getElem hl, ?_⟩
  have hm := List.getElem_mem hl
  have h1 := Int.emod_nonneg (dr / 4) (show n ≠ 0 by omega)
  have h2 := Int.emod_lt_of_pos (dr / 4) (show 0 < n by omega)
  have all : ∀ x ∈ ([1 + dr / 4 % n, n, 1, if n - 1 > 1 then n - 1 else 1] : List Int), 1 ≤ x ∧ x ≤ n := fun x hx => by
    simp only [List.mem_cons, List.not_mem_nil, or_false] at hx
    rcases hx with h | h | h | h
    · omega
    · omega
    · omega
    · split at h <;> omega
  exact all _ hm
theorem ints_alike (a b : Int) : PySem.W.alike (.int a) (.int b) = true := by simp [PySem.W.alike]
theorem ok_law_made_up {P : Program} {w : World} {K : PySem.W.Frag} {mg : Str → Option Value} {base : Heap} {f : Addr} {fd : FuncData} (F : FnP K "_law_made_up" "_law_made_up" s_law_made_up f fd) (md : Md mg) {f_law_next : Addr} {fd_law_next : FuncData} (h_law_next : Has P w K mg base 1 "_law_next" ["_law_draws_here"] sp_law_next f_law_next fd_law_next) : FnOk P w K mg base CX0 2 f fd ["_law_draws_here", "_law_task_here"] sp_law_made_up := by
  refine FunD.ok F sc_law_made_up (fun vs H Q E h => len_X (fun ds R hA => ?_) h) (fun cdv A outer s H vs Q E hr h => ?_)
  · exact ln_law_made_up ds R hA
  · have nd := sc_law_made_up.nd
    refine ⟨_, PSs.nox (pss_cons (ps_asg (pv 1) (pg_tup rfl (pgs_cons (pg_name (i := 2) nd rfl (by first | exact Or.inl rfl | exact Or.inr rfl)) (pgs_cons (pg_name (i := 3) nd rfl (by first | exact Or.inl rfl | exact Or.inr rfl)) (pgs_cons (pg_name (i := 4) nd rfl (by first | exact Or.inl rfl | exact Or.inr rfl)) (pgs_cons (pg_name (i := 5) nd rfl (by first | exact Or.inl rfl | exact Or.inr rfl)) (pgs_cons (pg_name (i := 6) nd rfl (by first | exact Or.inl rfl | exact Or.inr rfl)) pgs_nil)))))))
    (pss_cons (ps_set (i := 7) nd rfl (by first | exact Or.inl rfl | exact Or.inr rfl) (pe_op op_mod (pe_call h_law_next.ok (hr.mono (by decide)) rfl h_law_next.g h_law_next.kp h_law_next.b .nil pass0 (pa_cons (pv 0) pa_nil)) (pe_callB (k_len K) (by rfl) md.len PySem.boot_len (pa_cons (pv 4) pa_nil))))
    (pss_cons (ps_set (i := 8) nd rfl (by first | exact Or.inl rfl | exact Or.inr rfl) (pe_lst pa_nil))
    (pss_cons (ps_for PassesOwn.never rfl (k_pt K (pv 2)) (pg_name (i := 9) nd rfl (by first | exact Or.inl rfl | exact Or.inr rfl))
    (pss_cons (ps_set (i := 10) nd rfl (by first | exact Or.inl rfl | exact Or.inr rfl) (pe_call h_law_next.ok (hr.mono (by decide)) rfl h_law_next.g h_law_next.kp h_law_next.b .nil pass0 (pa_cons (pv 0) pa_nil)))
    (pss_one (ps_expr (pe_bm PySem.F.plainAttrs_list PySem.F.slot_list_append PySem.F.type_list_append mt_append (pv 8) (pa_cons (pe_ix (kx_L K) (pe_lst (pa_cons (pe_op op_add pe_int (pe_op op_mod (pe_op op_fdiv (pv 10) pe_int) (pv 9))) (pa_cons (pv 9) (pa_cons pe_int (pa_cons (pe_callB (call_max2 rfl) (by rfl) md.max (by decide +kernel) (pa_cons pe_int (pa_cons (pe_op op_sub (pv 9) pe_int) pa_nil))) pa_nil))))) (pe_op op_mod (pv 10) pe_int) (fun _ _ => rfl)) pa_nil))))))
    (pss_cons (ps_set (i := 11) nd rfl (by first | exact Or.inl rfl | exact Or.inr rfl) (pe_callB (k_sortedSet w rfl) (by rfl) md.sorted (by decide +kernel) (pa_cons (pe_callTy (k_setLI K w rfl) (by rfl) md.set (by decide +kernel) (pa_cons (pe_callB (cr_sumL rfl) (by rfl) md.sum (by decide +kernel) (pa_cons (pe_lc (own := [("_law_pair", 15)]) (g := gName 15) rfl nd (k_pt K (pv 6)) (blkOk_by (own := [("_law_pair", 15)]) (N := N_law_made_up) (sc := defScope s_law_made_up) (by decide +kernel)) (fun _ _ _ _ _ => pg_name (i := 15) nd rfl (Or.inl rfl)) (fun _ _ _ _ _ => pts_nil) (fun _ _ _ _ _ => (pe_callTy (k_list K) (by rfl) md.list (by decide +kernel) (pa_cons (pv 15) pa_nil)))) (pa_cons (pe_lst pa_nil) pa_nil))) pa_nil)) pa_nil)))
    (pss_cons (ps_set (i := 12) nd rfl (by first | exact Or.inl rfl | exact Or.inr rfl) (pe_slice (k_sl K) (pe_lc (own := [("_law_i", 16)]) (g := gName 16) rfl nd (k_pt K (pv 5)) (blkOk_by (own := [("_law_i", 16)]) (N := N_law_made_up) (sc := defScope s_law_made_up) (by decide +kernel)) (fun _ _ _ _ _ => pg_name (i := 16) nd rfl (Or.inl rfl)) (fun _ _ _ _ _ => (pts_one (pt_cmpR op_eq (pe_op op_mod (pe_call h_law_next.ok (hr.mono (by decide)) rfl h_law_next.g h_law_next.kp h_law_next.b .nil pass0 (pa_cons (pv 0) pa_nil)) pe_int) pe_int (nomark _)))) (fun _ _ _ _ _ => (pv 16))) po_none (po_some (pv 3))))
    (pss_cons (ps_setLc (i := 13) (own := [("_law_i", 16)]) (g := gName 16) rfl nd rfl rfl (sw_true rfl rfl rfl (by decide +kernel)) (k_pl K (pv 11)) (blkOk_by (own := [("_law_i", 16)]) (N := N_law_made_up) (sc := defScope s_law_made_up) (by decide +kernel)) (fun _ _ _ _ _ => pg_name (i := 16) nd rfl (Or.inl rfl)) (fun _ _ _ _ _ => (pts_one (pt_cmpR (k_in K) (pv 16) (pv 12) (by with_unfolding_all rfl)))) (fun _ _ _ _ _ => (pv 16)))
    (pss_cons (ps_setLc (i := 14) (own := [("_law_i", 16)]) (g := gName 16) rfl nd rfl rfl (sw_true rfl rfl rfl (by decide +kernel)) (k_pl K (pv 11)) (blkOk_by (own := [("_law_i", 16)]) (N := N_law_made_up) (sc := defScope s_law_made_up) (by decide +kernel)) (fun _ _ _ _ _ => pg_name (i := 16) nd rfl (Or.inl rfl)) (fun _ _ _ _ _ => (pts_one (PW.pt (pw_and (pt_cmpR (k_nin K) (pv 16) (pv 12) (by with_unfolding_all rfl)) (pw_and1 (pt_cmpR op_eq (pe_op op_mod (pe_call h_law_next.ok (hr.mono (by decide)) rfl h_law_next.g h_law_next.kp h_law_next.b .nil pass0 (pa_cons (pv 0) pa_nil)) pe_int) pe_int (nomark _))))))) (fun _ _ _ _ _ => (pv 16)))
    (pss_cons (ps_set (i := 13) nd rfl (by first | exact Or.inl rfl | exact Or.inr rfl) (pe_callB (k_srtD K (hu65 hr)) (by rfl) md.sorted (by decide +kernel) (pa_cons (pe_op op_cat (pv 13) (pe_slice (k_sl K) (pv 14) po_none (po_some (pe_op op_sub (pv 3) (pe_callB (k_len K) (by rfl) md.len PySem.boot_len (pa_cons (pv 12) pa_nil)))))) pa_nil)))
    (pss_one (ps_ret (pe_tup (pa_cons (pv 7) (pa_cons (pe_callTy (k_tuple K) (by rfl) md.tuple (by decide +kernel) (pa_cons (pv 8) pa_nil)) (pa_cons (pe_callTy (k_tuple K) (by rfl) md.tuple (by decide +kernel) (pa_cons (pv 12) pa_nil)) (pa_cons (pe_callTy (k_tuple K) (by rfl) md.tuple (by decide +kernel) (pa_cons (pv 13) pa_nil)) pa_nil)))))))))))))))), run_X h fun ds R hA => ?_⟩
    obtain ⟨l, t, rfl, o, rfl⟩ := hA
    have ol := o.nums.len
    have off := o.offl
    have oh := o.h2
    have ot := tied28 o
    have lgl := o.longl
    have len : ∀ {ρ : List Ent} {i : Nat} {xs : List Int}, ρ[i]? = some (.dat (tI xs)) → Is (tCB (rLn K) (tCons (tVar i) tNil)) ρ (.int (xs.length : Int)) := fun h => Is.to (is_lenT (is_var h)) (by rw [List.length_map])
    refine do_letT (is_var rfl) (tg_tup (tgs_cons (tgs_cons (tgs_cons (tgs_cons (tgs_cons tgs_nil)))))) ?_
    refine do_asgX1 (xp_drw (i := 0) rfl (isP_cW (p := fun x => 0 ≤ x ∧ x < t.off.length) (p1 := fun _ => True) (p2 := fun x => x = t.off.length) (c_law_next rfl) (isW_of (len rfl) rfl) (fun a b _ hb => by show (0 : Int) < b; omega) fun a b _ hb => by rw [hb]; exact ⟨Int.emod_nonneg _ (by omega), Int.emod_lt_of_pos _ (by omega)⟩)) fun d ρ' h => ?_
    obtain ⟨⟨ph, hd, hph⟩, rfl⟩ := h
    subst hd
    refine do_letN (isN_lst isA_nil) ?_
    refine do_seq (do_forTm (xs := t.nums) (enc := .int) (I := fun k ρ => ∃ ws : List Int, ρ = [drE l, .dat (dT t), .dat (tI t.nums), .dat (.int t.hands), .dat (tI t.off), .dat (tI t.long), .dat (.tuple (t.tied.map dPr)), .dat (.int ph), .own (ws.map .int), .no, .no, .no, .no, .no, .no, .no, .no] ∧ ws.length = k ∧ ∀ (i : Nat) (w n : Int), ws[i]? = some w → t.nums[i]? = some n → 1 ≤ w ∧ w ≤ n) (is_var rfl) (fun x => tg_name) ⟨_, ⟨[], rfl, rfl, fun i w n h => by simp at h⟩, Le.refl _⟩ ?_ ?_)
    · rintro k n ρ1 hk ⟨ws, rfl, wl, wm⟩
      have hn := o.nums.mem n (List.mem_of_getElem? hk)
      have kl := (List.getElem?_eq_some_iff.mp hk).1
      refine do_asgX1 (x_law_next (i := 0) rfl) fun d ρ' h => ?_
      obtain ⟨⟨dr, hd, _⟩, rfl⟩ := h
      subst hd
      obtain ⟨x, hx, hx1⟩ := wait_pick dr n hn.1
      refine do_app (i := 8) (ds := ws.map .int) (Y := fun y => y = .int x) rfl (is_ixL (n := (dr % 4).toNat) (ds := ([1 + dr / 4 % n, n, 1, if n - 1 > 1 then n - 1 else 1] : List Int).map .int) (isL_new (isN_lst (isA_cons (is_iI is_int (is_cI (is_cI (is_var rfl) is_int ⟨by decide, by decide⟩) (is_var rfl) (by show (0 : Int) < n; omega))) (isA_cons (is_var rfl) (isA_cons is_int (isA_cons (is_max is_int (is_iI (is_var rfl) is_int)) isA_nil)))))) (is_cI (is_var rfl) is_int (by show (0 : Int) < 4; decide)) (by omega) (by rw [List.getElem?_map, hx]; rfl)) (by rw [List.length_map]; omega) fun d hd => ?_
      subst hd
      refine ⟨_, ⟨ws ++ [x], rfl, by rw [List.length_append, wl]; rfl, fun i w' m hi hm => ?_⟩, rfl, rfl, rfl, rfl, rfl, rfl, rfl, rfl, ?_, True.intro⟩
      · rcases get_snoc hi with ⟨q1, q2⟩ | ⟨q1, q2⟩
        · exact wm i w' m q2 hm
        · rw [q1, wl, hk] at hm
          cases hm
          rw [q2]; exact hx1
      · rw [List.map_append]; rfl
    rintro ρ1 ⟨ws, rfl, wl, wm⟩
    refine do_letNP (isNP_sortedSet (K := K) (w := w) (ns := endsOf t) (isL_new (isN_ends (K := K) (t := t) (by omega) (is_var rfl) (notDrw_of rfl (by intro z; cases z)) (Nat.le_of_ble_eq_true rfl))) (by rw [ends_len]; omega)) fun ds hds => ?_
    obtain ⟨ms, rfl, m1, m2⟩ := hds
    have mr : ∀ k ∈ ms, 0 ≤ k ∧ k ≤ 7 := fun k hk => by
      obtain ⟨p, hp, h⟩ := (inTies_mem t k).mp ((endsOf_mem t k).mp ((m2 k).mp hk))
      have := o.tied p hp
      rcases h with h | h <;> omega
    have ml : ms.length ≤ 8 := by
      have := nodup_le (m1.imp fun h => by omega : ms.Nodup) (m := (List.range 8).map fun i : Nat => (i : Int)) fun x hx => by
        have := mr x hx
        exact List.mem_map.mpr ⟨x.toNat, List.mem_range.mpr (by omega), by omega⟩
      simpa using this
    have draw3 : ∀ {ρ : List Ent}, ρ[0]? = some .drw → IsT (tTest (tOp rEq (tOp (rI (fun _ j => 0 < j) fun i j => .int (i % j)) (tCall sp_law_next [] E0 (tCons (tVar 0) tNil)) (tC (.int 3))) (tC (.int 0)))) ρ (fun _ => True) := fun h => istP_test (isP_eqW (p1 := fun _ => True) (p2 := fun _ => True) (isP_cW (p1 := fun _ => True) (p2 := fun x => x = 3) (c_law_next h) (isW_of is_int rfl) (fun a b _ hb => by show (0 : Int) < b; rw [hb]; decide) fun _ _ _ _ => trivial) (isW_of is_int trivial))
    refine do_asgX1 (xp_drw (i := 0) rfl (isP_new (isNP_to (n := t.hands.toNat) (isNP_lcT (K := K) (j := 16) (ds := t.long.map .int) (B := fun _ _ => True) (Y := fun i y => t.long[i]? = some (match y with | .int x => x | _ => 0) ∧ ∃ x, y = .int x) (R := fun i es => ∃ bs : List Int, es = bs.map .int ∧ bs.Sublist (t.long.take i)) (is_var rfl) (by rw [List.length_map]; omega) (notDrw_of rfl (by intro z; cases z)) (fun i es ⟨bs, h1, h2⟩ => ?_) ⟨[], rfl, List.nil_sublist _⟩ (fun i x hi => draw3 rfl) (fun i x hi _ => (is_var rfl).mono fun d hd => ?_) (fun i x hi _ es y ⟨bs, h1, h2⟩ ⟨h3, z, h4⟩ => ?_) fun i x hi _ es ⟨bs, h1, h2⟩ => ?_) (Is.to (is_var rfl) ?_)))) fun d ρ' h => ?_
    · rw [h1, List.length_map]
      exact Nat.le_trans h2.length_le (List.length_take_le _ _)
    · rw [List.getElem?_map] at hi
      cases q : t.long[i]? with
      | none => rw [q] at hi; cases hi
      | some z => rw [q] at hi; cases hi; rw [hd]; exact ⟨rfl, z, rfl⟩
    · subst h4
      refine ⟨bs ++ [z], by rw [h1, List.map_append]; rfl, ?_⟩
      rw [take_succ_of h3]
      exact h2.append (List.Sublist.refl _)
    · exact ⟨bs, h1, h2.trans (List.take_sublist_take_left (Nat.le_succ _))⟩
    · congr 1; omega
    obtain ⟨⟨es, ⟨ds, ⟨bs', rfl, bsub⟩, rfl⟩, rfl⟩, rfl⟩ := h
    obtain ⟨bs, hbs⟩ : ∃ bs, bs = bs'.take t.hands.toNat := ⟨_, rfl⟩
    rw [← List.map_take, ← hbs]
    have b1 : bs.Sublist t.long := by rw [hbs]; exact ((List.take_sublist _ _).trans bsub).trans (List.take_sublist _ _)
    have b2 : (bs.length : Int) ≤ t.hands := by
      have := List.length_take_le t.hands.toNat bs'
      rw [hbs]; omega
    refine do_letN (isN_lcL (xs := ms) (enc := .int) (p := fun i => decide (i ∈ bs)) (f := .int) (isL_own rfl) (by omega) (notDrw_of rfl (by intro z; cases z)) (fun x hx => ist_test (is_inL (is_var rfl) (isL_dat (is_var rfl)))) fun x hx _ => is_var rfl) ?_
    refine do_asgX1 (xp_drw (i := 0) rfl (isP_new (isNP_lcL (K := K) (j := 16) (ds := ms.map .int) (B := fun i b => b = true → ∀ x, ms[i]? = some x → ¬ x ∈ bs) (Y := fun i y => ms[i]? = some (match y with | .int x => x | _ => 0) ∧ ∃ x, y = .int x) (R := fun i es => ∃ os : List Int, es = os.map .int ∧ os.Sublist (ms.take i) ∧ ∀ x ∈ os, ¬ x ∈ bs) (isL_own rfl) (by rw [List.length_map]; omega) (notDrw_of rfl (by intro z; cases z)) (fun i es ⟨os, h1, h2, _⟩ => ?_) ⟨[], rfl, List.nil_sublist _, fun x hx => by cases hx⟩ (fun i x hi => ?_) (fun i x hi _ => (is_var rfl).mono fun d hd => ?_) (fun i x hi hB es y ⟨os, h1, h2, h5⟩ ⟨h3, z, h4⟩ => ?_) fun i x hi _ es ⟨os, h1, h2, h5⟩ => ?_))) fun d ρ' h => ?_
    · rw [h1, List.length_map]
      exact Nat.le_trans h2.length_le (List.length_take_le _ _)
    · rw [List.getElem?_map] at hi
      cases q : ms[i]? with
      | none => rw [q] at hi; cases hi
      | some z =>
        rw [q] at hi
        cases hi
        exact (ist_andP (ist_test (is_ninL (is_var rfl) (isL_dat (is_var rfl)))) fun _ => draw3 rfl).mono fun b hb e x hx => by
          cases hx
          simpa using hb e
    · rw [List.getElem?_map] at hi
      cases q : ms[i]? with
      | none => rw [q] at hi; cases hi
      | some z => rw [q] at hi; cases hi; rw [hd]; exact ⟨rfl, z, rfl⟩
    · subst h4
      refine ⟨os ++ [z], by rw [h1, List.map_append]; rfl, ?_, fun y hy => ?_⟩
      · rw [take_succ_of h3]
        exact h2.append (List.Sublist.refl _)
      · rcases List.mem_append.mp hy with q | q
        · exact h5 y q
        · rw [List.mem_singleton.mp q]; exact hB rfl z h3
    · exact ⟨os, h1, h2.trans (List.take_sublist_take_left (Nat.le_succ _)), h5⟩
    obtain ⟨⟨es, ⟨os, rfl, osub, o2⟩, rfl⟩, rfl⟩ := h
    have o1 : os.Sublist ms := osub.trans (List.take_sublist _ _)
    obtain ⟨n, hn⟩ : ∃ n : Nat, (n : Int) = t.hands - bs.length := ⟨(t.hands - bs.length).toNat, by omega⟩
    have ofl := List.length_filter_le (fun i => decide (i ∈ bs)) ms
    have otl := List.length_take_le n os
    refine do_let (d := .list (((ms.filter (fun i => decide (i ∈ bs)) ++ os.take n).mergeSort (PySem.W.dataLe false PyData.int)).map .int)) (is_new (isN_srt (K := K) (bs := ms.filter (fun i => decide (i ∈ bs)) ++ os.take n) (enc := .int) (isL_new (IsN.to (isN_cat (isL_own rfl) (isL_new (isN_to (n := n) (isL_dat (is_var rfl)) (Is.to (is_iI (is_var rfl) (Is.to (is_lenL (isL_dat (is_var rfl))) (by rw [List.length_map]))) (by rw [hn])))) (by simp only [List.length_map, List.length_take]; omega)) (by rw [List.map_append, List.map_take]))) (PySem.W.AllAlike.of ints_alike) (.inl (PySem.W.Sortable.others fun b => ⟨(fun z => by cases z), (fun xs z => by cases z)⟩)) fun b _ => by simp [PyData.depth])) ?_
    refine do_retS (is_tup (isA_cons (is_var rfl) (isA_cons (is_tupL (isL_own rfl)) (isA_cons (is_tupL (isL_dat (is_var rfl))) (isA_cons (is_tupL (isL_dat (is_var rfl))) isA_nil))))) fun d hd => ⟨_, _, _, rfl, ⟨⟨ph, ws, bs, (ms.filter (fun i => decide (i ∈ bs)) ++ os.take n).mergeSort (PySem.W.dataLe false PyData.int)⟩, hd, ?_⟩, rfl⟩
    exact made_ok o hph ⟨wl, wm⟩ m1 m2 b1 b2 o1 o2 hn
def A_law_right (ds : List PyData) (R : PyData → Prop) : Prop := ∃ (t : Tk) (s : Sd), ds = [dT t, dS s] ∧ (TaskOk t ∧ StandOk t s) ∧ R = fun x => x = .bool true
def sp_law_right : Sp := spD A_law_right
theorem ln_law_right : ∀ ds R, A_law_right ds R → ds.length = 2 := fun ds R ⟨_, _, h, _⟩ => by rw [h]; rfl
theorem c_law_right {tx : TA} {ρ : List Ent} {t : Tk} {s : Sd} (o : TaskOk t) (os : StandOk t s) (ha : IsA tx ρ [dT t, dS s]) : Is (tCall sp_law_right [] E0 tx) ρ (.bool true) := isP_call ha ⟨t, s, rfl, ⟨o, os⟩, rfl⟩
theorem ok_law_right {P : Program} {w : World} {K : PySem.W.Frag} {mg : Str → Option Value} {base : Heap} {f : Addr} {fd : FuncData} (F : FnP K "_law_right" "_law_right" s_law_right f fd) (md : Md mg) {f_room : Addr} {fd_room : FuncData} (h_room : Has P w K mg base 12 "room" ["task"] sp_room f_room fd_room) {f_law_behind_it : Addr} {fd_law_behind_it : FuncData} (h_law_behind_it : Has P w K mg base 2 "_law_behind_it" ["_law_task_here", "_law_stand"] sp_law_behind_it f_law_behind_it fd_law_behind_it) {f_answer : Addr} {fd_answer : FuncData} (h_answer : Has P w K mg base 12 "answer" ["task", "stand"] sp_answer f_answer fd_answer) {f_holds : Addr} {fd_holds : FuncData} (h_holds : Has P w K mg base 12 "holds" ["task", "stand", "answer"] sp_holds f_holds fd_holds) {f_is_answer : Addr} {fd_is_answer : FuncData} (h_is_answer : Has P w K mg base 12 "is_answer" ["task", "thing"] sp_is_answer f_is_answer fd_is_answer) : FnOk P w K mg base CX0 13 f fd ["_law_task_here", "_law_stand"] sp_law_right := by
  refine FunD.ok F sc_law_right (fun vs H Q E h => len_D (fun ds R hA => ?_) h) (fun cdv A outer s H vs Q E hr h => ?_)
  · exact ln_law_right ds R hA
  · have nd := sc_law_right.nd
    refine ⟨_, PSs.nox (pss_cons (ps_set (i := 2) nd rfl (by first | exact Or.inl rfl | exact Or.inr rfl) (pe_call h_room.ok (hr.mono (by decide)) rfl h_room.g h_room.kp h_room.b .nil pass0 (pa_cons (pv 0) pa_nil)))
    (pss_cons (ps_if (pt_cmpR op_gt (pe_call h_law_behind_it.ok (hr.mono (by decide)) rfl h_law_behind_it.g h_law_behind_it.kp h_law_behind_it.b .nil pass0 (pa_cons (pv 0) (pa_cons (pv 1) pa_nil))) (pv 2) (nomark _))
    (pss_one (ps_ret pe_bl))
    pss_nil)
    (pss_cons (ps_set (i := 3) nd rfl (by first | exact Or.inl rfl | exact Or.inr rfl) (pe_call h_answer.ok (hr.mono (by decide)) rfl h_answer.g h_answer.kp h_answer.b .nil pass0 (pa_cons (pv 0) (pa_cons (pv 1) pa_nil))))
    (pss_one (ps_ret (pe_and (pe_cmpR op_isBl (pe_call h_is_answer.ok (hr.mono (by decide)) rfl h_is_answer.g h_is_answer.kp h_is_answer.b .nil pass0 (pa_cons (pv 0) (pa_cons (pv 3) pa_nil))) pe_bl (nomark _)) (pe_one (pe_cmpR op_isBl (pe_call h_holds.ok (hr.mono (by decide)) rfl h_holds.g h_holds.kp h_holds.b .nil pass0 (pa_cons (pv 0) (pa_cons (pv 1) (pa_cons (pv 3) pa_nil)))) pe_bl (nomark _))))))))), run_D h fun ds R hA => ?_⟩
    obtain ⟨t, s, rfl, ⟨o, os⟩, rfl⟩ := hA
    refine do_let (c_room o (isA_cons (is_var rfl) isA_nil)) ?_
    refine do_seq (do_ifP (B := fun b => b = false) ?_ (fun e => by cases e) fun _ => do_next ?_)
    · intro σ G H En Q q
      refine c_law_behind_it o os (isA_cons (is_var rfl) (isA_cons (is_var rfl) isA_nil)) σ G H En _ fun v d G1 H1 ⟨n, hd, hn⟩ n1 hv => ?_
      subst hd
      cases hv
      refine is_var (d := .int (roomI t)) (i := 2) rfl σ G1 H1 n1.e _ fun u e G2 H2 he n2 hu => ?_
      subst he
      cases hu
      refine ⟨n, roomI t, rfl, rfl, _, rfl, q _ G2 H2 ?_ (n1.trans n2)⟩
      exact decide_eq_false (by omega)
    refine do_letP (c_answer o os (isA_cons (is_var rfl) (isA_cons (is_var rfl) isA_nil))) fun d hd => ?_
    obtain ⟨a, rfl, g1, g2⟩ := hd
    refine do_retD (Is.to (e := .bool true) (is_andV (is_isBl (c_is_answer o g1 (isA_cons (is_var rfl) (isA_cons (is_var rfl) isA_nil))) is_bl) fun _ => is_isBl (c_holds o os g1 (isA_cons (is_var rfl) (isA_cons (is_var rfl) (isA_cons (is_var rfl) isA_nil)))) is_bl) (by rw [g2]; rfl)) rfl
def spLaw (K : PySem.W.Frag) : Sp := fun vs H Q _ => ∃ (a : Addr) (ns : List Int), vs = [.ref a] ∧ SqL K H a (ns.map V.int) ∧ ∀ H', Q (.bl true) H'
theorem scr_env {K : PySem.W.Frag} {H : Hp} {a : Addr} {ns : List Int} (hs : SqL K H a (ns.map V.int)) : ∃ G : Hp, Ex G H ∧ SqL K G a (ns.map V.int) := by
  have ex : Ex (fun b => if b = a then H a else none) H := fun b o e => by
    by_cases c : b = a
    · subst c; simpa using e
    · simp [c] at e
  rcases hs with (h | ⟨o, h⟩) | h
  · exact ⟨_, ex, .inl (.inl (by simpa using h))⟩
  · exact ⟨_, ex, .inl (.inr ⟨o, by simpa using h⟩)⟩
  · exact ⟨_, ex, .inr h⟩
def A_law (ns : List Int) (ds : List PyData) (R : PyData → Prop) : Prop := ds = [] ∧ R = fun x => x = .bool true
def sp_law (K : PySem.W.Frag) : Sp := spS K A_law
theorem ln_law : ∀ ns ds R, A_law ns ds R → ds.length = 0 := fun ns ds R ⟨h, _⟩ => by rw [h]; rfl
theorem law_in {K : PySem.W.Frag} {vs : List V} {H : Hp} {Q : VK} {E : XK} (h : spLaw K vs H Q E) : sp_law K vs H Q E := by
  obtain ⟨a, ns, rfl, hs, q⟩ := h
  obtain ⟨G, e, hg⟩ := scr_env hs
  refine ⟨G, a, [], ns, [], _, rfl, e, hg, .nil, ⟨rfl, rfl⟩, fun v d G' H' hd w hv => ?_⟩
  subst hd
  cases hv
  exact q H'
theorem first_ok {t : Tk} (o : TaskOk t) : StandOk t ⟨0, t.nums, [], []⟩ := by
  have := o.offl
  have oh := o.h2
  refine ⟨⟨Int.le_refl _, by show (0 : Int) < t.off.length; omega⟩, ⟨rfl, fun i w n h1 h2 => ?_⟩, ⟨rfl, by simp; omega, fun i hi => by cases hi⟩, ⟨rfl, by simp; omega, fun i hi => by cases hi⟩, by simp; omega, fun i hi => by cases hi⟩
  have h1 : t.nums[i]? = some w := h1
  rw [h1] at h2
  cases h2
  exact ⟨(o.nums.mem w (List.mem_of_getElem? h1)).1, Int.le_refl _⟩
theorem ok_law {P : Program} {w : World} {K : PySem.W.Frag} {mg : Str → Option Value} {base : Heap} {f : Addr} {fd : FuncData} (F : FnP K "law" "law" s_law f fd) (md : Md mg) {f_law_draws : Addr} {fd_law_draws : FuncData} (h_law_draws : Has P w K mg base 2 "_law_draws" ["_law_script", "_law_at", "_law_many"] (sp_law_draws K) f_law_draws fd_law_draws) {f_law_task : Addr} {fd_law_task : FuncData} (h_law_task : Has P w K mg base 3 "_law_task" ["_law_draws_here", "_law_most"] sp_law_task f_law_task fd_law_task) {f_law_made_up : Addr} {fd_law_made_up : FuncData} (h_law_made_up : Has P w K mg base 2 "_law_made_up" ["_law_draws_here", "_law_task_here"] sp_law_made_up f_law_made_up fd_law_made_up) {f_law_right : Addr} {fd_law_right : FuncData} (h_law_right : Has P w K mg base 13 "_law_right" ["_law_task_here", "_law_stand"] sp_law_right f_law_right fd_law_right) : FnOk P w K mg base CX0 14 f fd ["_law_script"] (sp_law K) := by
  refine FunD.ok F sc_law (fun vs H Q E h => len_S (fun ns ds R hA => ?_) h) (fun cdv A outer s H vs Q E hr h => ?_)
  · exact ln_law ns ds R hA
  · have nd := sc_law.nd
    refine ⟨_, PSs.nox (pss_cons (ps_for PassesOwn.never rfl (pi_range1 (by rfl) md.range (pa_cons pe_int pa_nil)) (pg_name (i := 1) nd rfl (by first | exact Or.inl rfl | exact Or.inr rfl))
    (pss_cons (ps_set (i := 2) nd rfl (by first | exact Or.inl rfl | exact Or.inr rfl) (pe_op op_cat (pe_call h_law_draws.ok (hr.mono (by decide)) rfl h_law_draws.g h_law_draws.kp h_law_draws.b .nil pass0 (pa_cons (pv 0) (pa_cons (pe_op op_add (pv 1) pe_int) (pa_cons pe_int pa_nil)))) (pe_call h_law_draws.ok (hr.mono (by decide)) rfl h_law_draws.g h_law_draws.kp h_law_draws.b .nil pass0 (pa_cons (pv 0) (pa_cons (pv 1) (pa_cons pe_int pa_nil))))))
    (pss_cons (ps_set (i := 3) nd rfl (by first | exact Or.inl rfl | exact Or.inr rfl) (pe_call h_law_task.ok (hr.mono (by decide)) rfl h_law_task.g h_law_task.kp h_law_task.b .nil pass0 (pa_cons (pv 2) (pa_cons pe_int pa_nil))))
    (pss_one (ps_for PassesOwn.never rfl (k_pl K (pe_lst (pa_cons (pe_tup (pa_cons pe_int (pa_cons (pe_ix (kx_T K) (pv 3) pe_int (fun _ _ => rfl)) (pa_cons (pe_tup pa_nil) (pa_cons (pe_tup pa_nil) pa_nil))))) (pa_cons (pe_call h_law_made_up.ok (hr.mono (by decide)) rfl h_law_made_up.g h_law_made_up.kp h_law_made_up.b .nil pass0 (pa_cons (pv 2) (pa_cons (pv 3) pa_nil))) (pa_cons (pe_call h_law_made_up.ok (hr.mono (by decide)) rfl h_law_made_up.g h_law_made_up.kp h_law_made_up.b .nil pass0 (pa_cons (pv 2) (pa_cons (pv 3) pa_nil))) pa_nil))))) (pg_name (i := 4) nd rfl (by first | exact Or.inl rfl | exact Or.inr rfl))
    (pss_one (ps_if (pt_not (pt_val (pe_call h_law_right.ok (hr.mono (by decide)) rfl h_law_right.g h_law_right.kp h_law_right.b .nil pass0 (pa_cons (pv 3) (pa_cons (pv 4) pa_nil)))))
    (pss_one (ps_ret pe_bl))
    pss_nil)))))))
    (pss_one (ps_ret pe_bl))), run_S h fun a ns ds R hA => ?_⟩
    obtain ⟨rfl, rfl⟩ := hA
    refine do_seq (do_forR1 (m := 3) (n := 3) (I := fun k ρ => ρ = [scE K a ns, .no, .no, .no, .no]) (isA_cons is_int isA_nil) rfl (by decide) ⟨_, rfl, Le.refl _⟩ ?_ ?_)
    · rintro k ρ1 hk rfl
      refine do_seq (do_asgDr ((?_ : IsNP _ _ _)) fun l => ?_)
      · intro σ G H En Q q
        refine c_law_draws (i := 0) (k := (k : Int) + 5) (m := 40) rfl (by omega) (isA_cons (is_iI (is_var rfl) is_int) (isA_cons is_int isA_nil)) σ G H En _ fun p xs ds G1 H1 hds n1 hp gp h1 h2 => ?_
        obtain ⟨n1s, rfl, l1⟩ := hds
        refine c_law_draws (i := 0) (k := (k : Int)) (m := 60) rfl (by omega) (isA_cons (is_var rfl) (isA_cons is_int isA_nil)) σ G1 H1 n1.e _ fun p2 xs2 ds2 G2 H2 hds2 n2 hp2 gp2 h3 h4 => ?_
        obtain ⟨n2s, rfl, l2⟩ := hds2
        have np : ¬ Sdr [scE K a ns, .dat (.int (k : Int)), .no, .no, .no] σ p := fun z => (En.not_sdr z).2 hp
        have e1 := n2.at np h1
        refine ⟨p, p2, xs, xs2, rfl, rfl, e1, h3, ?_, fun r hr => ?_⟩
        · rw [h2.length, h4.length, List.length_map, List.length_map]; exact sz_of (by omega)
        · have m := Nx.newH (o := .lst (xs ++ xs2)) n2.e hr
          refine q r _ ((n1s ++ n2s).map .int) _ _ ⟨_, rfl⟩ ((n1.trans n2).trans m) ?_ (ex_none n2.e.ex hr) upd_same ?_
          · cases z : H r with
            | none => rfl
            | some o => exact absurd hr ((n1.trans n2).w.d r (ex_not z))
          · rw [List.map_append]; exact (h2.up n2.w.g).app h4
      refine do_asgX1 (x_law_task (i := 2) rfl (isA_cons is_int isA_nil)) fun d ρ' h => ?_
      obtain ⟨⟨t, hd, o⟩, rfl⟩ := h
      subst hd
      refine do_forLX (Wp := fun ss => ∀ x ∈ ss, StandOk t x) (enc := dS) (I := fun ss j ρ => ρ = [scE K a ns, .dat (.int (k : Int)), drE l, .dat (dT t), .no]) (xp_drw (i := 2) rfl ((isP_new (isNP_lstA (isAP_cons (Y := isStand t) ((is_tup (isA_cons is_int (isA_cons (is_ixT (n := 0) (is_var rfl) is_int rfl rfl) (isA_cons (is_tup isA_nil) (isA_cons (is_tup isA_nil) isA_nil))))).mono fun d hd => ⟨⟨0, t.nums, [], []⟩, hd, first_ok o⟩) (isAP_cons (c_law_made_up o rfl (isA_cons (is_var rfl) isA_nil)) (isAP_cons (c_law_made_up o rfl (isA_cons (is_var rfl) isA_nil)) isAP_nil))) fun ds h => ?_)).mono fun d hd => ?_)) (fun x => tg_name) (fun ss hss => ⟨_, rfl, Le.refl _⟩) ?_ ?_
      · obtain ⟨_, _, _, ⟨_, _, _, ⟨_, _, _, h, rfl⟩, rfl⟩, rfl⟩ := h
        rw [h]; exact Nat.le_of_ble_eq_true rfl
      · obtain ⟨ds, ⟨_, _, ⟨s1, rfl, o1⟩, ⟨_, _, ⟨s2, rfl, o2⟩, ⟨_, _, ⟨s3, rfl, o3⟩, rfl, rfl⟩, rfl⟩, rfl⟩, rfl⟩ := hd
        refine ⟨[s1, s2, s3], rfl, fun x hx => ?_⟩
        simp only [List.mem_cons, List.not_mem_nil, or_false] at hx
        rcases hx with h | h | h <;> subst h <;> assumption
      · rintro ss hss j x ρ1 hj rfl
        have ox := hss x (List.mem_of_getElem? hj)
        exact do_if (b := false) (ist_not (x := true) (ist_B (c_law_right o ox (isA_cons (is_var rfl) (isA_cons (is_var rfl) isA_nil))))) (fun e => by cases e) fun _ => do_next ⟨_, rfl, rfl, rfl, rfl, rfl, True.intro⟩
      · rintro ss hss ρ1 rfl
        exact ⟨_, rfl, rfl, True.intro⟩
    · rintro ρ1 rfl
      exact do_retD is_bl rfl
end W36
end
section
set_option Elab.async false
set_option linter.all false
set_option maxRecDepth 100000
set_option maxHeartbeats 4000000
namespace W36
open PySem PySem.Spec PyProof.Rows L2 W36H
section
variable {P : Program} {w : World} {K : PySem.W.Frag} {h : Heap} {mg : Str → Option Value} {base : Heap}
theorem h_md (X : K.In h) (G : h.Ns mainGlobals mg) (c : He.SaysD fa fn K) : Md mg := ⟨He.free_ok X G (c.fact 67 (f := .free "isinstance") rfl), He.free_ok X G (c.fact 68 (f := .free "int") rfl), He.free_ok X G (c.fact 69 (f := .free "bool") rfl), He.free_ok X G (c.fact 70 (f := .free "list") rfl), He.free_ok X G (c.fact 71 (f := .free "tuple") rfl), He.free_ok X G (c.fact 72 (f := .free "len") rfl), He.free_ok X G (c.fact 73 (f := .free "enumerate") rfl), He.free_ok X G (c.fact 74 (f := .free "range") rfl), He.free_ok X G (c.fact 75 (f := .free "all") rfl), He.free_ok X G (c.fact 76 (f := .free "any") rfl), He.free_ok X G (c.fact 77 (f := .free "sorted") rfl), He.free_ok X G (c.fact 78 (f := .free "set") rfl), He.free_ok X G (c.fact 79 (f := .free "max") rfl), He.free_ok X G (c.fact 80 (f := .free "str") rfl), He.free_ok X G (c.fact 81 (f := .free "sum") rfl), He.int_ok X G (c.fact 82 (f := .int "MOST_THINGS" 8) rfl), He.int_ok X G (c.fact 83 (f := .int "GREATEST" 40) rfl), He.int_ok X G (c.fact 84 (f := .int "MOST_OFF" 7) rfl), He.int_ok X G (c.fact 85 (f := .int "MOST_HANDS" 2) rfl), He.int_ok X G (c.fact 86 (f := .int "PARTS" 5) rfl), He.int_ok X G (c.fact 87 (f := .int "MOST_DAYS" 1000000) rfl), He.int_ok X G (c.fact 88 (f := .int "MOST" 3000) rfl), He.int_ok X G (c.fact 89 (f := .int "MOST_ON_A_DAY" 2) rfl), He.int_ok X G (c.fact 90 (f := .int "LONGEST" 4000) rfl), He.int_ok X G (c.fact 91 (f := .int "MOST_LEAD" 4000) rfl), He.int_ok X G (c.fact 92 (f := .int "MOST_STANDS" 4000) rfl)⟩
theorem h_ocHeights (X : K.In h) (G : h.Ns mainGlobals mg) (c : He.SaysD fa fn K) : OcH K (He.ga K "Heights") := ⟨He.cls_ok (c.fact 94 (f := .cls "Heights") rfl), He.noat_ok (c.fact 96 (f := .noat "Heights" "rows") rfl)⟩
theorem h_ocWalk (X : K.In h) (G : h.Ns mainGlobals mg) (c : He.SaysD fa fn K) : OcW K (He.ga K "Walk") := ⟨He.cls_ok (c.fact 101 (f := .cls "Walk") rfl), He.noat_ok (c.fact 103 (f := .noat "Walk" "of") rfl), He.noat_ok (c.fact 104 (f := .noat "Walk" "way") rfl), He.noat_ok (c.fact 105 (f := .noat "Walk" "choices") rfl), He.noat_ok (c.fact 106 (f := .noat "Walk" "taken") rfl), He.noat_ok (c.fact 107 (f := .noat "Walk" "places") rfl), He.noat_ok (c.fact 108 (f := .noat "Walk" "over") rfl)⟩
theorem h_law_cell (X : K.In h) (G : h.Ns mainGlobals mg) (c : He.SaysD fa fn K) : ∃ fd, Has P w K mg base 1 "_law_cell" ["_law_script", "_law_k"] (sp_law_cell K) (He.fAd K d_law_cell.at_) fd := by
  obtain ⟨fd, F⟩ := c.def_ 63 (d := d_law_cell) rfl
  have b : Binds K fd ["_law_script", "_law_k"] [] := F.bindsN fun _ _ _ _ _ _ us hl => match us, hl with | [_, _], _ => rfl
  exact ⟨fd, ok_law_cell F (h_md X G c), He.glo_ok X G (c.fact 54 (f := .glo "_law_cell") rfl), F.kp, b⟩
theorem h_law_draws (X : K.In h) (G : h.Ns mainGlobals mg) (c : He.SaysD fa fn K) : ∃ fd, Has P w K mg base 2 "_law_draws" ["_law_script", "_law_at", "_law_many"] (sp_law_draws K) (He.fAd K d_law_draws.at_) fd := by
  obtain ⟨_, h_law_cell⟩ := W36.h_law_cell (P := P) (w := w) (base := base) X G c
  obtain ⟨fd, F⟩ := c.def_ 64 (d := d_law_draws) rfl
  have b : Binds K fd ["_law_script", "_law_at", "_law_many"] [] := F.bindsN fun _ _ _ _ _ _ us hl => match us, hl with | [_, _, _], _ => rfl
  exact ⟨fd, ok_law_draws F (h_md X G c) h_law_cell, He.glo_ok X G (c.fact 55 (f := .glo "_law_draws") rfl), F.kp, b⟩
theorem h_law_next (X : K.In h) (G : h.Ns mainGlobals mg) (c : He.SaysD fa fn K) : ∃ fd, Has P w K mg base 1 "_law_next" ["_law_draws_here"] sp_law_next (He.fAd K d_law_next.at_) fd := by
  obtain ⟨fd, F⟩ := c.def_ 65 (d := d_law_next) rfl
  have b : Binds K fd ["_law_draws_here"] [] := F.bindsN fun _ _ _ _ _ _ us hl => match us, hl with | [_], _ => rfl
  exact ⟨fd, ok_law_next F (h_md X G c), He.glo_ok X G (c.fact 56 (f := .glo "_law_next") rfl), F.kp, b⟩
theorem h_law_off (X : K.In h) (G : h.Ns mainGlobals mg) (c : He.SaysD fa fn K) : ∃ fd, Has P w K mg base 2 "_law_off" ["_law_draws_here", "_law_left"] sp_law_off (He.fAd K d_law_off.at_) fd := by
  obtain ⟨_, h_law_next⟩ := W36.h_law_next (P := P) (w := w) (base := base) X G c
  obtain ⟨fd, F⟩ := c.def_ 68 (d := d_law_off) rfl
  have b : Binds K fd ["_law_draws_here", "_law_left"] [] := F.bindsN fun _ _ _ _ _ _ us hl => match us, hl with | [_, _], _ => rfl
  exact ⟨fd, ok_law_off F (h_md X G c) h_law_next, He.glo_ok X G (c.fact 59 (f := .glo "_law_off") rfl), F.kp, b⟩
theorem h_law_long (X : K.In h) (G : h.Ns mainGlobals mg) (c : He.SaysD fa fn K) : ∃ fd, Has P w K mg base 2 "_law_long" ["_law_draws_here", "_law_many"] sp_law_long (He.fAd K d_law_long.at_) fd := by
  obtain ⟨_, h_law_next⟩ := W36.h_law_next (P := P) (w := w) (base := base) X G c
  obtain ⟨fd, F⟩ := c.def_ 66 (d := d_law_long) rfl
  have b : Binds K fd ["_law_draws_here", "_law_many"] [] := F.bindsN fun _ _ _ _ _ _ us hl => match us, hl with | [_, _], _ => rfl
  exact ⟨fd, ok_law_long F (h_md X G c) h_law_next, He.glo_ok X G (c.fact 57 (f := .glo "_law_long") rfl), F.kp, b⟩
theorem h_law_tied (X : K.In h) (G : h.Ns mainGlobals mg) (c : He.SaysD fa fn K) : ∃ fd, Has P w K mg base 2 "_law_tied" ["_law_draws_here", "_law_many"] sp_law_tied (He.fAd K d_law_tied.at_) fd := by
  obtain ⟨_, h_law_next⟩ := W36.h_law_next (P := P) (w := w) (base := base) X G c
  obtain ⟨fd, F⟩ := c.def_ 67 (d := d_law_tied) rfl
  have b : Binds K fd ["_law_draws_here", "_law_many"] [] := F.bindsN fun _ _ _ _ _ _ us hl => match us, hl with | [_, _], _ => rfl
  exact ⟨fd, ok_law_tied F (h_md X G c) h_law_next, He.glo_ok X G (c.fact 58 (f := .glo "_law_tied") rfl), F.kp, b⟩
theorem h_law_task (X : K.In h) (G : h.Ns mainGlobals mg) (c : He.SaysD fa fn K) : ∃ fd, Has P w K mg base 3 "_law_task" ["_law_draws_here", "_law_most"] sp_law_task (He.fAd K d_law_task.at_) fd := by
  obtain ⟨_, h_law_next⟩ := W36.h_law_next (P := P) (w := w) (base := base) X G c
  obtain ⟨_, h_law_off⟩ := W36.h_law_off (P := P) (w := w) (base := base) X G c
  obtain ⟨_, h_law_long⟩ := W36.h_law_long (P := P) (w := w) (base := base) X G c
  obtain ⟨_, h_law_tied⟩ := W36.h_law_tied (P := P) (w := w) (base := base) X G c
  obtain ⟨fd, F⟩ := c.def_ 69 (d := d_law_task) rfl
  have b : Binds K fd ["_law_draws_here", "_law_most"] [] := F.bindsN fun _ _ _ _ _ _ us hl => match us, hl with | [_, _], _ => rfl
  exact ⟨fd, ok_law_task F (h_md X G c) h_law_next h_law_off h_law_long h_law_tied, He.glo_ok X G (c.fact 60 (f := .glo "_law_task") rfl), F.kp, b⟩
theorem h_law_made_up (X : K.In h) (G : h.Ns mainGlobals mg) (c : He.SaysD fa fn K) : ∃ fd, Has P w K mg base 2 "_law_made_up" ["_law_draws_here", "_law_task_here"] sp_law_made_up (He.fAd K d_law_made_up.at_) fd := by
  obtain ⟨_, h_law_next⟩ := W36.h_law_next (P := P) (w := w) (base := base) X G c
  obtain ⟨fd, F⟩ := c.def_ 72 (d := d_law_made_up) rfl
  have b : Binds K fd ["_law_draws_here", "_law_task_here"] [] := F.bindsN fun _ _ _ _ _ _ us hl => match us, hl with | [_, _], _ => rfl
  exact ⟨fd, ok_law_made_up F (h_md X G c) h_law_next, He.glo_ok X G (c.fact 63 (f := .glo "_law_made_up") rfl), F.kp, b⟩
theorem h_many_busy (X : K.In h) (G : h.Ns mainGlobals mg) (c : He.SaysD fa fn K) : ∃ fd, Has P w K mg base 1 "many_busy" ["many", "hands"] sp_many_busy (He.fAd K d_many_busy.at_) fd := by
  obtain ⟨fd, F⟩ := c.def_ 16 (d := d_many_busy) rfl
  have b : Binds K fd ["many", "hands"] [] := F.bindsN fun _ _ _ _ _ _ us hl => match us, hl with | [_, _], _ => rfl
  exact ⟨fd, ok_many_busy F (h_md X G c), He.glo_ok X G (c.fact 16 (f := .glo "many_busy") rfl), F.kp, b⟩
theorem h_stands_room (X : K.In h) (G : h.Ns mainGlobals mg) (c : He.SaysD fa fn K) : ∃ fd, Has P w K mg base 2 "stands_room" ["task"] sp_stands_room (He.fAd K d_stands_room.at_) fd := by
  obtain ⟨_, h_many_busy⟩ := W36.h_many_busy (P := P) (w := w) (base := base) X G c
  obtain ⟨fd, F⟩ := c.def_ 17 (d := d_stands_room) rfl
  have b : Binds K fd ["task"] [] := F.bindsN fun _ _ _ _ _ _ us hl => match us, hl with | [_], _ => rfl
  exact ⟨fd, ok_stands_room F (h_md X G c) h_many_busy, He.glo_ok X G (c.fact 17 (f := .glo "stands_room") rfl), F.kp, b⟩
theorem h_is_row (X : K.In h) (G : h.Ns mainGlobals mg) (c : He.SaysD fa fn K) : ∃ fd, Has P w K mg base 1 "is_row" ["thing"] sp_is_row (He.fAd K d_is_row.at_) fd := by
  obtain ⟨fd, F⟩ := c.def_ 1 (d := d_is_row) rfl
  have b : Binds K fd ["thing"] [] := F.bindsN fun _ _ _ _ _ _ us hl => match us, hl with | [_], _ => rfl
  exact ⟨fd, ok_is_row F (h_md X G c), He.glo_ok X G (c.fact 1 (f := .glo "is_row") rfl), F.kp, b⟩
theorem h_is_whole (X : K.In h) (G : h.Ns mainGlobals mg) (c : He.SaysD fa fn K) : ∃ fd, Has P w K mg base 1 "is_whole" ["thing", "least", "most"] sp_is_whole (He.fAd K d_is_whole.at_) fd := by
  obtain ⟨fd, F⟩ := c.def_ 0 (d := d_is_whole) rfl
  have b : Binds K fd ["thing", "least", "most"] [] := F.bindsN fun _ _ _ _ _ _ us hl => match us, hl with | [_, _, _], _ => rfl
  exact ⟨fd, ok_is_whole F (h_md X G c), He.glo_ok X G (c.fact 0 (f := .glo "is_whole") rfl), F.kp, b⟩
theorem h_is_off (X : K.In h) (G : h.Ns mainGlobals mg) (c : He.SaysD fa fn K) : ∃ fd, Has P w K mg base 2 "is_off" ["thing"] sp_is_off (He.fAd K d_is_off.at_) fd := by
  obtain ⟨_, h_is_row⟩ := W36.h_is_row (P := P) (w := w) (base := base) X G c
  obtain ⟨_, h_is_whole⟩ := W36.h_is_whole (P := P) (w := w) (base := base) X G c
  obtain ⟨fd, F⟩ := c.def_ 9 (d := d_is_off) rfl
  have b : Binds K fd ["thing"] [] := F.bindsN fun _ _ _ _ _ _ us hl => match us, hl with | [_], _ => rfl
  exact ⟨fd, ok_is_off F (h_md X G c) h_is_row h_is_whole, He.glo_ok X G (c.fact 9 (f := .glo "is_off") rfl), F.kp, b⟩
theorem h_is_numbers (X : K.In h) (G : h.Ns mainGlobals mg) (c : He.SaysD fa fn K) : ∃ fd, Has P w K mg base 2 "is_numbers" ["thing"] sp_is_numbers (He.fAd K d_is_numbers.at_) fd := by
  obtain ⟨_, h_is_row⟩ := W36.h_is_row (P := P) (w := w) (base := base) X G c
  obtain ⟨_, h_is_whole⟩ := W36.h_is_whole (P := P) (w := w) (base := base) X G c
  obtain ⟨fd, F⟩ := c.def_ 4 (d := d_is_numbers) rfl
  have b : Binds K fd ["thing"] [] := F.bindsN fun _ _ _ _ _ _ us hl => match us, hl with | [_], _ => rfl
  exact ⟨fd, ok_is_numbers F (h_md X G c) h_is_row h_is_whole, He.glo_ok X G (c.fact 4 (f := .glo "is_numbers") rfl), F.kp, b⟩
theorem h_is_rising (X : K.In h) (G : h.Ns mainGlobals mg) (c : He.SaysD fa fn K) : ∃ fd, Has P w K mg base 2 "is_rising" ["thing", "least", "most"] sp_is_rising (He.fAd K d_is_rising.at_) fd := by
  obtain ⟨_, h_is_row⟩ := W36.h_is_row (P := P) (w := w) (base := base) X G c
  obtain ⟨_, h_is_whole⟩ := W36.h_is_whole (P := P) (w := w) (base := base) X G c
  obtain ⟨fd, F⟩ := c.def_ 2 (d := d_is_rising) rfl
  have b : Binds K fd ["thing", "least", "most"] [] := F.bindsN fun _ _ _ _ _ _ us hl => match us, hl with | [_, _, _], _ => rfl
  exact ⟨fd, ok_is_rising F (h_md X G c) h_is_row h_is_whole, He.glo_ok X G (c.fact 2 (f := .glo "is_rising") rfl), F.kp, b⟩
theorem h_is_pair (X : K.In h) (G : h.Ns mainGlobals mg) (c : He.SaysD fa fn K) : ∃ fd, Has P w K mg base 3 "is_pair" ["thing", "many"] sp_is_pair (He.fAd K d_is_pair.at_) fd := by
  obtain ⟨_, h_is_rising⟩ := W36.h_is_rising (P := P) (w := w) (base := base) X G c
  obtain ⟨fd, F⟩ := c.def_ 10 (d := d_is_pair) rfl
  have b : Binds K fd ["thing", "many"] [] := F.bindsN fun _ _ _ _ _ _ us hl => match us, hl with | [_, _], _ => rfl
  exact ⟨fd, ok_is_pair F (h_md X G c) h_is_rising, He.glo_ok X G (c.fact 10 (f := .glo "is_pair") rfl), F.kp, b⟩
theorem h_told_rows (X : K.In h) (G : h.Ns mainGlobals mg) (c : He.SaysD fa fn K) : ∃ fd, Has P w K mg base 8 "told_rows" ["thing"] sp_told_rows (He.fAd K d_told_rows.at_) fd := by
  obtain ⟨_, h_is_row⟩ := W36.h_is_row (P := P) (w := w) (base := base) X G c
  obtain ⟨fd, F⟩ := c.def_ 3 (d := d_told_rows) rfl
  have b : Binds K fd ["thing"] [] := F.bindsN fun _ _ _ _ _ _ us hl => match us, hl with | [_], _ => rfl
  exact ⟨fd, ok_told F (h_md X G c) (He.glo_ok X G (c.fact 3 (f := .glo "told_rows") rfl)) b h_is_row 7, He.glo_ok X G (c.fact 3 (f := .glo "told_rows") rfl), F.kp, b⟩
theorem h_are_pairs (X : K.In h) (G : h.Ns mainGlobals mg) (c : He.SaysD fa fn K) : ∃ fd, Has P w K mg base 9 "are_pairs" ["thing", "many"] sp_are_pairs (He.fAd K d_are_pairs.at_) fd := by
  obtain ⟨_, h_is_pair⟩ := W36.h_is_pair (P := P) (w := w) (base := base) X G c
  obtain ⟨_, h_is_row⟩ := W36.h_is_row (P := P) (w := w) (base := base) X G c
  obtain ⟨_, h_told_rows⟩ := W36.h_told_rows (P := P) (w := w) (base := base) X G c
  obtain ⟨fd, F⟩ := c.def_ 11 (d := d_are_pairs) rfl
  have b : Binds K fd ["thing", "many"] [] := F.bindsN fun _ _ _ _ _ _ us hl => match us, hl with | [_, _], _ => rfl
  exact ⟨fd, ok_are_pairs F (h_md X G c) h_is_pair h_is_row h_told_rows, He.glo_ok X G (c.fact 11 (f := .glo "are_pairs") rfl), F.kp, b⟩
theorem h_is_task (X : K.In h) (G : h.Ns mainGlobals mg) (c : He.SaysD fa fn K) : ∃ fd, Has P w K mg base 10 "is_task" ["thing"] sp_is_task (He.fAd K d_is_task.at_) fd := by
  obtain ⟨_, h_is_row⟩ := W36.h_is_row (P := P) (w := w) (base := base) X G c
  obtain ⟨_, h_is_off⟩ := W36.h_is_off (P := P) (w := w) (base := base) X G c
  obtain ⟨_, h_is_whole⟩ := W36.h_is_whole (P := P) (w := w) (base := base) X G c
  obtain ⟨_, h_is_numbers⟩ := W36.h_is_numbers (P := P) (w := w) (base := base) X G c
  obtain ⟨_, h_are_pairs⟩ := W36.h_are_pairs (P := P) (w := w) (base := base) X G c
  obtain ⟨_, h_is_rising⟩ := W36.h_is_rising (P := P) (w := w) (base := base) X G c
  obtain ⟨fd, F⟩ := c.def_ 12 (d := d_is_task) rfl
  have b : Binds K fd ["thing"] [] := F.bindsN fun _ _ _ _ _ _ us hl => match us, hl with | [_], _ => rfl
  exact ⟨fd, ok_is_task F (h_md X G c) h_is_row h_is_off h_is_whole h_is_numbers h_are_pairs h_is_rising, He.glo_ok X G (c.fact 12 (f := .glo "is_task") rfl), F.kp, b⟩
theorem h_asked_task (X : K.In h) (G : h.Ns mainGlobals mg) (c : He.SaysD fa fn K) : ∃ fd, Has P w K mg base 11 "asked_task" ["thing"] sp_asked_task (He.fAd K d_asked_task.at_) fd := by
  obtain ⟨_, h_is_task⟩ := W36.h_is_task (P := P) (w := w) (base := base) X G c
  obtain ⟨_, h_told_rows⟩ := W36.h_told_rows (P := P) (w := w) (base := base) X G c
  obtain ⟨fd, F⟩ := c.def_ 13 (d := d_asked_task) rfl
  have b : Binds K fd ["thing"] [] := F.bindsN fun _ _ _ _ _ _ us hl => match us, hl with | [_], _ => rfl
  exact ⟨fd, ok_asked_task F (h_md X G c) h_is_task h_told_rows, He.glo_ok X G (c.fact 13 (f := .glo "asked_task") rfl), F.kp, b⟩
theorem h_room (X : K.In h) (G : h.Ns mainGlobals mg) (c : He.SaysD fa fn K) : ∃ fd, Has P w K mg base 12 "room" ["task"] sp_room (He.fAd K d_room.at_) fd := by
  obtain ⟨_, h_stands_room⟩ := W36.h_stands_room (P := P) (w := w) (base := base) X G c
  obtain ⟨_, h_asked_task⟩ := W36.h_asked_task (P := P) (w := w) (base := base) X G c
  obtain ⟨fd, F⟩ := c.def_ 18 (d := d_room) rfl
  have b : Binds K fd ["task"] [] := F.bindsN fun _ _ _ _ _ _ us hl => match us, hl with | [_], _ => rfl
  exact ⟨fd, ok_room F (h_md X G c) h_stands_room h_asked_task, He.glo_ok X G (c.fact 18 (f := .glo "room") rfl), F.kp, b⟩
theorem h_law_days (X : K.In h) (G : h.Ns mainGlobals mg) (c : He.SaysD fa fn K) : ∃ fd, Has P w K mg base 1 "_law_days" ["_law_task_here", "_law_stand"] sp_law_days (He.fAd K d_law_days.at_) fd := by
  obtain ⟨fd, F⟩ := c.def_ 70 (d := d_law_days) rfl
  have b : Binds K fd ["_law_task_here", "_law_stand"] [] := F.bindsN fun _ _ _ _ _ _ us hl => match us, hl with | [_, _], _ => rfl
  exact ⟨fd, ok_law_days F (h_md X G c), He.glo_ok X G (c.fact 61 (f := .glo "_law_days") rfl), F.kp, b⟩
theorem h_law_next_stand (X : K.In h) (G : h.Ns mainGlobals mg) (c : He.SaysD fa fn K) : ∃ fd, Has P w K mg base 1 "_law_next_stand" ["_law_task_here", "_law_stand", "_law_day"] sp_law_next_stand (He.fAd K d_law_next_stand.at_) fd := by
  obtain ⟨fd, F⟩ := c.def_ 71 (d := d_law_next_stand) rfl
  have b : Binds K fd ["_law_task_here", "_law_stand", "_law_day"] [] := F.bindsN fun _ _ _ _ _ _ us hl => match us, hl with | [_, _, _], _ => rfl
  exact ⟨fd, ok_law_next_stand F (h_md X G c), He.glo_ok X G (c.fact 62 (f := .glo "_law_next_stand") rfl), F.kp, b⟩
theorem h_law_behind_it (X : K.In h) (G : h.Ns mainGlobals mg) (c : He.SaysD fa fn K) : ∃ fd, Has P w K mg base 2 "_law_behind_it" ["_law_task_here", "_law_stand"] sp_law_behind_it (He.fAd K d_law_behind_it.at_) fd := by
  obtain ⟨_, h_law_days⟩ := W36.h_law_days (P := P) (w := w) (base := base) X G c
  obtain ⟨_, h_law_next_stand⟩ := W36.h_law_next_stand (P := P) (w := w) (base := base) X G c
  obtain ⟨fd, F⟩ := c.def_ 73 (d := d_law_behind_it) rfl
  have b : Binds K fd ["_law_task_here", "_law_stand"] [] := F.bindsN fun _ _ _ _ _ _ us hl => match us, hl with | [_, _], _ => rfl
  exact ⟨fd, ok_law_behind_it F (h_md X G c) h_law_days h_law_next_stand, He.glo_ok X G (c.fact 64 (f := .glo "_law_behind_it") rfl), F.kp, b⟩
theorem h_are_waits (X : K.In h) (G : h.Ns mainGlobals mg) (c : He.SaysD fa fn K) : ∃ fd, Has P w K mg base 2 "are_waits" ["numbers", "waits"] sp_are_waits (He.fAd K d_are_waits.at_) fd := by
  obtain ⟨_, h_is_row⟩ := W36.h_is_row (P := P) (w := w) (base := base) X G c
  obtain ⟨_, h_is_whole⟩ := W36.h_is_whole (P := P) (w := w) (base := base) X G c
  obtain ⟨fd, F⟩ := c.def_ 26 (d := d_are_waits) rfl
  have b : Binds K fd ["numbers", "waits"] [] := F.bindsN fun _ _ _ _ _ _ us hl => match us, hl with | [_, _], _ => rfl
  exact ⟨fd, ok_are_waits F (h_md X G c) h_is_row h_is_whole, He.glo_ok X G (c.fact 26 (f := .glo "are_waits") rfl), F.kp, b⟩
theorem h_in_ties (X : K.In h) (G : h.Ns mainGlobals mg) (c : He.SaysD fa fn K) : ∃ fd, Has P w K mg base 1 "in_ties" ["task"] sp_in_ties (He.fAd K d_in_ties.at_) fd := by
  obtain ⟨fd, F⟩ := c.def_ 25 (d := d_in_ties) rfl
  have b : Binds K fd ["task"] [] := F.bindsN fun _ _ _ _ _ _ us hl => match us, hl with | [_], _ => rfl
  exact ⟨fd, ok_in_ties F (h_md X G c), He.glo_ok X G (c.fact 25 (f := .glo "in_ties") rfl), F.kp, b⟩
theorem h_is_some_of (X : K.In h) (G : h.Ns mainGlobals mg) (c : He.SaysD fa fn K) : ∃ fd, Has P w K mg base 3 "is_some_of" ["things", "row", "most"] sp_is_some_of (He.fAd K d_is_some_of.at_) fd := by
  obtain ⟨_, h_is_rising⟩ := W36.h_is_rising (P := P) (w := w) (base := base) X G c
  obtain ⟨fd, F⟩ := c.def_ 27 (d := d_is_some_of) rfl
  have b : Binds K fd ["things", "row", "most"] [] := F.bindsN fun _ _ _ _ _ _ us hl => match us, hl with | [_, _, _], _ => rfl
  exact ⟨fd, ok_is_some_of F (h_md X G c) h_is_rising, He.glo_ok X G (c.fact 27 (f := .glo "is_some_of") rfl), F.kp, b⟩
theorem h_is_stand_of (X : K.In h) (G : h.Ns mainGlobals mg) (c : He.SaysD fa fn K) : ∃ fd, Has P w K mg base 4 "is_stand_of" ["task", "thing"] sp_is_stand_of (He.fAd K d_is_stand_of.at_) fd := by
  obtain ⟨_, h_is_row⟩ := W36.h_is_row (P := P) (w := w) (base := base) X G c
  obtain ⟨_, h_are_waits⟩ := W36.h_are_waits (P := P) (w := w) (base := base) X G c
  obtain ⟨_, h_is_whole⟩ := W36.h_is_whole (P := P) (w := w) (base := base) X G c
  obtain ⟨_, h_in_ties⟩ := W36.h_in_ties (P := P) (w := w) (base := base) X G c
  obtain ⟨_, h_is_some_of⟩ := W36.h_is_some_of (P := P) (w := w) (base := base) X G c
  obtain ⟨fd, F⟩ := c.def_ 28 (d := d_is_stand_of) rfl
  have b : Binds K fd ["task", "thing"] [] := F.bindsN fun _ _ _ _ _ _ us hl => match us, hl with | [_, _], _ => rfl
  exact ⟨fd, ok_is_stand_of F (h_md X G c) h_is_row h_are_waits h_is_whole h_in_ties h_is_some_of, He.glo_ok X G (c.fact 28 (f := .glo "is_stand_of") rfl), F.kp, b⟩
theorem h_asked_stand (X : K.In h) (G : h.Ns mainGlobals mg) (c : He.SaysD fa fn K) : ∃ fd, Has P w K mg base 9 "asked_stand" ["task", "thing"] sp_asked_stand (He.fAd K d_asked_stand.at_) fd := by
  obtain ⟨_, h_is_stand_of⟩ := W36.h_is_stand_of (P := P) (w := w) (base := base) X G c
  obtain ⟨_, h_told_rows⟩ := W36.h_told_rows (P := P) (w := w) (base := base) X G c
  obtain ⟨fd, F⟩ := c.def_ 29 (d := d_asked_stand) rfl
  have b : Binds K fd ["task", "thing"] [] := F.bindsN fun _ _ _ _ _ _ us hl => match us, hl with | [_, _], _ => rfl
  exact ⟨fd, ok_asked_stand F (h_md X G c) h_is_stand_of h_told_rows, He.glo_ok X G (c.fact 29 (f := .glo "asked_stand") rfl), F.kp, b⟩
theorem h_asked_room (X : K.In h) (G : h.Ns mainGlobals mg) (c : He.SaysD fa fn K) : ∃ fd, Has P w K mg base 3 "asked_room" ["task"] sp_asked_room (He.fAd K d_asked_room.at_) fd := by
  obtain ⟨_, h_stands_room⟩ := W36.h_stands_room (P := P) (w := w) (base := base) X G c
  obtain ⟨fd, F⟩ := c.def_ 19 (d := d_asked_room) rfl
  have b : Binds K fd ["task"] [] := F.bindsN fun _ _ _ _ _ _ us hl => match us, hl with | [_], _ => rfl
  exact ⟨fd, ok_asked_room F (h_md X G c) h_stands_room, He.glo_ok X G (c.fact 19 (f := .glo "asked_room") rfl), F.kp, b⟩
theorem h_days_together (X : K.In h) (G : h.Ns mainGlobals mg) (c : He.SaysD fa fn K) : ∃ fd, Has P w K mg base 1 "days_together" ["one", "other"] sp_days_together (He.fAd K d_days_together.at_) fd := by
  obtain ⟨fd, F⟩ := c.def_ 20 (d := d_days_together) rfl
  have b : Binds K fd ["one", "other"] [] := F.bindsN fun _ _ _ _ _ _ us hl => match us, hl with | [_, _], _ => rfl
  exact ⟨fd, ok_days_together F (h_md X G c), He.glo_ok X G (c.fact 20 (f := .glo "days_together") rfl), F.kp, b⟩
theorem h_divisor (X : K.In h) (G : h.Ns mainGlobals mg) (c : He.SaysD fa fn K) : ∃ fd, Has P w K mg base 1 "divisor" ["one", "other"] sp_divisor (He.fAd K d_divisor.at_) fd := by
  obtain ⟨fd, F⟩ := c.def_ 6 (d := d_divisor) rfl
  have b : Binds K fd ["one", "other"] [] := F.bindsN fun _ _ _ _ _ _ us hl => match us, hl with | [_, _], _ => rfl
  exact ⟨fd, ok_divisor F (h_md X G c), He.glo_ok X G (c.fact 6 (f := .glo "divisor") rfl), F.kp, b⟩
theorem h_common_of (X : K.In h) (G : h.Ns mainGlobals mg) (c : He.SaysD fa fn K) : ∃ fd, Has P w K mg base 2 "common_of" ["numbers"] sp_common_of (He.fAd K d_common_of.at_) fd := by
  obtain ⟨_, h_divisor⟩ := W36.h_divisor (P := P) (w := w) (base := base) X G c
  obtain ⟨fd, F⟩ := c.def_ 7 (d := d_common_of) rfl
  have b : Binds K fd ["numbers"] [] := F.bindsN fun _ _ _ _ _ _ us hl => match us, hl with | [_], _ => rfl
  exact ⟨fd, ok_common_of F (h_md X G c) h_divisor, He.glo_ok X G (c.fact 7 (f := .glo "common_of") rfl), F.kp, b⟩
theorem h_asked_numbers (X : K.In h) (G : h.Ns mainGlobals mg) (c : He.SaysD fa fn K) : ∃ fd, Has P w K mg base 3 "asked_numbers" ["thing"] sp_asked_numbers (He.fAd K d_asked_numbers.at_) fd := by
  obtain ⟨_, h_is_numbers⟩ := W36.h_is_numbers (P := P) (w := w) (base := base) X G c
  obtain ⟨fd, F⟩ := c.def_ 5 (d := d_asked_numbers) rfl
  have b : Binds K fd ["thing"] [] := F.bindsN fun _ _ _ _ _ _ us hl => match us, hl with | [_], _ => rfl
  exact ⟨fd, ok_asked_numbers F (h_md X G c) h_is_numbers, He.glo_ok X G (c.fact 5 (f := .glo "asked_numbers") rfl), F.kp, b⟩
theorem h_common (X : K.In h) (G : h.Ns mainGlobals mg) (c : He.SaysD fa fn K) : ∃ fd, Has P w K mg base 4 "common" ["numbers"] sp_common (He.fAd K d_common.at_) fd := by
  obtain ⟨_, h_common_of⟩ := W36.h_common_of (P := P) (w := w) (base := base) X G c
  obtain ⟨_, h_asked_numbers⟩ := W36.h_asked_numbers (P := P) (w := w) (base := base) X G c
  obtain ⟨fd, F⟩ := c.def_ 8 (d := d_common) rfl
  have b : Binds K fd ["numbers"] [] := F.bindsN fun _ _ _ _ _ _ us hl => match us, hl with | [_], _ => rfl
  exact ⟨fd, ok_common F (h_md X G c) h_common_of h_asked_numbers, He.glo_ok X G (c.fact 8 (f := .glo "common") rfl), F.kp, b⟩
theorem h_need_of (X : K.In h) (G : h.Ns mainGlobals mg) (c : He.SaysD fa fn K) : ∃ fd, Has P w K mg base 1 "need_of" ["task", "days"] sp_need_of (He.fAd K d_need_of.at_) fd := by
  obtain ⟨fd, F⟩ := c.def_ 14 (d := d_need_of) rfl
  have b : Binds K fd ["task", "days"] [] := F.bindsN fun _ _ _ _ _ _ us hl => match us, hl with | [_, _], _ => rfl
  exact ⟨fd, ok_need_of F (h_md X G c), He.glo_ok X G (c.fact 14 (f := .glo "need_of") rfl), F.kp, b⟩
theorem h_room_of (X : K.In h) (G : h.Ns mainGlobals mg) (c : He.SaysD fa fn K) : ∃ fd, Has P w K mg base 1 "room_of" ["task", "days", "phase"] sp_room_of (He.fAd K d_room_of.at_) fd := by
  obtain ⟨fd, F⟩ := c.def_ 15 (d := d_room_of) rfl
  have b : Binds K fd ["task", "days", "phase"] [] := F.bindsN fun _ _ _ _ _ _ us hl => match us, hl with | [_, _, _], _ => rfl
  exact ⟨fd, ok_room_of F (h_md X G c), He.glo_ok X G (c.fact 15 (f := .glo "room_of") rfl), F.kp, b⟩
theorem h_least_crowd (X : K.In h) (G : h.Ns mainGlobals mg) (c : He.SaysD fa fn K) : ∃ fd, Has P w K mg base 5 "least_crowd" ["task"] sp_least_crowd (He.fAd K d_least_crowd.at_) fd := by
  obtain ⟨_, h_days_together⟩ := W36.h_days_together (P := P) (w := w) (base := base) X G c
  obtain ⟨_, h_common⟩ := W36.h_common (P := P) (w := w) (base := base) X G c
  obtain ⟨_, h_need_of⟩ := W36.h_need_of (P := P) (w := w) (base := base) X G c
  obtain ⟨_, h_room_of⟩ := W36.h_room_of (P := P) (w := w) (base := base) X G c
  obtain ⟨fd, F⟩ := c.def_ 21 (d := d_least_crowd) rfl
  have b : Binds K fd ["task"] [] := F.bindsN fun _ _ _ _ _ _ us hl => match us, hl with | [_], _ => rfl
  exact ⟨fd, ok_least_crowd F (h_md X G c) h_days_together h_common h_need_of h_room_of, He.glo_ok X G (c.fact 21 (f := .glo "least_crowd") rfl), F.kp, b⟩
theorem h_all_days (X : K.In h) (G : h.Ns mainGlobals mg) (c : He.SaysD fa fn K) : ∃ fd, Has P w K mg base 1 "all_days" ["many", "hands"] sp_all_days (He.fAd K d_all_days.at_) fd := by
  obtain ⟨fd, F⟩ := c.def_ 38 (d := d_all_days) rfl
  have b : Binds K fd ["many", "hands"] [] := F.bindsN fun _ _ _ _ _ _ us hl => match us, hl with | [_, _], _ => rfl
  exact ⟨fd, ok_all_days F (h_md X G c), He.glo_ok X G (c.fact 38 (f := .glo "all_days") rfl), F.kp, b⟩
theorem h_is_tied (X : K.In h) (G : h.Ns mainGlobals mg) (c : He.SaysD fa fn K) : ∃ fd, Has P w K mg base 1 "is_tied" ["task", "day", "last"] sp_is_tied (He.fAd K d_is_tied.at_) fd := by
  obtain ⟨fd, F⟩ := c.def_ 39 (d := d_is_tied) rfl
  have b : Binds K fd ["task", "day", "last"] [] := F.bindsN fun _ _ _ _ _ _ us hl => match us, hl with | [_, _, _], _ => rfl
  exact ⟨fd, ok_is_tied F (h_md X G c), He.glo_ok X G (c.fact 39 (f := .glo "is_tied") rfl), F.kp, b⟩
theorem h_can_be_done (X : K.In h) (G : h.Ns mainGlobals mg) (c : He.SaysD fa fn K) : ∃ fd, Has P w K mg base 2 "can_be_done" ["task", "stand", "day"] sp_can_be_done (He.fAd K d_can_be_done.at_) fd := by
  obtain ⟨_, h_is_tied⟩ := W36.h_is_tied (P := P) (w := w) (base := base) X G c
  obtain ⟨fd, F⟩ := c.def_ 40 (d := d_can_be_done) rfl
  have b : Binds K fd ["task", "stand", "day"] [] := F.bindsN fun _ _ _ _ _ _ us hl => match us, hl with | [_, _, _], _ => rfl
  exact ⟨fd, ok_can_be_done F (h_md X G c) h_is_tied, He.glo_ok X G (c.fact 40 (f := .glo "can_be_done") rfl), F.kp, b⟩
theorem h_later_days (X : K.In h) (G : h.Ns mainGlobals mg) (c : He.SaysD fa fn K) : ∃ fd, Has P w K mg base 3 "later_days" ["task", "stand"] sp_later_days (He.fAd K d_later_days.at_) fd := by
  obtain ⟨_, h_all_days⟩ := W36.h_all_days (P := P) (w := w) (base := base) X G c
  obtain ⟨_, h_can_be_done⟩ := W36.h_can_be_done (P := P) (w := w) (base := base) X G c
  obtain ⟨fd, F⟩ := c.def_ 41 (d := d_later_days) rfl
  have b : Binds K fd ["task", "stand"] [] := F.bindsN fun _ _ _ _ _ _ us hl => match us, hl with | [_, _], _ => rfl
  exact ⟨fd, ok_later_days F (h_md X G c) h_all_days h_can_be_done, He.glo_ok X G (c.fact 41 (f := .glo "later_days") rfl), F.kp, b⟩
theorem h_Walk_init (X : K.In h) (G : h.Ns mainGlobals mg) (c : He.SaysD fa fn K) : ∃ fd, HasI P w K mg base (He.ga K "Walk") 4 "Walk" ["self", "task", "stand"] (sp_Walk_init P w (He.ga K "Walk")) (He.fAd K d_Walk_init.at_) fd := by
  obtain ⟨_, h_later_days⟩ := W36.h_later_days (P := P) (w := w) (base := base) X G c
  obtain ⟨fd, F⟩ := c.def_ 55 (d := d_Walk_init) rfl
  have b : Binds K fd ["self", "task", "stand"] [] := F.bindsN fun _ _ _ _ _ _ us hl => match us, hl with | [_, _, _], _ => rfl
  exact ⟨fd, ok_Walk_init F (h_md X G c) (h_ocWalk X G c) h_later_days, He.mkr_ok (c.fact 102 (f := .mkr "Walk") rfl), He.glo_ok X G (c.fact 100 (f := .glo "Walk") rfl), b⟩
theorem h_Walk_go_back (X : K.In h) (G : h.Ns mainGlobals mg) (c : He.SaysD fa fn K) : ∃ fd, HasM P w K mg base (He.ga K "Walk") 1 "go_back" ["self"] (sp_Walk_go_back P w (He.ga K "Walk")) (He.fAd K d_Walk_go_back.at_) fd := by
  obtain ⟨fd, F⟩ := c.def_ 57 (d := d_Walk_go_back) rfl
  have b : Binds K fd ["self"] [] := F.bindsN fun _ _ _ _ _ _ us hl => match us, hl with | [_], _ => rfl
  exact ⟨fd, ok_Walk_go_back F (h_md X G c) (h_ocWalk X G c), He.meth_ok (c.fact 110 (f := .meth "Walk" "go_back") rfl), b⟩
theorem h_wait_behind (X : K.In h) (G : h.Ns mainGlobals mg) (c : He.SaysD fa fn K) : ∃ fd, Has P w K mg base 1 "wait_behind" ["task", "stand", "day", "i"] sp_wait_behind (He.fAd K d_wait_behind.at_) fd := by
  obtain ⟨fd, F⟩ := c.def_ 42 (d := d_wait_behind) rfl
  have b : Binds K fd ["task", "stand", "day", "i"] [] := F.bindsN fun _ _ _ _ _ _ us hl => match us, hl with | [_, _, _, _], _ => rfl
  exact ⟨fd, ok_wait_behind F (h_md X G c), He.glo_ok X G (c.fact 42 (f := .glo "wait_behind") rfl), F.kp, b⟩
theorem h_later_stand (X : K.In h) (G : h.Ns mainGlobals mg) (c : He.SaysD fa fn K) : ∃ fd, Has P w K mg base 2 "later_stand" ["task", "stand", "day"] sp_later_stand (He.fAd K d_later_stand.at_) fd := by
  obtain ⟨_, h_wait_behind⟩ := W36.h_wait_behind (P := P) (w := w) (base := base) X G c
  obtain ⟨_, h_in_ties⟩ := W36.h_in_ties (P := P) (w := w) (base := base) X G c
  obtain ⟨fd, F⟩ := c.def_ 43 (d := d_later_stand) rfl
  have b : Binds K fd ["task", "stand", "day"] [] := F.bindsN fun _ _ _ _ _ _ us hl => match us, hl with | [_, _, _], _ => rfl
  exact ⟨fd, ok_later_stand F (h_md X G c) h_wait_behind h_in_ties, He.glo_ok X G (c.fact 43 (f := .glo "later_stand") rfl), F.kp, b⟩
theorem h_Walk_ring (X : K.In h) (G : h.Ns mainGlobals mg) (c : He.SaysD fa fn K) : ∃ fd, HasM P w K mg base (He.ga K "Walk") 1 "ring" ["self", "day", "stand"] (sp_Walk_ring P w (He.ga K "Walk")) (He.fAd K d_Walk_ring.at_) fd := by
  obtain ⟨fd, F⟩ := c.def_ 58 (d := d_Walk_ring) rfl
  have b : Binds K fd ["self", "day", "stand"] [] := F.bindsN fun _ _ _ _ _ _ us hl => match us, hl with | [_, _, _], _ => rfl
  exact ⟨fd, ok_Walk_ring F (h_md X G c) (h_ocWalk X G c), He.meth_ok (c.fact 111 (f := .meth "Walk" "ring") rfl), b⟩
theorem h_Walk_go_on (X : K.In h) (G : h.Ns mainGlobals mg) (c : He.SaysD fa fn K) : ∃ fd, HasM P w K mg base (He.ga K "Walk") 4 "go_on" ["self", "day", "stand"] (sp_Walk_go_on P w (He.ga K "Walk")) (He.fAd K d_Walk_go_on.at_) fd := by
  obtain ⟨_, h_later_days⟩ := W36.h_later_days (P := P) (w := w) (base := base) X G c
  obtain ⟨fd, F⟩ := c.def_ 56 (d := d_Walk_go_on) rfl
  have b : Binds K fd ["self", "day", "stand"] [] := F.bindsN fun _ _ _ _ _ _ us hl => match us, hl with | [_, _, _], _ => rfl
  exact ⟨fd, ok_Walk_go_on F (h_md X G c) (h_ocWalk X G c) h_later_days, He.meth_ok (c.fact 109 (f := .meth "Walk" "go_on") rfl), b⟩
theorem h_Walk_step (X : K.In h) (G : h.Ns mainGlobals mg) (c : He.SaysD fa fn K) : ∃ fd, HasM P w K mg base (He.ga K "Walk") 5 "step" ["self"] (sp_Walk_step P w (He.ga K "Walk")) (He.fAd K d_Walk_step.at_) fd := by
  obtain ⟨_, h_Walk_go_back⟩ := W36.h_Walk_go_back (P := P) (w := w) (base := base) X G c
  obtain ⟨_, h_later_stand⟩ := W36.h_later_stand (P := P) (w := w) (base := base) X G c
  obtain ⟨_, h_Walk_ring⟩ := W36.h_Walk_ring (P := P) (w := w) (base := base) X G c
  obtain ⟨_, h_Walk_go_on⟩ := W36.h_Walk_go_on (P := P) (w := w) (base := base) X G c
  obtain ⟨fd, F⟩ := c.def_ 59 (d := d_Walk_step) rfl
  have b : Binds K fd ["self"] [] := F.bindsN fun _ _ _ _ _ _ us hl => match us, hl with | [_], _ => rfl
  exact ⟨fd, ok_Walk_step F (h_md X G c) (h_ocWalk X G c) h_Walk_go_back h_later_stand h_Walk_ring h_Walk_go_on, He.meth_ok (c.fact 112 (f := .meth "Walk" "step") rfl), b⟩
theorem h_walked (X : K.In h) (G : h.Ns mainGlobals mg) (c : He.SaysD fa fn K) : ∃ fd, Has P w K mg base 6 "walked" ["task", "stand"] sp_walked (He.fAd K d_walked.at_) fd := by
  obtain ⟨_, h_Walk_init⟩ := W36.h_Walk_init (P := P) (w := w) (base := base) X G c
  obtain ⟨_, h_Walk_step⟩ := W36.h_Walk_step (P := P) (w := w) (base := base) X G c
  obtain ⟨fd, F⟩ := c.def_ 60 (d := d_walked) rfl
  have b : Binds K fd ["task", "stand"] [] := F.bindsN fun _ _ _ _ _ _ us hl => match us, hl with | [_, _], _ => rfl
  exact ⟨fd, ok_walked F (h_md X G c) (h_ocWalk X G c) h_Walk_init h_Walk_step, He.glo_ok X G (c.fact 51 (f := .glo "walked") rfl), F.kp, b⟩
theorem h_answer_of (X : K.In h) (G : h.Ns mainGlobals mg) (c : He.SaysD fa fn K) : ∃ fd, Has P w K mg base 7 "answer_of" ["task", "stand"] sp_answer_of (He.fAd K d_answer_of.at_) fd := by
  obtain ⟨_, h_least_crowd⟩ := W36.h_least_crowd (P := P) (w := w) (base := base) X G c
  obtain ⟨_, h_walked⟩ := W36.h_walked (P := P) (w := w) (base := base) X G c
  obtain ⟨fd, F⟩ := c.def_ 61 (d := d_answer_of) rfl
  have b : Binds K fd ["task", "stand"] [] := F.bindsN fun _ _ _ _ _ _ us hl => match us, hl with | [_, _], _ => rfl
  exact ⟨fd, ok_answer_of F (h_md X G c) h_least_crowd h_walked, He.glo_ok X G (c.fact 52 (f := .glo "answer_of") rfl), F.kp, b⟩
theorem h_answer (X : K.In h) (G : h.Ns mainGlobals mg) (c : He.SaysD fa fn K) : ∃ fd, Has P w K mg base 12 "answer" ["task", "stand"] sp_answer (He.fAd K d_answer.at_) fd := by
  obtain ⟨_, h_asked_task⟩ := W36.h_asked_task (P := P) (w := w) (base := base) X G c
  obtain ⟨_, h_asked_stand⟩ := W36.h_asked_stand (P := P) (w := w) (base := base) X G c
  obtain ⟨_, h_asked_room⟩ := W36.h_asked_room (P := P) (w := w) (base := base) X G c
  obtain ⟨_, h_answer_of⟩ := W36.h_answer_of (P := P) (w := w) (base := base) X G c
  obtain ⟨fd, F⟩ := c.def_ 62 (d := d_answer) rfl
  have b : Binds K fd ["task", "stand"] [] := F.bindsN fun _ _ _ _ _ _ us hl => match us, hl with | [_, _], _ => rfl
  exact ⟨fd, ok_answer F (h_md X G c) h_asked_task h_asked_stand h_asked_room h_answer_of, He.glo_ok X G (c.fact 53 (f := .glo "answer") rfl), F.kp, b⟩
theorem h_is_day (X : K.In h) (G : h.Ns mainGlobals mg) (c : He.SaysD fa fn K) : ∃ fd, Has P w K mg base 3 "is_day" ["many", "thing"] sp_is_day (He.fAd K d_is_day.at_) fd := by
  obtain ⟨_, h_is_rising⟩ := W36.h_is_rising (P := P) (w := w) (base := base) X G c
  obtain ⟨fd, F⟩ := c.def_ 22 (d := d_is_day) rfl
  have b : Binds K fd ["many", "thing"] [] := F.bindsN fun _ _ _ _ _ _ us hl => match us, hl with | [_, _], _ => rfl
  exact ⟨fd, ok_is_day F (h_md X G c) h_is_rising, He.glo_ok X G (c.fact 22 (f := .glo "is_day") rfl), F.kp, b⟩
theorem h_are_days (X : K.In h) (G : h.Ns mainGlobals mg) (c : He.SaysD fa fn K) : ∃ fd, Has P w K mg base 4 "are_days" ["many", "thing"] sp_are_days (He.fAd K d_are_days.at_) fd := by
  obtain ⟨_, h_is_row⟩ := W36.h_is_row (P := P) (w := w) (base := base) X G c
  obtain ⟨_, h_is_day⟩ := W36.h_is_day (P := P) (w := w) (base := base) X G c
  obtain ⟨fd, F⟩ := c.def_ 23 (d := d_are_days) rfl
  have b : Binds K fd ["many", "thing"] [] := F.bindsN fun _ _ _ _ _ _ us hl => match us, hl with | [_, _], _ => rfl
  exact ⟨fd, ok_are_days F (h_md X G c) h_is_row h_is_day, He.glo_ok X G (c.fact 23 (f := .glo "are_days") rfl), F.kp, b⟩
theorem h_is_ring (X : K.In h) (G : h.Ns mainGlobals mg) (c : He.SaysD fa fn K) : ∃ fd, Has P w K mg base 5 "is_ring" ["many", "thing"] sp_is_ring (He.fAd K d_is_ring.at_) fd := by
  obtain ⟨_, h_are_days⟩ := W36.h_are_days (P := P) (w := w) (base := base) X G c
  obtain ⟨fd, F⟩ := c.def_ 24 (d := d_is_ring) rfl
  have b : Binds K fd ["many", "thing"] [] := F.bindsN fun _ _ _ _ _ _ us hl => match us, hl with | [_, _], _ => rfl
  exact ⟨fd, ok_is_ring F (h_md X G c) h_are_days, He.glo_ok X G (c.fact 24 (f := .glo "is_ring") rfl), F.kp, b⟩
theorem h_is_lead (X : K.In h) (G : h.Ns mainGlobals mg) (c : He.SaysD fa fn K) : ∃ fd, Has P w K mg base 4 "is_lead" ["many", "thing"] sp_is_lead (He.fAd K d_is_lead.at_) fd := by
  obtain ⟨_, h_is_day⟩ := W36.h_is_day (P := P) (w := w) (base := base) X G c
  obtain ⟨_, h_is_row⟩ := W36.h_is_row (P := P) (w := w) (base := base) X G c
  obtain ⟨fd, F⟩ := c.def_ 31 (d := d_is_lead) rfl
  have b : Binds K fd ["many", "thing"] [] := F.bindsN fun _ _ _ _ _ _ us hl => match us, hl with | [_, _], _ => rfl
  exact ⟨fd, ok_is_lead F (h_md X G c) h_is_day h_is_row, He.glo_ok X G (c.fact 31 (f := .glo "is_lead") rfl), F.kp, b⟩
theorem h_is_on (X : K.In h) (G : h.Ns mainGlobals mg) (c : He.SaysD fa fn K) : ∃ fd, Has P w K mg base 6 "is_on" ["task", "thing"] sp_is_on (He.fAd K d_is_on.at_) fd := by
  obtain ⟨_, h_is_ring⟩ := W36.h_is_ring (P := P) (w := w) (base := base) X G c
  obtain ⟨_, h_is_lead⟩ := W36.h_is_lead (P := P) (w := w) (base := base) X G c
  obtain ⟨fd, F⟩ := c.def_ 32 (d := d_is_on) rfl
  have b : Binds K fd ["task", "thing"] [] := F.bindsN fun _ _ _ _ _ _ us hl => match us, hl with | [_, _], _ => rfl
  exact ⟨fd, ok_is_on F (h_md X G c) h_is_ring h_is_lead, He.glo_ok X G (c.fact 32 (f := .glo "is_on") rfl), F.kp, b⟩
theorem h_is_count (X : K.In h) (G : h.Ns mainGlobals mg) (c : He.SaysD fa fn K) : ∃ fd, Has P w K mg base 2 "is_count" ["task", "thing"] sp_is_count (He.fAd K d_is_count.at_) fd := by
  obtain ⟨_, h_is_whole⟩ := W36.h_is_whole (P := P) (w := w) (base := base) X G c
  obtain ⟨fd, F⟩ := c.def_ 33 (d := d_is_count) rfl
  have b : Binds K fd ["task", "thing"] [] := F.bindsN fun _ _ _ _ _ _ us hl => match us, hl with | [_, _], _ => rfl
  exact ⟨fd, ok_is_count F (h_md X G c) h_is_whole, He.glo_ok X G (c.fact 33 (f := .glo "is_count") rfl), F.kp, b⟩
theorem h_is_walk (X : K.In h) (G : h.Ns mainGlobals mg) (c : He.SaysD fa fn K) : ∃ fd, Has P w K mg base 5 "is_walk" ["task", "thing"] sp_is_walk (He.fAd K d_is_walk.at_) fd := by
  obtain ⟨_, h_is_row⟩ := W36.h_is_row (P := P) (w := w) (base := base) X G c
  obtain ⟨_, h_is_stand_of⟩ := W36.h_is_stand_of (P := P) (w := w) (base := base) X G c
  obtain ⟨fd, F⟩ := c.def_ 34 (d := d_is_walk) rfl
  have b : Binds K fd ["task", "thing"] [] := F.bindsN fun _ _ _ _ _ _ us hl => match us, hl with | [_, _], _ => rfl
  exact ⟨fd, ok_is_walk F (h_md X G c) h_is_row h_is_stand_of, He.glo_ok X G (c.fact 34 (f := .glo "is_walk") rfl), F.kp, b⟩
theorem h_is_answer_of (X : K.In h) (G : h.Ns mainGlobals mg) (c : He.SaysD fa fn K) : ∃ fd, Has P w K mg base 7 "is_answer_of" ["task", "thing"] sp_is_answer_of (He.fAd K d_is_answer_of.at_) fd := by
  obtain ⟨_, h_is_row⟩ := W36.h_is_row (P := P) (w := w) (base := base) X G c
  obtain ⟨_, h_is_on⟩ := W36.h_is_on (P := P) (w := w) (base := base) X G c
  obtain ⟨_, h_is_count⟩ := W36.h_is_count (P := P) (w := w) (base := base) X G c
  obtain ⟨_, h_is_walk⟩ := W36.h_is_walk (P := P) (w := w) (base := base) X G c
  obtain ⟨fd, F⟩ := c.def_ 35 (d := d_is_answer_of) rfl
  have b : Binds K fd ["task", "thing"] [] := F.bindsN fun _ _ _ _ _ _ us hl => match us, hl with | [_, _], _ => rfl
  exact ⟨fd, ok_is_answer_of F (h_md X G c) h_is_row h_is_on h_is_count h_is_walk, He.glo_ok X G (c.fact 35 (f := .glo "is_answer_of") rfl), F.kp, b⟩
theorem h_asked_answer (X : K.In h) (G : h.Ns mainGlobals mg) (c : He.SaysD fa fn K) : ∃ fd, Has P w K mg base 9 "asked_answer" ["task", "thing"] sp_asked_answer (He.fAd K d_asked_answer.at_) fd := by
  obtain ⟨_, h_is_answer_of⟩ := W36.h_is_answer_of (P := P) (w := w) (base := base) X G c
  obtain ⟨_, h_told_rows⟩ := W36.h_told_rows (P := P) (w := w) (base := base) X G c
  obtain ⟨fd, F⟩ := c.def_ 36 (d := d_asked_answer) rfl
  have b : Binds K fd ["task", "thing"] [] := F.bindsN fun _ _ _ _ _ _ us hl => match us, hl with | [_, _], _ => rfl
  exact ⟨fd, ok_asked_answer F (h_md X G c) h_is_answer_of h_told_rows, He.glo_ok X G (c.fact 36 (f := .glo "asked_answer") rfl), F.kp, b⟩
theorem h_led (X : K.In h) (G : h.Ns mainGlobals mg) (c : He.SaysD fa fn K) : ∃ fd, Has P w K mg base 3 "led" ["task", "stand", "days"] sp_led (He.fAd K d_led.at_) fd := by
  obtain ⟨_, h_can_be_done⟩ := W36.h_can_be_done (P := P) (w := w) (base := base) X G c
  obtain ⟨_, h_later_stand⟩ := W36.h_later_stand (P := P) (w := w) (base := base) X G c
  obtain ⟨fd, F⟩ := c.def_ 44 (d := d_led) rfl
  have b : Binds K fd ["task", "stand", "days"] [] := F.bindsN fun _ _ _ _ _ _ us hl => match us, hl with | [_, _, _], _ => rfl
  exact ⟨fd, ok_led F (h_md X G c) h_can_be_done h_later_stand, He.glo_ok X G (c.fact 44 (f := .glo "led") rfl), F.kp, b⟩
theorem h_lies_under (X : K.In h) (G : h.Ns mainGlobals mg) (c : He.SaysD fa fn K) : ∃ fd, Has P w K mg base 1 "lies_under" ["one", "other"] sp_lies_under (He.fAd K d_lies_under.at_) fd := by
  obtain ⟨fd, F⟩ := c.def_ 30 (d := d_lies_under) rfl
  have b : Binds K fd ["one", "other"] [] := F.bindsN fun _ _ _ _ _ _ us hl => match us, hl with | [_, _], _ => rfl
  exact ⟨fd, ok_lies_under F (h_md X G c), He.glo_ok X G (c.fact 30 (f := .glo "lies_under") rfl), F.kp, b⟩
theorem h_on_holds (X : K.In h) (G : h.Ns mainGlobals mg) (c : He.SaysD fa fn K) : ∃ fd, Has P w K mg base 4 "on_holds" ["task", "stand", "lead", "ring"] sp_on_holds (He.fAd K d_on_holds.at_) fd := by
  obtain ⟨_, h_led⟩ := W36.h_led (P := P) (w := w) (base := base) X G c
  obtain ⟨_, h_lies_under⟩ := W36.h_lies_under (P := P) (w := w) (base := base) X G c
  obtain ⟨fd, F⟩ := c.def_ 45 (d := d_on_holds) rfl
  have b : Binds K fd ["task", "stand", "lead", "ring"] [] := F.bindsN fun _ _ _ _ _ _ us hl => match us, hl with | [_, _, _, _], _ => rfl
  exact ⟨fd, ok_on_holds F (h_md X G c) h_led h_lies_under, He.glo_ok X G (c.fact 45 (f := .glo "on_holds") rfl), F.kp, b⟩
theorem h_count_holds (X : K.In h) (G : h.Ns mainGlobals mg) (c : He.SaysD fa fn K) : ∃ fd, Has P w K mg base 2 "count_holds" ["task", "days", "phase"] sp_count_holds (He.fAd K d_count_holds.at_) fd := by
  obtain ⟨_, h_need_of⟩ := W36.h_need_of (P := P) (w := w) (base := base) X G c
  obtain ⟨_, h_room_of⟩ := W36.h_room_of (P := P) (w := w) (base := base) X G c
  obtain ⟨fd, F⟩ := c.def_ 46 (d := d_count_holds) rfl
  have b : Binds K fd ["task", "days", "phase"] [] := F.bindsN fun _ _ _ _ _ _ us hl => match us, hl with | [_, _, _], _ => rfl
  exact ⟨fd, ok_count_holds F (h_md X G c) h_need_of h_room_of, He.glo_ok X G (c.fact 46 (f := .glo "count_holds") rfl), F.kp, b⟩
theorem h_Heights_init (X : K.In h) (G : h.Ns mainGlobals mg) (c : He.SaysD fa fn K) : ∃ fd, HasI P w K mg base (He.ga K "Heights") 1 "Heights" ["self"] (sp_Heights_init P w (He.ga K "Heights")) (He.fAd K d_Heights_init.at_) fd := by
  obtain ⟨fd, F⟩ := c.def_ 47 (d := d_Heights_init) rfl
  have b : Binds K fd ["self"] [] := F.bindsN fun _ _ _ _ _ _ us hl => match us, hl with | [_], _ => rfl
  exact ⟨fd, ok_Heights_init F (h_md X G c) (h_ocHeights X G c), He.mkr_ok (c.fact 95 (f := .mkr "Heights") rfl), He.glo_ok X G (c.fact 93 (f := .glo "Heights") rfl), b⟩
theorem h_Heights_alike (X : K.In h) (G : h.Ns mainGlobals mg) (c : He.SaysD fa fn K) : ∃ fd, HasM P w K mg base (He.ga K "Heights") 1 "alike" ["self", "stand"] (sp_Heights_alike P w (He.ga K "Heights")) (He.fAd K d_Heights_alike.at_) fd := by
  obtain ⟨fd, F⟩ := c.def_ 48 (d := d_Heights_alike) rfl
  have b : Binds K fd ["self", "stand"] [] := F.bindsN fun _ _ _ _ _ _ us hl => match us, hl with | [_, _], _ => rfl
  exact ⟨fd, ok_Heights_alike F (h_md X G c) (h_ocHeights X G c), He.meth_ok (c.fact 97 (f := .meth "Heights" "alike") rfl), b⟩
theorem h_Heights_covers (X : K.In h) (G : h.Ns mainGlobals mg) (c : He.SaysD fa fn K) : ∃ fd, HasM P w K mg base (He.ga K "Heights") 2 "covers" ["self", "stand"] (sp_Heights_covers P w (He.ga K "Heights")) (He.fAd K d_Heights_covers.at_) fd := by
  obtain ⟨_, h_Heights_alike⟩ := W36.h_Heights_alike (P := P) (w := w) (base := base) X G c
  obtain ⟨_, h_lies_under⟩ := W36.h_lies_under (P := P) (w := w) (base := base) X G c
  obtain ⟨fd, F⟩ := c.def_ 49 (d := d_Heights_covers) rfl
  have b : Binds K fd ["self", "stand"] [] := F.bindsN fun _ _ _ _ _ _ us hl => match us, hl with | [_, _], _ => rfl
  exact ⟨fd, ok_Heights_covers F (h_md X G c) (h_ocHeights X G c) h_Heights_alike h_lies_under, He.meth_ok (c.fact 98 (f := .meth "Heights" "covers") rfl), b⟩
theorem h_runs_out (X : K.In h) (G : h.Ns mainGlobals mg) (c : He.SaysD fa fn K) : ∃ fd, Has P w K mg base 4 "runs_out" ["task", "stand", "heights"] (sp_runs_out P w (He.ga K "Heights")) (He.fAd K d_runs_out.at_) fd := by
  obtain ⟨_, h_later_days⟩ := W36.h_later_days (P := P) (w := w) (base := base) X G c
  obtain ⟨_, h_later_stand⟩ := W36.h_later_stand (P := P) (w := w) (base := base) X G c
  obtain ⟨_, h_Heights_covers⟩ := W36.h_Heights_covers (P := P) (w := w) (base := base) X G c
  obtain ⟨fd, F⟩ := c.def_ 51 (d := d_runs_out) rfl
  have b : Binds K fd ["task", "stand", "heights"] [] := F.bindsN fun _ _ _ _ _ _ us hl => match us, hl with | [_, _, _], _ => rfl
  exact ⟨fd, ok_runs_out F (h_md X G c) (h_ocHeights X G c) h_later_days h_later_stand h_Heights_covers, He.glo_ok X G (c.fact 47 (f := .glo "runs_out") rfl), F.kp, b⟩
theorem h_Heights_add (X : K.In h) (G : h.Ns mainGlobals mg) (c : He.SaysD fa fn K) : ∃ fd, HasM P w K mg base (He.ga K "Heights") 3 "add" ["self", "stand"] (sp_Heights_add P w (He.ga K "Heights")) (He.fAd K d_Heights_add.at_) fd := by
  obtain ⟨_, h_Heights_covers⟩ := W36.h_Heights_covers (P := P) (w := w) (base := base) X G c
  obtain ⟨_, h_Heights_alike⟩ := W36.h_Heights_alike (P := P) (w := w) (base := base) X G c
  obtain ⟨_, h_lies_under⟩ := W36.h_lies_under (P := P) (w := w) (base := base) X G c
  obtain ⟨fd, F⟩ := c.def_ 50 (d := d_Heights_add) rfl
  have b : Binds K fd ["self", "stand"] [] := F.bindsN fun _ _ _ _ _ _ us hl => match us, hl with | [_, _], _ => rfl
  exact ⟨fd, ok_Heights_add F (h_md X G c) (h_ocHeights X G c) h_Heights_covers h_Heights_alike h_lies_under, He.meth_ok (c.fact 99 (f := .meth "Heights" "add") rfl), b⟩
theorem h_walk_holds (X : K.In h) (G : h.Ns mainGlobals mg) (c : He.SaysD fa fn K) : ∃ fd, Has P w K mg base 5 "walk_holds" ["task", "stand", "stands"] sp_walk_holds (He.fAd K d_walk_holds.at_) fd := by
  obtain ⟨_, h_Heights_init⟩ := W36.h_Heights_init (P := P) (w := w) (base := base) X G c
  obtain ⟨_, h_runs_out⟩ := W36.h_runs_out (P := P) (w := w) (base := base) X G c
  obtain ⟨_, h_Heights_add⟩ := W36.h_Heights_add (P := P) (w := w) (base := base) X G c
  obtain ⟨_, h_Heights_covers⟩ := W36.h_Heights_covers (P := P) (w := w) (base := base) X G c
  obtain ⟨fd, F⟩ := c.def_ 52 (d := d_walk_holds) rfl
  have b : Binds K fd ["task", "stand", "stands"] [] := F.bindsN fun _ _ _ _ _ _ us hl => match us, hl with | [_, _, _], _ => rfl
  exact ⟨fd, ok_walk_holds F (h_md X G c) (h_ocHeights X G c) h_Heights_init h_runs_out h_Heights_add h_Heights_covers, He.glo_ok X G (c.fact 48 (f := .glo "walk_holds") rfl), F.kp, b⟩
theorem h_answer_holds (X : K.In h) (G : h.Ns mainGlobals mg) (c : He.SaysD fa fn K) : ∃ fd, Has P w K mg base 6 "answer_holds" ["task", "stand", "answer"] sp_answer_holds (He.fAd K d_answer_holds.at_) fd := by
  obtain ⟨_, h_on_holds⟩ := W36.h_on_holds (P := P) (w := w) (base := base) X G c
  obtain ⟨_, h_count_holds⟩ := W36.h_count_holds (P := P) (w := w) (base := base) X G c
  obtain ⟨_, h_walk_holds⟩ := W36.h_walk_holds (P := P) (w := w) (base := base) X G c
  obtain ⟨fd, F⟩ := c.def_ 53 (d := d_answer_holds) rfl
  have b : Binds K fd ["task", "stand", "answer"] [] := F.bindsN fun _ _ _ _ _ _ us hl => match us, hl with | [_, _, _], _ => rfl
  exact ⟨fd, ok_answer_holds F (h_md X G c) h_on_holds h_count_holds h_walk_holds, He.glo_ok X G (c.fact 49 (f := .glo "answer_holds") rfl), F.kp, b⟩
theorem h_holds (X : K.In h) (G : h.Ns mainGlobals mg) (c : He.SaysD fa fn K) : ∃ fd, Has P w K mg base 12 "holds" ["task", "stand", "answer"] sp_holds (He.fAd K d_holds.at_) fd := by
  obtain ⟨_, h_asked_task⟩ := W36.h_asked_task (P := P) (w := w) (base := base) X G c
  obtain ⟨_, h_asked_stand⟩ := W36.h_asked_stand (P := P) (w := w) (base := base) X G c
  obtain ⟨_, h_asked_answer⟩ := W36.h_asked_answer (P := P) (w := w) (base := base) X G c
  obtain ⟨_, h_answer_holds⟩ := W36.h_answer_holds (P := P) (w := w) (base := base) X G c
  obtain ⟨fd, F⟩ := c.def_ 54 (d := d_holds) rfl
  have b : Binds K fd ["task", "stand", "answer"] [] := F.bindsN fun _ _ _ _ _ _ us hl => match us, hl with | [_, _, _], _ => rfl
  exact ⟨fd, ok_holds F (h_md X G c) h_asked_task h_asked_stand h_asked_answer h_answer_holds, He.glo_ok X G (c.fact 50 (f := .glo "holds") rfl), F.kp, b⟩
theorem h_is_answer (X : K.In h) (G : h.Ns mainGlobals mg) (c : He.SaysD fa fn K) : ∃ fd, Has P w K mg base 12 "is_answer" ["task", "thing"] sp_is_answer (He.fAd K d_is_answer.at_) fd := by
  obtain ⟨_, h_is_answer_of⟩ := W36.h_is_answer_of (P := P) (w := w) (base := base) X G c
  obtain ⟨_, h_asked_task⟩ := W36.h_asked_task (P := P) (w := w) (base := base) X G c
  obtain ⟨fd, F⟩ := c.def_ 37 (d := d_is_answer) rfl
  have b : Binds K fd ["task", "thing"] [] := F.bindsN fun _ _ _ _ _ _ us hl => match us, hl with | [_, _], _ => rfl
  exact ⟨fd, ok_is_answer F (h_md X G c) h_is_answer_of h_asked_task, He.glo_ok X G (c.fact 37 (f := .glo "is_answer") rfl), F.kp, b⟩
theorem h_law_right (X : K.In h) (G : h.Ns mainGlobals mg) (c : He.SaysD fa fn K) : ∃ fd, Has P w K mg base 13 "_law_right" ["_law_task_here", "_law_stand"] sp_law_right (He.fAd K d_law_right.at_) fd := by
  obtain ⟨_, h_room⟩ := W36.h_room (P := P) (w := w) (base := base) X G c
  obtain ⟨_, h_law_behind_it⟩ := W36.h_law_behind_it (P := P) (w := w) (base := base) X G c
  obtain ⟨_, h_answer⟩ := W36.h_answer (P := P) (w := w) (base := base) X G c
  obtain ⟨_, h_holds⟩ := W36.h_holds (P := P) (w := w) (base := base) X G c
  obtain ⟨_, h_is_answer⟩ := W36.h_is_answer (P := P) (w := w) (base := base) X G c
  obtain ⟨fd, F⟩ := c.def_ 74 (d := d_law_right) rfl
  have b : Binds K fd ["_law_task_here", "_law_stand"] [] := F.bindsN fun _ _ _ _ _ _ us hl => match us, hl with | [_, _], _ => rfl
  exact ⟨fd, ok_law_right F (h_md X G c) h_room h_law_behind_it h_answer h_holds h_is_answer, He.glo_ok X G (c.fact 65 (f := .glo "_law_right") rfl), F.kp, b⟩
theorem facts {f : Addr} (X : K.In h) (G : h.Ns mainGlobals mg) (hfa : mg ("law" : Str) = some (.ref f)) (c : He.SaysD fa fn K) :
    ∃ fd : FuncData, (∀ (s : Shared) (v : Value), BindsTo s fd ⟨[v], []⟩ [("_law_script", v)]) ∧ ∀ base : Heap, K.In base → base.Ns mainGlobals mg → FnOk P w K mg base CX0 14 f fd ["_law_script"] (sp_law K) := by
  obtain ⟨fd, F⟩ := c.def_ 75 (d := d_law) rfl
  have e := hfa.symm.trans (He.glo_ok X G (c.fact 66 (f := .glo "law") rfl))
  cases e
  have b := FunD.bindsA (ps := ["_law_script"]) F fun _ _ _ _ _ _ us hl => match us, hl with | [_], _ => rfl
  refine ⟨fd, fun s v => b s [v] rfl, fun base _ _ => ?_⟩
  obtain ⟨_, h_law_draws⟩ := W36.h_law_draws (P := P) (w := w) (base := base) X G c
  obtain ⟨_, h_law_task⟩ := W36.h_law_task (P := P) (w := w) (base := base) X G c
  obtain ⟨_, h_law_made_up⟩ := W36.h_law_made_up (P := P) (w := w) (base := base) X G c
  obtain ⟨_, h_law_right⟩ := W36.h_law_right (P := P) (w := w) (base := base) X G c
  exact ok_law F (h_md X G c) h_law_draws h_law_task h_law_made_up h_law_right
end
end W36
open PySem PySem.W PySem.Calls PyProof.Rows
theorem PySem.Challenge.cw_withindays_k36_whole_room_is_enough_holds : PySem.Challenge.rw_withindays_k36_whole_room_is_enough.Holds := by
  w_on; o_law
  refine HandSHeadRun.head_any (r := OpenLaw.row PySem.Challenge.rw_withindays_k36_whole_room_is_enough) (q := view (OpenLaw.row PySem.Challenge.rw_withindays_k36_whole_room_is_enough).prog [98]) (H := W36H.hk) (ob := W36H.ob) (M := 20000) (loose := W36H.loose) (d := HandSHeadRun.topDef (OpenLaw.row PySem.Challenge.rw_withindays_k36_whole_room_is_enough).prog 98) (kwd := []) W36H.ob_eq
    (by kernel_rfl) (fun s => by kernel_rfl) W36H.run (by kernel_rfl) (by kernel_rfl) (by kernel_rfl) (by rfl) (by first | assumption | decide +kernel) (by decide +kernel) ⟨rfl, rfl, rfl, rfl, rfl, by decide +kernel⟩ ?hw ?hc
  case hw => w_witness2
  case hc =>
    refine L2.walk_ofE (l := PySem.Challenge.rw_withindays_k36_whole_room_is_enough) (n := 63) (k := 14) (x := "_law_script") (CX := L2.CX0) rfl (by decide) (by kernel_rfl) ⟨rfl, by decide, by decide⟩ ?F (fun _ _ _ _ z => z)
    intro w mg fa h Y G hmg0
    obtain ⟨K, KX, c⟩ := Y
    have hmg : mg ("law" : PySem.Str) = some (.ref fa) := by
      have e : (HandSHeadRun.topDef (OpenLaw.row PySem.Challenge.rw_withindays_k36_whole_room_is_enough).prog 98).name = ("law" : PySem.Str) := by kernel_rfl
      rw [← e]
      exact hmg0
    obtain ⟨fd, hb, hF⟩ := W36.facts (P := (PySem.Challenge.rw_withindays_k36_whole_room_is_enough).prog) (w := w) KX G hmg c
    exact ⟨K, fd, W36.sp_law K, KX, hb, fun H a ns hl ho hS => W36.law_in ⟨a, ns, rfl, hS, fun _ => rfl⟩, hF⟩
end
