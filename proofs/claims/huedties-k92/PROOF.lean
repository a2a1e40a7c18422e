import PyProof.Rows.All
import Wide.All
import OpenK.AllK
import Wide.FinOn
import KE.KStateDown
import Lean
import HandS.ForMost
import HandS.Exc
import HandS.More
import HandS.WordsExc
import HandS.Defaults
import HandS.Head0
import HandS.Head1
import HandS.Head2
import HandS.HeadEnd
import HandS.HeadHook1
import HandS.HeadHook2
import HandS.Sort
import HandS.SortInts
import HandS.SortRule
import HandS.SetFor
import HandS.Flow
import HandS.Strs
import HandS.TupAny
import HandS.IsInst
import HandS.Deep
import HandS.Walk
import HandS.Wide
import HandS.SortKw
import KE.KDictWalk
import KE.DataMinKey
import KE.GoesEnum
import HandS.Lambda
import HandS.HeadHook4
import HandS.HeadWalk
import PySem.Challenge.RW_huedties_k92_whole_one_web_come_by
import HandS.Nested
import KE.LtData
set_option Elab.async false
set_option linter.all false
set_option maxRecDepth 100000
/-! ## HuText -/
section
set_option maxHeartbeats 0
set_option autoImplicit true
namespace Hu
open PySem PySem.Spec PyProof.Rows L2
def top (i : Nat) : Stmt := PySem.Challenge.pw_huedties_k92_whole_one_web_come_by.main.body.getD i (.Pass ⟨0, 0, 0, 0⟩)
abbrev s_is_number : Stmt := top 10
abbrev s_look_place : Stmt := top 11
abbrev s_look_tie : Stmt := top 12
abbrev s_ties_by_place : Stmt := top 13
abbrev s_ties_at : Stmt := top 14
abbrev s_most_at : Stmt := top 15
abbrev s_thickest : Stmt := top 16
abbrev s_far_end : Stmt := top 17
abbrev s_is_hue : Stmt := top 19
abbrev s_clash_of : Stmt := top 20
abbrev s_is_hueing : Stmt := top 21
abbrev s_is_whole : Stmt := top 22
abbrev s_hues_at : Stmt := top 23
abbrev s_free_at : Stmt := top 24
abbrev s_classes : Stmt := top 25
abbrev s_tie_of : Stmt := top 29
abbrev s_look_hues : Stmt := top 30
abbrev s_row_from : Stmt := top 31
abbrev s_neighbours : Stmt := top 32
abbrev s_row_with : Stmt := top 33
abbrev s_word_of : Stmt := top 34
abbrev s_rows_of : Stmt := top 35
abbrev s_other_of : Stmt := top 36
abbrev s_exchanged : Stmt := top 37
abbrev s_look_so : Stmt := top 42
abbrev s_is_tie : Stmt := top 43
abbrev s_with_hue : Stmt := top 44
abbrev s_dropped : Stmt := top 45
abbrev s_do_meet : Stmt := top 46
abbrev s_moved : Stmt := top 47
abbrev s_row_turned : Stmt := top 48
abbrev s_made_by : Stmt := top 49
abbrev s_done_step : Stmt := top 50
abbrev s_played : Stmt := top 51
abbrev s_first_back : Stmt := top 53
abbrev s_next_of_fan : Stmt := top 54
abbrev s_fan_of : Stmt := top 55
abbrev s_chain_to : Stmt := top 56
abbrev s_turning : Stmt := top 57
abbrev s_shared_first : Stmt := top 58
abbrev s_Fan_init : Stmt := inClass (top 59) 0
abbrev s_Fan_at_once : Stmt := inClass (top 59) 1
abbrev s_Fan_unlike_rows : Stmt := inClass (top 59) 2
abbrev s_Fan_end_of : Stmt := inClass (top 59) 3
abbrev s_Fan_by_row : Stmt := inClass (top 59) 4
abbrev s_Fan_steps : Stmt := inClass (top 59) 5
abbrev s_look_hues_enough : Stmt := top 60
abbrev s_hued_in : Stmt := top 61
abbrev s_all_hued : Stmt := top 62
abbrev s_is_place : Stmt := top 64
abbrev s_in_numbers : Stmt := top 65
abbrev s_enough_for : Stmt := top 66
abbrev s_behind_steps : Stmt := top 67
abbrev s_Tied_init : Stmt := inClass (top 68) 0
abbrev s_Tied_keep_past : Stmt := inClass (top 68) 1
abbrev s_Tied_look_tie : Stmt := inClass (top 68) 2
abbrev s_Tied_hueing_now : Stmt := inClass (top 68) 3
abbrev s_Tied_take_on : Stmt := inClass (top 68) 4
abbrev s_Tied_come : Stmt := inClass (top 68) 5
abbrev s_Tied_go : Stmt := inClass (top 68) 6
abbrev s_Tied_hue_of : Stmt := inClass (top 68) 7
abbrev s_Tied_ties : Stmt := inClass (top 68) 8
abbrev s_Tied_limit : Stmt := inClass (top 68) 9
abbrev s_Tied_settle : Stmt := inClass (top 68) 10
abbrev s_Tied_web_now : Stmt := inClass (top 68) 12
abbrev s_neighbours_of : Stmt := top 72
abbrev s_Changing_init : Stmt := inClass (top 73) 0
abbrev s_Changing_free_for : Stmt := inClass (top 73) 1
abbrev s_Changing_is_lost : Stmt := inClass (top 73) 2
abbrev s_Changing_lost : Stmt := inClass (top 73) 3
abbrev s_Changing_next_tie : Stmt := inClass (top 73) 4
abbrev s_Changing_looked : Stmt := inClass (top 73) 5
abbrev s_least_changed : Stmt := top 74
abbrev s_sizes : Stmt := top 76
abbrev s_end_of_hue : Stmt := top 77
abbrev s_step_between : Stmt := top 78
abbrev s_evened : Stmt := top 79
abbrev s_l_tape : Stmt := top 81
abbrev s_l_draw : Stmt := top 82
abbrev s_l_pairs_by : Stmt := top 83
abbrev s_l_web : Stmt := top 84
abbrev s_l_comings : Stmt := top 85
abbrev s_l_mixed : Stmt := top 86
abbrev s_l_hues : Stmt := top 87
abbrev s_l_come_right : Stmt := top 88
abbrev s_l_even_right : Stmt := top 89
abbrev s_l_all_go : Stmt := top 90
abbrev s_law : Stmt := top 91
def d_is_number : He.DefD := ⟨("is_number", none), "is_number", "is_number", defArgs s_is_number, defBody s_is_number, defScope s_is_number, [], []⟩
def d_look_place : He.DefD := ⟨("look_place", none), "look_place", "look_place", defArgs s_look_place, defBody s_look_place, defScope s_look_place, [], []⟩
def d_look_tie : He.DefD := ⟨("look_tie", none), "look_tie", "look_tie", defArgs s_look_tie, defBody s_look_tie, defScope s_look_tie, [], []⟩
def d_ties_by_place : He.DefD := ⟨("ties_by_place", none), "ties_by_place", "ties_by_place", defArgs s_ties_by_place, defBody s_ties_by_place, defScope s_ties_by_place, [], []⟩
def d_ties_at : He.DefD := ⟨("ties_at", none), "ties_at", "ties_at", defArgs s_ties_at, defBody s_ties_at, defScope s_ties_at, [], []⟩
def d_most_at : He.DefD := ⟨("most_at", none), "most_at", "most_at", defArgs s_most_at, defBody s_most_at, defScope s_most_at, [], []⟩
def d_thickest : He.DefD := ⟨("thickest", none), "thickest", "thickest", defArgs s_thickest, defBody s_thickest, defScope s_thickest, [], []⟩
def d_far_end : He.DefD := ⟨("far_end", none), "far_end", "far_end", defArgs s_far_end, defBody s_far_end, defScope s_far_end, [], []⟩
def d_is_hue : He.DefD := ⟨("is_hue", none), "is_hue", "is_hue", defArgs s_is_hue, defBody s_is_hue, defScope s_is_hue, [], []⟩
def d_clash_of : He.DefD := ⟨("clash_of", none), "clash_of", "clash_of", defArgs s_clash_of, defBody s_clash_of, defScope s_clash_of, [], []⟩
def d_is_hueing : He.DefD := ⟨("is_hueing", none), "is_hueing", "is_hueing", defArgs s_is_hueing, defBody s_is_hueing, defScope s_is_hueing, [], []⟩
def d_is_whole : He.DefD := ⟨("is_whole", none), "is_whole", "is_whole", defArgs s_is_whole, defBody s_is_whole, defScope s_is_whole, [], []⟩
def d_hues_at : He.DefD := ⟨("hues_at", none), "hues_at", "hues_at", defArgs s_hues_at, defBody s_hues_at, defScope s_hues_at, [], []⟩
def d_free_at : He.DefD := ⟨("free_at", none), "free_at", "free_at", defArgs s_free_at, defBody s_free_at, defScope s_free_at, [], []⟩
def d_classes : He.DefD := ⟨("classes", none), "classes", "classes", defArgs s_classes, defBody s_classes, defScope s_classes, [], []⟩
def d_tie_of : He.DefD := ⟨("tie_of", none), "tie_of", "tie_of", defArgs s_tie_of, defBody s_tie_of, defScope s_tie_of, [], []⟩
def d_look_hues : He.DefD := ⟨("look_hues", none), "look_hues", "look_hues", defArgs s_look_hues, defBody s_look_hues, defScope s_look_hues, [], []⟩
def d_row_from : He.DefD := ⟨("row_from", none), "row_from", "row_from", defArgs s_row_from, defBody s_row_from, defScope s_row_from, [], []⟩
def d_neighbours : He.DefD := ⟨("neighbours", none), "neighbours", "neighbours", defArgs s_neighbours, defBody s_neighbours, defScope s_neighbours, [], []⟩
def d_row_with : He.DefD := ⟨("row_with", none), "row_with", "row_with", defArgs s_row_with, defBody s_row_with, defScope s_row_with, [], []⟩
def d_word_of : He.DefD := ⟨("word_of", none), "word_of", "word_of", defArgs s_word_of, defBody s_word_of, defScope s_word_of, [], []⟩
def d_rows_of : He.DefD := ⟨("rows_of", none), "rows_of", "rows_of", defArgs s_rows_of, defBody s_rows_of, defScope s_rows_of, [], []⟩
def d_other_of : He.DefD := ⟨("other_of", none), "other_of", "other_of", defArgs s_other_of, defBody s_other_of, defScope s_other_of, [], []⟩
def d_exchanged : He.DefD := ⟨("exchanged", none), "exchanged", "exchanged", defArgs s_exchanged, defBody s_exchanged, defScope s_exchanged, [], []⟩
def d_look_so : He.DefD := ⟨("look_so", none), "look_so", "look_so", defArgs s_look_so, defBody s_look_so, defScope s_look_so, [], []⟩
def d_is_tie : He.DefD := ⟨("is_tie", none), "is_tie", "is_tie", defArgs s_is_tie, defBody s_is_tie, defScope s_is_tie, [], []⟩
def d_with_hue : He.DefD := ⟨("with_hue", none), "with_hue", "with_hue", defArgs s_with_hue, defBody s_with_hue, defScope s_with_hue, [], []⟩
def d_dropped : He.DefD := ⟨("dropped", none), "dropped", "dropped", defArgs s_dropped, defBody s_dropped, defScope s_dropped, [], []⟩
def d_do_meet : He.DefD := ⟨("do_meet", none), "do_meet", "do_meet", defArgs s_do_meet, defBody s_do_meet, defScope s_do_meet, [], []⟩
def d_moved : He.DefD := ⟨("moved", none), "moved", "moved", defArgs s_moved, defBody s_moved, defScope s_moved, [], []⟩
def d_row_turned : He.DefD := ⟨("row_turned", none), "row_turned", "row_turned", defArgs s_row_turned, defBody s_row_turned, defScope s_row_turned, [], []⟩
def d_made_by : He.DefD := ⟨("made_by", none), "made_by", "made_by", defArgs s_made_by, defBody s_made_by, defScope s_made_by, [], []⟩
def d_done_step : He.DefD := ⟨("done_step", none), "done_step", "done_step", defArgs s_done_step, defBody s_done_step, defScope s_done_step, [], []⟩
def d_played : He.DefD := ⟨("played", none), "played", "played", defArgs s_played, defBody s_played, defScope s_played, [], []⟩
def d_first_back : He.DefD := ⟨("first_back", none), "first_back", "first_back", defArgs s_first_back, defBody s_first_back, defScope s_first_back, [], []⟩
def d_next_of_fan : He.DefD := ⟨("next_of_fan", none), "next_of_fan", "next_of_fan", defArgs s_next_of_fan, defBody s_next_of_fan, defScope s_next_of_fan, [], []⟩
def d_fan_of : He.DefD := ⟨("fan_of", none), "fan_of", "fan_of", defArgs s_fan_of, defBody s_fan_of, defScope s_fan_of, [], []⟩
def d_chain_to : He.DefD := ⟨("chain_to", none), "chain_to", "chain_to", defArgs s_chain_to, defBody s_chain_to, defScope s_chain_to, [], []⟩
def d_turning : He.DefD := ⟨("turning", none), "turning", "turning", defArgs s_turning, defBody s_turning, defScope s_turning, [], []⟩
def d_shared_first : He.DefD := ⟨("shared_first", none), "shared_first", "shared_first", defArgs s_shared_first, defBody s_shared_first, defScope s_shared_first, [], []⟩
def d_Fan_init : He.DefD := ⟨("Fan", some "__init__"), "__init__", "Fan.__init__", defArgs s_Fan_init, defBody s_Fan_init, defScope s_Fan_init, [], []⟩
def d_Fan_at_once : He.DefD := ⟨("Fan", some "at_once"), "at_once", "Fan.at_once", defArgs s_Fan_at_once, defBody s_Fan_at_once, defScope s_Fan_at_once, [], []⟩
def d_Fan_unlike_rows : He.DefD := ⟨("Fan", some "unlike_rows"), "unlike_rows", "Fan.unlike_rows", defArgs s_Fan_unlike_rows, defBody s_Fan_unlike_rows, defScope s_Fan_unlike_rows, [], []⟩
def d_Fan_end_of : He.DefD := ⟨("Fan", some "end_of"), "end_of", "Fan.end_of", defArgs s_Fan_end_of, defBody s_Fan_end_of, defScope s_Fan_end_of, [], []⟩
def d_Fan_by_row : He.DefD := ⟨("Fan", some "by_row"), "by_row", "Fan.by_row", defArgs s_Fan_by_row, defBody s_Fan_by_row, defScope s_Fan_by_row, [], []⟩
def d_Fan_steps : He.DefD := ⟨("Fan", some "steps"), "steps", "Fan.steps", defArgs s_Fan_steps, defBody s_Fan_steps, defScope s_Fan_steps, [], []⟩
def d_look_hues_enough : He.DefD := ⟨("look_hues_enough", none), "look_hues_enough", "look_hues_enough", defArgs s_look_hues_enough, defBody s_look_hues_enough, defScope s_look_hues_enough, [], []⟩
def d_hued_in : He.DefD := ⟨("hued_in", none), "hued_in", "hued_in", defArgs s_hued_in, defBody s_hued_in, defScope s_hued_in, [], []⟩
def d_all_hued : He.DefD := ⟨("all_hued", none), "all_hued", "all_hued", defArgs s_all_hued, defBody s_all_hued, defScope s_all_hued, [], []⟩
def d_is_place : He.DefD := ⟨("is_place", none), "is_place", "is_place", defArgs s_is_place, defBody s_is_place, defScope s_is_place, [], []⟩
def d_in_numbers : He.DefD := ⟨("in_numbers", none), "in_numbers", "in_numbers", defArgs s_in_numbers, defBody s_in_numbers, defScope s_in_numbers, [], []⟩
def d_enough_for : He.DefD := ⟨("enough_for", none), "enough_for", "enough_for", defArgs s_enough_for, defBody s_enough_for, defScope s_enough_for, [], []⟩
def d_behind_steps : He.DefD := ⟨("behind_steps", none), "behind_steps", "behind_steps", defArgs s_behind_steps, defBody s_behind_steps, defScope s_behind_steps, [], []⟩
def d_Tied_init : He.DefD := ⟨("Tied", some "__init__"), "__init__", "Tied.__init__", defArgs s_Tied_init, defBody s_Tied_init, defScope s_Tied_init, [], []⟩
def d_Tied_keep_past : He.DefD := ⟨("Tied", some "keep_past"), "keep_past", "Tied.keep_past", defArgs s_Tied_keep_past, defBody s_Tied_keep_past, defScope s_Tied_keep_past, [], []⟩
def d_Tied_look_tie : He.DefD := ⟨("Tied", some "look_tie"), "look_tie", "Tied.look_tie", defArgs s_Tied_look_tie, defBody s_Tied_look_tie, defScope s_Tied_look_tie, [], []⟩
def d_Tied_hueing_now : He.DefD := ⟨("Tied", some "hueing_now"), "hueing_now", "Tied.hueing_now", defArgs s_Tied_hueing_now, defBody s_Tied_hueing_now, defScope s_Tied_hueing_now, [], []⟩
def d_Tied_take_on : He.DefD := ⟨("Tied", some "take_on"), "take_on", "Tied.take_on", defArgs s_Tied_take_on, defBody s_Tied_take_on, defScope s_Tied_take_on, [], []⟩
def d_Tied_come : He.DefD := ⟨("Tied", some "come"), "come", "Tied.come", defArgs s_Tied_come, defBody s_Tied_come, defScope s_Tied_come, [], []⟩
def d_Tied_go : He.DefD := ⟨("Tied", some "go"), "go", "Tied.go", defArgs s_Tied_go, defBody s_Tied_go, defScope s_Tied_go, [], []⟩
def d_Tied_hue_of : He.DefD := ⟨("Tied", some "hue_of"), "hue_of", "Tied.hue_of", defArgs s_Tied_hue_of, defBody s_Tied_hue_of, defScope s_Tied_hue_of, [], []⟩
def d_Tied_ties : He.DefD := ⟨("Tied", some "ties"), "ties", "Tied.ties", defArgs s_Tied_ties, defBody s_Tied_ties, defScope s_Tied_ties, [], []⟩
def d_Tied_limit : He.DefD := ⟨("Tied", some "limit"), "limit", "Tied.limit", defArgs s_Tied_limit, defBody s_Tied_limit, defScope s_Tied_limit, [], []⟩
def d_Tied_settle : He.DefD := ⟨("Tied", some "settle"), "settle", "Tied.settle", defArgs s_Tied_settle, defBody s_Tied_settle, defScope s_Tied_settle, [], []⟩
def d_Tied_web_now : He.DefD := ⟨("Tied", some "web_now"), "web_now", "Tied.web_now", defArgs s_Tied_web_now, defBody s_Tied_web_now, defScope s_Tied_web_now, [], []⟩
def d_neighbours_of : He.DefD := ⟨("neighbours_of", none), "neighbours_of", "neighbours_of", defArgs s_neighbours_of, defBody s_neighbours_of, defScope s_neighbours_of, [], []⟩
def d_Changing_init : He.DefD := ⟨("Changing", some "__init__"), "__init__", "Changing.__init__", defArgs s_Changing_init, defBody s_Changing_init, defScope s_Changing_init, [], []⟩
def d_Changing_free_for : He.DefD := ⟨("Changing", some "free_for"), "free_for", "Changing.free_for", defArgs s_Changing_free_for, defBody s_Changing_free_for, defScope s_Changing_free_for, [], []⟩
def d_Changing_is_lost : He.DefD := ⟨("Changing", some "is_lost"), "is_lost", "Changing.is_lost", defArgs s_Changing_is_lost, defBody s_Changing_is_lost, defScope s_Changing_is_lost, [], []⟩
def d_Changing_lost : He.DefD := ⟨("Changing", some "lost"), "lost", "Changing.lost", defArgs s_Changing_lost, defBody s_Changing_lost, defScope s_Changing_lost, [], []⟩
def d_Changing_next_tie : He.DefD := ⟨("Changing", some "next_tie"), "next_tie", "Changing.next_tie", defArgs s_Changing_next_tie, defBody s_Changing_next_tie, defScope s_Changing_next_tie, [], []⟩
def d_Changing_looked : He.DefD := ⟨("Changing", some "looked"), "looked", "Changing.looked", defArgs s_Changing_looked, defBody s_Changing_looked, defScope s_Changing_looked, [], []⟩
def d_least_changed : He.DefD := ⟨("least_changed", none), "least_changed", "least_changed", defArgs s_least_changed, defBody s_least_changed, defScope s_least_changed, [], []⟩
def d_sizes : He.DefD := ⟨("sizes", none), "sizes", "sizes", defArgs s_sizes, defBody s_sizes, defScope s_sizes, [], []⟩
def d_end_of_hue : He.DefD := ⟨("end_of_hue", none), "end_of_hue", "end_of_hue", defArgs s_end_of_hue, defBody s_end_of_hue, defScope s_end_of_hue, [], []⟩
def d_step_between : He.DefD := ⟨("step_between", none), "step_between", "step_between", defArgs s_step_between, defBody s_step_between, defScope s_step_between, [], []⟩
def d_evened : He.DefD := ⟨("evened", none), "evened", "evened", defArgs s_evened, defBody s_evened, defScope s_evened, [], []⟩
def d_l_tape : He.DefD := ⟨("_law_tape", none), "_law_tape", "_law_tape", defArgs s_l_tape, defBody s_l_tape, defScope s_l_tape, [], []⟩
def d_l_draw : He.DefD := ⟨("_law_draw", none), "_law_draw", "_law_draw", defArgs s_l_draw, defBody s_l_draw, defScope s_l_draw, [], []⟩
def d_l_pairs_by : He.DefD := ⟨("_law_pairs_by", none), "_law_pairs_by", "_law_pairs_by", defArgs s_l_pairs_by, defBody s_l_pairs_by, defScope s_l_pairs_by, [], []⟩
def d_l_web : He.DefD := ⟨("_law_web", none), "_law_web", "_law_web", defArgs s_l_web, defBody s_l_web, defScope s_l_web, [], []⟩
def d_l_comings : He.DefD := ⟨("_law_comings", none), "_law_comings", "_law_comings", defArgs s_l_comings, defBody s_l_comings, defScope s_l_comings, [], []⟩
def d_l_mixed : He.DefD := ⟨("_law_mixed", none), "_law_mixed", "_law_mixed", defArgs s_l_mixed, defBody s_l_mixed, defScope s_l_mixed, [], []⟩
def d_l_hues : He.DefD := ⟨("_law_hues", none), "_law_hues", "_law_hues", defArgs s_l_hues, defBody s_l_hues, defScope s_l_hues, [], []⟩
def d_l_come_right : He.DefD := ⟨("_law_come_right", none), "_law_come_right", "_law_come_right", defArgs s_l_come_right, defBody s_l_come_right, defScope s_l_come_right, [], []⟩
def d_l_even_right : He.DefD := ⟨("_law_even_right", none), "_law_even_right", "_law_even_right", defArgs s_l_even_right, defBody s_l_even_right, defScope s_l_even_right, [], []⟩
def d_l_all_go : He.DefD := ⟨("_law_all_go", none), "_law_all_go", "_law_all_go", defArgs s_l_all_go, defBody s_l_all_go, defScope s_l_all_go, [], []⟩
def d_law : He.DefD := ⟨("law", none), "law", "law", defArgs s_law, defBody s_law, defScope s_law, [], []⟩
def fn : List He.DefD := [d_is_number, d_look_place, d_look_tie, d_ties_by_place, d_ties_at, d_most_at, d_thickest, d_far_end, d_is_hue, d_clash_of, d_is_hueing, d_is_whole, d_hues_at, d_free_at, d_classes, d_tie_of, d_look_hues, d_row_from, d_neighbours, d_row_with, d_word_of, d_rows_of, d_other_of, d_exchanged, d_look_so, d_is_tie, d_with_hue, d_dropped, d_do_meet, d_moved, d_row_turned, d_made_by, d_done_step, d_played, d_first_back, d_next_of_fan, d_fan_of, d_chain_to, d_turning, d_shared_first, d_Fan_init, d_Fan_at_once, d_Fan_unlike_rows, d_Fan_end_of, d_Fan_by_row, d_Fan_steps, d_look_hues_enough, d_hued_in, d_all_hued, d_is_place, d_in_numbers, d_enough_for, d_behind_steps, d_Tied_init, d_Tied_keep_past, d_Tied_look_tie, d_Tied_hueing_now, d_Tied_take_on, d_Tied_come, d_Tied_go, d_Tied_hue_of, d_Tied_ties, d_Tied_limit, d_Tied_settle, d_Tied_web_now, d_neighbours_of, d_Changing_init, d_Changing_free_for, d_Changing_is_lost, d_Changing_lost, d_Changing_next_tie, d_Changing_looked, d_least_changed, d_sizes, d_end_of_hue, d_step_between, d_evened, d_l_tape, d_l_draw, d_l_pairs_by, d_l_web, d_l_comings, d_l_mixed, d_l_hues, d_l_come_right, d_l_even_right, d_l_all_go, d_law]
def fa : List He.Fa := [.glo "is_number", .glo "look_place", .glo "look_tie", .glo "ties_by_place", .glo "ties_at", .glo "most_at", .glo "thickest", .glo "far_end", .glo "is_hue", .glo "clash_of", .glo "is_hueing", .glo "is_whole", .glo "hues_at", .glo "free_at", .glo "classes", .glo "tie_of", .glo "look_hues", .glo "row_from", .glo "neighbours", .glo "row_with", .glo "word_of", .glo "rows_of", .glo "other_of", .glo "exchanged", .glo "look_so", .glo "is_tie", .glo "with_hue", .glo "dropped", .glo "do_meet", .glo "moved", .glo "row_turned", .glo "made_by", .glo "done_step", .glo "played", .glo "first_back", .glo "next_of_fan", .glo "fan_of", .glo "chain_to", .glo "turning", .glo "shared_first", .glo "look_hues_enough", .glo "hued_in", .glo "all_hued", .glo "is_place", .glo "in_numbers", .glo "enough_for", .glo "behind_steps", .glo "neighbours_of", .glo "least_changed", .glo "sizes", .glo "end_of_hue", .glo "step_between", .glo "evened", .glo "_law_tape", .glo "_law_draw", .glo "_law_pairs_by", .glo "_law_web", .glo "_law_comings", .glo "_law_mixed", .glo "_law_hues", .glo "_law_come_right", .glo "_law_even_right", .glo "_law_all_go", .glo "law", .free "len", .free "range", .free "enumerate", .free "zip", .free "isinstance", .free "int", .free "bool", .free "list", .free "tuple", .free "dict", .free "set", .free "sorted", .free "max", .free "min", .free "sum", .free "all", .free "abs", .glo "HueError", .glo "NoStep", .glo "Fan", .cls "Fan", .mkr "Fan", .glo "Tied", .cls "Tied", .mkr "Tied", .glo "Changing", .cls "Changing", .mkr "Changing", .meth "Fan" "at_once", .meth "Fan" "unlike_rows", .meth "Fan" "end_of", .meth "Fan" "by_row", .meth "Fan" "steps", .meth "Tied" "keep_past", .meth "Tied" "look_tie", .meth "Tied" "hueing_now", .meth "Tied" "take_on", .meth "Tied" "come", .meth "Tied" "go", .meth "Tied" "hue_of", .meth "Tied" "ties", .meth "Tied" "limit", .meth "Tied" "settle", .meth "Tied" "web_now", .meth "Changing" "free_for", .meth "Changing" "is_lost", .meth "Changing" "lost", .meth "Changing" "next_tie", .meth "Changing" "looked", .noat "Fan" "web", .noat "Fan" "hueing", .noat "Fan" "place", .noat "Fan" "fan", .noat "Fan" "ends", .noat "Fan" "free", .noat "Fan" "rows", .noat "Tied" "many", .noat "Tied" "ends", .noat "Tied" "hues", .noat "Tied" "given", .noat "Tied" "bound", .noat "Tied" "past", .noat "Changing" "near", .noat "Changing" "old", .noat "Changing" "hues", .noat "Changing" "way", .str "OPEN" "open", .str "RING" "ring", .str "HUE" "hue", .str "DROP" "drop", .str "MOVE" "move", .str "TRY" "try", .glo "DEAR"]
abbrev R : PySem.W.OpenRow := PySem.W.OpenLaw.row PySem.Challenge.rw_huedties_k92_whole_one_web_come_by
def lvl (g : Addr → Option Obj) (as : List Addr) : List Addr := as.flatMap fun a => match g a with
  | some o => He.refsO o
  | none => []
def asL (g : Addr → Option Obj) : Nat → List Addr → List Addr
  | 0, as => as
  | n + 1, as => as ++ asL g n (lvl g as)
/-- the def that makes a lambda: its code object, its table -/
abbrev nextD : He.Defn := ("Changing", some "next_tie")
abbrev nextC (K : PySem.W.Frag) : Addr × Addr := He.cT K nextD
def kOf (g : Addr → Option Obj) : PySem.W.Frag := He.frT g (asL g 4 [mainGlobals])
structure SaysL (h : Heap) (K : PySem.W.Frag) : Prop where
  t : He.SaysD fa fn K
  hd : PySem.W.codeHdIn K (nextC K).1 (nextC K).2 = true
  out : K.lookup (nextC K).2 = none
  empty : h.get? (nextC K).2 = some { cls := .none, data := .fields #[] }
abbrev AlL : Type := He.AlD × Bool
def obG (K : PySem.W.Frag) (g : Addr → Option Obj) : AlL := (He.obsD fa fn K, He.tabsB g [nextD] K)
def obL (g : Addr → Option Obj) : AlL := obG (kOf g) g
theorem saysL_of {h : Heap} (e : obL h.get? = (He.valD fn, true)) : SaysL h (kOf h.get?) := by
  have e1 : He.obsD fa fn (kOf h.get?) = He.valD fn := congrArg (fun z : AlL => z.1) e
  have e2 : He.tabsB h.get? [nextD] (kOf h.get?) = true := congrArg (fun z : AlL => z.2) e
  obtain ⟨h3, h4⟩ := He.ba (List.all_eq_true.mp e2 nextD (List.mem_singleton.mpr rfl))
  have h4 : (match h.get? (nextC (kOf h.get?)).2 with
    | some o => He.emptyTab o
    | none => false) = true := h4
  cases q : h.get? (nextC (kOf h.get?)).2 with
  | none =>
    rw [q] at h4
    cases h4
  | some o =>
    rw [q] at h4
    exact ⟨e1, h3, He.frT_none q h4, by rw [q, He.emptyTab_eq h4]⟩
def hk : PySem.W.Hook where
  α := AlL
  obs := fun s => obL s.heap.get?
  val := fun _ => (He.valD fn, true)
  says := fun _ h => ∃ K : PySem.W.Frag, K.In h ∧ SaysL h K
  of := fun _ _ e => ⟨_, He.frT_in, saysL_of e⟩
  keeps := fun _ _ _ ⟨K, hK, c⟩ k => ⟨K, PySem.W.Frag.In.keeps hK k, ⟨c.t, c.hd, c.out, k _ _ c.empty⟩⟩
def ob (s : PySem.W.SharedT) : AlL := obL (HandSHeadRun.getT s)
theorem ob_eq (s : PySem.W.SharedT) : ob s = hk.obs s.abs := by
  have e : HandSHeadRun.getT s = s.abs.heap.get? := funext fun a => HandSHeadRun.getT_eq s a
  show obL (HandSHeadRun.getT s) = obL s.abs.heap.get?
  rw [e]
def names0 : List PySem.Str := ["_wall", "HueError", "NoPlace", "NoTie", "NoRow", "NoFan", "TooFew", "NoStep", "is_number", "look_place", "look_tie", "ties_by_place", "ties_at", "most_at", "thickest", "far_end", "is_hue", "clash_of", "is_hueing", "is_whole"]
def names1 : List PySem.Str := ["hues_at", "free_at", "classes", "OPEN", "RING", "tie_of", "look_hues", "row_from", "neighbours", "row_with", "word_of", "rows_of", "other_of", "exchanged", "HUE", "DROP", "MOVE", "look_so", "is_tie", "with_hue"]
def names2 : List PySem.Str := ["dropped", "do_meet", "moved", "row_turned", "made_by", "done_step", "played", "first_back", "next_of_fan", "fan_of", "chain_to", "turning", "shared_first", "Fan", "look_hues_enough", "hued_in", "all_hued", "is_place", "in_numbers", "enough_for"]
def names3 : List PySem.Str := ["behind_steps", "Tied", "DEAR", "TRY", "neighbours_of", "Changing", "least_changed", "sizes", "end_of_hue", "step_between", "evened", "_law_tape", "_law_draw", "_law_pairs_by", "_law_web", "_law_comings", "_law_mixed", "_law_hues", "_law_come_right", "_law_even_right"]
def names4 : List PySem.Str := ["_law_all_go"]
def names : List PySem.Str := names0 ++ names1 ++ names2 ++ names3 ++ names4

/-! ### what stands behind the top -/
structure Tx (P : Program) (w : World) (K : PySem.W.Frag) (mg : Str → Option Value) (base : Heap) : Prop where
  says : He.SaysD fa fn K
  heap : ∃ h : Heap, K.In h ∧ h.Ns mainGlobals mg
  tab : LamX.TabB base mg (nextC K).1 (nextC K).2
/-- the def at a place keeps its promise, and how it is called -/
def Has (P : Program) (w : World) (K : PySem.W.Frag) (mg : Str → Option Value) (base : Heap) (k : Nat) (at_ : Str × Option Str) (ps : List Str) (sp : Sp) : Prop :=
  ∃ fd, FnOk P w K mg base CX0 k (He.fAd K at_) fd ps sp ∧ Binds K fd ps [] ∧ PySem.W.keepIn K (.ref (He.fAd K at_)) = true
section
variable {P : Program} {w : World} {K : PySem.W.Frag} {mg : Str → Option Value} {base : Heap}
theorem mkHas {d : He.DefD} {N ps : List Str} {k : Nat} {sp : Sp} (T : Tx P w K mg base) (i : Nat) (hd : fn[i]? = some d) (S : FnScope N ps d.scope) (hf : d.dfl = []) (hk : d.kwd = [])
    (hb : ∀ us : List Value, us.length = ps.length → ∀ (kV doc pm : Value) (an : Option Addr) (cdv ct : Value), bindArgs (PySem.W.fnOf d.name d.qual d.params d.body d.scope .none kV doc pm an cdv ct) ⟨us, []⟩ = pure (ps.zip us))
    (len : ∀ vs H Q E, sp vs H Q E → vs.length = ps.length)
    (hbody : ∀ (cdv : Value) (A : Around) (outer : List Env) (s : Shared) (H : Hp) (vs : List V) (Q : VK) (E : XK), Room k (A.deeper (envOfC d.qual d.scope s.heap.objs.size (He.fAd K d.at_) cdv)) → sp vs H Q E →
      ∃ t, PSs (cxOf CX0 P w K mg base N d.qual d.scope (He.fAd K d.at_) cdv A outer s H E) d.body t ∧ t { nx := fun _ H' => Q .non H', rt := Q } (start N vs) H) :
    Has P w K mg base (k + 1) d.at_ ps sp := by
  obtain ⟨fd, F⟩ := T.says.def_ i hd
  have ed : d.dvs K = [] := by unfold He.DefD.dvs; rw [hf]; rfl
  have ek : d.kws K = [] := by unfold He.DefD.kws; rw [hk]; rfl
  rw [ed, ek] at F
  exact ⟨fd, F.ok S len hbody, F.bindsN fun kV doc pm an cdv ct us hl => hb us hl kV doc pm an cdv ct, F.kp⟩
namespace Tx
variable (T : Tx P w K mg base)
include T
theorem g_is_number : mg "is_number" = some (.ref (He.fAd K ("is_number", none))) := let ⟨_, X, G⟩ := T.heap; He.glo_ok X G (T.says.fact 0 (f := .glo "is_number"))
theorem g_look_place : mg "look_place" = some (.ref (He.fAd K ("look_place", none))) := let ⟨_, X, G⟩ := T.heap; He.glo_ok X G (T.says.fact 1 (f := .glo "look_place"))
theorem g_look_tie : mg "look_tie" = some (.ref (He.fAd K ("look_tie", none))) := let ⟨_, X, G⟩ := T.heap; He.glo_ok X G (T.says.fact 2 (f := .glo "look_tie"))
theorem g_ties_by_place : mg "ties_by_place" = some (.ref (He.fAd K ("ties_by_place", none))) := let ⟨_, X, G⟩ := T.heap; He.glo_ok X G (T.says.fact 3 (f := .glo "ties_by_place"))
theorem g_ties_at : mg "ties_at" = some (.ref (He.fAd K ("ties_at", none))) := let ⟨_, X, G⟩ := T.heap; He.glo_ok X G (T.says.fact 4 (f := .glo "ties_at"))
theorem g_most_at : mg "most_at" = some (.ref (He.fAd K ("most_at", none))) := let ⟨_, X, G⟩ := T.heap; He.glo_ok X G (T.says.fact 5 (f := .glo "most_at"))
theorem g_thickest : mg "thickest" = some (.ref (He.fAd K ("thickest", none))) := let ⟨_, X, G⟩ := T.heap; He.glo_ok X G (T.says.fact 6 (f := .glo "thickest"))
theorem g_far_end : mg "far_end" = some (.ref (He.fAd K ("far_end", none))) := let ⟨_, X, G⟩ := T.heap; He.glo_ok X G (T.says.fact 7 (f := .glo "far_end"))
theorem g_is_hue : mg "is_hue" = some (.ref (He.fAd K ("is_hue", none))) := let ⟨_, X, G⟩ := T.heap; He.glo_ok X G (T.says.fact 8 (f := .glo "is_hue"))
theorem g_clash_of : mg "clash_of" = some (.ref (He.fAd K ("clash_of", none))) := let ⟨_, X, G⟩ := T.heap; He.glo_ok X G (T.says.fact 9 (f := .glo "clash_of"))
theorem g_is_hueing : mg "is_hueing" = some (.ref (He.fAd K ("is_hueing", none))) := let ⟨_, X, G⟩ := T.heap; He.glo_ok X G (T.says.fact 10 (f := .glo "is_hueing"))
theorem g_is_whole : mg "is_whole" = some (.ref (He.fAd K ("is_whole", none))) := let ⟨_, X, G⟩ := T.heap; He.glo_ok X G (T.says.fact 11 (f := .glo "is_whole"))
theorem g_hues_at : mg "hues_at" = some (.ref (He.fAd K ("hues_at", none))) := let ⟨_, X, G⟩ := T.heap; He.glo_ok X G (T.says.fact 12 (f := .glo "hues_at"))
theorem g_free_at : mg "free_at" = some (.ref (He.fAd K ("free_at", none))) := let ⟨_, X, G⟩ := T.heap; He.glo_ok X G (T.says.fact 13 (f := .glo "free_at"))
theorem g_classes : mg "classes" = some (.ref (He.fAd K ("classes", none))) := let ⟨_, X, G⟩ := T.heap; He.glo_ok X G (T.says.fact 14 (f := .glo "classes"))
theorem g_tie_of : mg "tie_of" = some (.ref (He.fAd K ("tie_of", none))) := let ⟨_, X, G⟩ := T.heap; He.glo_ok X G (T.says.fact 15 (f := .glo "tie_of"))
theorem g_look_hues : mg "look_hues" = some (.ref (He.fAd K ("look_hues", none))) := let ⟨_, X, G⟩ := T.heap; He.glo_ok X G (T.says.fact 16 (f := .glo "look_hues"))
theorem g_row_from : mg "row_from" = some (.ref (He.fAd K ("row_from", none))) := let ⟨_, X, G⟩ := T.heap; He.glo_ok X G (T.says.fact 17 (f := .glo "row_from"))
theorem g_neighbours : mg "neighbours" = some (.ref (He.fAd K ("neighbours", none))) := let ⟨_, X, G⟩ := T.heap; He.glo_ok X G (T.says.fact 18 (f := .glo "neighbours"))
theorem g_row_with : mg "row_with" = some (.ref (He.fAd K ("row_with", none))) := let ⟨_, X, G⟩ := T.heap; He.glo_ok X G (T.says.fact 19 (f := .glo "row_with"))
theorem g_word_of : mg "word_of" = some (.ref (He.fAd K ("word_of", none))) := let ⟨_, X, G⟩ := T.heap; He.glo_ok X G (T.says.fact 20 (f := .glo "word_of"))
theorem g_rows_of : mg "rows_of" = some (.ref (He.fAd K ("rows_of", none))) := let ⟨_, X, G⟩ := T.heap; He.glo_ok X G (T.says.fact 21 (f := .glo "rows_of"))
theorem g_other_of : mg "other_of" = some (.ref (He.fAd K ("other_of", none))) := let ⟨_, X, G⟩ := T.heap; He.glo_ok X G (T.says.fact 22 (f := .glo "other_of"))
theorem g_exchanged : mg "exchanged" = some (.ref (He.fAd K ("exchanged", none))) := let ⟨_, X, G⟩ := T.heap; He.glo_ok X G (T.says.fact 23 (f := .glo "exchanged"))
theorem g_look_so : mg "look_so" = some (.ref (He.fAd K ("look_so", none))) := let ⟨_, X, G⟩ := T.heap; He.glo_ok X G (T.says.fact 24 (f := .glo "look_so"))
theorem g_is_tie : mg "is_tie" = some (.ref (He.fAd K ("is_tie", none))) := let ⟨_, X, G⟩ := T.heap; He.glo_ok X G (T.says.fact 25 (f := .glo "is_tie"))
theorem g_with_hue : mg "with_hue" = some (.ref (He.fAd K ("with_hue", none))) := let ⟨_, X, G⟩ := T.heap; He.glo_ok X G (T.says.fact 26 (f := .glo "with_hue"))
theorem g_dropped : mg "dropped" = some (.ref (He.fAd K ("dropped", none))) := let ⟨_, X, G⟩ := T.heap; He.glo_ok X G (T.says.fact 27 (f := .glo "dropped"))
theorem g_do_meet : mg "do_meet" = some (.ref (He.fAd K ("do_meet", none))) := let ⟨_, X, G⟩ := T.heap; He.glo_ok X G (T.says.fact 28 (f := .glo "do_meet"))
theorem g_moved : mg "moved" = some (.ref (He.fAd K ("moved", none))) := let ⟨_, X, G⟩ := T.heap; He.glo_ok X G (T.says.fact 29 (f := .glo "moved"))
theorem g_row_turned : mg "row_turned" = some (.ref (He.fAd K ("row_turned", none))) := let ⟨_, X, G⟩ := T.heap; He.glo_ok X G (T.says.fact 30 (f := .glo "row_turned"))
theorem g_made_by : mg "made_by" = some (.ref (He.fAd K ("made_by", none))) := let ⟨_, X, G⟩ := T.heap; He.glo_ok X G (T.says.fact 31 (f := .glo "made_by"))
theorem g_done_step : mg "done_step" = some (.ref (He.fAd K ("done_step", none))) := let ⟨_, X, G⟩ := T.heap; He.glo_ok X G (T.says.fact 32 (f := .glo "done_step"))
theorem g_played : mg "played" = some (.ref (He.fAd K ("played", none))) := let ⟨_, X, G⟩ := T.heap; He.glo_ok X G (T.says.fact 33 (f := .glo "played"))
theorem g_first_back : mg "first_back" = some (.ref (He.fAd K ("first_back", none))) := let ⟨_, X, G⟩ := T.heap; He.glo_ok X G (T.says.fact 34 (f := .glo "first_back"))
theorem g_next_of_fan : mg "next_of_fan" = some (.ref (He.fAd K ("next_of_fan", none))) := let ⟨_, X, G⟩ := T.heap; He.glo_ok X G (T.says.fact 35 (f := .glo "next_of_fan"))
theorem g_fan_of : mg "fan_of" = some (.ref (He.fAd K ("fan_of", none))) := let ⟨_, X, G⟩ := T.heap; He.glo_ok X G (T.says.fact 36 (f := .glo "fan_of"))
theorem g_chain_to : mg "chain_to" = some (.ref (He.fAd K ("chain_to", none))) := let ⟨_, X, G⟩ := T.heap; He.glo_ok X G (T.says.fact 37 (f := .glo "chain_to"))
theorem g_turning : mg "turning" = some (.ref (He.fAd K ("turning", none))) := let ⟨_, X, G⟩ := T.heap; He.glo_ok X G (T.says.fact 38 (f := .glo "turning"))
theorem g_shared_first : mg "shared_first" = some (.ref (He.fAd K ("shared_first", none))) := let ⟨_, X, G⟩ := T.heap; He.glo_ok X G (T.says.fact 39 (f := .glo "shared_first"))
theorem g_look_hues_enough : mg "look_hues_enough" = some (.ref (He.fAd K ("look_hues_enough", none))) := let ⟨_, X, G⟩ := T.heap; He.glo_ok X G (T.says.fact 40 (f := .glo "look_hues_enough"))
theorem g_hued_in : mg "hued_in" = some (.ref (He.fAd K ("hued_in", none))) := let ⟨_, X, G⟩ := T.heap; He.glo_ok X G (T.says.fact 41 (f := .glo "hued_in"))
theorem g_all_hued : mg "all_hued" = some (.ref (He.fAd K ("all_hued", none))) := let ⟨_, X, G⟩ := T.heap; He.glo_ok X G (T.says.fact 42 (f := .glo "all_hued"))
theorem g_is_place : mg "is_place" = some (.ref (He.fAd K ("is_place", none))) := let ⟨_, X, G⟩ := T.heap; He.glo_ok X G (T.says.fact 43 (f := .glo "is_place"))
theorem g_in_numbers : mg "in_numbers" = some (.ref (He.fAd K ("in_numbers", none))) := let ⟨_, X, G⟩ := T.heap; He.glo_ok X G (T.says.fact 44 (f := .glo "in_numbers"))
theorem g_enough_for : mg "enough_for" = some (.ref (He.fAd K ("enough_for", none))) := let ⟨_, X, G⟩ := T.heap; He.glo_ok X G (T.says.fact 45 (f := .glo "enough_for"))
theorem g_behind_steps : mg "behind_steps" = some (.ref (He.fAd K ("behind_steps", none))) := let ⟨_, X, G⟩ := T.heap; He.glo_ok X G (T.says.fact 46 (f := .glo "behind_steps"))
theorem g_neighbours_of : mg "neighbours_of" = some (.ref (He.fAd K ("neighbours_of", none))) := let ⟨_, X, G⟩ := T.heap; He.glo_ok X G (T.says.fact 47 (f := .glo "neighbours_of"))
theorem g_least_changed : mg "least_changed" = some (.ref (He.fAd K ("least_changed", none))) := let ⟨_, X, G⟩ := T.heap; He.glo_ok X G (T.says.fact 48 (f := .glo "least_changed"))
theorem g_sizes : mg "sizes" = some (.ref (He.fAd K ("sizes", none))) := let ⟨_, X, G⟩ := T.heap; He.glo_ok X G (T.says.fact 49 (f := .glo "sizes"))
theorem g_end_of_hue : mg "end_of_hue" = some (.ref (He.fAd K ("end_of_hue", none))) := let ⟨_, X, G⟩ := T.heap; He.glo_ok X G (T.says.fact 50 (f := .glo "end_of_hue"))
theorem g_step_between : mg "step_between" = some (.ref (He.fAd K ("step_between", none))) := let ⟨_, X, G⟩ := T.heap; He.glo_ok X G (T.says.fact 51 (f := .glo "step_between"))
theorem g_evened : mg "evened" = some (.ref (He.fAd K ("evened", none))) := let ⟨_, X, G⟩ := T.heap; He.glo_ok X G (T.says.fact 52 (f := .glo "evened"))
theorem g_l_tape : mg "_law_tape" = some (.ref (He.fAd K ("_law_tape", none))) := let ⟨_, X, G⟩ := T.heap; He.glo_ok X G (T.says.fact 53 (f := .glo "_law_tape"))
theorem g_l_draw : mg "_law_draw" = some (.ref (He.fAd K ("_law_draw", none))) := let ⟨_, X, G⟩ := T.heap; He.glo_ok X G (T.says.fact 54 (f := .glo "_law_draw"))
theorem g_l_pairs_by : mg "_law_pairs_by" = some (.ref (He.fAd K ("_law_pairs_by", none))) := let ⟨_, X, G⟩ := T.heap; He.glo_ok X G (T.says.fact 55 (f := .glo "_law_pairs_by"))
theorem g_l_web : mg "_law_web" = some (.ref (He.fAd K ("_law_web", none))) := let ⟨_, X, G⟩ := T.heap; He.glo_ok X G (T.says.fact 56 (f := .glo "_law_web"))
theorem g_l_comings : mg "_law_comings" = some (.ref (He.fAd K ("_law_comings", none))) := let ⟨_, X, G⟩ := T.heap; He.glo_ok X G (T.says.fact 57 (f := .glo "_law_comings"))
theorem g_l_mixed : mg "_law_mixed" = some (.ref (He.fAd K ("_law_mixed", none))) := let ⟨_, X, G⟩ := T.heap; He.glo_ok X G (T.says.fact 58 (f := .glo "_law_mixed"))
theorem g_l_hues : mg "_law_hues" = some (.ref (He.fAd K ("_law_hues", none))) := let ⟨_, X, G⟩ := T.heap; He.glo_ok X G (T.says.fact 59 (f := .glo "_law_hues"))
theorem g_l_come_right : mg "_law_come_right" = some (.ref (He.fAd K ("_law_come_right", none))) := let ⟨_, X, G⟩ := T.heap; He.glo_ok X G (T.says.fact 60 (f := .glo "_law_come_right"))
theorem g_l_even_right : mg "_law_even_right" = some (.ref (He.fAd K ("_law_even_right", none))) := let ⟨_, X, G⟩ := T.heap; He.glo_ok X G (T.says.fact 61 (f := .glo "_law_even_right"))
theorem g_l_all_go : mg "_law_all_go" = some (.ref (He.fAd K ("_law_all_go", none))) := let ⟨_, X, G⟩ := T.heap; He.glo_ok X G (T.says.fact 62 (f := .glo "_law_all_go"))
theorem g_law : mg "law" = some (.ref (He.fAd K ("law", none))) := let ⟨_, X, G⟩ := T.heap; He.glo_ok X G (T.says.fact 63 (f := .glo "law"))
theorem b_len : mg "len" = none := let ⟨_, X, G⟩ := T.heap; He.free_ok X G (T.says.fact 64 (f := .free "len"))
theorem b_range : mg "range" = none := let ⟨_, X, G⟩ := T.heap; He.free_ok X G (T.says.fact 65 (f := .free "range"))
theorem b_enumerate : mg "enumerate" = none := let ⟨_, X, G⟩ := T.heap; He.free_ok X G (T.says.fact 66 (f := .free "enumerate"))
theorem b_zip : mg "zip" = none := let ⟨_, X, G⟩ := T.heap; He.free_ok X G (T.says.fact 67 (f := .free "zip"))
theorem b_isinstance : mg "isinstance" = none := let ⟨_, X, G⟩ := T.heap; He.free_ok X G (T.says.fact 68 (f := .free "isinstance"))
theorem b_int : mg "int" = none := let ⟨_, X, G⟩ := T.heap; He.free_ok X G (T.says.fact 69 (f := .free "int"))
theorem b_bool : mg "bool" = none := let ⟨_, X, G⟩ := T.heap; He.free_ok X G (T.says.fact 70 (f := .free "bool"))
theorem b_list : mg "list" = none := let ⟨_, X, G⟩ := T.heap; He.free_ok X G (T.says.fact 71 (f := .free "list"))
theorem b_tuple : mg "tuple" = none := let ⟨_, X, G⟩ := T.heap; He.free_ok X G (T.says.fact 72 (f := .free "tuple"))
theorem b_dict : mg "dict" = none := let ⟨_, X, G⟩ := T.heap; He.free_ok X G (T.says.fact 73 (f := .free "dict"))
theorem b_set : mg "set" = none := let ⟨_, X, G⟩ := T.heap; He.free_ok X G (T.says.fact 74 (f := .free "set"))
theorem b_sorted : mg "sorted" = none := let ⟨_, X, G⟩ := T.heap; He.free_ok X G (T.says.fact 75 (f := .free "sorted"))
theorem b_max : mg "max" = none := let ⟨_, X, G⟩ := T.heap; He.free_ok X G (T.says.fact 76 (f := .free "max"))
theorem b_min : mg "min" = none := let ⟨_, X, G⟩ := T.heap; He.free_ok X G (T.says.fact 77 (f := .free "min"))
theorem b_sum : mg "sum" = none := let ⟨_, X, G⟩ := T.heap; He.free_ok X G (T.says.fact 78 (f := .free "sum"))
theorem b_all : mg "all" = none := let ⟨_, X, G⟩ := T.heap; He.free_ok X G (T.says.fact 79 (f := .free "all"))
theorem b_abs : mg "abs" = none := let ⟨_, X, G⟩ := T.heap; He.free_ok X G (T.says.fact 80 (f := .free "abs"))
theorem g_HueError : mg "HueError" = some (.ref (He.ga K "HueError")) := let ⟨_, X, G⟩ := T.heap; He.glo_ok X G (T.says.fact 81 (f := .glo "HueError"))
theorem g_NoStep : mg "NoStep" = some (.ref (He.ga K "NoStep")) := let ⟨_, X, G⟩ := T.heap; He.glo_ok X G (T.says.fact 82 (f := .glo "NoStep"))
theorem g_Fan : mg "Fan" = some (.ref (He.ga K "Fan")) := let ⟨_, X, G⟩ := T.heap; He.glo_ok X G (T.says.fact 83 (f := .glo "Fan"))
theorem c_Fan : Cls K (He.ga K "Fan") := He.cls_ok (T.says.fact 84 (f := .cls "Fan"))
theorem mk_Fan : Mk K (He.ga K "Fan") (He.fAd K ("Fan", some "__init__")) := He.mkr_ok (T.says.fact 85 (f := .mkr "Fan"))
theorem g_Tied : mg "Tied" = some (.ref (He.ga K "Tied")) := let ⟨_, X, G⟩ := T.heap; He.glo_ok X G (T.says.fact 86 (f := .glo "Tied"))
theorem c_Tied : Cls K (He.ga K "Tied") := He.cls_ok (T.says.fact 87 (f := .cls "Tied"))
theorem mk_Tied : Mk K (He.ga K "Tied") (He.fAd K ("Tied", some "__init__")) := He.mkr_ok (T.says.fact 88 (f := .mkr "Tied"))
theorem g_Changing : mg "Changing" = some (.ref (He.ga K "Changing")) := let ⟨_, X, G⟩ := T.heap; He.glo_ok X G (T.says.fact 89 (f := .glo "Changing"))
theorem c_Changing : Cls K (He.ga K "Changing") := He.cls_ok (T.says.fact 90 (f := .cls "Changing"))
theorem mk_Changing : Mk K (He.ga K "Changing") (He.fAd K ("Changing", some "__init__")) := He.mkr_ok (T.says.fact 91 (f := .mkr "Changing"))
theorem m_Fan_at_once : Meth K (He.ga K "Fan") "at_once" (He.fAd K ("Fan", some "at_once")) := He.meth_ok (T.says.fact 92 (f := .meth "Fan" "at_once"))
theorem m_Fan_unlike_rows : Meth K (He.ga K "Fan") "unlike_rows" (He.fAd K ("Fan", some "unlike_rows")) := He.meth_ok (T.says.fact 93 (f := .meth "Fan" "unlike_rows"))
theorem m_Fan_end_of : Meth K (He.ga K "Fan") "end_of" (He.fAd K ("Fan", some "end_of")) := He.meth_ok (T.says.fact 94 (f := .meth "Fan" "end_of"))
theorem m_Fan_by_row : Meth K (He.ga K "Fan") "by_row" (He.fAd K ("Fan", some "by_row")) := He.meth_ok (T.says.fact 95 (f := .meth "Fan" "by_row"))
theorem m_Fan_steps : Meth K (He.ga K "Fan") "steps" (He.fAd K ("Fan", some "steps")) := He.meth_ok (T.says.fact 96 (f := .meth "Fan" "steps"))
theorem m_Tied_keep_past : Meth K (He.ga K "Tied") "keep_past" (He.fAd K ("Tied", some "keep_past")) := He.meth_ok (T.says.fact 97 (f := .meth "Tied" "keep_past"))
theorem m_Tied_look_tie : Meth K (He.ga K "Tied") "look_tie" (He.fAd K ("Tied", some "look_tie")) := He.meth_ok (T.says.fact 98 (f := .meth "Tied" "look_tie"))
theorem m_Tied_hueing_now : Meth K (He.ga K "Tied") "hueing_now" (He.fAd K ("Tied", some "hueing_now")) := He.meth_ok (T.says.fact 99 (f := .meth "Tied" "hueing_now"))
theorem m_Tied_take_on : Meth K (He.ga K "Tied") "take_on" (He.fAd K ("Tied", some "take_on")) := He.meth_ok (T.says.fact 100 (f := .meth "Tied" "take_on"))
theorem m_Tied_come : Meth K (He.ga K "Tied") "come" (He.fAd K ("Tied", some "come")) := He.meth_ok (T.says.fact 101 (f := .meth "Tied" "come"))
theorem m_Tied_go : Meth K (He.ga K "Tied") "go" (He.fAd K ("Tied", some "go")) := He.meth_ok (T.says.fact 102 (f := .meth "Tied" "go"))
theorem m_Tied_hue_of : Meth K (He.ga K "Tied") "hue_of" (He.fAd K ("Tied", some "hue_of")) := He.meth_ok (T.says.fact 103 (f := .meth "Tied" "hue_of"))
theorem m_Tied_ties : Meth K (He.ga K "Tied") "ties" (He.fAd K ("Tied", some "ties")) := He.meth_ok (T.says.fact 104 (f := .meth "Tied" "ties"))
theorem m_Tied_limit : Meth K (He.ga K "Tied") "limit" (He.fAd K ("Tied", some "limit")) := He.meth_ok (T.says.fact 105 (f := .meth "Tied" "limit"))
theorem m_Tied_settle : Meth K (He.ga K "Tied") "settle" (He.fAd K ("Tied", some "settle")) := He.meth_ok (T.says.fact 106 (f := .meth "Tied" "settle"))
theorem m_Tied_web_now : Meth K (He.ga K "Tied") "web_now" (He.fAd K ("Tied", some "web_now")) := He.meth_ok (T.says.fact 107 (f := .meth "Tied" "web_now"))
theorem m_Changing_free_for : Meth K (He.ga K "Changing") "free_for" (He.fAd K ("Changing", some "free_for")) := He.meth_ok (T.says.fact 108 (f := .meth "Changing" "free_for"))
theorem m_Changing_is_lost : Meth K (He.ga K "Changing") "is_lost" (He.fAd K ("Changing", some "is_lost")) := He.meth_ok (T.says.fact 109 (f := .meth "Changing" "is_lost"))
theorem m_Changing_lost : Meth K (He.ga K "Changing") "lost" (He.fAd K ("Changing", some "lost")) := He.meth_ok (T.says.fact 110 (f := .meth "Changing" "lost"))
theorem m_Changing_next_tie : Meth K (He.ga K "Changing") "next_tie" (He.fAd K ("Changing", some "next_tie")) := He.meth_ok (T.says.fact 111 (f := .meth "Changing" "next_tie"))
theorem m_Changing_looked : Meth K (He.ga K "Changing") "looked" (He.fAd K ("Changing", some "looked")) := He.meth_ok (T.says.fact 112 (f := .meth "Changing" "looked"))
theorem n_Fan_web : NoAttr K (He.ga K "Fan") "web" := He.noat_ok (T.says.fact 113 (f := .noat "Fan" "web"))
theorem n_Fan_hueing : NoAttr K (He.ga K "Fan") "hueing" := He.noat_ok (T.says.fact 114 (f := .noat "Fan" "hueing"))
theorem n_Fan_place : NoAttr K (He.ga K "Fan") "place" := He.noat_ok (T.says.fact 115 (f := .noat "Fan" "place"))
theorem n_Fan_fan : NoAttr K (He.ga K "Fan") "fan" := He.noat_ok (T.says.fact 116 (f := .noat "Fan" "fan"))
theorem n_Fan_ends : NoAttr K (He.ga K "Fan") "ends" := He.noat_ok (T.says.fact 117 (f := .noat "Fan" "ends"))
theorem n_Fan_free : NoAttr K (He.ga K "Fan") "free" := He.noat_ok (T.says.fact 118 (f := .noat "Fan" "free"))
theorem n_Fan_rows : NoAttr K (He.ga K "Fan") "rows" := He.noat_ok (T.says.fact 119 (f := .noat "Fan" "rows"))
theorem n_Tied_many : NoAttr K (He.ga K "Tied") "many" := He.noat_ok (T.says.fact 120 (f := .noat "Tied" "many"))
theorem n_Tied_ends : NoAttr K (He.ga K "Tied") "ends" := He.noat_ok (T.says.fact 121 (f := .noat "Tied" "ends"))
theorem n_Tied_hues : NoAttr K (He.ga K "Tied") "hues" := He.noat_ok (T.says.fact 122 (f := .noat "Tied" "hues"))
theorem n_Tied_given : NoAttr K (He.ga K "Tied") "given" := He.noat_ok (T.says.fact 123 (f := .noat "Tied" "given"))
theorem n_Tied_bound : NoAttr K (He.ga K "Tied") "bound" := He.noat_ok (T.says.fact 124 (f := .noat "Tied" "bound"))
theorem n_Tied_past : NoAttr K (He.ga K "Tied") "past" := He.noat_ok (T.says.fact 125 (f := .noat "Tied" "past"))
theorem n_Changing_near : NoAttr K (He.ga K "Changing") "near" := He.noat_ok (T.says.fact 126 (f := .noat "Changing" "near"))
theorem n_Changing_old : NoAttr K (He.ga K "Changing") "old" := He.noat_ok (T.says.fact 127 (f := .noat "Changing" "old"))
theorem n_Changing_hues : NoAttr K (He.ga K "Changing") "hues" := He.noat_ok (T.says.fact 128 (f := .noat "Changing" "hues"))
theorem n_Changing_way : NoAttr K (He.ga K "Changing") "way" := He.noat_ok (T.says.fact 129 (f := .noat "Changing" "way"))
theorem g_OPEN : ∃ t, mg "OPEN" = some (.str "open" t) := let ⟨_, X, G⟩ := T.heap; He.str_ok X G (T.says.fact 130 (f := .str "OPEN" "open"))
theorem g_RING : ∃ t, mg "RING" = some (.str "ring" t) := let ⟨_, X, G⟩ := T.heap; He.str_ok X G (T.says.fact 131 (f := .str "RING" "ring"))
theorem g_HUE : ∃ t, mg "HUE" = some (.str "hue" t) := let ⟨_, X, G⟩ := T.heap; He.str_ok X G (T.says.fact 132 (f := .str "HUE" "hue"))
theorem g_DROP : ∃ t, mg "DROP" = some (.str "drop" t) := let ⟨_, X, G⟩ := T.heap; He.str_ok X G (T.says.fact 133 (f := .str "DROP" "drop"))
theorem g_MOVE : ∃ t, mg "MOVE" = some (.str "move" t) := let ⟨_, X, G⟩ := T.heap; He.str_ok X G (T.says.fact 134 (f := .str "MOVE" "move"))
theorem g_TRY : ∃ t, mg "TRY" = some (.str "try" t) := let ⟨_, X, G⟩ := T.heap; He.str_ok X G (T.says.fact 135 (f := .str "TRY" "try"))
theorem g_DEAR : mg "DEAR" = some (.ref (He.ga K "DEAR")) := let ⟨_, X, G⟩ := T.heap; He.glo_ok X G (T.says.fact 136 (f := .glo "DEAR"))
end Tx
end
end Hu
end

/-! ## HuRun -/
section
set_option maxHeartbeats 0
set_option autoImplicit true
namespace Hu
open PySem PySem.Spec PyProof.Rows L2
theorem run (w : World) : HandSHeadRun.RunEq R (PySem.W.view R.prog [91]) hk ob 6000 names w := by
  intro os
  kernel_rfl
end Hu
end

/-! ## HuDef -/
section
set_option maxHeartbeats 4000000
set_option autoImplicit false
namespace Hu
/-! what the program speaks of, in plain Lean -/
abbrev Tie : Type := Nat × Nat
abbrev Hue : Type := List (Option Nat)
/-- a web within bounds -/
structure WebOk (m : Nat) (ts : List Tie) : Prop where
  many : m ≤ 1000
  len : ts.length ≤ 1000
  ok : ∀ t ∈ ts, t.1 < t.2 ∧ t.2 < m
abbrev en (ts : List Tie) (i : Nat) : Tie := ts.getD i (0, 0)
theorem getD_some {α : Type} {xs : List α} {i : Nat} {d : α} (h : i < xs.length) : xs[i]? = some (xs.getD i d) := by
  rw [List.getD_eq_getElem?_getD, List.getElem?_eq_getElem h]
  rfl
theorem getD_of {α : Type} {xs : List α} {i : Nat} {d x : α} (h : xs[i]? = some x) : xs.getD i d = x := by
  rw [List.getD_eq_getElem?_getD, h]
  rfl
theorem WebOk.at {m : Nat} {ts : List Tie} (W : WebOk m ts) {i : Nat} (h : i < ts.length) : (en ts i).1 < (en ts i).2 ∧ (en ts i).2 < m := W.ok _ (List.mem_of_getElem? (getD_some h))
def inc (t : Tie) (p : Nat) : Bool := decide (p = t.1) || decide (p = t.2)
theorem inc_iff {t : Tie} {p : Nat} : inc t p = true ↔ p = t.1 ∨ p = t.2 := by
  unfold inc
  simp
def tiesAt (ts : List Tie) (p : Nat) : List Nat := (List.range ts.length).filter fun i => inc (en ts i) p
theorem mem_tiesAt {ts : List Tie} {p i : Nat} : i ∈ tiesAt ts p ↔ i < ts.length ∧ inc (en ts i) p = true := by
  unfold tiesAt
  rw [List.mem_filter, List.mem_range]
def hu (h : Hue) (i : Nat) : Option Nat := h.getD i none
theorem hu_lt {h : Hue} {i c : Nat} (e : hu h i = some c) : i < h.length := by
  unfold hu at e
  rw [List.getD_eq_getElem?_getD] at e
  cases q : h[i]? with
  | none =>
    rw [q] at e
    cases e
  | some o => exact (List.getElem?_eq_some_iff.mp q).1
def far (ts : List Tie) (i p : Nat) : Nat := if p = (en ts i).1 then (en ts i).2 else (en ts i).1
def freeAt (ts : List Tie) (h : Hue) (p k : Nat) : List Nat := (List.range k).filter fun c => !((tiesAt ts p).any fun i => hu h i == some c)
def Proper (ts : List Tie) (h : Hue) : Prop := h.length = ts.length ∧ ∀ i j p c, i < ts.length → j < ts.length → inc (en ts i) p = true → inc (en ts j) p = true → hu h i = some c → hu h j = some c → i = j
def Below (h : Hue) (k : Nat) : Prop := ∀ i c, hu h i = some c → c < k
def Full (h : Hue) : Prop := ∀ i, i < h.length → hu h i ≠ none
/-- no tie at the place has the hue -/
def lacks (ts : List Tie) (h : Hue) (p c : Nat) : Prop := ∀ i, i < ts.length → inc (en ts i) p = true → hu h i ≠ some c
theorem mem_freeAt {ts : List Tie} {h : Hue} {p k c : Nat} : c ∈ freeAt ts h p k ↔ c < k ∧ lacks ts h p c := by
  unfold freeAt lacks
  rw [List.mem_filter, List.mem_range]
  constructor
  · rintro ⟨h1, h2⟩
    refine ⟨h1, fun i hi hp e => ?_⟩
    have : ((tiesAt ts p).any fun i => hu h i == some c) = true := List.any_eq_true.mpr ⟨i, mem_tiesAt.mpr ⟨hi, hp⟩, by rw [e]; simp⟩
    rw [this] at h2
    cases h2
  · rintro ⟨h1, h2⟩
    refine ⟨h1, ?_⟩
    cases q : ((tiesAt ts p).any fun i => hu h i == some c) with
    | false => rfl
    | true =>
      obtain ⟨i, hi, e⟩ := List.any_eq_true.mp q
      obtain ⟨a, b⟩ := mem_tiesAt.mp hi
      exact absurd (beq_iff_eq.mp e) (h2 i a b)
def maxL (l : List Nat) : Nat := l.foldl max 0
theorem foldl_max_ge : ∀ (l : List Nat) (n : Nat), n ≤ l.foldl max n ∧ ∀ y ∈ l, y ≤ l.foldl max n
  | [], n => ⟨Nat.le_refl _, fun y h => by cases h⟩
  | k :: r, n => by
    rw [List.foldl_cons]
    obtain ⟨h1, h2⟩ := foldl_max_ge r (max n k)
    refine ⟨by omega, fun y hy => ?_⟩
    rcases List.mem_cons.mp hy with e | e
    · subst e
      omega
    · exact h2 y e
theorem foldl_max_in : ∀ (l : List Nat) (n : Nat), l.foldl max n = n ∨ l.foldl max n ∈ l
  | [], n => .inl rfl
  | k :: r, n => by
    rw [List.foldl_cons]
    rcases foldl_max_in r (max n k) with h | h
    · rw [h]
      by_cases c : n ≤ k
      · exact .inr (by rw [Nat.max_eq_right c]; exact List.mem_cons_self)
      · exact .inl (Nat.max_eq_left (by omega))
    · exact .inr (List.mem_cons_of_mem _ h)
theorem le_maxL {l : List Nat} {y : Nat} (h : y ∈ l) : y ≤ maxL l := (foldl_max_ge l 0).2 y h
theorem maxL_in {l : List Nat} (h : l ≠ []) : maxL l ∈ l := by
  rcases foldl_max_in l 0 with e | e
  · cases l with
    | nil => exact absurd rfl h
    | cons x r =>
      have h1 : x ≤ maxL (x :: r) := le_maxL List.mem_cons_self
      have e' : maxL (x :: r) = 0 := e
      rw [e']
      have : x = 0 := by omega
      rw [this]
      exact List.mem_cons_self
  · exact e
theorem maxL_eq {l : List Nat} {x : Nat} (h : x ∈ l) (hl : ∀ y ∈ l, y ≤ x) : maxL l = x := by
  have h1 := le_maxL h
  have h2 := hl _ (maxL_in (fun z => by rw [z] at h; cases h))
  omega
def mostAt (m : Nat) (ts : List Tie) : Nat := maxL ((List.range m).map fun p => (tiesAt ts p).length)
def thick (ts : List Tie) : Nat := maxL (ts.map fun t => ts.count t)
/-- the ties that have a hue -/
def hasHue (h : Hue) (c : Nat) : List Nat := (List.range h.length).filter fun i => hu h i == some c
def sizesOf (h : Hue) (k : Nat) : List Nat := (List.range k).map fun c => (hasHue h c).length
def tieOf (ts : List Tie) (h : Hue) (p c : Nat) : Option Nat := (tiesAt ts p).find? fun i => hu h i == some c
end Hu
end

/-! ## HuBase -/
section
set_option maxHeartbeats 4000000
set_option autoImplicit true
namespace Hu
open PySem PySem.Spec PyProof.Rows L2
/-! ### values as data -/
abbrev vn (n : Nat) : V := .int (n : Int)
def vo : Option Nat → V
  | none => .non
  | some c => .int (c : Int)
theorem vo_none : vo none = V.non := rfl
theorem vo_some {c : Nat} : vo (some c) = V.int (c : Int) := rfl
theorem vo_eq_non {o : Option Nat} : (vo o = V.non) ↔ o = none := by cases o <;> simp [vo]
theorem vo_inj {a b : Option Nat} (h : vo a = vo b) : a = b := by
  cases a <;> cases b <;> simp [vo] at h
  · rfl
  · rw [Option.some.injEq]
    omega
theorem vo_flat {o : Option Nat} : flatV (vo o) = true := by cases o <;> rfl
theorem vo_scal (a b : Option Nat) : scal (vo a) (vo b) = true := by cases a <;> cases b <;> rfl
/-- values and data, place by place -/
def Al {α : Type} (R : V → α → Prop) (vs : List V) (xs : List α) : Prop := vs.length = xs.length ∧ ∀ (i : Nat) (v : V) (x : α), vs[i]? = some v → xs[i]? = some x → R v x
section
variable {α : Type} {R S : V → α → Prop} {vs : List V} {xs : List α}
theorem Al.nil : Al R [] ([] : List α) := ⟨rfl, fun i v x h _ => by simp at h⟩
theorem Al.snoc {v : V} {x : α} (h : Al R vs xs) (r : R v x) : Al R (vs ++ [v]) (xs ++ [x]) := by
  refine ⟨by simp [h.1], fun i v' x' h1 h2 => ?_⟩
  by_cases hi : i < vs.length
  · rw [List.getElem?_append_left hi] at h1
    rw [List.getElem?_append_left (by rw [← h.1]; exact hi)] at h2
    exact h.2 i v' x' h1 h2
  · have hi' : vs.length ≤ i := Nat.le_of_not_lt hi
    rw [List.getElem?_append_right hi'] at h1
    rw [List.getElem?_append_right (by rw [← h.1]; exact hi')] at h2
    rw [← h.1] at h2
    cases e : i - vs.length with
    | zero =>
      rw [e] at h1 h2
      simp at h1 h2
      rw [← h1, ← h2]
      exact r
    | succ n =>
      rw [e] at h1
      simp at h1
theorem Al.mono (h : Al R vs xs) (f : ∀ v x, R v x → S v x) : Al S vs xs := ⟨h.1, fun i v x a b => f _ _ (h.2 i v x a b)⟩
theorem Al.get (h : Al R vs xs) {i : Nat} {x : α} (e : xs[i]? = some x) : ∃ v, vs[i]? = some v ∧ R v x := by
  have hi : i < vs.length := by rw [h.1]; exact (List.getElem?_eq_some_iff.mp e).1
  exact ⟨vs[i], by simp [hi], h.2 i _ x (by simp [hi]) e⟩
theorem Al.getV (h : Al R vs xs) {i : Nat} {v : V} (e : vs[i]? = some v) : ∃ x, xs[i]? = some x ∧ R v x := by
  have hi : i < xs.length := by rw [← h.1]; exact (List.getElem?_eq_some_iff.mp e).1
  exact ⟨xs[i], by simp [hi], h.2 i v _ e (by simp [hi])⟩
end
theorem same_new {H : Hp} {p : Addr} {o : HO} (h : H p = none) : Same H (upd H p o) := fun b u e => by
  rw [upd_ne (ne_of_none e h)]
  exact e
/-- a place that H does not know may change -/
theorem same_mut {H H' : Hp} {p : Addr} {o : HO} (e : Same H H') (h : H p = none) : Same H (upd H' p o) := fun b u hb => by
  rw [upd_ne (ne_of_none hb h)]
  exact e b u hb
theorem none_upd {H : Hp} {p q : Addr} {o : HO} (h : upd H p o q = none) : H q = none := by
  by_cases e : q = p
  · subst e
    rw [upd_same] at h
    cases h
  · rw [upd_ne e] at h
    exact h
theorem small {n : Nat} (h : n ≤ 100000) : n ≤ sizeLine := Nat.le_trans h (by decide)
theorem smalls {n : Nat} (h : n < 100000) : n < sizeLine := Nat.lt_of_lt_of_le h (by decide)
/-! ### webs, hueings, lists -/
def TieR (H : Hp) (v : V) (t : Tie) : Prop := ∃ p, v = .ref p ∧ H p = some (.tup [vn t.1, vn t.2])
/-- a list, a tuple of things -/
def LstR {α : Type} (R : V → α → Prop) (H : Hp) (v : V) (xs : List α) : Prop := ∃ p vs, v = .ref p ∧ H p = some (.lst vs) ∧ Al R vs xs
def TupR {α : Type} (R : V → α → Prop) (H : Hp) (v : V) (xs : List α) : Prop := ∃ p vs, v = .ref p ∧ H p = some (.tup vs) ∧ Al R vs xs
/-- whole numbers -/
def NatR (H : Hp) (v : V) (ns : List Nat) : Prop := ∃ p, v = .ref p ∧ H p = some (.lst (ns.map vn))
/-- a hueing -/
def HueR (H : Hp) (v : V) (h : List (Option Nat)) : Prop := ∃ p, v = .ref p ∧ H p = some (.lst (h.map vo))
def WebR (H : Hp) (v : V) (m : Nat) (ts : List Tie) : Prop := ∃ a q, v = .ref a ∧ H a = some (.tup [vn m, .ref q]) ∧ TupR (TieR H) H (.ref q) ts
section
variable {H H' : Hp} {v : V}
theorem TieR.mono (e : Same H H') {t : Tie} (h : TieR H v t) : TieR H' v t := let ⟨p, a, b⟩ := h; ⟨p, a, e _ _ b⟩
theorem NatR.mono (e : Same H H') {ns : List Nat} (h : NatR H v ns) : NatR H' v ns := let ⟨p, a, b⟩ := h; ⟨p, a, e _ _ b⟩
theorem HueR.mono (e : Same H H') {ns : List (Option Nat)} (h : HueR H v ns) : HueR H' v ns := let ⟨p, a, b⟩ := h; ⟨p, a, e _ _ b⟩
theorem LstR.mono {α : Type} {R S : V → α → Prop} (e : Same H H') (f : ∀ v x, R v x → S v x) {xs : List α} (h : LstR R H v xs) : LstR S H' v xs := let ⟨p, vs, a, b, c⟩ := h; ⟨p, vs, a, e _ _ b, c.mono f⟩
theorem TupR.mono {α : Type} {R S : V → α → Prop} (e : Same H H') (f : ∀ v x, R v x → S v x) {xs : List α} (h : TupR R H v xs) : TupR S H' v xs := let ⟨p, vs, a, b, c⟩ := h; ⟨p, vs, a, e _ _ b, c.mono f⟩
theorem WebR.mono (e : Same H H') {m : Nat} {ts : List Tie} (h : WebR H v m ts) : WebR H' v m ts :=
  let ⟨a, q, x, y, z⟩ := h; ⟨a, q, x, e _ _ y, z.mono e fun _ _ r => r.mono e⟩
end
/-! ### the isinstance rule's premises -/
section
variable {K : PySem.W.Frag} {H : Hp}
theorem isi_int {n : Int} {Q : VK} (q : Q (.bl true) H) : rIsi K [.int n, .ty "int"] H Q :=
  ⟨_, _, _, _, true, rfl, .ty "int", .base (.int n), kit_ty (by decide +kernel), q⟩
theorem isi_int_bool {n : Int} {Q : VK} (q : Q (.bl false) H) : rIsi K [.int n, .ty "bool"] H Q :=
  ⟨_, _, _, _, false, rfl, .ty "bool", .base (.int n), kit_ty (by decide +kernel), q⟩
end
/-! ### comprehensions -/
/-- the heap without one place -/
def del (H : Hp) (D : Addr) : Hp := fun b => if b = D then none else H b
theorem del_same (H : Hp) (D : Addr) : Same (del H D) H := fun b o e => by
  unfold del at e
  by_cases h : b = D
  · rw [if_pos h] at e
    cases e
  · rw [if_neg h] at e
    exact e
theorem del_ne {H : Hp} {D b : Addr} (h : b ≠ D) : del H D b = H b := by unfold del; rw [if_neg h]
theorem del_upd (H : Hp) (D : Addr) (o : HO) : del (upd H D o) D = del H D := by
  funext b
  unfold del upd
  by_cases h : b = D
  · rw [if_pos h, if_pos h]
  · rw [if_neg h, if_neg h, if_neg h]
theorem del_mono {H H' : Hp} (D : Addr) (e : Same H H') : Same (del H D) (del H' D) := fun b o h => by
  unfold del at h ⊢
  by_cases q : b = D
  · rw [if_pos q] at h
    cases h
  · rw [if_neg q] at h ⊢
    exact e b o h
theorem range_filter_succ {f : Nat → Bool} {n : Nat} : (List.range (n + 1)).filter f = (List.range n).filter f ++ (if f n then [n] else []) := by
  rw [List.range_succ, List.filter_append]
  by_cases h : f n <;> simp [h]
theorem range_filter_le {f : Nat → Bool} {n : Nat} : ((List.range n).filter f).length ≤ n := by
  refine Nat.le_trans (List.length_filter_le _ _) ?_
  rw [List.length_range]
  exact Nat.le_refl _
section
variable {J : It} {n : Nat} {G : Hp → Prop} {Y : Nat → Hp → V → Hp → Prop} {g : TG} {tt : TT} {te : TE} {vs : List Nat} {σ : L2.St} {H1 : Hp} {D : Addr} {Qd : Hp → Prop}
/-- a comprehension whose steps change nothing that stood: P i tells of the i-th item's element -/
theorem lc_rel (w : Walk J n G Y) (hn : n < 100000) (hD : H1 D = none) (hG : ∀ H2, Same H1 H2 → G H2) (keep : Nat → Bool) (P : Nat → Hp → V → Prop) (mono : ∀ i H2 H3 v, Same H2 H3 → P i H2 v → P i H3 v)
    (step : ∀ i x H2 H3 acc, i < n → Same H1 H2 → H2 D = some (.lst acc) → Y i H2 x H3 → ∀ (Good : V → Hp → Prop) (Skip : Hp → Prop), (keep i = true → ∀ y H5, Same H2 H5 → P i (del H5 D) y → Good y H5) → (keep i = false → ∀ H5, Same H2 H5 → Skip H5) →
      g x (wipe σ vs) H3 fun σ2 H4 => wipe σ2 vs = wipe σ vs ∧ tt σ2 H4 fun b H5 => if b = true then te σ2 H5 Good else Skip H5)
    (hd : ∀ H2 ys, Same H1 H2 → H2 D = some (.lst ys) → Al (fun v i => P i H2 v) ys ((List.range n).filter keep) → Qd H2) :
    ∃ W : Nat → Nat → Hp → Prop, (∃ m, W 0 m (upd H1 D (.lst []))) ∧ ∀ i m H, W i m H →
      (J.stop i H ∧ Qd H) ∨ (J.go i H ∧ ∃ Nx : Hp → Prop, (∀ H', Nx H' → ∃ m', m' < m ∧ W (i + 1) m' H') ∧ ∀ x H', J.yld i H x H' → g x (wipe σ vs) H' fun σ2 H2 => wipe σ2 vs = wipe σ vs ∧ tt σ2 H2 fun b H3 =>
        if b = true then te σ2 H3 fun y H4 => ∃ acc, H4 D = some (.lst acc) ∧ acc.length < sizeLine ∧ Nx (upd H4 D (.lst (acc ++ [y]))) else Nx H3) := by
  refine lc_it w (fun i H2 => Same H1 H2 ∧ ∃ acc, H2 D = some (.lst acc) ∧ Al (fun v j => P j (del H2 D) v) acc ((List.range i).filter keep)) ⟨same_new hD, [], upd_same, .nil⟩ (fun i H2 _ h => hG H2 h.1) ?_ ?_
  · rintro i x H2 H3 hi ⟨s2, acc, d2, al⟩ y
    refine step i x H2 H3 acc hi s2 d2 y _ _ (fun hk z H5 s5 p5 => ?_) (fun hk H5 s5 => ?_)
    · refine ⟨acc, s5 _ _ d2, ?_, same_mut (s2.trans s5) hD, acc ++ [z], upd_same, ?_⟩
      · rw [al.1]
        exact smalls (Nat.lt_of_le_of_lt range_filter_le (by omega))
      · rw [range_filter_succ, if_pos hk, del_upd]
        exact (al.mono fun v j q => mono j _ _ v (del_mono D s5) q).snoc p5
    · refine ⟨s2.trans s5, acc, s5 _ _ d2, ?_⟩
      rw [range_filter_succ, if_neg (by rw [hk]; exact Bool.false_ne_true), List.append_nil]
      exact al.mono fun v j q => mono j _ _ v (del_mono D s5) q
  · rintro H2 ⟨s2, acc, d2, al⟩
    exact hd H2 acc s2 d2 (al.mono fun v j q => mono j _ _ v (del_same H2 D) q)
theorem Al.map_eq {α : Type} {f : α → V} {ys : List V} {xs : List α} (h : Al (fun v x => v = f x) ys xs) : ys = xs.map f := by
  refine List.ext_getElem? fun i => ?_
  rw [List.getElem?_map]
  cases e : xs[i]? with
  | none =>
    have := List.getElem?_eq_none_iff.mp e
    rw [← h.1] at this
    exact List.getElem?_eq_none_iff.mpr this
  | some x =>
    obtain ⟨v, e1, e2⟩ := h.get e
    rw [e1, e2]
    rfl
/-- .. whose elements are values f i -/
theorem lc_val (w : Walk J n G Y) (hn : n < 100000) (hD : H1 D = none) (hG : ∀ H2, Same H1 H2 → G H2) (keep : Nat → Bool) (f : Nat → V)
    (step : ∀ i x H2 H3 acc, i < n → Same H1 H2 → H2 D = some (.lst acc) → Y i H2 x H3 → ∀ (Good : V → Hp → Prop) (Skip : Hp → Prop), (keep i = true → ∀ H5, Same H2 H5 → Good (f i) H5) → (keep i = false → ∀ H5, Same H2 H5 → Skip H5) →
      g x (wipe σ vs) H3 fun σ2 H4 => wipe σ2 vs = wipe σ vs ∧ tt σ2 H4 fun b H5 => if b = true then te σ2 H5 Good else Skip H5)
    (hd : ∀ H2, Same H1 H2 → H2 D = some (.lst (((List.range n).filter keep).map f)) → Qd H2) :
    ∃ W : Nat → Nat → Hp → Prop, (∃ m, W 0 m (upd H1 D (.lst []))) ∧ ∀ i m H, W i m H →
      (J.stop i H ∧ Qd H) ∨ (J.go i H ∧ ∃ Nx : Hp → Prop, (∀ H', Nx H' → ∃ m', m' < m ∧ W (i + 1) m' H') ∧ ∀ x H', J.yld i H x H' → g x (wipe σ vs) H' fun σ2 H2 => wipe σ2 vs = wipe σ vs ∧ tt σ2 H2 fun b H3 =>
        if b = true then te σ2 H3 fun y H4 => ∃ acc, H4 D = some (.lst acc) ∧ acc.length < sizeLine ∧ Nx (upd H4 D (.lst (acc ++ [y]))) else Nx H3) :=
  lc_rel w hn hD hG keep (fun i _ v => v = f i) (fun _ _ _ _ _ h => h)
    (fun i x H2 H3 acc hi s2 d2 y Good Skip h1 h2 => step i x H2 H3 acc hi s2 d2 y Good Skip (fun hk H5 s5 => h1 hk _ H5 s5 rfl) h2)
    (fun H2 ys s2 d2 al => hd H2 s2 (by rw [d2, al.map_eq]))
end
theorem filter_all {n : Nat} : (List.range n).filter (fun _ => true) = List.range n := List.filter_eq_self.mpr fun _ _ => rfl
theorem ty_lst {K : PySem.W.Frag} {H : Hp} {p : Addr} {xs : List V} (h : H p = some (.lst xs)) : tyV K "list" (.ref p) H := Or.inl ⟨rfl, _, .of h⟩
theorem ty_dK {K : PySem.W.Frag} {H : Hp} {p : Addr} {kvs : List (Key × V)} (h : H p = some (.dK kvs)) : tyV K "dict" (.ref p) H := Or.inr (Or.inr (Or.inl ⟨rfl, .inl ⟨_, h⟩⟩))
theorem ty_dT {K : PySem.W.Frag} {H : Hp} {p : Addr} {kvs : List (List Key × V)} (h : H p = some (.dT kvs)) : tyV K "dict" (.ref p) H := Or.inr (Or.inr (Or.inl ⟨rfl, .inr ⟨_, h⟩⟩))
end Hu
end

/-! ## HuLam -/
section
set_option maxHeartbeats 4000000
set_option autoImplicit true
namespace Hu
open PySem PySem.Spec PyProof.Rows L2
/-! ### min(xs, key=lambda t: ..): the lambda has one parameter and captures names -/
def lamF (X : Cx) (scope : Scope) (c' : Addr) : NdefX.NF := ⟨"<lambda>", X.env.qual ++ "<lambda>", default, [], scope, cloFrom X.env.cells scope.names [], c'⟩
section
variable {X : Cx}
/-- the lambda called with one thing -/
theorem lam_call {N fr : List Str} {t : Str} {js : List Nat} {params : Arguments} {body : Expr} {scope : Scope} {k : Nat} {pins : List (Addr × Obj)} {σ : L2.St} {f c' : Addr} {pm ctv : Value} {H : Hp} {s : PySem.Shared} {x : V} {u : Value} {Q : VK} {tb : TE}
    (I : Inv X pins σ H s) (S : NdefX.NScope N [t] fr scope) (C : NdefX.Caps X (cloFrom X.env.cells scope.names []) fr js)
    (hf : s.heap.get? f = some (PySem.W.kla_obj "<lambda>" (X.env.qual ++ "<lambda>") params body scope (cloFrom X.env.cells scope.names []) pm c' ctv)) (hco : H c' = some (LamX.CodeO c' (X.env.qual ++ "<lambda>"))) (hr : Room (k + 1) X.A.in1)
    (hbind : bindArgs (PySem.W.kla_fn "<lambda>" (X.env.qual ++ "<lambda>") params body scope (cloFrom X.env.cells scope.names []) pm (.ref c') ctv) ⟨[u], []⟩ = pure [(t, u)])
    (hbody : ∀ (s : PySem.Shared) (H : Hp), Room k (X.A.in1.deeper (NdefX.envF (lamF X scope c') f s.heap.objs.size)) → PE (NdefX.ncx L2.CX0 X.prog X.w X.K X.mg X.base N (lamF X scope c') f X.A.in1 X.stack s H L2.E0) body tb)
    (r : RelV x u) (h : tb (NdefX.startF N [x] (js.map (NdefX.slotAt σ))) H Q) :
    codeAny (model X.prog X.w) X.A.in1 (.call (.ref f) ⟨[u], []⟩) (CR L2.CX0 X.stack X.prog X.w H s Q L2.E0) s := by
  obtain ⟨⟨oc, vs, tk, hoc, hdc, hvc⟩, _, _⟩ := I.hok c' _ hco
  refine PySem.W.kla_callFunE hr.depth hf rfl S.co S.gen rfl ⟨c', oc, vs, tk, rfl, hoc, hdc, hvc⟩ ?_
  rw [hbind]
  refine wpAny_pure (wpAny_newFunctionEnv (fun y hy => S.nocell y hy) (fun y hy => ?_) (fun h₁ hns hsb => ⟨I.nolimit.fresh _ hsb, ?_⟩) S.kind)
  · rw [List.mem_singleton.mp hy]
    exact S.par t (List.mem_singleton.mpr rfl)
  have kp : ∀ b o, s.heap.get? b = some o → h₁.get? b = some o := fun b o e => hsb.extBut b o (Nat.ne_of_lt (Heap.lt_size e)) (Heap.get?_push_of_some _ e)
  have J : Inv (NdefX.ncx L2.CX0 X.prog X.w X.K X.mg X.base N (lamF X scope c') f X.A.in1 X.stack s H L2.E0) [] (NdefX.startF N [x] (js.map (NdefX.slotAt σ))) H { s with heap := h₁, toks := s.toks + 1 } :=
    NdefX.inv_startN (us := [u]) (F := lamF X scope c') S hr.hd I.env0.in1 rfl (.cons r .nil) (NdefX.cells_of I C) hns kp
  refine PySem.W.kla_codeExpr (wpAny_mono ((hbody s H (hr.deeper _)).run [] _ _ H Q J h) (fun v s' hq => ?_) fun e s' hq => hq)
  obtain ⟨w', H', J', rv, q⟩ := hq
  exact ⟨w', H', J'.os, J'.bare, J'.base, J'.hok, rv, q⟩
theorem hok_but {P : Program} {w : World} {H : Hp} {h h' : Heap} {ch : List Addr} (I : HOk P w H h) (hch : ∀ b ∈ ch, H b = none) (kp : ∀ b o, b ∉ ch → h.get? b = some o → h'.get? b = some o) : HOk P w H h' := fun b u e =>
  (I b u e).stay (fun d v hd q => kp d v (fun z => by
    rcases hd with y | y
    · rw [y] at z
      rw [hch b z] at e
      cases e
    · rw [hch d z] at y
      cases y) q) (fun _ q => q) fun _ _ q => q
/-- what is no one's own is written -/
theorem inv_moved {pins : List (Addr × Obj)} {σ : L2.St} {H : Hp} {s s' : PySem.Shared} {ch : List Addr} (I : Inv X pins σ H s) (hch : ∀ b ∈ ch, H b = none) (hnew : ∀ b ∈ ch, X.s_0.heap.objs.size ≤ b ∧ b ≠ X.env.locals ∧ (∀ x c, X.env.cells.lookup x = some c → c ≠ b) ∧ ∀ p ∈ X.pn ++ pins, p.1 ≠ b)
    (M : Moved ch (fun a b => b = a) s s') : Inv X pins σ H s' := by
  obtain ⟨h', g', d', t', os'⟩ := s'
  have hk : ∀ b o, b ∉ ch → s.heap.get? b = some o → h'.get? b = some o := M.heap
  have hg : g' = s.gens := M.gens
  have hd : d' = s.drawn := M.drawn
  have ho : os' = s.os := M.os
  subst hg hd ho
  refine I.step (ch := ch) (fun b hb => ⟨.inr (hnew b hb).1, (hnew b hb).2⟩) (fun b o _ _ n e _ => hk b o n e) (fun b o _ _ n e _ => ⟨o.slots, hk b o n e⟩) (fun b o _ _ n => n) (fun b o n e => ⟨o, hk b o n e⟩) (fun _ _ e => e) (fun _ _ _ e => e) (fun b ps e => ⟨#[], by simpa using e⟩) (fun m hn => ?_) (hok_but I.hok hch hk) I.bare
  obtain ⟨ob, es, ep, hob, r⟩ := hn
  exact ⟨ob, es, ep, hk _ ob (fun z => (hnew _ z).2.1 rfl) hob, r⟩
abbrev keyD (kf : Nat → Int × Int) (i : Nat) : PyData := .tuple [.int (kf i).1, .int (kf i).2]
/-- the key of the i-th thing: a pair at a place that min itself does not write -/
def KeyV (X : Cx) (H : Hp) (kf : Nat → Int × Int) (S It : Addr) (i : Nat) (k : Value) (s : PySem.Shared) : Prop := ∃ (p : Addr) (o : Obj) (t u : Tok) (n : Nat), k = .ref p ∧ p ≠ S ∧ p ≠ It ∧ p ∉ frs X.stack ∧ H p = none ∧ s.heap.get? p = some o ∧ o.cls = .type "tuple" ∧ o.data = .seq #[.int (kf i).1 t, .int (kf i).2 u] n
theorem KeyV.reads {H : Hp} {kf : Nat → Int × Int} {S It : Addr} {i : Nat} {k : Value} {s : PySem.Shared} (h : KeyV X H kf S It i k s) : ∃ as, Reads s.heap k (keyD kf i) as := by
  obtain ⟨p, o, t, u, n, rfl, _, _, _, _, ho, hc, hd⟩ := h
  exact ⟨_, Reads.tuple ho hc hd (.cons (.int _ _) (.cons (.int _ _) .nil))⟩
theorem key_cmp {H : Hp} {kf : Nat → Int × Int} {S It : Addr} {i j : Nat} {ki kj : Value} {s : PySem.Shared} {P : Program} {w : World} {A : Around} {Q E : Value → PySem.Shared → Prop} (hu : A.units + 8 < cLine) (h1 : KeyV X H kf S It i ki s) (h2 : KeyV X H kf S It j kj s) (q : Q (.bool (PySem.W.dataLt (keyD kf i) (keyD kf j))) s) :
    wpAny (model P w) A (richCompare .Lt ki kj) Q E s := by
  obtain ⟨as, r1⟩ := h1.reads
  obtain ⟨bs, r2⟩ := h2.reads
  refine PySem.W.rcLt_alike (keyD kf i) (keyD kf j) A s ki kj as bs r1 r2 rfl (fun z => nomatch z) ?_ P w E Q q
  have : (keyD kf i).depth ≤ 4 := by simp [PyData.depth, PyData.depthAll]
  have := Nat.min_le_left (keyD kf i).depth (keyD kf j).depth
  omega
/-! ### what a call made is let go again, but for tuples -/
def shed (H H' : Hp) : Hp := fun b => match H b, H' b with
  | some u, _ => some u
  | none, some (.tup xs) => some (.tup xs)
  | none, _ => none
theorem shed_some {H H' : Hp} {b : Addr} {u : HO} (e : H b = some u) : shed H H' b = some u := by
  unfold shed
  rw [e]
theorem shed_tup {H H' : Hp} {b : Addr} {xs : List V} (S : Same H H') (e : H' b = some (.tup xs)) : shed H H' b = some (.tup xs) := by
  unfold shed
  cases h : H b with
  | some u =>
    have z := S b u h
    rw [e] at z
    rw [Option.some.inj z]
  | none => rw [e]
theorem shed_none {H H' : Hp} {b : Addr} (S : Same H H') (e : H' b = none) : shed H H' b = none := by
  unfold shed
  cases h : H b with
  | some u =>
    have z := S b u h
    rw [e] at z
    cases z
  | none => rw [e]
theorem shed_back {H H' : Hp} {b : Addr} {u : HO} (S : Same H H') (e : shed H H' b = some u) : H b = some u ∨ (H b = none ∧ H' b = some u ∧ ∃ xs, u = .tup xs) := by
  unfold shed at e
  cases h : H b with
  | some v =>
    rw [h] at e
    exact .inl e
  | none =>
    rw [h] at e
    cases h' : H' b with
    | none =>
      rw [h'] at e
      cases e
    | some v =>
      rw [h'] at e
      cases v with
      | tup xs => exact .inr ⟨rfl, e, xs, (Option.some.inj e).symm⟩
      | _ => cases e
theorem objOk_shed {P : Program} {w : World} {H H' H3 : Hp} {h0 h : Heap} {a : Addr} {o : HO} (x0 : ObjOk P w H h0 a o) (x : ObjOk P w H' h a o) (ho : ∀ b, H b = some (.own a) → H3 b = some (.own a)) (ht : ∀ b xs, H' b = some (.tup xs) → H3 b = some (.tup xs)) : ObjOk P w H3 h a o := by
  induction o with
  | dT kvs =>
    obtain ⟨z, y, xs, r, ob, es, ep, e, c⟩ := x
    exact ⟨z, y, xs, Paired.mapP r fun p q z => ⟨z.1, ht _ _ z.2.1, z.2.2⟩, ob, es, ep, e, c⟩
  | ins C dx fs =>
    obtain ⟨d, _⟩ := x0
    obtain ⟨_, q⟩ := x
    exact ⟨ho _ d, q⟩
  | frz ob u ih => exact ⟨x.1, ih x0.2 x.2⟩
  | _ => exact x
theorem inv_shed {pins pins' : List (Addr × Obj)} {σ σ' : L2.St} {H H' : Hp} {s0 s : PySem.Shared} (I0 : Inv X pins σ H s0) (I : Inv X pins' σ' H' s) (S : Same H H') : Inv X pins' σ' (Hu.shed H H') s := by
  refine ⟨I.ok, I.os, I.bare, ⟨I.base.keep, I.base.slot, fun b o e n hx => shed_none S (I.base.free b o e n hx), I.base.there, fun b xs e => shed_tup S (I.base.tups b xs e), fun b o u e => shed_some (I0.base.frzs b o u e), fun b ps e => ?_⟩, I.loc, I.cell, shed_none S I.free, fun x c e => shed_none S (I.freeC x c e), fun p hp => ?_, fun b u e => ?_, I.len⟩
  · obtain ⟨more, h⟩ := I0.base.tbls b ps e
    exact ⟨more, shed_some h⟩
  · obtain ⟨a, b, c⟩ := I.pin p hp
    exact ⟨a, shed_none S b, c⟩
  · rcases shed_back S e with h | ⟨h, h', xs, rfl⟩
    · exact objOk_shed (I0.hok b u h) (I.hok b u (S b u h)) (fun d z => shed_some z) fun d xs z => shed_tup S z
    · exact I.hok b _ h'
/-! ### a list is walked whose things may be written anew -/
def StL (It l : Addr) (xs : List V) (i : Nat) (s : PySem.Shared) : Prop := s.heap.IsListIter It l i ∧ ∃ us : List Value, Vals xs us ∧ s.heap.IsList l us.toArray
theorem walksL {P : Program} {w : World} {A : Around} (hh : A.handled = none) (It l : Addr) (hne : l ≠ It) (xs : List V) :
    WalksS P w A It [It, l] [It] (fun a b => b = a) xs.length (fun i v => ∃ x, xs[i]? = some x ∧ RelV x v) (StL It l xs) where
  sub := fun b hb => by simp at hb; simp [hb]
  grefl := fun _ => rfl
  gtrans := fun _ _ _ h1 h2 => h2.trans h1
  frame := fun i s h' tk st _ hk => ⟨st.1.at fun o e => hk It (by simp) o e, let ⟨us, r, q⟩ := st.2; ⟨us, r, q.at fun o e => hk l (by simp) o e⟩⟩
  item := fun i s Q E hi st hQ => by
    obtain ⟨st1, us, r, st2⟩ := st
    obtain ⟨u, hu, ru⟩ := r.get (List.getElem?_eq_getElem hi)
    refine wpAny_pyNext_list_item st1 st2 (x := u) (by simpa using hu) fun h' hit' hs' => ?_
    exact hQ u { s with heap := h' } ⟨_, List.getElem?_eq_getElem hi, ru⟩ ⟨hit', us, r, st2.extBut hs'.extBut hne⟩ ⟨fun b o hb e => hs'.extBut b o (fun h => hb (by simp [h])) e, rfl, rfl, rfl, Nat.le_refl _⟩
  done := fun s Q E st hQ => by
    obtain ⟨st1, us, r, st2⟩ := st
    exact wpAny_pyNext_list_end hh st1 st2 (by simpa using Nat.le_of_eq r.length.symm) fun h' he' => hQ { s with heap := h' } ⟨fun b o hb e => he' b o (fun h => hb (by simp [h])) e, rfl, rfl, rfl, Nat.le_refl _⟩
  self := fun _ _ _ _ st hQ => wpAny_pyIter_listiter st.1 hQ
/-! ### the call of min -/
/-- what min by the lambda's keys asks, and what it gives: some thing of the list -/
def rMinK (N : List Str) (js : List Nat) (tb : TE) (σ : L2.St) (H : Hp) (vs : List V) (Q : VK) : Prop := ∃ (l : Addr) (xs : List V), vs = [.ref l] ∧ H l = some (.lst xs) ∧ xs ≠ [] ∧
  (∃ kf : Nat → Int × Int, ∀ (i : Nat) (x : V), xs[i]? = some x → ∀ H', Same H H' → tb (NdefX.startF N [x] (js.map (NdefX.slotAt σ))) H' (fun v H'' => Same H' H'' ∧ ∃ p, v = .ref p ∧ H' p = none ∧ H'' p = some (.tup [.int (kf i).1, .int (kf i).2]))) ∧
  ∀ x ∈ xs, ∀ H', Same H H' → Q x H'
theorem vals_pair {a b : Int} {xs : List V} {t u : Tok} (r : Vals xs [Value.int a t, Value.int b u]) : xs = [.int a, .int b] := by
  have one : ∀ {x : V} {a : Int} {t : Tok}, L2.RelV x (Value.int a t) → x = .int a := fun {x a t} r => by
    cases x <;> simp only [L2.RelV] at r <;> first | (obtain ⟨t', e⟩ := r; cases e; try rfl) | cases r
  cases r with
  | cons r1 r2 =>
    cases r2 with
    | cons r3 r4 =>
      cases r4
      rw [one r1, one r3]
theorem pair_vals {a b : Int} {us : List Value} (r : Vals [.int a, .int b] us) : ∃ t u, us = [Value.int a t, Value.int b u] := by
  cases r with
  | cons r1 r2 =>
    cases r2 with
    | cons r3 r4 =>
      cases r4
      obtain ⟨t, e1⟩ := r1
      obtain ⟨u, e2⟩ := r3
      subst e1 e2
      exact ⟨t, u, rfl⟩
theorem slotAt_len {js : List Nat} {N fr : List Str} (h : js.map (fun j => N[j]?) = fr.map some) : js.length = fr.length := by
  have := congrArg List.length h
  simpa using this
theorem cr_minKey {N fr : List Str} {t : Str} {js : List Nat} {params : Arguments} {body : Expr} {scope : Scope} {k : Nat} {pins : List (Addr × Obj)} {σ : L2.St} {f c' : Addr} {pm ctv : Value} {H : Hp} {s : PySem.Shared} {vs : List V} {us : List Value} {Q : VK} {tb : TE}
    (I : Inv X pins σ H s) (rv : Vals vs us) (S : NdefX.NScope N [t] fr scope) (C : NdefX.Caps X (cloFrom X.env.cells scope.names []) fr js)
    (hf : s.heap.get? f = some (PySem.W.kla_obj "<lambda>" (X.env.qual ++ "<lambda>") params body scope (cloFrom X.env.cells scope.names []) pm c' ctv)) (hfn : H f = none) (hfr : f ∉ frs X.stack) (hco : H c' = some (LamX.CodeO c' (X.env.qual ++ "<lambda>"))) (hr : Room (k + 2) X.A)
    (hbind : ∀ u, bindArgs (PySem.W.kla_fn "<lambda>" (X.env.qual ++ "<lambda>") params body scope (cloFrom X.env.cells scope.names []) pm (.ref c') ctv) ⟨[u], []⟩ = pure [(t, u)])
    (hbody : ∀ (s : PySem.Shared) (H : Hp), Room k (X.A.in1.deeper (NdefX.envF (lamF X scope c') f s.heap.objs.size)) → PE (NdefX.ncx L2.CX0 X.prog X.w X.K X.mg X.base N (lamF X scope c') f X.A.in1 X.stack s H L2.E0) body tb)
    (h : rMinK N js tb σ H vs Q) : wpAny (model X.prog X.w) X.A (call (.builtin "min") us [(Str.ofString "key", .ref f)]) (EP X pins σ Q) X.xe s := by
  obtain ⟨l, xs, rfl, hl, hne, ⟨kf, hkey⟩, hQ⟩ := h
  obtain ⟨u, rfl⟩ : ∃ u, us = [u] := by
    cases rv with
    | cons r1 r2 =>
      cases r2
      exact ⟨_, rfl⟩
  obtain rfl : u = Value.ref l := by
    cases rv with
    | cons r1 r2 => exact r1
  obtain ⟨zl, its, nl, rl, gl⟩ := I.hok l _ hl
  have hit : s.heap.IsList l its.toArray := ⟨_, gl, rfl, nl, rfl⟩
  refine PySem.call_min_walkK (wpAny_pyIter_list hit ?_)
  have hlt : l < s.heap.objs.size := Heap.lt_size gl
  have hflt : f < s.heap.objs.size := Heap.lt_size hf
  have I2 : Inv X pins σ H { s with heap := s.heap.push { cls := .type "list_iterator", data := .fields #[.ref l, .int 0 0] } } := I.kept (t' := s.toks) fun b o e => Heap.get?_push_of_some _ e
  have hsz : (s.heap.push { cls := .type "list_iterator", data := .fields #[.ref l, .int 0 0] }).objs.size = s.heap.objs.size + 1 := PyProof.Rows.size_push' _ _
  have hIt : H s.heap.objs.size = none := I.hok.fresh (Nat.le_refl _)
  have hS : H (s.heap.objs.size + 1) = none := I.hok.fresh (Nat.le_succ _)
  have nfrs : ∀ b, s.heap.objs.size ≤ b → b ∉ frs X.stack := fun b hb z => by
    rcases List.mem_cons.mp (I.stkSub _ z) with e | e
    · have h1 := I.lt
      rw [← e] at h1
      exact Nat.lt_irrefl _ (Nat.lt_of_lt_of_le h1 hb)
    · exact I.nofs hb e
  have hnew : ∀ b, s.heap.objs.size ≤ b → X.s_0.heap.objs.size ≤ b ∧ b ≠ X.env.locals ∧ (∀ x c, X.env.cells.lookup x = some c → c ≠ b) ∧ ∀ p ∈ X.pn ++ pins, p.1 ≠ b := fun b hb =>
    ⟨Nat.le_trans I.sz hb, fun z => by
      have h1 := I.lt
      rw [← z] at h1
      exact Nat.lt_irrefl _ (Nat.lt_of_lt_of_le h1 hb), fun x c e z => by
      obtain ⟨v, o, ho, _⟩ := I.cell x c e
      have := Heap.lt_size ho
      rw [z] at this
      exact Nat.lt_irrefl _ (Nat.lt_of_lt_of_le this hb), fun p hp z => by
      obtain ⟨ho, _⟩ := I.pin p hp
      have := Heap.lt_size ho
      rw [z] at this
      exact Nat.lt_irrefl _ (Nat.lt_of_lt_of_le this hb)⟩
  refine ⟨s.heap.objs.size, [s.heap.objs.size, l], [s.heap.objs.size], fun a b => b = a, xs.length, fun i v => ∃ x, xs[i]? = some x ∧ RelV x v, StL s.heap.objs.size l xs,
    fun s' => ∃ H', Inv X pins σ H' s' ∧ Same H H' ∧ (∀ b u, H b = none → H' b = some u → ∃ ys, u = .tup ys) ∧ H' s.heap.objs.size = none ∧ H' (s.heap.objs.size + 1) = none ∧ H' f = none ∧ s'.heap.get? f = some (PySem.W.kla_obj "<lambda>" (X.env.qual ++ "<lambda>") params body scope (cloFrom X.env.cells scope.names []) pm c' ctv),
    KeyV X H kf (s.heap.objs.size + 1) s.heap.objs.size, fun i j => PySem.W.dataLt (keyD kf i) (keyD kf j), rfl,
    walksL (A := X.A.in1) hr.hd _ _ (Nat.ne_of_lt hlt) xs, ⟨⟨_, Heap.get?_push_size _ rfl, rfl, rfl⟩, its, rl, _, Heap.get?_push_of_some _ gl, rfl, nl, rfl⟩, fun b hb => ?_, List.length_pos_iff.mpr hne, ?_, ⟨H, I2, fun _ _ e => e, fun b u e1 e2 => (by rw [e1] at e2; cases e2), hIt, hS, hfn, Heap.get?_push_of_some _ hf⟩, fun v s' hP hJ => ?_⟩
  · rw [show (({ s with heap := s.heap.push { cls := .type "list_iterator", data := .fields #[.ref l, .int 0 0] } } : PySem.Shared).heap.objs.size) = s.heap.objs.size + 1 from hsz]
    simp only [List.mem_cons, List.not_mem_nil, or_false] at hb
    rcases hb with rfl | rfl
    · exact Nat.lt_succ_self _
    · exact Nat.lt_succ_of_lt hlt
  · rw [show (({ s with heap := s.heap.push { cls := .type "list_iterator", data := .fields #[.ref l, .int 0 0] } } : PySem.Shared).heap.objs.size) = s.heap.objs.size + 1 from hsz]
    have hwr : ∀ b ∈ [s.heap.objs.size + 1, s.heap.objs.size], s.heap.objs.size ≤ b := fun b hb => by
      simp only [List.mem_cons, List.not_mem_nil, or_false] at hb
      rcases hb with rfl | rfl
      · exact Nat.le_succ _
      · exact Nat.le_refl _
    refine ⟨fun s1 s2 ⟨H', J, sm, tp, n1, n2, n3, gf⟩ M => ⟨H', inv_moved J (fun b hb => ?_) (fun b hb => hnew b (hwr b hb)) M, sm, tp, n1, n2, n3, M.heap f _ (fun z => ?_) gf⟩,
      fun i k s1 s2 ⟨p, o, t, u, n, e, h1, h2, h3, h4, h5, h6⟩ M => ⟨p, o, t, u, n, e, h1, h2, h3, h4, M.heap p o (fun z => ?_) h5, h6⟩, fun i v s1 o Q1 E1 hi ⟨x, hx, rx⟩ ⟨H', J, sm, tp, n1, n2, n3, gf⟩ st gS hk => ?_, fun i j ki kj s1 Q1 E1 _ k1 k2 q => key_cmp ?_ k1 k2 q⟩
    · simp only [List.mem_cons, List.not_mem_nil, or_false] at hb
      rcases hb with rfl | rfl
      · exact n2
      · exact n1
    · exact absurd (Nat.lt_of_lt_of_le hflt (hwr f z)) (Nat.lt_irrefl _)
    · simp only [List.mem_cons, List.not_mem_nil, or_false] at z
      rcases z with z | z
      · exact h1 z
      · exact h2 z
    · have hco' := sm c' _ hco
      refine wpAny_call (codeAny_mono (lam_call (u := v) (Q := fun v H'' => Same H' H'' ∧ ∃ p, v = .ref p ∧ H' p = none ∧ H'' p = some (.tup [.int (kf i).1, .int (kf i).2])) J S C gf hco' hr.in1 (hbind v) hbody rx (hkey i x hx H' sm)) fun r s2 hq => ?_)
      cases r with
      | error e => exact False.elim hq
      | ok fl =>
        cases fl with
        | next => exact False.elim hq
        | brk => exact False.elim hq
        | cont => exact False.elim hq
        | ret u =>
          obtain ⟨v2, H2, os2, bare2, un, hok2, r2, sm2, p, rfl, np, hp⟩ := hq
          obtain rfl : u = Value.ref p := r2
          have nx : ∀ b : Addr, b ∉ ([] : List Addr) := fun b z => absurd z (by simp)
          have J2 : Inv X pins σ H2 s2 := J.call' os2 un hok2 bare2 fun b z => absurd z (nx b)
          have sm3 : Same H H2 := fun b o e => sm2 b o (sm b o e)
          obtain ⟨oi, gi, ci, di⟩ := id st.1
          have nIt : s.heap.objs.size ∉ frs X.stack := nfrs _ (Nat.le_refl _)
          have nS : s.heap.objs.size + 1 ∉ frs X.stack := nfrs _ (Nat.le_succ _)
          have hnp : H p = none := by
            cases e : H p with
            | none => rfl
            | some o =>
              have z := sm p o e
              rw [np] at z
              cases z
          have f1 := un.free _ _ gi n1 (nx _)
          have f2 := un.free _ _ gS n2 (nx _)
          have f3 := un.free _ _ gf n3 (nx _)
          obtain ⟨_, us3, r3, ob, gp, cp, np3, dp⟩ := hok2 p _ hp
          obtain ⟨t1, t2, rfl⟩ := pair_vals r3
          refine hk (.ref p) s2 ⟨shed H H2, inv_shed I J2 sm3, fun b o e => shed_some e, fun b u e1 e2 => ?_, shed_none sm3 f1, shed_none sm3 f2, shed_none sm3 f3, un.keep _ _ gf n3 hfr (nx _)⟩ ⟨⟨oi, un.keep _ _ gi n1 nIt (nx _), ci, di⟩, ?_⟩ (un.keep _ _ gS n2 nS (nx _)) ⟨p, ob, t1, t2, np3, rfl, fun z => ?_, fun z => ?_, fun z => ?_, hnp, gp, cp, dp⟩ fun j k' ⟨p', o', t', u', n', e, h1, h2, h3, h4, h5, h6, h7⟩ => ?_
          · rcases shed_back sm3 e2 with z | ⟨_, _, z⟩
            · rw [e1] at z
              cases z
            · exact z
          · obtain ⟨_, us4, n4, r4, g4⟩ := hok2 l _ (sm3 l _ hl)
            exact ⟨us4, r4, _, g4, rfl, n4, rfl⟩
          · rw [z, f2] at hp
            cases hp
          · rw [z, f1] at hp
            cases hp
          · have := J2.stkFree p z
            rw [hp] at this
            cases this
          · subst e
            cases e' : H' p' with
            | none => exact ⟨p', o', t', u', n', rfl, h1, h2, h3, h4, un.keep _ _ h5 e' h3 (nx _), h6, h7⟩
            | some w' =>
              obtain ⟨ys, rfl⟩ := tp p' w' h4 e'
              obtain ⟨_, us5, r5, ob5, g5, c5, n5, d5⟩ := J.hok p' _ e'
              rw [h5] at g5
              cases g5
              rw [h7] at d5
              have e5 : us5 = [Value.int (kf j).1 t', Value.int (kf j).2 u'] := by
                have z : (#[Value.int (kf j).1 t', Value.int (kf j).2 u'] : Array Value) = us5.toArray := by
                  injection d5
                have := congrArg Array.toList z
                simpa using this.symm
              subst e5
              have ey := vals_pair r5
              subst ey
              obtain ⟨_, us6, r6, ob6, g6, c6, n6, d6⟩ := hok2 p' _ (un.tups _ _ e')
              obtain ⟨t6, u6, rfl⟩ := pair_vals r6
              exact ⟨p', ob6, t6, u6, n6, rfl, h1, h2, h3, h4, g6, c6, d6⟩
    · have := hr.units
      show X.A.units + 1 + 8 < cLine
      omega
  · obtain ⟨H', J, sm, _⟩ := hJ
    obtain ⟨x, hx, rx⟩ := hP
    exact ⟨x, H', J, rx, hQ x (List.mem_of_getElem? hx) H' sm⟩
/-! ### min(xs, key=lambda t: ..), written -/
def tMinK (P : Addr) (q : Str) (ta : TA) (run : L2.St → Hp → List V → VK → Prop) : TE := fun σ H Q => ta σ H fun vs H1 => LamX.TabS H1 P q ∧ ∀ H2, LamX.ExtN H1 H2 → LamX.TabS H2 P q → run σ H2 vs Q
theorem pe_minKey {c P : Addr} {N fr : List Str} {t : Str} {js : List Nat} {params : Arguments} {body : Expr} {scope : Scope} {k : Nat} {e : Expr} {ta : TA} {lpos kpos p pos : Pos} {tb : TE}
    (hg : Gl X "min") (hm : X.mg "min" = none) (hv : bootBuiltins "min" = some (.builtin "min")) (ha : PA X [e] ta)
    (TB : LamX.TabB X.base X.mg c P) (hcode : X.env.code = .ref c) (S : NdefX.NScope N [t] fr scope) (hfree : NdefX.ndefB X.env.scope scope fr = true) (hjs : js.map (fun j => X.N[j]?) = fr.map some) (hr : Room (k + 2) X.A) (hdef : defaultsOf params X.env = ([], []))
    (hbind : ∀ (cl : List (Str × Addr)) (pm : Value) (c' : Addr) (ctv u : Value), bindArgs (PySem.W.kla_fn "<lambda>" (X.env.qual ++ "<lambda>") params body scope cl pm (.ref c') ctv) ⟨[u], []⟩ = pure [(t, u)])
    (hbody : ∀ (f c' : Addr) (s : PySem.Shared) (H : Hp), Room k (X.A.in1.deeper (NdefX.envF (lamF X scope c') f s.heap.objs.size)) → PE (NdefX.ncx L2.CX0 X.prog X.w X.K X.mg X.base N (lamF X scope c') f X.A.in1 X.stack s H L2.E0) body tb)
    (he : backTo pos (starEach [e] X.env) = (false, eval e X.env) :: backTo pos (starEach [] X.env) := by rfl) (hpl : (backTo pos (starEach [e] X.env)).any (·.1) = false := by rfl) :
    PE X (.Call (.Name "min" p) [e] [⟨some (Str.ofString "key"), .Lambda params body scope lpos, kpos⟩] pos) (tMinK P (X.env.qual ++ "<lambda>") ta (rMinK N js tb)) := by
  refine ⟨fun pins s σ H Q I h => ?_⟩
  have L : ∀ y ∈ scope.names, y.2 = .free → ∃ c, X.env.cells.lookup y.1 = some c := fun y hy e => (NdefX.ndef_free hfree y hy e).elim (fun z => I.ok.has _ (.inl z)) fun z => I.ok.has _ (.inr z)
  refine wpAny_Call_Name_kw (ld_blt I hg hm hv ?_)
  refine PyProof.Rows.callWith_kw (thn (ha.run pos pins s σ H _ I h) fun us s1 ⟨vs, H1, I1, r1, hT, q1⟩ => ?_) he hpl rfl rfl
  show wpAny _ _ (evalAll [do let v ← eval (.Lambda params body scope lpos) X.env; standAt pos; pure v]) _ _ s1
  have tab1 : LamX.Tabs [(P, X.env.qual ++ "<lambda>")] H1 := fun p hp => by rw [List.mem_singleton.mp hp]; exact hT
  refine wpAny_evalAll_cons (wpAny_bind (LamX.lam_make2 (T := [(P, X.env.qual ++ "<lambda>")]) I1 TB hcode (List.mem_singleton.mpr rfl) (fun p hp _ => by rw [List.mem_singleton.mp hp]) tab1 hdef L fun f c' pm ctv H2 s2 I2 eN T2 hf hfn hfr hco => ?_))
  refine wpAny_bind (wpAny_standAt (wpAny_pure ?_))
  refine wpAny_evalAll_nil ?_
  exact cr_minKey I2 r1 S (NdefX.Caps.made I2.ok (NdefX.ndef_free hfree) (NdefX.ndef_fr hfree) hjs) hf hfn hfr hco hr (hbind _ pm c' ctv) (hbody f c') (q1 H2 eN (T2 _ (List.mem_singleton.mpr rfl)))
end
section
variable {P : Program} {w : World} {K : PySem.W.Frag} {mg : Str → Option Value} {base : Heap}
/-- mkHas, the def's code object told -/
theorem mkHasC {d : He.DefD} {N ps : List Str} {k : Nat} {sp : Sp} (T : Tx P w K mg base) (i : Nat) (hd : fn[i]? = some d) (S : FnScope N ps d.scope) (hf : d.dfl = []) (hk : d.kwd = [])
    (hb : ∀ us : List Value, us.length = ps.length → ∀ (kV doc pm : Value) (an : Option Addr) (cdv ct : Value), bindArgs (PySem.W.fnOf d.name d.qual d.params d.body d.scope .none kV doc pm an cdv ct) ⟨us, []⟩ = pure (ps.zip us))
    (len : ∀ vs H Q E, sp vs H Q E → vs.length = ps.length)
    (hbody : ∀ (A : Around) (outer : List Env) (s : PySem.Shared) (H : Hp) (vs : List V) (Q : VK) (E : XK), Room k (A.deeper (envOfC d.qual d.scope s.heap.objs.size (He.fAd K d.at_) (.ref (He.codeOf K d.at_)))) → sp vs H Q E →
      ∃ t, PSs (cxOf CX0 P w K mg base N d.qual d.scope (He.fAd K d.at_) (.ref (He.codeOf K d.at_)) A outer s H E) d.body t ∧ t { nx := fun _ H' => Q .non H', rt := Q } (start N vs) H) :
    Has P w K mg base (k + 1) d.at_ ps sp := by
  obtain ⟨fd, F⟩ := T.says.def_ i hd
  have ed : d.dvs K = [] := by unfold He.DefD.dvs; rw [hf]; rfl
  have ek : d.kws K = [] := by unfold He.DefD.kws; rw [hk]; rfl
  rw [ed, ek] at F
  refine ⟨fd, ?_, F.bindsN fun kV doc pm an cdv ct us hl => hb us hl kV doc pm an cdv ct, F.kp⟩
  obtain ⟨oc, od, dV, kV, doc, pm, an, cdv, ct, osl, rfl, lk, hcd, _, _⟩ := F.ex
  obtain ⟨c, rfl⟩ := He.codeIn_ref hcd
  obtain rfl : He.codeOf K d.at_ = c := He.codeOf_eq lk rfl
  exact fn_of lk hcd S len fun A outer s H vs Q E hr hsp => hbody A outer s H vs Q E hr hsp
/-- a def by its body, its function object given -/
theorem mkFn {d : He.DefD} {N ps : List Str} {k : Nat} {sp : Sp} {fd : FuncData} (F : FunD K d.name d.qual d.params d.body d.scope [] [] (He.fAd K d.at_) fd) (S : FnScope N ps d.scope)
    (len : ∀ vs H Q E, sp vs H Q E → vs.length = ps.length)
    (hbody : ∀ (cdv : Value) (A : Around) (outer : List Env) (s : PySem.Shared) (H : Hp) (vs : List V) (Q : VK) (E : XK), Room k (A.deeper (envOfC d.qual d.scope s.heap.objs.size (He.fAd K d.at_) cdv)) → sp vs H Q E →
      ∃ t, PSs (cxOf CX0 P w K mg base N d.qual d.scope (He.fAd K d.at_) cdv A outer s H E) d.body t ∧ t { nx := fun _ H' => Q .non H', rt := Q } (start N vs) H) :
    FnOk P w K mg base CX0 (k + 1) (He.fAd K d.at_) fd ps sp := F.ok S len hbody
end
end Hu
end

/-! ## HuRules -/
section
set_option maxHeartbeats 4000000
set_option autoImplicit true
namespace Hu
open PySem PySem.Spec PyProof.Rows L2
/-! ### enumerate(tuple) -/
section
set_option maxHeartbeats 8000000 in
/-- enumerate's making over what begins -/
theorem meets_enum1 {v : Value} {o : Obj} {Hh : Heap → Prop} (B : Begins v o Hh) :
    Meets (Builtin.«enumerate.__new__» ⟨[.type "enumerate", v], []⟩) (fun _ R s => Hh s.heap ∧
      R (.ok (.ret (.ref (s.heap.push o).objs.size))) { s with heap := (s.heap.push o).push { cls := .type "enumerate", data := .fields #[.none, .bool false, .ref s.heap.objs.size, rawInt 0, .none, .none] } }) :=
  .of_wp fun prog w A R s hh => by
    obtain ⟨hp, gs, dr, tk, os⟩ := s
    obtain ⟨h1, h2⟩ := hh
    have hsub := sub_enumerate
    have begin_ : ∀ {A' : Around} {E' : Value → PySem.Shared → Prop} {Q' : Value → PySem.Shared → Prop}, Q' (.ref hp.objs.size) ⟨hp.push o, gs, dr, tk, os⟩ → wpAny (model prog w) A' (pyIter v) Q' E' ⟨hp, gs, dr, tk, os⟩ :=
      fun q => B.iter prog w _ _ ⟨hp, gs, dr, tk, os⟩ _ h1 q
    wp_walk using begin_
    refine wpAny_stack_any fun st => wpAny_pure ?_
    split
    · rename_i c _ _ _ _ _
      cases (c == Value.type "enumerate")
      · wp_walk using begin_
        exact ⟨_, rfl, h2⟩
      · wp_walk using begin_
        exact ⟨_, rfl, h2⟩
    · wp_walk using begin_
      exact ⟨_, rfl, h2⟩
variable {prog : Program} {w : World} {A : Around} {E : Value → PySem.Shared → Prop} {s : PySem.Shared}
theorem call_enum1 {v : Value} {o : Obj} {Hh : Heap → Prop} {Q : Value → PySem.Shared → Prop} (B : Begins v o Hh) (h1 : Hh s.heap)
    (h : ∀ h', IsEnum h' (s.heap.objs.size + 1) s.heap.objs.size 0 .none → h'.get? s.heap.objs.size = some o → (∀ b u, s.heap.get? b = some u → h'.get? b = some u) →
      Q (.ref (s.heap.objs.size + 1)) { s with heap := h' }) : wpAny (model prog w) A (call (.type "enumerate") [v]) Q E s := by
  refine callType_new F.called_enumerate (by decide) (F.typeCall_enumerate_1 _) (F.newCall_enumerate_1 _) (fun obj => F.args_object_init_2 obj _) F.entry_enumerate_new (meets_enum1 B) ⟨h1, ?_⟩
  have hz : (s.heap.push o).objs.size = s.heap.objs.size + 1 := Heap.size_push _ _
  show _ ∧ _
  rw [hz]
  have he := Heap.get?_push_size (s.heap.push o) (o := { cls := .type "enumerate", data := .fields #[.none, .bool false, .ref s.heap.objs.size, rawInt 0, .none, .none] }) rfl
  rw [hz] at he
  refine ⟨⟨_, he, rfl⟩, h _ he ?_ fun b u x => ?_⟩
  · exact Heap.get?_push_of_some _ (Heap.get?_push_size _ B.free)
  · exact Heap.get?_push_of_some _ (Heap.get?_push_of_some _ x)
end
section
/-- the tuple at a, each item in a new pair -/
def IteT (K : PySem.W.Frag) (a : Addr) : It where
  go := fun i H => ∃ (xs : List V) (x : V), SqT K H a xs ∧ xs[i]? = some x
  yld := fun i H v H' => ∃ q x, v = .ref q ∧ H q = none ∧ H' = upd H q (.tup [.int (i : Nat), x]) ∧ ∀ xs, SqT K H a xs → xs[i]? = some x
  stop := fun i H => ∃ xs : List V, SqT K H a xs ∧ xs.length ≤ i
theorem turn_enumT {P : Program} {w : World} {K : PySem.W.Frag} {elts : List Expr} {kk : Nat} {tpos : Pos} (a e it : Addr) :
    Turn P w K (.Tuple elts kk tpos) (IteT K a) [e, it] e (fun i h => (∃ old, IsEnum h e it ((i : Nat) : Int) old) ∧ h.IsTupleIter it a i ∧ e ≠ it ∧ a ≠ it ∧ e ≠ a) where
  mem := by simp
  obj := fun i h st b hb => by
    obtain ⟨⟨old, he⟩, ⟨o, ho, hc, hd⟩, _⟩ := st
    rcases List.mem_cons.mp hb with z | z
    · subst z
      exact ⟨_, he, fun v q => nomatch q⟩
    · have z' : b = it := by simpa using z
      subst z'
      exact ⟨o, ho, fun v q => by rw [hd] at q; cases q⟩
  keep := fun i h h' st k => by
    obtain ⟨⟨old, he⟩, hi, hr⟩ := st
    exact ⟨⟨old, k e (by simp) _ he⟩, hi.at fun o q => k it (by simp) o q, hr⟩
  item := by
    intro X hP hw hK hc i pins s σ H E I hf st hg
    subst hP hw hK
    obtain ⟨⟨old, he⟩, hit, hne, hai, hea⟩ := st
    obtain ⟨xs, x, hq, hx⟩ := hg
    obtain ⟨its, rv, tp, hz⟩ := I.tuple hq
    obtain ⟨u, hu, ru⟩ := rv.get hx
    have hel : e < s.heap.objs.size := Heap.lt_size he
    have hil : it < s.heap.objs.size := by
      obtain ⟨_, q, _⟩ := hit
      exact Heap.lt_size q
    have hlt : i < its.toArray.size := by
      rw [List.size_toArray]
      exact (List.getElem?_eq_some_iff.mp hu).1
    have D := Draws.tuple (prog := X.prog) (w := X.w) (A := X.A.in1) (show X.A.in1.handled = none from I.ok.hd hc) it a hai its.toArray
    refine wpAny_pyNext_enum_itemD D he ⟨hit, tp⟩ hlt hne (by simp [hne, hea]) fun y h' tk hP ho hst hT hsz hk => ?_
    have ey : y = u := by
      have q1 : its[i]? = some y := by simpa using hP
      rw [hu] at q1
      exact (Option.some.inj q1).symm
    subst ey
    refine ⟨_, rfl, wpAny_letOwnedTupleGo_enum (s := { s with heap := h', toks := tk + 1 }) ho fun h'' he' sb => ?_⟩
    have hT2 := (sb.2 _ (Nat.ne_of_gt hel)).trans hT
    have new : ObjOk X.prog X.w (upd H s.heap.objs.size (.tup [.int (i : Nat), x])) h'' s.heap.objs.size (.tup [.int (i : Nat), x]) :=
      ⟨by show 2 ≤ sizeLine; decide, [.int i tk, y], .cons ⟨_, rfl⟩ (.cons ru .nil), ⟨_, hT2, rfl, _, rfl⟩⟩
    have apart : ∀ {b : Addr}, b ∉ [e, it] → b ≠ e ∧ b ≠ it := fun hb => ⟨fun z => hb (by simp [z]), fun z => hb (by simp [z])⟩
    have I1 : Inv X pins σ (upd H s.heap.objs.size (.tup [.int (i : Nat), x])) { s with heap := h'', toks := tk + 1 } :=
      I.turnedNew (ch := [e, it]) (fun b ob hb q => (sb.2 b (apart hb).1).trans (hk b ob (apart hb).1 (apart hb).2 q)) hf (Nat.le_refl _) new
    refine ⟨.ref s.heap.objs.size, _, I1, rfl, ⟨_, x, rfl, I.hok.fresh (Nat.le_refl _), rfl, fun ys hy => ?_⟩, ⟨⟨y, ?_⟩, hst.1.at fun o q => (sb.2 it (Ne.symm hne)).trans q, hne, hai, hea⟩, fun b hb => ?_⟩
    · rw [I.tuple_inj hy hq]
      exact hx
    · have e1 : ((i + 1 : Nat) : Int) = (i : Int) + 1 := by omega
      rw [e1]
      exact he'
    · have hb' : b < s.heap.objs.size := by
        rcases List.mem_cons.mp hb with z | z
        · rw [z]
          exact hel
        · have z' : b = it := by simpa using z
          rw [z']
          exact hil
      rw [upd_ne (Nat.ne_of_lt hb')]
      exact (hf b hb).1
  done := by
    intro X hP hw hK hc i pins s σ H E I hf st hg
    subst hP hw hK
    obtain ⟨⟨old, he⟩, hit, hne, hai, hea⟩ := st
    obtain ⟨xs, hq, hx⟩ := hg
    obtain ⟨its, rv, tp, hz⟩ := I.tuple hq
    obtain ⟨f0, f1, f2, f3, f4, f5⟩ := hf it (by simp)
    have hl := rv.length
    have hT : s.TypeIs (.ref e) "enumerate" := ⟨_, he, rfl⟩
    unfold pyNext
    refine wpAny_bind (wpAny_attempt (wpAny_callSpecial?_slot (name := Str.ofString "__next__") hT F.slot_enumerate_next (wpAny_call_entry F.slot_enumerate_next hT F.entry_enumerate_next ?_ (F.args_enumerate_next_1 _))))
    show wpAny _ _ (field (.ref e) 2 >>= _) _ _ _
    refine wpAny_bind (wpAny_field he rfl (x := .ref it) rfl ?_)
    refine wpAny_bind (wpAny_nextOf_tuple_end (I.ok.hd hc) hit (show s.heap.IsTuple a its.toArray from tp) (by simp; omega) fun h' x eb hx' => ?_)
    obtain ⟨o, ho, hcl⟩ := hx'
    refine wpAny_bind (wpAny_isInstance (T := "StopIteration") (b := true) ⟨o, ho, hcl⟩ isSubtype_stop ?_)
    exact wpAny_pure ⟨rfl, I.turned (t' := s.toks) (fun b u hb q => eb b u hb q) f0 f1 f3 f4 f5⟩
  self := fun A i s Q E st h => by
    obtain ⟨⟨old, he⟩, _⟩ := st
    exact wpAny_pyIter_enum he h
def iEnumT (K : PySem.W.Frag) (ta : TA) : TI := fun σ H R => ta σ H fun vs H1 => ∃ a xs, vs = [.ref a] ∧ SqT K H1 a xs ∧ R (IteT K a) H1
theorem pi_enumT {X : Cx} {e : Expr} {ta : TA} {p pos tpos : Pos} {elts : List Expr} {kk : Nat} (hg : Gl X "enumerate") (hm : X.mg "enumerate" = none) (ha : PA X [e] ta)
    (hs : starEach [e] X.env = [(false, eval e X.env)] := by rfl) : PI X (.Tuple elts kk tpos) (.Call (.Name "enumerate" p) [e] [] pos) (iEnumT X.K ta) := by
  constructor
  intro pins s σ H R I h
  refine Call_ (ld_blt I hg hm boot_enumerate (PyProof.Rows.callWith_type1 (thn (ha.run pos pins s σ H _ I h) fun us s1 ⟨vs, H1, I1, r1, q1⟩ => ?_) hs rfl))
  obtain ⟨a, xs, ex, hq, q⟩ := q1
  subst ex
  obtain ⟨u, rfl, ru⟩ := vals1 r1
  cases ru
  obtain ⟨its, rv, tp, hz⟩ := I1.tuple hq
  have hal : a < s1.heap.objs.size := tp.lt
  refine call_enum1 (begins_tuple a its.toArray) tp fun h' he hit hk => wpAny_pyIter_enum he ?_
  have I2 : Inv X pins σ H1 { s1 with heap := h' } := I1.kept (t' := s1.toks) hk
  have hat : h'.IsTupleIter s1.heap.objs.size a 0 := ⟨_, hit, rfl, rfl⟩
  have n1 : s1.heap.objs.size + 1 ≠ s1.heap.objs.size := Nat.succ_ne_self _
  have n2 : a ≠ s1.heap.objs.size := Nat.ne_of_lt hal
  have n3 : s1.heap.objs.size + 1 ≠ a := fun z => absurd hal (by rw [← z]; exact Nat.not_lt.mpr (Nat.le_succ _))
  refine ⟨s1.heap.objs.size + 1, [s1.heap.objs.size + 1, s1.heap.objs.size], _, _, H1, rfl, I2, turn_enumT a (s1.heap.objs.size + 1) s1.heap.objs.size, ⟨⟨.none, he⟩, hat, n1, n2, n3⟩, fun b hb => ?_, q⟩
  have hle : s1.heap.objs.size ≤ b := by
    rcases List.mem_cons.mp hb with z | z
    · rw [z]
      exact Nat.le_succ _
    · have z' : b = s1.heap.objs.size := by simpa using z
      rw [z']
      exact Nat.le_refl _
  exact I1.fpOk hle (I1.hok.fresh hle)
/-- its walk -/
theorem walk_enumT {K : PySem.W.Frag} {a : Addr} {xs : List V} : Walk (IteT K a) xs.length (fun H => SqT K H a xs) (YPair (fun i => some (.int (i : Nat))) (fun i => xs[i]?)) where
  goes := fun i H hi h => ⟨xs, xs[i], h, by simp [hi]⟩
  stops := fun H h => ⟨xs, h, Nat.le_refl _⟩
  yields := fun i H x H' hi h y => by
    obtain ⟨q, z, e1, e2, e3, e4⟩ := y
    exact ⟨q, _, z, e1, e2, e3, rfl, e4 xs h⟩
end
end Hu
namespace Hu
open PySem PySem.Spec PyProof.Rows L2
/-! ### the rules with the written part named (within a comprehension's block) -/
section
variable {X : Cx} {K : PySem.W.Frag} {pos : Pos}
theorem pg_tupK {es : List Expr} {k : Nat} {t : TGs} {n : Nat} (hK : X.K = K) (hc : X.calm = true) (h : PGs X es t) (hn : (assignEach es X.env).length = n := by rfl) (hst : (assignEach es X.env).findIdx? (·.1) = none := by rfl) :
    PG X (.Tuple es k pos) (gTup K n t) := by
  subst hK
  exact pg_tup hc h hn hst
theorem op_in_seqK (hK : X.K = K) : OpR X (compareOp .In) (rIn K false) := by
  subst hK
  exact op_in_seq
theorem op_notIn_seqK (hK : X.K = K) : OpR X (compareOp .NotIn) (rIn K true) := by
  subst hK
  exact op_notIn_seq
theorem ix_listK (hK : X.K = K) : IxR X (rIxL K) := by
  subst hK
  exact ix_list
theorem ix_tupK (hK : X.K = K) : IxR X (rIxT K) := by
  subst hK
  exact ix_tup
theorem pe_fldK {e : Expr} {f : Str} {ta : TE} (hK : X.K = K) (he : PE X e ta) (hb : attributeBase e f X.env (eval e X.env) = eval e X.env) : PE X (.Attribute e f pos) (tFld K ta f) := by
  subst hK
  exact pe_fld he hb
theorem call_len_seqK (hK : X.K = K) : CallR X (.builtin "len") (fun xs H Q => ∃ p ys, xs = [.ref p] ∧ (SqL K H p ys ∨ SqT K H p ys) ∧ Q (.int ys.length) H) := by
  subst hK
  exact call_len_seq
theorem mt_lcountK (hK : X.K = K) : MtR X "list.count" (rCntI K) := by
  subst hK
  exact mt_lcount
theorem mt_indexK (hK : X.K = K) : MtR X "list.index" (rIndex K) := by
  subst hK
  exact mt_index
theorem pi_listK {l : Expr} {tl : TE} {tg : Expr} (hK : X.K = K) (hl : PE X l tl) : PI X tg l (iList K tl) := by
  subst hK
  exact pi_list hl
end
end Hu
end

/-! ## HuRules2 -/
section
set_option maxHeartbeats 4000000
set_option autoImplicit true
namespace Hu
open PySem PySem.Spec PyProof.Rows L2
/-! ### max, min of whole numbers with default= -/
theorem ints_reads {h : Heap} : ∀ {vs : List Value} {ns : List Int}, IntsAre vs ns → ReadsAll h vs (ns.map PyData.int) [] := by
  intro vs
  induction vs with
  | nil =>
    intro ns q
    cases q
    exact .nil
  | cons v r ih =>
    intro ns q
    cases q with
    | cons n t q =>
      exact ReadsAll.cons (as := []) (bs := []) (.int _ t) (ih q)
def rMaxD (K : PySem.W.Frag) : List V → List V → Hp → VK → Prop := fun xs zs H Q => ∃ (a : Addr) (ns : List Int) (d : V), xs = [.ref a] ∧ zs = [d] ∧ SqL K H a (ns.map V.int) ∧ (ns = [] → Q d H) ∧ ∀ m, m ∈ ns → (∀ y, y ∈ ns → y ≤ m) → Q (.int m) H
def rMinD (K : PySem.W.Frag) : List V → List V → Hp → VK → Prop := fun xs zs H Q => ∃ (a : Addr) (ns : List Int) (d : V), xs = [.ref a] ∧ zs = [d] ∧ SqL K H a (ns.map V.int) ∧ (ns = [] → Q d H) ∧ ∀ m, m ∈ ns → (∀ y, y ∈ ns → m ≤ y) → Q (.int m) H
theorem alike_ints (ns : List Int) : PySem.W.AlikeAll (ns.map PyData.int) := by
  refine ⟨fun x hx y hy => ?_, fun x hx => ?_⟩
  · obtain ⟨i, _, rfl⟩ := List.mem_map.mp hx
    obtain ⟨j, _, rfl⟩ := List.mem_map.mp hy
    rfl
  · obtain ⟨i, _, rfl⟩ := List.mem_map.mp hx
    intro z
    cases z
theorem depth_ints : ∀ ns : List Int, PyData.depthAll (ns.map PyData.int) = 0
  | [] => rfl
  | n :: r => by
    show PyData.depthAll (PyData.int n :: r.map PyData.int) = 0
    have ih := depth_ints r
    simp [PyData.depthAll, PyData.depth, ih]
theorem fold_max_mem : ∀ (l : List Int) (n : Int), l.foldl max n = n ∨ l.foldl max n ∈ l
  | [], n => .inl rfl
  | k :: r, n => by
    rw [List.foldl_cons]
    rcases fold_max_mem r (max n k) with h | h
    · rw [h]
      by_cases c : n ≤ k
      · exact .inr (by rw [Int.max_eq_right c]; exact List.mem_cons_self)
      · exact .inl (Int.max_eq_left (by omega))
    · exact .inr (List.mem_cons_of_mem _ h)
theorem fold_max_le : ∀ (l : List Int) (n : Int), n ≤ l.foldl max n ∧ ∀ y ∈ l, y ≤ l.foldl max n
  | [], n => ⟨Int.le_refl _, fun y h => by cases h⟩
  | k :: r, n => by
    rw [List.foldl_cons]
    obtain ⟨h1, h2⟩ := fold_max_le r (max n k)
    refine ⟨by omega, fun y hy => ?_⟩
    rcases List.mem_cons.mp hy with e | e
    · subst e
      omega
    · exact h2 y e
theorem fold_min_mem : ∀ (l : List Int) (n : Int), l.foldl min n = n ∨ l.foldl min n ∈ l
  | [], n => .inl rfl
  | k :: r, n => by
    rw [List.foldl_cons]
    rcases fold_min_mem r (min n k) with h | h
    · rw [h]
      by_cases c : n ≤ k
      · exact .inl (Int.min_eq_left c)
      · exact .inr (by rw [Int.min_eq_right (by omega)]; exact List.mem_cons_self)
    · exact .inr (List.mem_cons_of_mem _ h)
theorem fold_min_le : ∀ (l : List Int) (n : Int), l.foldl min n ≤ n ∧ ∀ y ∈ l, l.foldl min n ≤ y
  | [], n => ⟨Int.le_refl _, fun y h => by cases h⟩
  | k :: r, n => by
    rw [List.foldl_cons]
    obtain ⟨h1, h2⟩ := fold_min_le r (min n k)
    refine ⟨by omega, fun y hy => ?_⟩
    rcases List.mem_cons.mp hy with e | e
    · subst e
      omega
    · exact h2 y e
section
variable {X : Cx}
theorem call_maxD (hc : X.calm = true) (hu : X.A.units + 1 < cLine) : CallRK X (.builtin "max") ["default"] (rMaxD X.K) := by
  intro pins s σ H xs zs us ws Q I r rz h
  obtain ⟨a, ns, d, rfl, rfl, hs, q0, q⟩ := h
  obtain ⟨its, rv, hl, _⟩ := I.list hs
  rw [Vals.ref1 r]
  obtain ⟨dv, rfl, rd⟩ := vals1 rz
  refine PySem.W.max_list_default (I.ok.hd hc) hl.isList (ints_reads rv.ints) (alike_ints ns) (by rw [depth_ints]; exact hu) (fun e h' tk k => ?_) (fun y ys i v h' tk bs e hv hr k => ?_)
  · exact ⟨d, H, I.kept k, rd, q0 (List.map_eq_nil_iff.mp e)⟩
  · cases ns with
    | nil => cases e
    | cons n r2 =>
      injection e with e1 e2
      subst e1 e2
      rw [PySem.W.maxD_ints] at hr
      cases hr with
      | int i2 t =>
        refine ⟨.int _, H, I.kept k, ⟨t, rfl⟩, q _ ?_ fun z hz => ?_⟩
        · rcases fold_max_mem r2 n with e | e
          · rw [e]
            exact List.mem_cons_self
          · exact List.mem_cons_of_mem _ e
        · rcases List.mem_cons.mp hz with e | e
          · subst e
            exact (fold_max_le r2 _).1
          · exact (fold_max_le r2 n).2 z e
theorem call_minD (hc : X.calm = true) (hu : X.A.units + 1 < cLine) : CallRK X (.builtin "min") ["default"] (rMinD X.K) := by
  intro pins s σ H xs zs us ws Q I r rz h
  obtain ⟨a, ns, d, rfl, rfl, hs, q0, q⟩ := h
  obtain ⟨its, rv, hl, _⟩ := I.list hs
  rw [Vals.ref1 r]
  obtain ⟨dv, rfl, rd⟩ := vals1 rz
  refine PySem.W.min_list_default (I.ok.hd hc) hl.isList (ints_reads rv.ints) (alike_ints ns) (by rw [depth_ints]; exact hu) (fun e h' tk k => ?_) (fun y ys i v h' tk bs e hv hr k => ?_)
  · exact ⟨d, H, I.kept k, rd, q0 (List.map_eq_nil_iff.mp e)⟩
  · cases ns with
    | nil => cases e
    | cons n r2 =>
      injection e with e1 e2
      subst e1 e2
      rw [PySem.W.minD_ints] at hr
      cases hr with
      | int i2 t =>
        refine ⟨.int _, H, I.kept k, ⟨t, rfl⟩, q _ ?_ fun z hz => ?_⟩
        · rcases fold_min_mem r2 n with e | e
          · rw [e]
            exact List.mem_cons_self
          · exact List.mem_cons_of_mem _ e
        · rcases List.mem_cons.mp hz with e | e
          · subst e
            exact (fold_min_le r2 _).1
          · exact (fold_min_le r2 n).2 z e
/-! ### d.values() of a dict with tuple keys; max of it with default= -/
def valsO (p d : Addr) : HO := .ext fun h => h.IsValuesView p d
def rValuesT : V → List V → Hp → VK → Prop := fun x xs H Q => ∃ (a : Addr) (kvs : List (List L2.Key × V)), x = .ref a ∧ xs = [] ∧ H a = some (.dT kvs) ∧ ∀ p, H p = none → Q (.ref p) (upd H p (valsO p a))
theorem mt_valuesT : MtR X "dict.values" rValuesT := by
  intro pins s σ H x xs v us Q I rx rxs h
  obtain ⟨a, kvs, rfl, rfl, ha, q⟩ := h
  cases rx
  cases rxs
  obtain ⟨z, hd, xs', rel, o, es, ep, ho, hx, hdat, _⟩ := dt_of I.hok ha
  refine call_meetsIn PySem.F.slot_dict_values ⟨o, ho, hx.1⟩ PySem.F.entry_dict_values (PySem.F.args_dict_values_1 _) (meets_dict_values_raw a hd) ⟨⟨es, ep, o, ho, hx, hdat⟩, ?_⟩
  have e : (s.heap.push { cls := .type "dict_values", data := .fields #[.ref a] }).get? s.heap.objs.size = some { cls := .type "dict_values", data := .fields #[.ref a] } := Heap.get?_push_size _ rfl
  refine ⟨.ref s.heap.objs.size, upd H s.heap.objs.size (valsO s.heap.objs.size a), ?_, rfl, q _ (I.hok.fresh (Nat.le_refl _))⟩
  refine I.laid (t' := s.toks) (fun b u e => Heap.get?_push_of_some _ e) (Nat.le_refl _) ?_
  exact ⟨⟨_, e, rfl, rfl⟩, ⟨_, e⟩, fun h1 h2 x k => let ⟨o, ho, r⟩ := x; ⟨o, k o ho, r⟩⟩
def rMaxVD : List V → List V → Hp → VK → Prop := fun xs zs H Q => ∃ (p a : Addr) (kvs : List (List L2.Key × V)) (ns : List Int) (d : V), xs = [.ref p] ∧ zs = [d] ∧ H p = some (valsO p a) ∧ H a = some (.dT kvs) ∧
  kvs.map (·.2) = ns.map V.int ∧ (ns = [] → Q d H) ∧ ∀ m, m ∈ ns → (∀ y, y ∈ ns → y ≤ m) → Q (.int m) H
theorem call_maxVD (hc : X.calm = true) : CallRK X (.builtin "max") ["default"] rMaxVD := by
  intro pins s σ H xs zs us ws Q I r rz h
  obtain ⟨p, a, kvs, ns, d, rfl, rfl, hp, ha, hv, q0, q⟩ := h
  rw [Vals.ref1 r]
  obtain ⟨dv, rfl, rd⟩ := vals1 rz
  have view : s.heap.IsValuesView p a := (show ObjOk X.prog X.w H s.heap p (valsO p a) from I.hok p _ hp).1
  obtain ⟨_, hsys, ws', rel, o, es, ep, ho, hx, hdat, he, _⟩ := (show ObjOk X.prog X.w H s.heap a (.dT kvs) from I.hok a _ ha)
  have hsz : es.size = kvs.length := by
    have l1 : es.size = ws'.length := size_of_entries he
    have l2 : kvs.length = ws'.length := Paired.length rel
    omega
  have hnl : kvs.length = ns.length := by
    have e := congrArg List.length hv
    simpa using e
  have dr : s.heap.DictRaw a es ep := ⟨o, ho, hx, hdat⟩
  have hval : ∀ (i : Nat) (v : Value), (∃ hi : i < es.size, v = es[i].val) → ∃ t, v = Value.int (ns.getD i 0) t := fun i v ⟨hi, e⟩ => by
    have hik : i < kvs.length := by rw [← hsz]; exact hi
    obtain ⟨b, hb, e1, e2, e3⟩ := paired_get rel (List.getElem?_eq_getElem hik)
    have q1 := entry_at he i
    rw [hb, Array.getElem?_eq_getElem hi] at q1
    have q2 : es[i] = entryOfKey (tupleKind (mixKind X.prog X.w)) b := by simpa using q1
    have q3 : (kvs.map (·.2))[i]? = some (kvs[i]).2 := by rw [List.getElem?_map, List.getElem?_eq_getElem hik]; rfl
    rw [hv, List.getElem?_map] at q3
    obtain ⟨j, hj, e4⟩ := Option.map_eq_some_iff.mp q3
    rw [← e4] at e3
    obtain ⟨t, e5⟩ := e3
    refine ⟨t, ?_⟩
    rw [e, q2, List.getD_eq_getElem?_getD, hj]
    exact e5
  have hlt : a < s.heap.objs.size := Heap.lt_size ho
  refine call_max_walkD (wpAny_pyIter_values_raw view dr ?_)
  have I2 : Inv X pins σ H { s with heap := s.heap.push { cls := .type "dict_valueiterator", data := .fields #[.ref a, .int 0 0, .int es.size 0, .int ep 0] } } := I.kept (t' := s.toks) fun b u e => Heap.get?_push_of_some _ e
  refine ⟨_, _, _, _, _, _, _, s.heap, (fun i j => decide (ns.getD i 0 > ns.getD j 0)), rfl, (Walks.rawValues (A := X.A.in1) (I.ok.hd hc) s.heap.objs.size a (Nat.ne_of_lt hlt) es ep).toS,
    ⟨⟨_, Heap.get?_push_size _ rfl, rfl, rfl⟩, dr.at fun u e => Heap.get?_push_of_some _ e⟩, fun b hb => ?_, fun b u e hb => ?_, fun b u e => Heap.get?_push_of_some _ e, fun hz s' m => ?_, fun hp => ⟨fun i j vi vj s1 Q1 E1 _ hi hj z => ?_, fun v s' hP m => ?_⟩⟩
  · show b < (s.heap.push _).objs.size
    rw [Heap.size_push]
    rcases List.mem_cons.mp hb with e | hb
    · rw [e]
      exact Nat.lt_succ_self _
    · rw [List.mem_singleton.mp hb]
      exact Nat.lt_succ_of_lt hlt
  · exact absurd (Heap.lt_size e) (by rw [List.mem_singleton.mp hb]; exact Nat.lt_irrefl _)
  · obtain ⟨h', tk, rfl, hk'⟩ := PySem.W.moved_old rfl rfl m
    exact ⟨d, H, I.kept hk', rd, q0 (List.eq_nil_of_length_eq_zero (by omega))⟩
  · exact CmpOf.ints_gt (fun i => ns.getD i 0) hval i j vi vj s1 Q1 E1 hi hj z
  · obtain ⟨h', tk, rfl, hk'⟩ := PySem.W.moved_old rfl rfl m
    obtain ⟨t, rfl⟩ := hval _ v hP
    obtain ⟨b1, b2⟩ := argBest_gt (fun i => ns.getD i 0) (es.size - 1)
    have hb : argBest (fun i j => decide (ns.getD i 0 > ns.getD j 0)) (es.size - 1) < ns.length := by omega
    refine ⟨.int _, H, I.kept hk', ⟨t, rfl⟩, q _ ?_ fun y hy => ?_⟩
    · rw [List.getD_eq_getElem?_getD, List.getElem?_eq_getElem hb]
      exact List.getElem_mem hb
    · obtain ⟨j, hj, rfl⟩ := List.mem_iff_getElem.mp hy
      have := b2 j (by omega)
      rw [List.getD_eq_getElem?_getD, List.getElem?_eq_getElem hj] at this
      exact this
/-! ### xs.extend(a tuple) -/
def rExtT (K : PySem.W.Frag) : V → List V → Hp → VK → Prop := fun x vs H Q => ∃ l b xs zs, x = .ref l ∧ vs = [.ref b] ∧ H l = some (.lst xs) ∧ SqT K H b zs ∧ xs.length + zs.length ≤ sizeLine ∧ Q .non (upd H l (.lst (xs ++ zs)))
theorem meets_extT (l : Addr) (its : Array Value) (n : Nat) (b : Addr) (its2 : Array Value) (n2 : Nat) (dd : Option Addr) (sl : Array (Option Value)) (h0 : ¬(!its.isEmpty && Builtin.List.listTooLong (its.size + its2.size)) = true) (h1 : its.size ≤ sizeLine) (h2 : its.size + its2.size ≤ sizeLine + 1) :
    Meets (Builtin.«list.extend» ⟨[.ref l, .ref b], []⟩) (fun _ R s => s.heap.get? l = some { cls := .type "list", dict := none, data := .seq its n, slots := #[] } ∧ s.heap.get? b = some ⟨.type "tuple", dd, .seq its2 n2, sl⟩ ∧
      R (.ok (.ret Value.none)) { s with heap := s.heap.update l (Obj.mapSeq fun x => x ++ its2), toks := s.toks }) :=
  .of_wp fun prog w A R s hh => by
    obtain ⟨hp, gs, dr, tk, os⟩ := s
    obtain ⟨hl, hb, hR⟩ := hh
    have f1 := PySem.AutoSeq1.idx_int
    have f2 := PySem.AutoSeq1.sub_tuple_tuple
    have f3 := PySem.AutoSeq1.sub_list_list
    have f4 := PySem.AutoSeq1.sub_tuple_list
    have f5 := PySem.AutoSeq1.sub_list_tuple
    have hz' : (its ++ its2).size ≤ sizeLine + 1 := by
      rw [Array.size_append]
      exact h2
    wp_walk using (wpAny_updateSeq hl rfl (hz := h1) (_hz' := hz')), wpAny_loadPart' hl, wpAny_loadPart' hb
    exact ⟨_, rfl, hR⟩
theorem mt_extendT : MtR X "list.extend" (rExtT X.K) := by
  intro pins s σ H x vs v us Q I rx rv h
  obtain ⟨l, b, xs, zs, rfl, rfl, hH, hB, hz, q⟩ := h
  cases rx
  obtain ⟨u, rfl, ru⟩ := rv.one
  cases ru
  obtain ⟨_, its, n, r, hl, e⟩ := I.lstM hH
  obtain ⟨its2, r2, ⟨⟨oc, dd, dt, sl⟩, e2, ec, n2, ed⟩, _⟩ := I.tuple hB
  replace ec : oc = .type "tuple" := ec
  replace ed : dt = .seq its2.toArray n2 := ed
  subst ec ed
  have hl2 := r2.length
  have hsz : its.toArray.size + its2.toArray.size ≤ sizeLine := by
    rw [List.size_toArray, List.size_toArray]
    omega
  have hlong : ¬ (!its.toArray.isEmpty && Builtin.List.listTooLong (its.toArray.size + its2.toArray.size)) = true := by
    rw [notLongL hsz, Bool.and_false]
    exact Bool.false_ne_true
  refine call_meets F.slot_list_extend ⟨_, e, rfl⟩ F.entry_list_extend (F.args_list_extend_2 _ _) (meets_extT l its.toArray n b its2.toArray n2 dd sl hlong (by omega) (by omega)) ⟨e, e2, ?_⟩
  refine ⟨.non, _, I.lset (its' := its ++ its2) hH e (by simp) (r.append r2) ?_, rfl, q⟩
  rw [List.length_append]
  omega
end
end Hu
end

/-! ## W1 -/
section
set_option maxHeartbeats 4000000
set_option autoImplicit true
namespace Hu
open PySem PySem.Spec PyProof.Rows L2
local macro_rules | `(tactic| walk_at "len") => `(tactic| (intro h; first
  | (obtain ⟨_, e, _⟩ := h; cases e; rfl)
  | (obtain ⟨_, _, e, _⟩ := h; cases e; rfl)
  | (obtain ⟨_, _, _, e, _⟩ := h; cases e; rfl)
  | (obtain ⟨_, _, _, _, e, _⟩ := h; cases e; rfl)
  | (obtain ⟨_, _, _, _, _, e, _⟩ := h; cases e; rfl)
  | (obtain ⟨_, _, _, _, _, _, e, _⟩ := h; cases e; rfl)
  | (obtain ⟨_, _, _, _, _, _, _, e, _⟩ := h; cases e; rfl)
  | (obtain ⟨_, _, _, _, _, _, _, _, e, _⟩ := h; cases e; rfl)
  | (obtain ⟨_, _, _, _, _, _, _, _, _, e, _⟩ := h; cases e; rfl)
  | (obtain ⟨_, _, _, _, _, _, _, _, _, _, e, _⟩ := h; cases e; rfl)
  | (obtain ⟨_, _, _, _, _, _, _, _, _, _, _, e, _⟩ := h; cases e; rfl)
  | (obtain ⟨_, _, _, _, _, _, _, _, _, _, _, _, e, _⟩ := h; cases e; rfl)
  | (obtain ⟨_, _, _, _, _, _, _, _, _, _, _, _, _, e, _⟩ := h; cases e; rfl)
  | (obtain ⟨_, _, _, _, _, _, _, _, _, _, _, _, _, _, e, _⟩ := h; cases e; rfl)
  | (obtain ⟨_, _, _, _, _, _, _, _, _, _, _, _, _, _, _, e, _⟩ := h; cases e; rfl)
  | (obtain ⟨_, _, _, _, _, _, _, _, _, _, _, _, _, _, _, _, e, _⟩ := h; cases e; rfl)
  | (obtain ⟨_, _, _, _, _, _, _, _, _, _, _, _, _, _, _, _, _, e, _⟩ := h; cases e; rfl)
  | (obtain ⟨_, _, _, _, _, _, _, _, _, _, _, _, _, _, _, _, _, _, e, _⟩ := h; cases e; rfl)))
section
variable {P : Program} {w : World} {K : PySem.W.Frag} {mg : Str → Option Value} {base : Heap}
/-! ### is_number -/
abbrev N_is_number : List Str := ["thing"]
theorem sc_is_number : FnScope N_is_number ["thing"] (defScope s_is_number) := ⟨rfl, rfl, rfl, by decide +kernel, rfl, by decide +kernel, by decide +kernel⟩
def sp_is_number (K : PySem.W.Frag) : Sp := fun vs H Q _ => ∃ n : Int, vs = [.int n] ∧ Q (.bl true) H
theorem ok_is_number (T : Tx P w K mg base) : Has P w K mg base 1 ("is_number", none) ["thing"] (sp_is_number K) := by
  refine mkHas T 0 (d := d_is_number) rfl sc_is_number rfl rfl (fun us hl => match us, hl with | [_], _ => fun _ _ _ _ _ _ => rfl) (fun vs H Q E => ?_) (fun cdv A outer s H vs Q E hr h => ?_)
  · walk_at "len"
  · have hU := hu_of hr
    refine ⟨_, PSs.nox (pss_one (ps_ret (pe_and (pe_callB call_isi (by rfl) T.b_isinstance (by decide +kernel) (pa_cons (pv 0) (pa_cons (pe_bltn (v := .ty "int") rfl T.b_int (by decide +kernel) rfl) pa_nil))) (pe_one (pe_not (pe_callB call_isi (by rfl) T.b_isinstance (by decide +kernel) (pa_cons (pv 0) (pa_cons (pe_bltn (v := .ty "bool") rfl T.b_bool (by decide +kernel) rfl) pa_nil)))))))), ?_⟩
    obtain ⟨n, rfl, q⟩ := h
    refine ⟨_, rfl, _, _, _, _, true, rfl, .ty _, .base (.int _), kit_ty (by decide +kernel), true, rfl, iteT ⟨_, rfl, _, _, _, _, false, rfl, .ty _, .base (.int _), kit_ty (by decide +kernel), false, rfl, q⟩⟩
/-! ### look_place -/
abbrev N_look_place : List Str := ["web", "place"]
theorem sc_look_place : FnScope N_look_place ["web", "place"] (defScope s_look_place) := ⟨rfl, rfl, rfl, by decide +kernel, rfl, by decide +kernel, by decide +kernel⟩
def sp_look_place (K : PySem.W.Frag) : Sp := fun vs H Q _ => ∃ (v : V) (m p : Nat) (ts : List Tie), vs = [v, vn p] ∧ WebR H v m ts ∧ p < m ∧ Q .non H
theorem ok_look_place (T : Tx P w K mg base) : Has P w K mg base 2 ("look_place", none) ["web", "place"] (sp_look_place K) := by
  obtain ⟨fd_is_number, G_is_number, b_is_number, k_is_number⟩ := ok_is_number (P := P) (w := w) (base := base) T
  refine mkHas T 1 (d := d_look_place) rfl sc_look_place rfl rfl (fun us hl => match us, hl with | [_, _], _ => fun _ _ _ _ _ _ => rfl) (fun vs H Q E => ?_) (fun cdv A outer s H vs Q E hr h => ?_)
  · walk_at "len"
  · have hU := hu_of hr
    refine ⟨_, PSs.nox (pss_one (ps_if (PW.pt (pw_or (pt_not (pt_val (pe_call G_is_number (hr.mono (by decide)) rfl T.g_is_number k_is_number b_is_number .nil pass0 (pa_cons (pv 1) pa_nil)))) (pw_or1 (pt_not (pt_chain op_le op_lt pe_int (pv 1) (pe_ix ix_tup (pv 0) pe_int (fun _ _ => rfl))))))) (pss_one ps_never) pss_nil)), ?_⟩
    obtain ⟨v, m, p, ts, rfl, W, hp, q⟩ := h
    obtain ⟨a, b, rfl, hw, _⟩ := W
    refine ⟨_, rfl, _, rfl, true, rfl, iteF ⟨_, rfl, ⟨_, _, rfl, rfl, _, rfl, ?_⟩⟩⟩
    rw [decide_eq_true (show (0 : Int) ≤ (p : Int) by omega)]
    refine iteT ⟨_, rfl, a, _, 0, _, rfl, rfl, .of hw, rfl, _, _, rfl, rfl, _, rfl, ?_⟩
    rw [decide_eq_true (show (p : Int) < (m : Int) by omega)]
    exact iteF q
/-! ### look_tie -/
abbrev N_look_tie : List Str := ["web", "tie"]
theorem sc_look_tie : FnScope N_look_tie ["web", "tie"] (defScope s_look_tie) := ⟨rfl, rfl, rfl, by decide +kernel, rfl, by decide +kernel, by decide +kernel⟩
def sp_look_tie (K : PySem.W.Frag) : Sp := fun vs H Q _ => ∃ (v : V) (m i : Nat) (ts : List Tie), vs = [v, vn i] ∧ WebR H v m ts ∧ i < ts.length ∧ Q .non H
theorem ok_look_tie (T : Tx P w K mg base) : Has P w K mg base 2 ("look_tie", none) ["web", "tie"] (sp_look_tie K) := by
  obtain ⟨fd_is_number, G_is_number, b_is_number, k_is_number⟩ := ok_is_number (P := P) (w := w) (base := base) T
  refine mkHas T 2 (d := d_look_tie) rfl sc_look_tie rfl rfl (fun us hl => match us, hl with | [_, _], _ => fun _ _ _ _ _ _ => rfl) (fun vs H Q E => ?_) (fun cdv A outer s H vs Q E hr h => ?_)
  · walk_at "len"
  · have hU := hu_of hr
    refine ⟨_, PSs.nox (pss_one (ps_if (PW.pt (pw_or (pt_not (pt_val (pe_call G_is_number (hr.mono (by decide)) rfl T.g_is_number k_is_number b_is_number .nil pass0 (pa_cons (pv 1) pa_nil)))) (pw_or1 (pt_not (pt_chain op_le op_lt pe_int (pv 1) (pe_callB call_len_seq (by rfl) T.b_len (by decide +kernel) (pa_cons (pe_ix ix_tup (pv 0) pe_int (fun _ _ => rfl)) pa_nil))))))) (pss_one ps_never) pss_nil)), ?_⟩
    obtain ⟨v, m, i, ts, rfl, W, hi, q⟩ := h
    obtain ⟨a, b, rfl, hw, b', ps, e, ht, hl, hr⟩ := W
    cases e
    refine ⟨_, rfl, _, rfl, true, rfl, iteF ⟨_, rfl, ⟨_, _, rfl, rfl, _, rfl, ?_⟩⟩⟩
    rw [decide_eq_true (show (0 : Int) ≤ (i : Int) by omega)]
    refine iteT ⟨_, rfl, a, _, 1, _, rfl, rfl, .of hw, rfl, b, ps, rfl, .inr (.of ht), _, _, rfl, rfl, _, rfl, ?_⟩
    rw [decide_eq_true (show (i : Int) < ((ps.length : Nat) : Int) by omega)]
    exact iteF q
/-! ### ties_at -/
abbrev N_ties_at : List Str := ["web", "place", "number", "tie"]
theorem sc_ties_at : FnScope N_ties_at ["web", "place"] (defScope s_ties_at) := ⟨rfl, rfl, rfl, by decide +kernel, rfl, by decide +kernel, by decide +kernel⟩
def sp_ties_at (K : PySem.W.Frag) : Sp := fun vs H Q _ => ∃ (v : V) (m p : Nat) (ts : List Tie), vs = [v, vn p] ∧ WebR H v m ts ∧ p < m ∧ ts.length ≤ 1000 ∧ ∀ a H', H a = none → Same H H' → H' a = some (.lst ((tiesAt ts p).map vn)) → Q (.ref a) H'
theorem inc_in {t : Tie} {p : Nat} : inV (vn p) [vn t.1, vn t.2] = inc t p := by
  unfold inV inc
  simp only [List.any_cons, List.any_nil, Bool.or_false]
  show (((t.1 : Int) == (p : Int)) || ((t.2 : Int) == (p : Int))) = _
  rw [Bool.eq_iff_iff]
  simp only [Bool.or_eq_true, beq_iff_eq, decide_eq_true_eq]
  omega
/-- what a comprehension over a range of numbers with a test has made so far -/
theorem filter_range_succ {f : Nat → Bool} {n : Nat} : (List.range (n + 1)).filter f = (List.range n).filter f ++ (if f n then [n] else []) := by
  rw [List.range_succ, List.filter_append]
  by_cases h : f n <;> simp [h]
theorem filter_range_le {f : Nat → Bool} {n : Nat} : ((List.range n).filter f).length ≤ n := by
  refine Nat.le_trans (List.length_filter_le _ _) ?_
  rw [List.length_range]
  exact Nat.le_refl _
theorem ok_ties_at (T : Tx P w K mg base) : Has P w K mg base 3 ("ties_at", none) ["web", "place"] (sp_ties_at K) := by
  obtain ⟨fd_look_place, G_look_place, b_look_place, k_look_place⟩ := ok_look_place (P := P) (w := w) (base := base) T
  refine mkHas T 4 (d := d_ties_at) rfl sc_ties_at rfl rfl (fun us hl => match us, hl with | [_, _], _ => fun _ _ _ _ _ _ => rfl) (fun vs H Q E => ?_) (fun cdv A outer s H vs Q E hr h => ?_)
  · walk_at "len"
  · have hU := hu_of hr
    refine ⟨_, PSs.nox (pss_cons (ps_expr (pe_call G_look_place (hr.mono (by decide)) rfl T.g_look_place k_look_place b_look_place .nil pass0 (pa_cons (pv 0) (pa_cons (pv 1) pa_nil))))
    (pss_one (ps_ret (pe_lc (own := [("number", 2), ("tie", 3)]) rfl sc_ties_at.nd (pi_enumT (by rfl) T.b_enumerate (pa_cons (pe_ix ix_tup (pv 0) pe_int (fun _ _ => rfl)) pa_nil)) (blkOk_by (N := N_ties_at) (sc := defScope s_ties_at) (by decide +kernel)) (fun _ _ _ _ _ => by exact (pg_tupK (K := K) (n := 2) rfl rfl (pgs_cons (pg_name (i := 2) sc_ties_at.nd rfl (Or.inl rfl)) (pgs_cons (pg_name (i := 3) sc_ties_at.nd rfl (Or.inl rfl)) pgs_nil)))) (fun _ _ _ _ _ => by exact (pts_one (pt_cmpR (op_in_seqK (K := K) rfl) (pv 1) (pv 3) rfl))) (fun _ _ _ _ _ => by exact (pv 2)))))), ?_⟩
    obtain ⟨v, m, p, ts, rfl, W, hp, hz, q⟩ := h
    refine ⟨_, rfl, _, rfl, v, m, p, ts, rfl, W, hp, ?_⟩
    obtain ⟨a, b, rfl, hw, b', ps, e, ht, hl, hr⟩ := W
    cases e
    refine ⟨_, rfl, a, _, 1, _, rfl, rfl, .of hw, rfl, b, ps, rfl, .of ht, fun D hD => ?_⟩
    refine lc_it (walk_enumT (xs := ps)) (fun i H2 => Same H H2 ∧ H2 D = some (.lst (((List.range i).filter fun i => inc (en ts i) p).map vn))) ⟨same_new hD, upd_same⟩ (fun i H2 _ h2 => .of (h2.1 _ _ ht)) ?_ ?_
    · rintro i x H2 H3 hi ⟨s2, d2⟩ ⟨t, y, z, rfl, hn, rfl, e1, e2⟩
      cases e1
      obtain ⟨tt, et, pt, rfl, hpt⟩ := Al.getV ⟨hl, hr⟩ e2
      have nt : D ≠ t := ne_of_none d2 hn
      refine ⟨t, _, rfl, .of upd_same, rfl, _, _, rfl, _, _, rfl, rfl, rfl, ?_⟩
      refine ⟨_, rfl, _, rfl, pt, _, rfl, .inr (.of ((same_new hn) _ _ (s2 _ _ hpt))), rfl, rfl, _, rfl, ?_⟩
      show if inV (vn p) [vn tt.1, vn tt.2] = true then _ else _
      have ei : en ts i = tt := by
        show ts.getD i (0, 0) = tt
        rw [List.getD_eq_getElem?_getD, et]
        rfl
      rw [inc_in, ← ei]
      refine ite2 (fun hc => ?_) (fun hc => ?_)
      · refine ⟨_, rfl, _, (by rw [upd_ne nt]; exact d2), ?_, fun c o e => ?_, ?_⟩
        · rw [List.length_map]
          exact smalls (Nat.lt_of_le_of_lt filter_range_le (by omega))
        · have hc1 : c ≠ D := ne_of_none e hD
          have hc2 : c ≠ t := ne_of_none (s2 _ _ e) hn
          rw [upd_ne hc1, upd_ne hc2]
          exact s2 _ _ e
        · rw [upd_same, filter_range_succ, if_pos hc, List.map_append]
          rfl
      · refine ⟨fun c o e => ?_, ?_⟩
        · rw [upd_ne (ne_of_none (s2 _ _ e) hn)]
          exact s2 _ _ e
        · rw [upd_ne nt, filter_range_succ, if_neg hc, List.append_nil]
          exact d2
    · rintro H2 ⟨s2, d2⟩
      refine q D H2 hD s2 ?_
      rw [d2]
      unfold tiesAt
      rw [hl]
/-! ### far_end -/
abbrev N_far_end : List Str := ["web", "tie", "place", "one", "other"]
theorem sc_far_end : FnScope N_far_end ["web", "tie", "place"] (defScope s_far_end) := ⟨rfl, rfl, rfl, by decide +kernel, rfl, by decide +kernel, by decide +kernel⟩
def sp_far_end (K : PySem.W.Frag) : Sp := fun vs H Q _ => ∃ (v : V) (m i p : Nat) (ts : List Tie), vs = [v, vn i, vn p] ∧ WebR H v m ts ∧ i < ts.length ∧ inc (en ts i) p = true ∧ ∀ H', Same H H' → Q (vn (far ts i p)) H'
theorem ok_far_end (T : Tx P w K mg base) : Has P w K mg base 3 ("far_end", none) ["web", "tie", "place"] (sp_far_end K) := by
  obtain ⟨fd_look_tie, G_look_tie, b_look_tie, k_look_tie⟩ := ok_look_tie (P := P) (w := w) (base := base) T
  obtain ⟨fd_is_number, G_is_number, b_is_number, k_is_number⟩ := ok_is_number (P := P) (w := w) (base := base) T
  refine mkHas T 7 (d := d_far_end) rfl sc_far_end rfl rfl (fun us hl => match us, hl with | [_, _, _], _ => fun _ _ _ _ _ _ => rfl) (fun vs H Q E => ?_) (fun cdv A outer s H vs Q E hr h => ?_)
  · walk_at "len"
  · have hU := hu_of hr
    refine ⟨_, PSs.nox (pss_cons (ps_expr (pe_call G_look_tie (hr.mono (by decide)) rfl T.g_look_tie k_look_tie b_look_tie .nil pass0 (pa_cons (pv 0) (pa_cons (pv 1) pa_nil))))
    (pss_cons (ps_asg (pe_ix ix_tup (pe_ix ix_tup (pv 0) pe_int (fun _ _ => rfl)) (pv 1) (fun _ _ => rfl)) (pg_tup rfl (pgs_cons (pg_name (i := 3) sc_far_end.nd rfl (Or.inl rfl)) (pgs_cons (pg_name (i := 4) sc_far_end.nd rfl (Or.inl rfl)) pgs_nil))))
    (pss_cons (ps_if (PW.pt (pw_or (pt_cmpR op_notIn_seq (pv 2) (pe_tup (pa_cons (pv 3) (pa_cons (pv 4) pa_nil))) rfl) (pw_or1 (pt_not (pt_val (pe_call G_is_number (hr.mono (by decide)) rfl T.g_is_number k_is_number b_is_number .nil pass0 (pa_cons (pv 2) pa_nil))))))) (pss_one ps_never) pss_nil)
    (pss_one (ps_ret (pe_ifExp (pt_cmpR op_eq (pv 2) (pv 3) (nomark _)) (pv 4) (pv 3))))))), ?_⟩
    obtain ⟨v, m, i, p, ts, rfl, W, hi, hin, q⟩ := h
    refine ⟨_, rfl, _, rfl, v, m, i, ts, rfl, W, hi, ?_⟩
    obtain ⟨a, b, rfl, hw, b', ps, e, ht, hl, hr⟩ := W
    cases e
    obtain ⟨_, e1, pt, rfl, hpt⟩ := Al.get (α := Tie) ⟨hl, hr⟩ (getD_some (d := (0, 0)) hi)
    refine ⟨_, rfl, a, _, 1, _, rfl, rfl, .of hw, rfl, _, rfl, b, ps, _, _, rfl, rfl, .of ht, atI_nat e1, pt, _, rfl, .of hpt, rfl, _, _, rfl, _, _, rfl, ⟨rfl, ?_⟩⟩
    refine ⟨_, rfl, _, rfl, _, rfl, (by show 2 ≤ sizeLine; decide), fun t hn => ⟨t, _, rfl, .inr (.of upd_same), rfl, rfl, _, rfl, ?_⟩⟩
    have e2 : inV (vn p) [vn (en ts i).1, vn (en ts i).2] = true := by rw [inc_in, hin]
    rw [show inV _ _ = true from e2]
    refine iteF ⟨_, rfl, _, rfl, true, rfl, iteF ?_⟩
    refine ⟨_, rfl, _, rfl, rfl, _, rfl, ?_⟩
    have sm : Same H (upd H t (.tup [vn (en ts i).1, vn (en ts i).2])) := same_new hn
    by_cases hc : p = (en ts i).1
    · rw [decide_eq_true (show V.int (p : Int) = V.int ((en ts i).1 : Int) by rw [hc])]
      refine iteT ⟨_, rfl, ?_⟩
      have := q _ sm
      unfold far at this
      rw [if_pos hc] at this
      exact this
    · rw [decide_eq_false (show ¬ V.int (p : Int) = V.int ((en ts i).1 : Int) from fun z => hc (by injection z with z; omega))]
      refine iteF ⟨_, rfl, ?_⟩
      have := q _ sm
      unfold far at this
      rw [if_neg hc] at this
      exact this
/-! ### ties_by_place -/
abbrev N_ties_by_place : List Str := ["web", "found", "number", "one", "other", "place"]
theorem sc_ties_by_place : FnScope N_ties_by_place ["web"] (defScope s_ties_by_place) := ⟨rfl, rfl, rfl, by decide +kernel, rfl, by decide +kernel, by decide +kernel⟩
/-! cells: a list of lists that grow -/
structure Cells (H : Hp) (D : Addr) (as : List Addr) (f : Nat → List V) : Prop where
  top : H D = some (.lst (as.map V.ref))
  nd : as.Nodup
  out : D ∉ as
  at_ : ∀ (p : Nat) (a : Addr), as[p]? = some a → H a = some (.lst (f p))
theorem Cells.app {H : Hp} {D : Addr} {as : List Addr} {f f' : Nat → List V} (c : Cells H D as f) {p : Nat} {a : Addr} {v : V} (e : as[p]? = some a) (h1 : f' p = f p ++ [v]) (h2 : ∀ q, q ≠ p → f' q = f q) :
    Cells (upd H a (.lst (f p ++ [v]))) D as f' := by
  have ha : a ∈ as := List.mem_of_getElem? e
  refine ⟨?_, c.nd, c.out, fun q b eb => ?_⟩
  · rw [upd_ne (fun z => c.out (by rw [z]; exact ha))]
    exact c.top
  · by_cases hq : q = p
    · subst hq
      rw [e] at eb
      cases eb
      rw [upd_same, h1]
    · have hba : b ≠ a := fun z => hq (nd_ix c.nd eb (z ▸ e))
      rw [upd_ne hba, h2 q hq]
      exact c.at_ q b eb
theorem lc_empties {n i : Nat} {vs : List Nat} {σ : L2.St} {H1 : Hp} {D : Addr} {Qd : Hp → Prop} (hn : n < 100000) (hD : H1 D = none) (hw : ∀ x : V, wipe ((wipe σ vs).set i (some x)) vs = wipe σ vs)
    (hd : ∀ H2 as, Same H1 H2 → as.length = n → (∀ a ∈ as, H1 a = none) → Cells H2 D as (fun _ => []) → Qd H2) :
    ∃ W : Nat → Nat → Hp → Prop, (∃ m, W 0 m (upd H1 D (.lst []))) ∧ ∀ k m H, W k m H →
      ((Itr 0 n).stop k H ∧ Qd H) ∨ ((Itr 0 n).go k H ∧ ∃ Nx : Hp → Prop, (∀ H', Nx H' → ∃ m', m' < m ∧ W (k + 1) m' H') ∧ ∀ x H', (Itr 0 n).yld k H x H' → gName i x (wipe σ vs) H' fun σ2 H2 => wipe σ2 vs = wipe σ vs ∧ tYes σ2 H2 fun b H3 =>
        if b = true then tLst tNil σ2 H3 fun y H4 => ∃ acc, H4 D = some (.lst acc) ∧ acc.length < sizeLine ∧ Nx (upd H4 D (.lst (acc ++ [y]))) else Nx H3) := by
  refine lc_it walk_range (fun k H2 => Same H1 H2 ∧ ∃ as, as.length = k ∧ (∀ a ∈ as, H1 a = none) ∧ Cells H2 D as (fun _ => [])) ⟨same_new hD, [], rfl, (fun a h => absurd h List.not_mem_nil), ⟨upd_same, List.nodup_nil, List.not_mem_nil, fun p a e => by simp at e⟩⟩ (fun _ _ _ _ => trivial) ?_ ?_
  · rintro k x H2 H3 hk ⟨s2, as, hl, hf, c⟩ ⟨rfl, rfl⟩
    refine ⟨hw _, ?_⟩
    refine ⟨by decide, fun p hp => ⟨as.map V.ref, ?_, ?_, ?_, as ++ [p], ?_, ?_, ?_⟩⟩
    · rw [upd_ne (ne_of_none c.top hp)]
      exact c.top
    · rw [List.length_map, hl]
      exact smalls (by omega)
    · exact same_mut (s2.trans (same_new hp)) hD
    · rw [List.length_append, hl]
      rfl
    · intro a ha
      rcases List.mem_append.mp ha with h | h
      · exact hf a h
      · rw [List.mem_singleton.mp h]
        exact s2.free hp
    · have hpa : p ∉ as := fun h => by
        obtain ⟨q, hq, e⟩ := List.mem_iff_getElem.mp h
        have := c.at_ q p (by rw [List.getElem?_eq_getElem hq, e])
        rw [hp] at this
        cases this
      have hpD : p ≠ D := fun h => by
        have := c.top
        rw [← h, hp] at this
        cases this
      refine ⟨?_, nd_snoc c.nd hpa, ?_, ?_⟩
      · rw [upd_same, List.map_append]
        rfl
      · intro h
        rcases List.mem_append.mp h with h | h
        · exact c.out h
        · exact hpD (List.mem_singleton.mp h).symm
      · intro q a e
        by_cases hq : q < as.length
        · rw [List.getElem?_append_left hq] at e
          have haa : a ∈ as := List.mem_of_getElem? e
          rw [upd_ne (show a ≠ D from fun z => c.out (by rw [← z]; exact haa)), upd_ne (show a ≠ p from fun z => hpa (by rw [← z]; exact haa))]
          exact c.at_ q a e
        · rw [List.getElem?_append_right (by omega)] at e
          have e2 : q - as.length = 0 := by
            cases h : q - as.length with
            | zero => rfl
            | succ z =>
              rw [h] at e
              simp at e
          rw [e2] at e
          simp at e
          rw [← e, upd_ne hpD, upd_same]
  · rintro H2 ⟨s2, as, hl, hf, c⟩
    exact hd H2 as s2 hl hf c
def tiesTo (ts : List Tie) (i p : Nat) : List Nat := (List.range i).filter fun j => inc (en ts j) p
def sp_ties_by_place (K : PySem.W.Frag) : Sp := fun vs H Q _ => ∃ (v : V) (m : Nat) (ts : List Tie), vs = [v] ∧ WebR H v m ts ∧ WebOk m ts ∧
  ∀ D as H', Same H H' → as.length = m → Cells H' D as (fun p => (tiesAt ts p).map vn) → Q (.ref D) H'
theorem ok_ties_by_place (T : Tx P w K mg base) : Has P w K mg base 1 ("ties_by_place", none) ["web"] (sp_ties_by_place K) := by
  refine mkHas T 3 (d := d_ties_by_place) rfl sc_ties_by_place rfl rfl (fun us hl => match us, hl with | [_], _ => fun _ _ _ _ _ _ => rfl) (fun vs H Q E => ?_) (fun cdv A outer s H vs Q E hr h => ?_)
  · walk_at "len"
  · have hU := hu_of hr
    refine ⟨_, PSs.nox (pss_cons (ps_setLc (i := 1) (own := [("place", 5)]) rfl sc_ties_by_place.nd rfl rfl (sw_true rfl rfl rfl (by decide +kernel)) (pi_range1 rfl T.b_range (pa_cons (pe_ix ix_tup (pv 0) pe_int (fun _ _ => rfl)) pa_nil)) (blkOk_by (N := N_ties_by_place) (sc := defScope s_ties_by_place) (by decide +kernel)) (fun _ _ _ _ _ => by exact (pg_name (i := 5) sc_ties_by_place.nd rfl (Or.inl rfl))) (fun _ _ _ _ _ => by exact pts_nil) (fun _ _ _ _ _ => by exact (pe_lst pa_nil)))
    (pss_cons (ps_for PassesOwn.never rfl (pi_enumT (by rfl) T.b_enumerate (pa_cons (pe_ix ix_tup (pv 0) pe_int (fun _ _ => rfl)) pa_nil)) (pg_tup rfl (pgs_cons (pg_name (i := 2) sc_ties_by_place.nd rfl (Or.inl rfl)) (pgs_cons (pg_tup rfl (pgs_cons (pg_name (i := 3) sc_ties_by_place.nd rfl (Or.inl rfl)) (pgs_cons (pg_name (i := 4) sc_ties_by_place.nd rfl (Or.inl rfl)) pgs_nil))) pgs_nil)))
      (pss_cons (ps_expr (pe_bm PySem.F.plainAttrs_list PySem.F.slot_list_append PySem.F.type_list_append mt_append (pe_ix ix_list (pv 1) (pv 3) (fun _ _ => rfl)) (pa_cons (pv 2) pa_nil)))
      (pss_one (ps_expr (pe_bm PySem.F.plainAttrs_list PySem.F.slot_list_append PySem.F.type_list_append mt_append (pe_ix ix_list (pv 1) (pv 4) (fun _ _ => rfl)) (pa_cons (pv 2) pa_nil))))))
    (pss_one (ps_ret (pv 1))))), ?_⟩
    obtain ⟨v, m, ts, rfl, W, O, q⟩ := h
    obtain ⟨a, b, rfl, hw, b', ps, e, ht, hl, hr⟩ := W
    cases e
    refine ⟨_, rfl, a, _, 0, _, rfl, rfl, .of hw, rfl, m, rfl, ?_, ?_, fun D hD => ?_⟩
    · omega
    · have := O.many
      omega
    refine lc_empties (by have := O.many; omega) hD (fun _ => rfl) fun H2 as s2 hal hf c => ?_
    refine ⟨_, rfl, a, _, 1, _, rfl, rfl, .of (s2 _ _ hw), rfl, b, ps, rfl, .of (s2 _ _ ht), ?_⟩
    refine for_it (walk_enumT (xs := ps)) (fun i σ H3 => Same H H3 ∧ (∃ x y z, σ = [some (.ref a), some (.ref D), x, y, z, none]) ∧ Cells H3 D as (fun p => (tiesTo ts i p).map vn)) ?_ (fun i σ H3 _ h3 => .of (h3.1 _ _ ht)) ?_ ?_
    · exact ⟨s2, ⟨_, _, _, rfl⟩, c⟩
    · rintro i x σ H3 H4 hi ⟨s3, ⟨x1, x2, x3, rfl⟩, c3⟩ ⟨t, y, z, rfl, hn, rfl, e1, e2⟩
      cases e1
      obtain ⟨tt, et, pt, rfl, hpt⟩ := Al.getV (α := Tie) ⟨hl, hr⟩ e2
      have ei : en ts i = tt := by
        show ts.getD i (0, 0) = tt
        rw [List.getD_eq_getElem?_getD, et]
        rfl
      have hit : i < ts.length := by rw [← hl]; exact hi
      obtain ⟨o1, o2⟩ := O.at hit
      rw [ei] at o1 o2
      have s4 : Same H3 (upd H3 t (.tup [.int (i : Nat), .ref pt])) := same_new hn
      have ex1 : as[tt.1]? = some (as[tt.1]'(by omega)) := List.getElem?_eq_getElem _
      have ex2 : as[tt.2]? = some (as[tt.2]'(by omega)) := List.getElem?_eq_getElem _
      have c4 : Cells (upd H3 t (.tup [.int (i : Nat), .ref pt])) D as (fun p => (tiesTo ts i p).map vn) := ⟨s4 _ _ c3.top, c3.nd, c3.out, fun p a e => s4 _ _ (c3.at_ p a e)⟩
      have c5 := c4.app (f' := fun p => if p = tt.1 then (tiesTo ts i p).map vn ++ [vn i] else (tiesTo ts i p).map vn) (v := vn i) ex1 (by rw [if_pos rfl]) (fun q hq => by rw [if_neg hq])
      have n21 : tt.2 ≠ tt.1 := by omega
      have a2 := c5.at_ _ _ ex2
      rw [if_neg n21] at a2
      have c6 := c5.app (f' := fun p => (tiesTo ts (i + 1) p).map vn) (v := vn i) ex2 (by
        show (tiesTo ts (i + 1) tt.2).map vn = (if tt.2 = tt.1 then _ else _) ++ _
        rw [if_neg n21]
        unfold tiesTo
        rw [range_filter_succ, if_pos (by rw [ei]; unfold inc; simp), List.map_append]
        rfl) (fun q hq => by
        show (tiesTo ts (i + 1) q).map vn = if q = tt.1 then _ else _
        unfold tiesTo
        rw [range_filter_succ]
        by_cases h : q = tt.1
        · rw [if_pos h, if_pos (by rw [ei, h]; unfold inc; simp), List.map_append]
          rfl
        · rw [if_neg h, if_neg (by rw [ei]; unfold inc; simp [h, hq]), List.append_nil])
      rw [if_neg n21] at c6
      have ltt : ∀ p, ((tiesTo ts i p).map vn).length < sizeLine := fun p => by
        rw [List.length_map]
        have := O.len
        exact smalls (Nat.lt_of_le_of_lt range_filter_le (by omega))
      refine ⟨t, _, rfl, .of upd_same, rfl, _, _, rfl, _, _, rfl, ⟨pt, _, rfl, .of (s4 _ _ (s3 _ _ hpt)), rfl, _, _, rfl, _, _, rfl, rfl, rfl, ?_⟩⟩
      have na : as[tt.1]'(by omega) ∈ as := List.getElem_mem _
      refine ⟨_, rfl, _, rfl, D, _, _, _, rfl, rfl, .of c4.top, atI_nat (by rw [List.getElem?_map, ex1]; rfl), ty_lst (c4.at_ _ _ ex1), _, rfl, _, _, _, rfl, rfl, c4.at_ _ _ ex1, ltt _, ?_⟩
      refine ⟨_, rfl, _, rfl, D, _, _, _, rfl, rfl, .of c5.top, atI_nat (by rw [List.getElem?_map, ex2]; rfl), ty_lst a2, _, rfl, _, _, _, rfl, rfl, a2, ltt _, ?_⟩
      refine ⟨fun x o e => ?_, ⟨_, _, _, rfl⟩, c6⟩
      have n1 : ∀ y ∈ as, x ≠ y := fun y hy z => by
        have := hf y hy
        rw [← z, e] at this
        cases this
      rw [upd_ne (n1 _ (List.getElem_mem _)), upd_ne (n1 _ (List.getElem_mem _))]
      exact s4 _ _ (s3 _ _ e)
    · rintro σ H3 ⟨s3, ⟨x1, x2, x3, rfl⟩, c3⟩
      refine ⟨_, rfl, q D as H3 s3 hal ?_⟩
      have e : (fun p => (tiesTo ts ps.length p).map vn) = fun p => (tiesAt ts p).map vn := by
        funext p
        rw [hl]
        rfl
      rw [← e]
      exact c3
end
end Hu
end

/-! ## W2 -/
section
set_option maxHeartbeats 4000000
set_option autoImplicit true
namespace Hu
open PySem PySem.Spec PyProof.Rows L2
local macro_rules | `(tactic| walk_at "len") => `(tactic| (intro h; first
  | (obtain ⟨_, e, _⟩ := h; cases e; rfl)
  | (obtain ⟨_, _, e, _⟩ := h; cases e; rfl)
  | (obtain ⟨_, _, _, e, _⟩ := h; cases e; rfl)
  | (obtain ⟨_, _, _, _, e, _⟩ := h; cases e; rfl)
  | (obtain ⟨_, _, _, _, _, e, _⟩ := h; cases e; rfl)
  | (obtain ⟨_, _, _, _, _, _, e, _⟩ := h; cases e; rfl)
  | (obtain ⟨_, _, _, _, _, _, _, e, _⟩ := h; cases e; rfl)
  | (obtain ⟨_, _, _, _, _, _, _, _, e, _⟩ := h; cases e; rfl)
  | (obtain ⟨_, _, _, _, _, _, _, _, _, e, _⟩ := h; cases e; rfl)
  | (obtain ⟨_, _, _, _, _, _, _, _, _, _, e, _⟩ := h; cases e; rfl)
  | (obtain ⟨_, _, _, _, _, _, _, _, _, _, _, e, _⟩ := h; cases e; rfl)
  | (obtain ⟨_, _, _, _, _, _, _, _, _, _, _, _, e, _⟩ := h; cases e; rfl)
  | (obtain ⟨_, _, _, _, _, _, _, _, _, _, _, _, _, e, _⟩ := h; cases e; rfl)
  | (obtain ⟨_, _, _, _, _, _, _, _, _, _, _, _, _, _, e, _⟩ := h; cases e; rfl)
  | (obtain ⟨_, _, _, _, _, _, _, _, _, _, _, _, _, _, _, e, _⟩ := h; cases e; rfl)
  | (obtain ⟨_, _, _, _, _, _, _, _, _, _, _, _, _, _, _, _, e, _⟩ := h; cases e; rfl)
  | (obtain ⟨_, _, _, _, _, _, _, _, _, _, _, _, _, _, _, _, _, e, _⟩ := h; cases e; rfl)
  | (obtain ⟨_, _, _, _, _, _, _, _, _, _, _, _, _, _, _, _, _, _, e, _⟩ := h; cases e; rfl)))
section
variable {P : Program} {w : World} {K : PySem.W.Frag} {mg : Str → Option Value} {base : Heap}
/-! ### most_at -/
abbrev N_most_at : List Str := ["web", "ties"]
theorem sc_most_at : FnScope N_most_at ["web"] (defScope s_most_at) := ⟨rfl, rfl, rfl, by decide +kernel, rfl, by decide +kernel, by decide +kernel⟩
def sp_most_at (K : PySem.W.Frag) : Sp := fun vs H Q _ => ∃ (v : V) (m : Nat) (ts : List Tie), vs = [v] ∧ WebR H v m ts ∧ WebOk m ts ∧ ∀ H', Same H H' → Q (vn (mostAt m ts)) H'
theorem map_vn_int (l : List Nat) : l.map vn = (l.map fun n : Nat => (n : Int)).map V.int := by
  rw [List.map_map]
  rfl
theorem max_cast {l : List Nat} {m : Int} (h : m ∈ l.map fun n : Nat => (n : Int)) (hl : ∀ y, y ∈ (l.map fun n : Nat => (n : Int)) → y ≤ m) : m = (maxL l : Int) := by
  obtain ⟨x, hx, rfl⟩ := List.mem_map.mp h
  rw [maxL_eq hx fun y hy => by
    have := hl _ (List.mem_map_of_mem (f := fun n : Nat => (n : Int)) hy)
    omega]
theorem ok_most_at (T : Tx P w K mg base) : Has P w K mg base 2 ("most_at", none) ["web"] (sp_most_at K) := by
  obtain ⟨fd_ties_by_place, G_ties_by_place, b_ties_by_place, k_ties_by_place⟩ := ok_ties_by_place (P := P) (w := w) (base := base) T
  refine mkHas T 5 (d := d_most_at) rfl sc_most_at rfl rfl (fun us hl => match us, hl with | [_], _ => fun _ _ _ _ _ _ => rfl) (fun vs H Q E => ?_) (fun cdv A outer s H vs Q E hr h => ?_)
  · walk_at "len"
  · have hU := hu_of hr
    refine ⟨_, PSs.nox (pss_one (ps_ret (pe_callBK (call_maxD rfl hU) (by rfl) T.b_max (by decide +kernel) (pa_cons (pe_lc (own := [("ties", 1)]) rfl sc_most_at.nd (pi_list (pe_call G_ties_by_place (hr.mono (by decide)) rfl T.g_ties_by_place k_ties_by_place b_ties_by_place .nil pass0 (pa_cons (pv 0) pa_nil))) (blkOk_by (N := N_most_at) (sc := defScope s_most_at) (by decide +kernel)) (fun _ _ _ _ _ => by exact (pg_name (i := 1) sc_most_at.nd rfl (Or.inl rfl))) (fun _ _ _ _ _ => by exact pts_nil) (fun _ _ _ _ _ => by exact (pe_callB (call_len_seqK (K := K) rfl) (by rfl) T.b_len (by decide +kernel) (pa_cons (pv 1) pa_nil)))) pa_nil) (pk_cons pe_int pk_nil)))), ?_⟩
    obtain ⟨v, m, ts, rfl, W, O, q⟩ := h
    refine ⟨_, rfl, v, m, ts, rfl, W, O, fun D as H1 s1 hl c => ⟨D, rfl, ⟨_, .of c.top⟩, fun D2 hD2 => ?_⟩⟩
    have hal : (as.map V.ref).length = m := by rw [List.length_map, hl]
    refine lc_val (n := (as.map V.ref).length) walk_list (by have := O.many; omega) hD2 (fun H2 s2 => .of (s2 _ _ c.top)) (fun _ => true) (fun i => vn (tiesAt ts i).length) ?_ ?_
    · rintro i x H2 H3 acc hi s2 d2 ⟨rfl, e⟩ Good Skip hg hs
      rw [List.getElem?_map] at e
      obtain ⟨a, ea, rfl⟩ := Option.map_eq_some_iff.mp e
      refine ⟨rfl, _, rfl, a, _, rfl, .inl (.of (s2 _ _ (c.at_ i a ea))), ?_⟩
      rw [List.length_map]
      exact hg rfl _ (Same.refl _)
    · intro H2 s2 d2
      rw [filter_all, hal] at d2
      refine ⟨D2, (((List.range m).map fun p => (tiesAt ts p).length).map fun n : Nat => (n : Int)), .int 0, rfl, rfl, .of ?_, fun e => ?_, fun z hz hl2 => ?_⟩
      · rw [d2, ← map_vn_int, List.map_map]
        rfl
      · have e2 : m = 0 := by
          have := congrArg List.length e
          simpa using this
        have := q H2 (s1.trans s2)
        unfold mostAt at this
        rw [e2] at this
        exact this
      · rw [max_cast hz hl2]
        exact q H2 (s1.trans s2)
/-! ### thickest -/
abbrev N_thickest : List Str := ["web", "found", "tie"]
theorem sc_thickest : FnScope N_thickest ["web"] (defScope s_thickest) := ⟨rfl, rfl, rfl, by decide +kernel, rfl, by decide +kernel, by decide +kernel⟩
def sp_thickest (K : PySem.W.Frag) : Sp := fun vs H Q _ => ∃ (v : V) (m : Nat) (ts : List Tie), vs = [v] ∧ WebR H v m ts ∧ WebOk m ts ∧ ∀ H', Same H H' → Q (vn (thick ts)) H'
def tkey (t : Tie) : List L2.Key := [Sum.inl (t.1 : Int), Sum.inl (t.2 : Int)]
theorem tkey_inj {a b : Tie} (h : tkey a = tkey b) : a = b := by
  unfold tkey at h
  injection h with h1 h2
  injection h2 with h3 _
  injection h1 with h1
  injection h3 with h3
  exact Prod.ext (by omega) (by omega)
theorem tkey_vals (t : Tie) : (tkey t).map kV = [vn t.1, vn t.2] := rfl
/-- a count of the ties so far -/
structure Tally (kvs : List (List L2.Key × V)) (l : List Tie) : Prop where
  at_ : ∀ t, valV kvs (tkey t) = if l.count t = 0 then none else some (vn (l.count t))
  mem : ∀ kv ∈ kvs, ∃ t ∈ l, kv = (tkey t, vn (l.count t))
  len : kvs.length ≤ l.length
theorem valV_mem {κ : Type} [DecidableEq κ] {kvs : List (κ × V)} {k : κ} {v : V} (h : valV kvs k = some v) : (k, v) ∈ kvs := by
  unfold valV at h
  obtain ⟨p, hp, rfl⟩ := Option.map_eq_some_iff.mp h
  have h1 := List.find?_some hp
  have h2 := List.mem_of_find?_eq_some hp
  have h3 : p.1 = k := by simpa using h1
  rw [← h3]
  exact h2
theorem putK_mem {κ : Type} [DecidableEq κ] {kvs : List (κ × V)} {k : κ} {v : V} {kv : κ × V} (h : kv ∈ putK kvs k v) : kv = (k, v) ∨ (kv ∈ kvs ∧ kv.1 ≠ k) := by
  unfold putK at h
  split at h
  · obtain ⟨p, hp, e⟩ := List.mem_map.mp h
    by_cases q : p.1 = k
    · rw [if_pos q] at e
      exact .inl (by rw [← e, q])
    · rw [if_neg q] at e
      exact .inr ⟨e ▸ hp, by rw [← e]; exact q⟩
  · rename_i hn
    rcases List.mem_append.mp h with h | h
    · refine .inr ⟨h, fun e => hn ?_⟩
      exact List.any_eq_true.mpr ⟨kv, h, by simp [e]⟩
    · exact .inl (List.mem_singleton.mp h)
theorem putK_le {κ : Type} [DecidableEq κ] {kvs : List (κ × V)} {k : κ} {v : V} : (putK kvs k v).length ≤ kvs.length + 1 := by
  unfold putK
  split
  · rw [List.length_map]
    exact Nat.le_succ _
  · rw [List.length_append]
    exact Nat.le_refl _
theorem Tally.step {kvs : List (List L2.Key × V)} {l : List Tie} (T : Tally kvs l) (t : Tie) : Tally (putK kvs (tkey t) (vn (l.count t + 1))) (l ++ [t]) := by
  refine ⟨fun u => ?_, fun kv h => ?_, ?_⟩
  · rw [valV_put]
    by_cases q : tkey u = tkey t
    · have := tkey_inj q
      subst this
      rw [if_pos rfl, List.count_append, List.count_singleton_self, if_neg (by omega)]
    · rw [if_neg q, T.at_ u]
      have n : t ≠ u := fun e => q (by rw [e])
      rw [List.count_append, List.count_singleton]
      have : (t == u) = false := by simpa using n
      rw [this]
      rfl
  · rcases putK_mem h with e | ⟨h1, h2⟩
    · exact ⟨t, by simp, by rw [e, List.count_append, List.count_singleton_self]⟩
    · obtain ⟨u, hu, e⟩ := T.mem kv h1
      refine ⟨u, List.mem_append_left _ hu, ?_⟩
      have n : t ≠ u := fun q => h2 (by rw [e, q])
      rw [e, List.count_append, List.count_singleton]
      have : (t == u) = false := by simpa using n
      rw [this]
      rfl
  · rw [List.length_append]
    exact Nat.le_trans putK_le (Nat.succ_le_succ T.len)
def natOf : V → Int
  | .int i => i
  | _ => 0
theorem Tally.vals {kvs : List (List L2.Key × V)} {l : List Tie} (T : Tally kvs l) : kvs.map (·.2) = (kvs.map fun kv => natOf kv.2).map V.int := by
  rw [List.map_map]
  refine List.map_congr_left fun kv h => ?_
  obtain ⟨t, _, e⟩ := T.mem kv h
  rw [e]
  rfl
theorem Tally.max {kvs : List (List L2.Key × V)} {l : List Tie} (T : Tally kvs l) {m : Int} (h : m ∈ kvs.map fun kv => natOf kv.2) (hl : ∀ y, y ∈ (kvs.map fun kv => natOf kv.2) → y ≤ m) : m = (thick l : Int) := by
  obtain ⟨kv, hk, rfl⟩ := List.mem_map.mp h
  obtain ⟨t, ht, e⟩ := T.mem kv hk
  rw [e] at hl ⊢
  show ((l.count t : Nat) : Int) = _
  unfold thick
  rw [maxL_eq (l := l.map fun t => l.count t) (x := l.count t) (List.mem_map_of_mem (f := fun t => l.count t) ht) fun y hy => ?_]
  obtain ⟨u, hu, rfl⟩ := List.mem_map.mp hy
  have h1 := T.at_ u
  rw [if_neg (by have := List.count_pos_iff.mpr hu; omega)] at h1
  have h2 := hl _ (List.mem_map_of_mem (f := fun kv : List L2.Key × V => natOf kv.2) (valV_mem h1))
  have h3 : ((l.count u : Nat) : Int) ≤ ((l.count t : Nat) : Int) := h2
  omega
theorem ok_thickest (T : Tx P w K mg base) : Has P w K mg base 1 ("thickest", none) ["web"] (sp_thickest K) := by
  refine mkHas T 6 (d := d_thickest) rfl sc_thickest rfl rfl (fun us hl => match us, hl with | [_], _ => fun _ _ _ _ _ _ => rfl) (fun vs H Q E => ?_) (fun cdv A outer s H vs Q E hr h => ?_)
  · walk_at "len"
  · have hU := hu_of hr
    refine ⟨_, PSs.nox (pss_cons (ps_set (i := 1) sc_thickest.nd rfl (Or.inl rfl) pe_dnewT)
    (pss_cons (ps_for PassesOwn.never rfl (pi_tup (pe_ix ix_tup (pv 0) pe_int (fun _ _ => rfl))) (pg_name (i := 2) sc_thickest.nd rfl (Or.inl rfl))
      (pss_one (ps_dput hU (pv 1) (pv 2) (pe_op op_add (pe_dget2 hU (pv 1) (pv 2) pe_int ⟨rfl, rfl, rfl, rfl⟩) pe_int) rfl)))
    (pss_one (ps_ret (pe_callBK (call_maxVD rfl) (by rfl) T.b_max (by decide +kernel) (pa_cons (pe_bm0 PySem.F.plainAttrs_dict PySem.F.slot_dict_values PySem.F.type_dict_values mt_valuesT (pv 1)) pa_nil) (pk_cons pe_int pk_nil)))))), ?_⟩
    obtain ⟨v, m, ts, rfl, W, O, q⟩ := h
    obtain ⟨a, b, rfl, hw, b', ps, e, ht, hl, hr⟩ := W
    cases e
    intro d hd
    have sd : Same H (upd H d (.dT [])) := same_new hd
    refine ⟨_, rfl, a, _, 1, _, rfl, rfl, .of (sd _ _ hw), rfl, b, rfl, ⟨_, .of (sd _ _ ht)⟩, ?_⟩
    refine for_tup (xs := ps) (fun i σ H2 => Same H H2 ∧ (∃ x, σ = [some (.ref a), some (.ref d), x]) ∧ ∃ kvs, H2 d = some (.dT kvs) ∧ Tally kvs (ts.take i)) ?_ (fun i σ H2 _ h2 => .of (h2.1 _ _ ht)) ?_ ?_
    · exact ⟨sd, ⟨_, rfl⟩, [], upd_same, ⟨fun t => by rw [List.take_zero]; rfl, fun kv h => absurd h List.not_mem_nil, Nat.zero_le _⟩⟩
    · rintro i x σ H2 hi ⟨s2, ⟨x1, rfl⟩, kvs, d2, T2⟩
      obtain ⟨tt, et, pt, rfl, hpt⟩ := Al.getV (α := Tie) ⟨hl, hr⟩ hi
      have hpt2 := s2 _ _ hpt
      have hit := (List.getElem?_eq_some_iff.mp et).1
      have etk : ts.take (i + 1) = ts.take i ++ [tt] := by rw [List.take_succ, et]; rfl
      have hlen := T2.len
      rw [List.length_take] at hlen
      have T3 := T2.step tt
      rw [← etk] at T3
      refine ⟨_, rfl, d, rfl, .inr ⟨_, .inl d2⟩, _, rfl, _, DGet.t (k := tkey tt) d2 hpt2, ?_⟩
      have eg : (valV kvs (tkey tt)).getD (V.int 0) = vn ((ts.take i).count tt) := by
        rw [T2.at_ tt]
        by_cases z : (ts.take i).count tt = 0
        · rw [if_pos z, z]
          rfl
        · rw [if_neg z]
          rfl
      rw [eg]
      refine ⟨_, 1, rfl, rfl, _, rfl, _, rfl, d, _, rfl, DPut.t (k := tkey tt) d2 hpt2 (smalls (by have := O.len; omega)), ?_⟩
      exact ⟨same_mut s2 hd, ⟨_, rfl⟩, _, upd_same, T3⟩
    · rintro σ H2 ⟨s2, ⟨x1, rfl⟩, kvs, d2, T2⟩
      have e1 : ts.take ps.length = ts := by rw [hl, List.take_length]
      rw [e1] at T2
      refine ⟨_, rfl, ty_dT d2, d, kvs, rfl, rfl, d2, fun p hp => ?_⟩
      have sp : Same H2 (upd H2 p (valsO p d)) := same_new hp
      refine ⟨p, d, kvs, _, .int 0, rfl, rfl, upd_same, sp _ _ d2, T2.vals, fun z => ?_, fun n hn hmax => ?_⟩
      · have e2 : kvs = [] := List.map_eq_nil_iff.mp z
        have e3 : ts = [] := by
          cases ts with
          | nil => rfl
          | cons t r =>
            have := T2.at_ t
            rw [e2, if_neg (by simp)] at this
            cases this
        have := q _ (s2.trans sp)
        rw [e3] at this
        exact this
      · rw [T2.max hn hmax]
        exact q _ (s2.trans sp)
/-! ### is_hue -/
abbrev N_is_hue : List Str := ["thing"]
theorem sc_is_hue : FnScope N_is_hue ["thing"] (defScope s_is_hue) := ⟨rfl, rfl, rfl, by decide +kernel, rfl, by decide +kernel, by decide +kernel⟩
def sp_is_hue (K : PySem.W.Frag) : Sp := fun vs H Q _ => ∃ o : Option Nat, vs = [vo o] ∧ Q (.bl true) H
theorem ok_is_hue (T : Tx P w K mg base) : Has P w K mg base 2 ("is_hue", none) ["thing"] (sp_is_hue K) := by
  obtain ⟨fd_is_number, G_is_number, b_is_number, k_is_number⟩ := ok_is_number (P := P) (w := w) (base := base) T
  refine mkHas T 8 (d := d_is_hue) rfl sc_is_hue rfl rfl (fun us hl => match us, hl with | [_], _ => fun _ _ _ _ _ _ => rfl) (fun vs H Q E => ?_) (fun cdv A outer s H vs Q E hr h => ?_)
  · walk_at "len"
  · have hU := hu_of hr
    refine ⟨_, PSs.nox (pss_one (ps_ret (pe_or (pe_cmpR op_isN (pv 0) pe_non (nomark _)) (pe_one (pe_and (pe_call G_is_number (hr.mono (by decide)) rfl T.g_is_number k_is_number b_is_number .nil pass0 (pa_cons (pv 0) pa_nil)) (pe_one (pe_cmpR op_ge (pv 0) pe_int (nomark _)))))))), ?_⟩
    obtain ⟨o, rfl, q⟩ := h
    cases o with
    | none => exact ⟨_, rfl, rfl, true, rfl, iteT q⟩
    | some c =>
      refine ⟨_, rfl, rfl, false, rfl, iteF ⟨_, rfl, _, rfl, true, rfl, iteT ⟨_, rfl, _, _, rfl, rfl, ?_⟩⟩⟩
      show Q (.bl (decide ((0 : Int) ≤ (c : Int)))) H
      rw [decide_eq_true (show (0 : Int) ≤ (c : Int) by omega)]
      exact q
/-! ### look_hues -/
abbrev N_look_hues : List Str := ["one", "other"]
theorem sc_look_hues : FnScope N_look_hues ["one", "other"] (defScope s_look_hues) := ⟨rfl, rfl, rfl, by decide +kernel, rfl, by decide +kernel, by decide +kernel⟩
def sp_look_hues (K : PySem.W.Frag) : Sp := fun vs H Q _ => ∃ a b : Nat, vs = [vn a, vn b] ∧ a ≠ b ∧ Q .non H
theorem ok_look_hues (T : Tx P w K mg base) : Has P w K mg base 1 ("look_hues", none) ["one", "other"] (sp_look_hues K) := by
  refine mkHas T 16 (d := d_look_hues) rfl sc_look_hues rfl rfl (fun us hl => match us, hl with | [_, _], _ => fun _ _ _ _ _ _ => rfl) (fun vs H Q E => ?_) (fun cdv A outer s H vs Q E hr h => ?_)
  · walk_at "len"
  · have hU := hu_of hr
    refine ⟨_, PSs.nox (pss_one (ps_if (pt_cmpR op_eq (pv 0) (pv 1) (nomark _)) (pss_one ps_never) pss_nil)), ?_⟩
    obtain ⟨a, b, rfl, hab, q⟩ := h
    refine ⟨_, rfl, _, rfl, rfl, _, rfl, ?_⟩
    rw [decide_eq_false (show ¬ V.int (a : Int) = V.int (b : Int) from fun z => hab (by injection z with z; omega))]
    exact iteF q
/-! ### classes -/
abbrev N_classes : List Str := ["hueing", "hues", "found", "tie", "hue"]
theorem sc_classes : FnScope N_classes ["hueing", "hues"] (defScope s_classes) := ⟨rfl, rfl, rfl, by decide +kernel, rfl, by decide +kernel, by decide +kernel⟩
def classTo (h : Hue) (i c : Nat) : List Nat := (List.range i).filter fun j => hu h j == some c
def sp_classes (K : PySem.W.Frag) : Sp := fun vs H Q _ => ∃ (v : V) (h : Hue) (k : Nat), vs = [v, vn k] ∧ HueR H v h ∧ h.length ≤ 1000 ∧ k ≤ 1000 ∧ Below h k ∧ Full h ∧
  ∀ D as H', Same H H' → as.length = k → Cells H' D as (fun c => (hasHue h c).map vn) → Q (.ref D) H'
theorem ok_classes (T : Tx P w K mg base) : Has P w K mg base 1 ("classes", none) ["hueing", "hues"] (sp_classes K) := by
  refine mkHas T 14 (d := d_classes) rfl sc_classes rfl rfl (fun us hl => match us, hl with | [_, _], _ => fun _ _ _ _ _ _ => rfl) (fun vs H Q E => ?_) (fun cdv A outer s H vs Q E hr h => ?_)
  · walk_at "len"
  · have hU := hu_of hr
    refine ⟨_, PSs.nox (pss_cons (ps_setLc (i := 2) (own := [("hue", 4)]) rfl sc_classes.nd rfl rfl (sw_true rfl rfl rfl (by decide +kernel)) (pi_range1 rfl T.b_range (pa_cons (pv 1) pa_nil)) (blkOk_by (N := N_classes) (sc := defScope s_classes) (by decide +kernel)) (fun _ _ _ _ _ => by exact (pg_name (i := 4) sc_classes.nd rfl (Or.inl rfl))) (fun _ _ _ _ _ => by exact pts_nil) (fun _ _ _ _ _ => by exact (pe_lst pa_nil)))
    (pss_cons (ps_for PassesOwn.never rfl (pi_enum (by rfl) T.b_enumerate (pa_cons (pv 0) pa_nil)) (pg_tup rfl (pgs_cons (pg_name (i := 3) sc_classes.nd rfl (Or.inl rfl)) (pgs_cons (pg_name (i := 4) sc_classes.nd rfl (Or.inl rfl)) pgs_nil)))
      (pss_one (ps_if (PW.pt (pw_and (pt_cmpR op_notN (pv 4) pe_non (nomark _)) (pw_and1 (pt_cmpR op_lt (pv 4) (pv 1) (nomark _))))) (pss_one (ps_expr (pe_bm PySem.F.plainAttrs_list PySem.F.slot_list_append PySem.F.type_list_append mt_append (pe_ix ix_list (pv 2) (pv 4) (fun _ _ => rfl)) (pa_cons (pv 3) pa_nil)))) pss_nil)))
    (pss_one (ps_ret (pv 2))))), ?_⟩
    obtain ⟨v, hh, k, rfl, ⟨a, rfl, hv⟩, hl, hk, hb, hf, q⟩ := h
    refine ⟨_, rfl, k, rfl, (by omega), (by omega), fun D hD => ?_⟩
    refine lc_empties (by omega) hD (fun _ => rfl) fun H2 as s2 hal hfr c => ?_
    refine ⟨_, rfl, a, _, rfl, .of (s2 _ _ hv), ?_⟩
    refine for_it (walk_enum (xs := hh.map vo)) (fun i σ H3 => Same H H3 ∧ (∃ x y, σ = [some (.ref a), some (vn k), some (.ref D), x, y]) ∧ Cells H3 D as (fun c => (classTo hh i c).map vn)) ?_ (fun i σ H3 _ h3 => .of (h3.1 _ _ hv)) ?_ ?_
    · exact ⟨s2, ⟨_, _, rfl⟩, c⟩
    · rintro i x σ H3 H4 hi ⟨s3, ⟨x1, x2, rfl⟩, c3⟩ ⟨t, y, z, rfl, hn, rfl, e1, e2⟩
      cases e1
      rw [List.length_map] at hi
      replace e2 : (hh.map vo)[i]? = some z := e2
      rw [List.getElem?_map] at e2
      obtain ⟨o, eo, rfl⟩ := Option.map_eq_some_iff.mp e2
      have eh : hu hh i = o := getD_of eo
      have s4 : Same H3 (upd H3 t (.tup [.int (i : Nat), vo o])) := same_new hn
      have c4 : Cells (upd H3 t (.tup [.int (i : Nat), vo o])) D as (fun p => (classTo hh i p).map vn) := ⟨s4 _ _ c3.top, c3.nd, c3.out, fun p a e => s4 _ _ (c3.at_ p a e)⟩
      cases o with
      | none => exact absurd eh (hf i hi)
      | some c1 =>
        have hc1 : c1 < k := hb i c1 eh
        have ex : as[c1]? = some (as[c1]'(by omega)) := List.getElem?_eq_getElem _
        have c5 := c4.app (f' := fun p => (classTo hh (i + 1) p).map vn) (v := vn i) ex (by
          unfold classTo
          rw [range_filter_succ, if_pos (by rw [eh]; simp), List.map_append]
          rfl) (fun q hq => by
          unfold classTo
          rw [range_filter_succ, if_neg (by rw [eh]; simp; omega), List.append_nil])
        refine ⟨t, _, rfl, .of upd_same, rfl, _, _, rfl, _, _, rfl, rfl, _, rfl, rfl, true, rfl, iteT ⟨_, rfl, _, rfl, _, _, rfl, rfl, _, rfl, ?_⟩⟩
        rw [decide_eq_true (show (c1 : Int) < (k : Int) by omega)]
        refine iteT ⟨_, rfl, _, rfl, D, _, _, _, rfl, rfl, .of c4.top, atI_nat (by rw [List.getElem?_map, ex]; rfl), ty_lst (c4.at_ _ _ ex), _, rfl, _, _, _, rfl, rfl, c4.at_ _ _ ex, ?_, ?_⟩
        · rw [List.length_map]
          exact smalls (Nat.lt_of_le_of_lt range_filter_le (by omega))
        · refine ⟨fun x o e => ?_, ⟨_, _, rfl⟩, c5⟩
          have n1 : ∀ y ∈ as, x ≠ y := fun y hy z => by
            have := hfr y hy
            rw [← z, e] at this
            cases this
          rw [upd_ne (n1 _ (List.getElem_mem _))]
          exact s4 _ _ (s3 _ _ e)
    · rintro σ H3 ⟨s3, ⟨x1, x2, rfl⟩, c3⟩
      refine ⟨_, rfl, q D as H3 s3 hal ?_⟩
      rw [List.length_map] at c3
      exact c3
/-! ### sizes -/
abbrev N_sizes : List Str := ["hueing", "hues", "ties"]
theorem sc_sizes : FnScope N_sizes ["hueing", "hues"] (defScope s_sizes) := ⟨rfl, rfl, rfl, by decide +kernel, rfl, by decide +kernel, by decide +kernel⟩
def sp_sizes (K : PySem.W.Frag) : Sp := fun vs H Q _ => ∃ (v : V) (h : Hue) (k : Nat), vs = [v, vn k] ∧ HueR H v h ∧ h.length ≤ 1000 ∧ k ≤ 1000 ∧ Below h k ∧ Full h ∧
  ∀ D H', H D = none → Same H H' → H' D = some (.lst ((sizesOf h k).map vn)) → Q (.ref D) H'
theorem ok_sizes (T : Tx P w K mg base) : Has P w K mg base 2 ("sizes", none) ["hueing", "hues"] (sp_sizes K) := by
  obtain ⟨fd_classes, G_classes, b_classes, k_classes⟩ := ok_classes (P := P) (w := w) (base := base) T
  refine mkHas T 73 (d := d_sizes) rfl sc_sizes rfl rfl (fun us hl => match us, hl with | [_, _], _ => fun _ _ _ _ _ _ => rfl) (fun vs H Q E => ?_) (fun cdv A outer s H vs Q E hr h => ?_)
  · walk_at "len"
  · have hU := hu_of hr
    refine ⟨_, PSs.nox (pss_one (ps_ret (pe_lc (own := [("ties", 2)]) rfl sc_sizes.nd (pi_list (pe_call G_classes (hr.mono (by decide)) rfl T.g_classes k_classes b_classes .nil pass0 (pa_cons (pv 0) (pa_cons (pv 1) pa_nil)))) (blkOk_by (N := N_sizes) (sc := defScope s_sizes) (by decide +kernel)) (fun _ _ _ _ _ => by exact (pg_name (i := 2) sc_sizes.nd rfl (Or.inl rfl))) (fun _ _ _ _ _ => by exact pts_nil) (fun _ _ _ _ _ => by exact (pe_callB (call_len_seqK (K := K) rfl) (by rfl) T.b_len (by decide +kernel) (pa_cons (pv 2) pa_nil)))))), ?_⟩
    obtain ⟨v, hh, k, rfl, hv, hl, hk, hb, hf, q⟩ := h
    refine ⟨_, rfl, _, rfl, v, hh, k, rfl, hv, hl, hk, hb, hf, fun D as H1 s1 hal c => ⟨D, rfl, ⟨_, .of c.top⟩, fun D2 hD2 => ?_⟩⟩
    have hal2 : (as.map V.ref).length = k := by rw [List.length_map, hal]
    refine lc_val (n := (as.map V.ref).length) walk_list (by omega) hD2 (fun H2 s2 => .of (s2 _ _ c.top)) (fun _ => true) (fun i => vn (hasHue hh i).length) ?_ ?_
    · rintro i x H2 H3 acc hi s2 d2 ⟨rfl, e⟩ Good Skip hg hs
      rw [List.getElem?_map] at e
      obtain ⟨a, ea, rfl⟩ := Option.map_eq_some_iff.mp e
      refine ⟨rfl, _, rfl, a, _, rfl, .inl (.of (s2 _ _ (c.at_ i a ea))), ?_⟩
      rw [List.length_map]
      exact hg rfl _ (Same.refl _)
    · intro H2 s2 d2
      rw [filter_all, hal2] at d2
      refine q D2 H2 (s1.free hD2) (s1.trans s2) ?_
      rw [d2]
      unfold sizesOf
      rw [List.map_map]
      rfl
/-! ### tie_of -/
abbrev N_tie_of : List Str := ["web", "hueing", "place", "hue", "tie"]
theorem sc_tie_of : FnScope N_tie_of ["web", "hueing", "place", "hue"] (defScope s_tie_of) := ⟨rfl, rfl, rfl, by decide +kernel, rfl, by decide +kernel, by decide +kernel⟩
def sp_tie_of (K : PySem.W.Frag) : Sp := fun vs H Q _ => ∃ (v hv : V) (m p c : Nat) (ts : List Tie) (h : Hue), vs = [v, hv, vn p, vn c] ∧ WebR H v m ts ∧ HueR H hv h ∧ h.length = ts.length ∧ p < m ∧ ts.length ≤ 1000 ∧
  ∀ H', Same H H' → Q (vo (tieOf ts h p c)) H'
theorem vo_beq {o : Option Nat} {c : Nat} : decide (vo o = V.int (c : Int)) = (o == some c) := by
  cases o with
  | none => simp [vo]
  | some d =>
    rw [Bool.eq_iff_iff]
    simp [vo]
    omega
theorem hue_get {h : Hue} {i : Nat} (hi : i < h.length) : (h.map vo)[i]? = some (vo (hu h i)) := by
  rw [List.getElem?_map, getD_some (d := none) hi]
  rfl
theorem ok_tie_of (T : Tx P w K mg base) : Has P w K mg base 4 ("tie_of", none) ["web", "hueing", "place", "hue"] (sp_tie_of K) := by
  obtain ⟨fd_ties_at, G_ties_at, b_ties_at, k_ties_at⟩ := ok_ties_at (P := P) (w := w) (base := base) T
  refine mkHas T 15 (d := d_tie_of) rfl sc_tie_of rfl rfl (fun us hl => match us, hl with | [_, _, _, _], _ => fun _ _ _ _ _ _ => rfl) (fun vs H Q E => ?_) (fun cdv A outer s H vs Q E hr h => ?_)
  · walk_at "len"
  · have hU := hu_of hr
    refine ⟨_, PSs.nox (pss_cons (ps_for PassesOwn.never rfl (pi_list (pe_call G_ties_at (hr.mono (by decide)) rfl T.g_ties_at k_ties_at b_ties_at .nil pass0 (pa_cons (pv 0) (pa_cons (pv 2) pa_nil)))) (pg_name (i := 4) sc_tie_of.nd rfl (Or.inl rfl))
      (pss_one (ps_if (pt_cmpR op_eq (pe_ix ix_list (pv 1) (pv 4) (fun _ _ => rfl)) (pv 3) (nomark _)) (pss_one (ps_ret (pv 4))) pss_nil)))
    (pss_one (ps_ret pe_non))), ?_⟩
    obtain ⟨v, hv, m, p, c, ts, hh, rfl, W, ⟨a, rfl, ha⟩, hl, hp, hz, q⟩ := h
    refine ⟨_, rfl, _, rfl, v, m, p, ts, rfl, W, hp, hz, fun D H1 hD s1 d1 => ⟨D, rfl, ⟨_, .of d1⟩, ?_⟩⟩
    refine for_list (xs := (tiesAt ts p).map vn) (fun i σ H2 => H2 = H1 ∧ (∃ x, σ = [some v, some (.ref a), some (vn p), some (vn c), x]) ∧ ∀ j < i, ∀ t, (tiesAt ts p)[j]? = some t → hu hh t ≠ some c) ⟨rfl, ⟨_, rfl⟩, fun j hj => absurd hj (Nat.not_lt_zero _)⟩ (fun i σ H2 _ h2 => by rw [h2.1]; exact .of d1) ?_ ?_
    · rintro i x σ H2 hi ⟨rfl, ⟨x1, rfl⟩, hno⟩
      rw [List.getElem?_map] at hi
      obtain ⟨t, et, rfl⟩ := Option.map_eq_some_iff.mp hi
      obtain ⟨ht, hin⟩ := mem_tiesAt.mp (List.mem_of_getElem? et)
      refine ⟨_, rfl, _, rfl, a, _, _, _, rfl, rfl, .of (s1 _ _ ha), atI_nat (hue_get (by omega)), _, rfl, vo_scal _ (some c), _, rfl, ?_⟩
      rw [vo_beq]
      by_cases e : hu hh t = some c
      · rw [show (hu hh t == some c) = true by rw [e]; exact beq_self_eq_true _]
        refine iteT ⟨_, rfl, ?_⟩
        have ef : tieOf ts hh p c = some t := by
          unfold tieOf
          rw [List.find?_eq_some_iff_getElem]
          obtain ⟨hi2, ei⟩ := List.getElem?_eq_some_iff.mp et
          refine ⟨by rw [e]; simp, i, hi2, ei, fun j hj => ?_⟩
          have := hno j hj _ (List.getElem?_eq_getElem (by omega))
          simpa using this
        have := q H2 s1
        rw [ef] at this
        exact this
      · have e2 : (hu hh t == some c) = false := by simpa using e
        rw [e2]
        refine iteF ⟨rfl, ⟨_, rfl⟩, fun j hj u eu => ?_⟩
        by_cases hji : j < i
        · exact hno j hji u eu
        · have : j = i := by omega
          subst this
          rw [et] at eu
          cases eu
          exact e
    · rintro σ H2 ⟨rfl, ⟨x1, rfl⟩, hno⟩
      have ef : tieOf ts hh p c = none := by
        unfold tieOf
        rw [List.find?_eq_none]
        intro t ht
        obtain ⟨j, hj, e⟩ := List.mem_iff_getElem.mp ht
        have := hno j (by rw [List.length_map]; exact hj) t (by rw [List.getElem?_eq_getElem hj, e])
        simpa using this
      have := q H2 s1
      rw [ef] at this
      exact this
/-! ### clash_of -/
abbrev N_clash_of : List Str := ["web", "row", "first", "pairs", "tie", "hue", "place"]
theorem sc_clash_of : FnScope N_clash_of ["web", "row"] (defScope s_clash_of) := ⟨rfl, rfl, rfl, by decide +kernel, rfl, by decide +kernel, by decide +kernel⟩
def sp_clash_of (K : PySem.W.Frag) : Sp := fun vs H Q _ => ∃ (v hv : V) (m : Nat) (ts : List Tie) (h : Hue), vs = [v, hv] ∧ WebR H v m ts ∧ HueR H hv h ∧ WebOk m ts ∧ Proper ts h ∧ ∀ H', Same H H' → Q .non H'
def pkey (p c : Nat) : List L2.Key := [Sum.inl (p : Int), Sum.inl (c : Int)]
theorem pkey_inj {p c p' c' : Nat} (h : pkey p c = pkey p' c') : p = p' ∧ c = c' := by
  unfold pkey at h
  injection h with h1 h2
  injection h2 with h3 _
  injection h1 with h1
  injection h3 with h3
  omega
/-- the dict holds no place and hue but those of earlier ties (and E) -/
def Firsts (ts : List Tie) (h : Hue) (i : Nat) (E : Nat → Nat → Prop) (kvs : List (List L2.Key × V)) : Prop :=
  kvs.length ≤ 4 * i + 3 ∧ ∀ p c, valV kvs (pkey p c) ≠ none → (∃ j, j < i ∧ inc (en ts j) p = true ∧ hu h j = some c) ∨ E p c
theorem ok_clash_of (T : Tx P w K mg base) : Has P w K mg base 1 ("clash_of", none) ["web", "row"] (sp_clash_of K) := by
  refine mkHas T 9 (d := d_clash_of) rfl sc_clash_of rfl rfl (fun us hl => match us, hl with | [_, _], _ => fun _ _ _ _ _ _ => rfl) (fun vs H Q E => ?_) (fun cdv A outer s H vs Q E hr h => ?_)
  · walk_at "len"
  · have hU := hu_of hr
    refine ⟨_, PSs.nox (pss_cons (ps_set (i := 2) sc_clash_of.nd rfl (Or.inl rfl) pe_dnewT)
    (pss_cons (ps_set (i := 3) sc_clash_of.nd rfl (Or.inl rfl) (pe_lst pa_nil))
    (pss_cons (ps_for PassesOwn.never rfl (pi_enum (by rfl) T.b_enumerate (pa_cons (pv 1) pa_nil)) (pg_tup rfl (pgs_cons (pg_name (i := 4) sc_clash_of.nd rfl (Or.inl rfl)) (pgs_cons (pg_name (i := 5) sc_clash_of.nd rfl (Or.inl rfl)) pgs_nil)))
      (pss_one (ps_for PassesOwn.never rfl (pi_tup (pe_ix ix_tup (pe_ix ix_tup (pv 0) pe_int (fun _ _ => rfl)) (pv 4) (fun _ _ => rfl))) (pg_name (i := 6) sc_clash_of.nd rfl (Or.inl rfl))
        (pss_one (ps_if (PW.pt (pw_and (pt_cmpR op_notN (pv 5) pe_non (nomark _)) (pw_and1 (pt_cmp (pc_din hU (pe_tup (pa_cons (pv 6) (pa_cons (pv 5) pa_nil))) (pv 2)))))) (pss_one (ps_expr (pe_bm PySem.F.plainAttrs_list PySem.F.slot_list_append PySem.F.type_list_append mt_append (pv 3) (pa_cons (pe_tup (pa_cons (pe_dget hU (pv 2) (pe_tup (pa_cons (pv 6) (pa_cons (pv 5) pa_nil))) (fun _ _ => rfl)) (pa_cons (pv 4) pa_nil))) pa_nil)))) (pss_one (ps_if (pt_cmpR op_notN (pv 5) pe_non (nomark _)) (pss_one (ps_dput hU (pv 2) (pe_tup (pa_cons (pv 6) (pa_cons (pv 5) pa_nil))) (pv 4) rfl)) pss_nil)))))))
    (pss_one (ps_ret (pe_callBK (call_minD rfl hU) (by rfl) T.b_min (by decide +kernel) (pa_cons (pv 3) pa_nil) (pk_cons pe_non pk_nil))))))), ?_⟩
    obtain ⟨v, hv, m, ts, hh, rfl, W, ⟨a, rfl, ha⟩, O, P1, q⟩ := h
    obtain ⟨aw, b, rfl, hw, b', ps, e, ht, hl, hr⟩ := W
    cases e
    obtain ⟨hlh, P1⟩ := P1
    intro d hd
    have sd : Same H (upd H d (.dT [])) := same_new hd
    refine ⟨by decide, fun r hr1 => ?_⟩
    have nrd : d ≠ r := ne_of_none upd_same hr1
    have sr := sd.trans (same_new (o := .lst []) hr1)
    have hrH : H r = none := sd.free hr1
    refine ⟨_, rfl, a, _, rfl, .of (sr _ _ ha), ?_⟩
    refine for_it (walk_enum (xs := hh.map vo)) (fun i σ H2 => Same H H2 ∧ H2 r = some (.lst []) ∧ (∃ x y z, σ = [some (.ref aw), some (.ref a), some (.ref d), some (.ref r), x, y, z]) ∧ ∃ kvs, H2 d = some (.dT kvs) ∧ kvs.length ≤ 2 * i ∧ ∀ p c, valV kvs (pkey p c) ≠ none → ∃ j, j < i ∧ inc (en ts j) p = true ∧ hu hh j = some c) ?_ (fun i σ H2 _ h2 => .of (h2.1 _ _ ha)) ?_ ?_
    · exact ⟨sr, upd_same, ⟨_, _, _, rfl⟩, [], (by rw [upd_ne nrd, upd_same]), Nat.le_refl _, fun p c z => absurd rfl z⟩
    · rintro i x σ H2 H3 hi ⟨s2, r2, ⟨x1, x2, x3, rfl⟩, kvs, d2, hk, hkv⟩ ⟨t, y, z, rfl, hn, rfl, e1, e2⟩
      cases e1
      rw [List.length_map] at hi
      replace e2 : (hh.map vo)[i]? = some z := e2
      rw [List.getElem?_map] at e2
      obtain ⟨o, eo, rfl⟩ := Option.map_eq_some_iff.mp e2
      have eh : hu hh i = o := getD_of eo
      have s4 : Same H2 (upd H2 t (.tup [.int (i : Nat), vo o])) := same_new hn
      obtain ⟨_, ep, pt, rfl, hpt⟩ := Al.get (α := Tie) ⟨hl, hr⟩ (getD_some (d := (0, 0)) (show i < ts.length by omega))
      obtain ⟨o1, o2⟩ := O.at (show i < ts.length by omega)
      refine ⟨t, _, rfl, .of upd_same, rfl, _, _, rfl, _, _, rfl, rfl, ?_⟩
      refine ⟨_, rfl, aw, _, 1, _, rfl, rfl, .of (s4 _ _ (s2 _ _ hw)), rfl, _, rfl, b, ps, _, _, rfl, rfl, .of (s4 _ _ (s2 _ _ ht)), atI_nat ep, pt, rfl, ⟨_, .of (s4 _ _ (s2 _ _ hpt))⟩, ?_⟩
      refine for_tup (xs := [vn (en ts i).1, vn (en ts i).2]) (fun k σ H4 => Same H H4 ∧ H4 r = some (.lst []) ∧ (∃ z, σ = [some (.ref aw), some (.ref a), some (.ref d), some (.ref r), some (vn i), some (vo o), z]) ∧ ∃ kvs, H4 d = some (.dT kvs) ∧ kvs.length ≤ 2 * i + k ∧ ∀ p c, valV kvs (pkey p c) ≠ none → (∃ j, j < i ∧ inc (en ts j) p = true ∧ hu hh j = some c) ∨ (hu hh i = some c ∧ 1 ≤ k ∧ (p = (en ts i).1 ∨ (2 ≤ k ∧ p = (en ts i).2)))) ?_ (fun k σ H4 _ h4 => .of (h4.1 _ _ hpt)) ?_ ?_
      · exact ⟨s2.trans s4, s4 _ _ r2, ⟨_, rfl⟩, kvs, s4 _ _ d2, by omega, fun p c z => .inl (hkv p c z)⟩
      · rintro k x σ H4 hk2 ⟨s5, r4, ⟨z1, rfl⟩, kvs4, d4, hk4, hkv4⟩
        have hk3 : k = 0 ∧ x = vn (en ts i).1 ∨ k = 1 ∧ x = vn (en ts i).2 := by
          match k, hk2 with
          | 0, e => exact .inl ⟨rfl, (Option.some.inj e).symm⟩
          | 1, e => exact .inr ⟨rfl, (Option.some.inj e).symm⟩
        obtain ⟨p, rfl, hp, hpk⟩ : ∃ p : Nat, x = vn p ∧ inc (en ts i) p = true ∧ ((k = 0 ∧ p = (en ts i).1) ∨ (k = 1 ∧ p = (en ts i).2)) := by
          rcases hk3 with ⟨h1, h2⟩ | ⟨h1, h2⟩
          · exact ⟨_, h2, inc_iff.mpr (.inl rfl), .inl ⟨h1, rfl⟩⟩
          · exact ⟨_, h2, inc_iff.mpr (.inr rfl), .inr ⟨h1, rfl⟩⟩
        cases o with
        | none =>
          refine ⟨_, rfl, rfl, false, rfl, iteF ⟨_, rfl, rfl, false, rfl, iteF ?_⟩⟩
          exact ⟨s5, r4, ⟨_, rfl⟩, kvs4, d4, by omega, fun p c z => (hkv4 p c z).imp id fun w => by rw [eh] at w; cases w.1⟩
        | some c =>
          refine ⟨_, rfl, rfl, true, rfl, iteT ⟨_, rfl, _, rfl, (by show 2 ≤ sizeLine; decide), fun u hu1 => ?_⟩⟩
          have s6 : Same H4 (upd H4 u (.tup [vn p, vo (some c)])) := same_new hu1
          refine ⟨_, rfl, d, _, rfl, DGet.t (k := pkey p c) (s6 _ _ d4) upd_same, _, rfl, ?_⟩
          have ev : valV kvs4 (pkey p c) = none := by
            cases ev : valV kvs4 (pkey p c) with
            | none => rfl
            | some y =>
              exfalso
              rcases hkv4 p c (by rw [ev]; exact fun z => nomatch z) with ⟨j, hj, hjp, hjc⟩ | ⟨_, h1, h2⟩
              · have := P1 i j p c (by omega) (by omega) hp hjp eh hjc
                omega
              · omega
          rw [ev]
          refine iteF ⟨_, rfl, rfl, true, rfl, iteT ⟨_, rfl, _, rfl, _, rfl, _, rfl, (by show 2 ≤ sizeLine; decide), fun u2 hu2 => ?_⟩⟩
          have s7 := s6.trans (same_new (o := .tup [vn p, vo (some c)]) hu2)
          refine ⟨d, _, rfl, DPut.t (k := pkey p c) (s7 _ _ d4) upd_same (smalls (by have := O.len; omega)), ?_⟩
          have ndr : r ≠ d := fun z => nrd z.symm
          refine ⟨same_mut (s5.trans s7) hd, (by rw [upd_ne ndr]; exact s7 _ _ r4), ⟨_, rfl⟩, _, upd_same, ?_, fun p2 c2 z => ?_⟩
          · rw [putK_new _ ev, List.length_append]
            show _ + 1 ≤ _
            omega
          · rw [valV_put] at z
            by_cases qk : pkey p2 c2 = pkey p c
            · obtain ⟨e1, e2⟩ := pkey_inj qk
              subst e1 e2
              refine .inr ⟨eh, by omega, ?_⟩
              rcases hpk with ⟨h1, h2⟩ | ⟨h1, h2⟩
              · exact .inl h2
              · exact .inr ⟨by omega, h2⟩
            · rw [if_neg qk] at z
              refine (hkv4 p2 c2 z).imp id fun w => ⟨w.1, by omega, ?_⟩
              rcases w.2.2 with h | h
              · exact .inl h
              · exact .inr ⟨by omega, h.2⟩
      · rintro σ H4 ⟨s5, r4, ⟨z1, rfl⟩, kvs4, d4, hk4, hkv4⟩
        refine ⟨s5, r4, ⟨_, _, _, rfl⟩, kvs4, d4, ?_, fun p c z => ?_⟩
        · have : kvs4.length ≤ 2 * i + 2 := hk4
          omega
        · rcases hkv4 p c z with ⟨j, hj, h1, h2⟩ | ⟨h1, h2, h3⟩
          · exact ⟨j, by omega, h1, h2⟩
          · refine ⟨i, by omega, inc_iff.mpr ?_, h1⟩
            rcases h3 with h | h
            · exact .inl h
            · exact .inr h.2
    · rintro σ H2 ⟨s2, r2, ⟨x1, x2, x3, rfl⟩, kvs, d2, hk, hkv⟩
      refine ⟨_, rfl, r, [], .non, rfl, rfl, .of r2, fun _ => q H2 s2, fun n hn => absurd hn List.not_mem_nil⟩
end
end Hu
end

/-! ## W3 -/
section
set_option maxHeartbeats 4000000
set_option autoImplicit true
namespace Hu
open PySem PySem.Spec PyProof.Rows L2
local macro_rules | `(tactic| walk_at "len") => `(tactic| (intro h; first
  | (obtain ⟨_, e, _⟩ := h; cases e; rfl)
  | (obtain ⟨_, _, e, _⟩ := h; cases e; rfl)
  | (obtain ⟨_, _, _, e, _⟩ := h; cases e; rfl)
  | (obtain ⟨_, _, _, _, e, _⟩ := h; cases e; rfl)
  | (obtain ⟨_, _, _, _, _, e, _⟩ := h; cases e; rfl)
  | (obtain ⟨_, _, _, _, _, _, e, _⟩ := h; cases e; rfl)
  | (obtain ⟨_, _, _, _, _, _, _, e, _⟩ := h; cases e; rfl)
  | (obtain ⟨_, _, _, _, _, _, _, _, e, _⟩ := h; cases e; rfl)
  | (obtain ⟨_, _, _, _, _, _, _, _, _, e, _⟩ := h; cases e; rfl)
  | (obtain ⟨_, _, _, _, _, _, _, _, _, _, e, _⟩ := h; cases e; rfl)
  | (obtain ⟨_, _, _, _, _, _, _, _, _, _, _, e, _⟩ := h; cases e; rfl)
  | (obtain ⟨_, _, _, _, _, _, _, _, _, _, _, _, e, _⟩ := h; cases e; rfl)
  | (obtain ⟨_, _, _, _, _, _, _, _, _, _, _, _, _, e, _⟩ := h; cases e; rfl)
  | (obtain ⟨_, _, _, _, _, _, _, _, _, _, _, _, _, _, e, _⟩ := h; cases e; rfl)
  | (obtain ⟨_, _, _, _, _, _, _, _, _, _, _, _, _, _, _, e, _⟩ := h; cases e; rfl)
  | (obtain ⟨_, _, _, _, _, _, _, _, _, _, _, _, _, _, _, _, e, _⟩ := h; cases e; rfl)
  | (obtain ⟨_, _, _, _, _, _, _, _, _, _, _, _, _, _, _, _, _, e, _⟩ := h; cases e; rfl)
  | (obtain ⟨_, _, _, _, _, _, _, _, _, _, _, _, _, _, _, _, _, _, e, _⟩ := h; cases e; rfl)))
section
variable {P : Program} {w : World} {K : PySem.W.Frag} {mg : Str → Option Value} {base : Heap}
/-! ### is_hueing -/
abbrev N_is_hueing : List Str := ["web", "thing", "hue"]
theorem sc_is_hueing : FnScope N_is_hueing ["web", "thing"] (defScope s_is_hueing) := ⟨rfl, rfl, rfl, by decide +kernel, rfl, by decide +kernel, by decide +kernel⟩
def sp_is_hueing (K : PySem.W.Frag) : Sp := fun vs H Q _ => ∃ (v hv : V) (m : Nat) (ts : List Tie) (h : Hue), vs = [v, hv] ∧ WebR H v m ts ∧ HueR H hv h ∧ WebOk m ts ∧ Proper ts h ∧ ∀ H', Same H H' → Q (.bl true) H'
theorem ok_is_hueing (T : Tx P w K mg base) : Has P w K mg base 3 ("is_hueing", none) ["web", "thing"] (sp_is_hueing K) := by
  obtain ⟨fd_is_hue, G_is_hue, b_is_hue, k_is_hue⟩ := ok_is_hue (P := P) (w := w) (base := base) T
  obtain ⟨fd_clash_of, G_clash_of, b_clash_of, k_clash_of⟩ := ok_clash_of (P := P) (w := w) (base := base) T
  refine mkHas T 10 (d := d_is_hueing) rfl sc_is_hueing rfl rfl (fun us hl => match us, hl with | [_, _], _ => fun _ _ _ _ _ _ => rfl) (fun vs H Q E => ?_) (fun cdv A outer s H vs Q E hr h => ?_)
  · walk_at "len"
  · have hU := hu_of hr
    refine ⟨_, PSs.nox (pss_cons (ps_if (PW.pt (pw_or (pt_not (pt_val (pe_callB call_isiT (by rfl) T.b_isinstance (by decide +kernel) (pa_cons (pv 1) (pa_cons (pe_tup (pa_cons (pe_bltn (v := .ty "list") rfl T.b_list (by decide +kernel) rfl) (pa_cons (pe_bltn (v := .ty "tuple") rfl T.b_tuple (by decide +kernel) rfl) pa_nil))) pa_nil))))) (pw_or1 (pt_cmpR op_ne (pe_callB call_len_seq (by rfl) T.b_len (by decide +kernel) (pa_cons (pv 1) pa_nil)) (pe_callB call_len_seq (by rfl) T.b_len (by decide +kernel) (pa_cons (pe_ix ix_tup (pv 0) pe_int (fun _ _ => rfl)) pa_nil)) (nomark _))))) (pss_one (ps_ret pe_bl)) pss_nil)
    (pss_one (ps_ret (pe_and (pe_callB (cr_all rfl) (by rfl) T.b_all (by decide +kernel) (pa_cons (pe_lc (own := [("hue", 2)]) rfl sc_is_hueing.nd (pi_list (pv 1)) (blkOk_by (N := N_is_hueing) (sc := defScope s_is_hueing) (by decide +kernel)) (fun _ _ _ _ _ => by exact (pg_name (i := 2) sc_is_hueing.nd rfl (Or.inl rfl))) (fun _ _ _ _ _ => by exact pts_nil) (fun _ _ _ _ _ => by exact (pe_call G_is_hue (hr.mono (by decide)) rfl T.g_is_hue k_is_hue b_is_hue .nil pass0 (pa_cons (pv 2) pa_nil)))) pa_nil)) (pe_one (pe_cmpR op_isN (pe_call G_clash_of (hr.mono (by decide)) rfl T.g_clash_of k_clash_of b_clash_of .nil pass0 (pa_cons (pv 0) (pa_cons (pv 1) pa_nil))) pe_non (nomark _))))))), ?_⟩
    obtain ⟨v, hv, m, ts, hh, rfl, W, ⟨a, rfl, ha⟩, O, P1, q⟩ := h
    have hlh := P1.1
    have W0 := W
    obtain ⟨aw, b, rfl, hw, b', ps, e, ht, hl, hr⟩ := W
    cases e
    refine ⟨_, rfl, (by show 2 ≤ sizeLine; decide), fun t hn => ?_⟩
    refine ⟨_, t, [.ty "list", .ty "tuple"], _, [.type "list", .type "tuple"], true, rfl, upd_same, .cons (.ty _) (.cons (.ty _) .nil), .base (.lst ((same_new hn) _ _ ha)), ?_, ?_⟩
    · rfl
    have s1 : Same H (upd H t (.tup [.ty "list", .ty "tuple"])) := same_new hn
    refine ⟨true, rfl, iteF ⟨_, rfl, a, _, rfl, .inl (.of (s1 _ _ ha)), _, rfl, aw, _, 1, _, rfl, rfl, .of (s1 _ _ hw), rfl, b, _, rfl, .inr (.of (s1 _ _ ht)), rfl, _, rfl, ?_⟩⟩
    rw [decide_eq_true (show V.int (((hh.map vo).length : Nat) : Int) = V.int ((ps.length : Nat) : Int) by rw [List.length_map, hl, hlh])]
    refine iteF ⟨_, rfl, a, rfl, ⟨_, .of (s1 _ _ ha)⟩, fun D hD => ?_⟩
    refine lc_val (n := (hh.map vo).length) walk_list (by rw [List.length_map, hlh]; have := O.len; omega) hD (fun H2 s2 => .of (s2 _ _ (s1 _ _ ha))) (fun _ => true) (fun i => .bl true) ?_ ?_
    · rintro i x H2 H3 acc hi s2 d2 ⟨rfl, e⟩ Good Skip hg hs
      rw [List.getElem?_map] at e
      obtain ⟨o, eo, rfl⟩ := Option.map_eq_some_iff.mp e
      exact ⟨rfl, _, rfl, o, rfl, hg rfl _ (Same.refl _)⟩
    · intro H2 s2 d2
      have e1 : ((List.range (hh.map vo).length).filter fun _ => true).map (fun _ => V.bl true) = (List.replicate (hh.map vo).length true).map V.bl := by
        rw [filter_all]
        refine List.ext_getElem (by simp) fun i h1 h2 => by simp
      rw [e1] at d2
      refine ⟨D, _, rfl, .of d2, true, ?_, iteT ?_⟩
      · congr 1
        simp
      refine ⟨_, rfl, _, rfl, .ref aw, .ref a, m, ts, hh, rfl, W0.mono (s1.trans s2), ⟨a, rfl, s2 _ _ (s1 _ _ ha)⟩, O, P1, fun H3 s3 => ⟨rfl, ?_⟩⟩
      exact q H3 ((s1.trans s2).trans s3)
/-! ### is_whole -/
abbrev N_is_whole : List Str := ["web", "thing"]
theorem sc_is_whole : FnScope N_is_whole ["web", "thing"] (defScope s_is_whole) := ⟨rfl, rfl, rfl, by decide +kernel, rfl, by decide +kernel, by decide +kernel⟩
def sp_is_whole (K : PySem.W.Frag) : Sp := fun vs H Q _ => ∃ (v hv : V) (m : Nat) (ts : List Tie) (h : Hue), vs = [v, hv] ∧ WebR H v m ts ∧ HueR H hv h ∧ WebOk m ts ∧ Proper ts h ∧ Full h ∧ ∀ H', Same H H' → Q (.bl true) H'
theorem ok_is_whole (T : Tx P w K mg base) : Has P w K mg base 4 ("is_whole", none) ["web", "thing"] (sp_is_whole K) := by
  obtain ⟨fd_is_hueing, G_is_hueing, b_is_hueing, k_is_hueing⟩ := ok_is_hueing (P := P) (w := w) (base := base) T
  refine mkHas T 11 (d := d_is_whole) rfl sc_is_whole rfl rfl (fun us hl => match us, hl with | [_, _], _ => fun _ _ _ _ _ _ => rfl) (fun vs H Q E => ?_) (fun cdv A outer s H vs Q E hr h => ?_)
  · walk_at "len"
  · have hU := hu_of hr
    refine ⟨_, PSs.nox (pss_one (ps_ret (pe_and (pe_call G_is_hueing (hr.mono (by decide)) rfl T.g_is_hueing k_is_hueing b_is_hueing .nil pass0 (pa_cons (pv 0) (pa_cons (pv 1) pa_nil))) (pe_one (pe_cmpR op_notIn_seq pe_non (pv 1) rfl))))), ?_⟩
    obtain ⟨v, hv, m, ts, hh, rfl, W, ⟨a, rfl, ha⟩, O, P1, F1, q⟩ := h
    refine ⟨_, rfl, _, rfl, v, .ref a, m, ts, hh, rfl, W, ⟨a, rfl, ha⟩, O, P1, fun H1 s1 => ⟨true, rfl, iteT ⟨_, rfl, a, _, rfl, .inl (.of (s1 _ _ ha)), rfl, ?_, ?_⟩⟩⟩
    · rw [List.all_map, List.all_eq_true]
      intro o _
      exact vo_flat
    · have e : inV V.non (hh.map vo) = false := by
        unfold inV
        rw [List.any_map]
        cases e : hh.any ((fun y => eqV y V.non) ∘ vo) with
        | false => rfl
        | true =>
          exfalso
          obtain ⟨o, ho, e2⟩ := List.any_eq_true.mp e
          cases o with
          | none =>
            obtain ⟨i, hi, e3⟩ := List.mem_iff_getElem.mp ho
            refine F1 i hi ?_
            unfold hu
            rw [List.getD_eq_getElem?_getD, List.getElem?_eq_getElem hi, e3]
            rfl
          | some c => cases e2
      show Q (.bl (!inV V.non (hh.map vo))) H1
      rw [e]
      exact q H1 s1
/-! ### hues_at -/
abbrev N_hues_at : List Str := ["web", "hueing", "place", "tie"]
theorem sc_hues_at : FnScope N_hues_at ["web", "hueing", "place"] (defScope s_hues_at) := ⟨rfl, rfl, rfl, by decide +kernel, rfl, by decide +kernel, by decide +kernel⟩
def sp_hues_at (K : PySem.W.Frag) : Sp := fun vs H Q _ => ∃ (v hv : V) (m p : Nat) (ts : List Tie) (h : Hue), vs = [v, hv, vn p] ∧ WebR H v m ts ∧ HueR H hv h ∧ h.length = ts.length ∧ p < m ∧ ts.length ≤ 1000 ∧
  ∀ D H' (l : List Nat), H D = none → Same H H' → H' D = some (.lst (l.map vn)) → (∀ c, c ∈ l ↔ ∃ i, i ∈ tiesAt ts p ∧ hu h i = some c) → Q (.ref D) H'
theorem ok_hues_at (T : Tx P w K mg base) : Has P w K mg base 4 ("hues_at", none) ["web", "hueing", "place"] (sp_hues_at K) := by
  obtain ⟨fd_ties_at, G_ties_at, b_ties_at, k_ties_at⟩ := ok_ties_at (P := P) (w := w) (base := base) T
  refine mkHas T 12 (d := d_hues_at) rfl sc_hues_at rfl rfl (fun us hl => match us, hl with | [_, _, _], _ => fun _ _ _ _ _ _ => rfl) (fun vs H Q E => ?_) (fun cdv A outer s H vs Q E hr h => ?_)
  · walk_at "len"
  · have hU := hu_of hr
    refine ⟨_, PSs.nox (pss_one (ps_ret (pe_callB cr_sortedI (by rfl) T.b_sorted (by decide +kernel) (pa_cons (pe_lc (own := [("tie", 3)]) rfl sc_hues_at.nd (pi_list (pe_call G_ties_at (hr.mono (by decide)) rfl T.g_ties_at k_ties_at b_ties_at .nil pass0 (pa_cons (pv 0) (pa_cons (pv 2) pa_nil)))) (blkOk_by (N := N_hues_at) (sc := defScope s_hues_at) (by decide +kernel)) (fun _ _ _ _ _ => by exact (pg_name (i := 3) sc_hues_at.nd rfl (Or.inl rfl))) (fun _ _ _ _ _ => by exact (pts_one (pt_cmpR op_notN (pe_ix (ix_listK (K := K) rfl) (pv 1) (pv 3) (fun _ _ => rfl)) pe_non (nomark _)))) (fun _ _ _ _ _ => by exact (pe_ix (ix_listK (K := K) rfl) (pv 1) (pv 3) (fun _ _ => rfl)))) pa_nil)))), ?_⟩
    obtain ⟨v, hv, m, p, ts, hh, rfl, W, ⟨a, rfl, ha⟩, hl, hp, hz, q⟩ := h
    refine ⟨_, rfl, _, rfl, v, m, p, ts, rfl, W, hp, hz, fun D H1 hD s1 d1 => ⟨D, rfl, ⟨_, .of d1⟩, fun D2 hD2 => ?_⟩⟩
    have lt : (tiesAt ts p).length ≤ 1000 := Nat.le_trans range_filter_le hz
    have key : ∀ i x, ((tiesAt ts p).map vn)[i]? = some x → ∃ t, x = vn t ∧ (tiesAt ts p)[i]? = some t ∧ t < hh.length := fun i x e => by
      rw [List.getElem?_map] at e
      obtain ⟨t, et, rfl⟩ := Option.map_eq_some_iff.mp e
      exact ⟨t, rfl, et, by rw [hl]; exact (mem_tiesAt.mp (List.mem_of_getElem? et)).1⟩
    refine lc_val (n := ((tiesAt ts p).map vn).length) walk_list (by rw [List.length_map]; omega) hD2 (fun H2 s2 => .of (s2 _ _ d1)) (fun i => (hu hh ((tiesAt ts p).getD i 0)).isSome) (fun i => vn ((hu hh ((tiesAt ts p).getD i 0)).getD 0)) ?_ ?_
    · rintro i x H2 H3 acc hi s2 d2 ⟨rfl, e⟩ Good Skip hg hs
      obtain ⟨t, rfl, et, htl⟩ := key i x e
      rw [getD_of et] at hg hs
      have gt := atI_nat (hue_get htl)
      refine ⟨rfl, _, rfl, _, rfl, a, _, _, _, rfl, rfl, .of (s2 _ _ (s1 _ _ ha)), gt, rfl, _, rfl, ?_⟩
      cases e2 : hu hh t with
      | none =>
        rw [e2] at hs
        exact iteF (hs rfl _ (Same.refl _))
      | some c =>
        rw [e2] at hg gt
        exact iteT ⟨_, rfl, _, rfl, a, _, _, _, rfl, rfl, .of (s2 _ _ (s1 _ _ ha)), gt, hg rfl _ (Same.refl _)⟩
    · intro H2 s2 d2
      rw [List.length_map] at d2
      have e1 : ((List.range (tiesAt ts p).length).filter fun i => (hu hh ((tiesAt ts p).getD i 0)).isSome).map (fun i => vn ((hu hh ((tiesAt ts p).getD i 0)).getD 0)) =
          (((List.range (tiesAt ts p).length).filter fun i => (hu hh ((tiesAt ts p).getD i 0)).isSome).map fun i => (((hu hh ((tiesAt ts p).getD i 0)).getD 0 : Nat) : Int)).map V.int := by
        rw [List.map_map]
        rfl
      rw [e1] at d2
      refine ⟨D2, _, rfl, .of d2, fun ns r pm pw hr => ?_⟩
      have nn : ∀ x ∈ ns, ∃ n : Nat, x = n := fun x hx => by
        obtain ⟨i, _, e⟩ := List.mem_map.mp (pm.mem_iff.mp hx)
        exact ⟨_, e.symm⟩
      have e2 : ns.map V.int = (ns.map Int.toNat).map vn := by
        rw [List.map_map]
        refine List.map_congr_left fun x hx => ?_
        obtain ⟨n, rfl⟩ := nn x hx
        rfl
      refine q r _ (ns.map Int.toNat) ((s1.trans s2).free hr) ((s1.trans s2).trans (same_new hr)) (by rw [upd_same, e2]) fun c => ?_
      constructor
      · intro hc
        obtain ⟨x, hx, e3⟩ := List.mem_map.mp hc
        obtain ⟨i, hi, e4⟩ := List.mem_map.mp (pm.mem_iff.mp hx)
        obtain ⟨h1, h2⟩ := List.mem_filter.mp hi
        rw [List.mem_range] at h1
        refine ⟨(tiesAt ts p).getD i 0, List.mem_of_getElem? (getD_some h1), ?_⟩
        cases e5 : hu hh ((tiesAt ts p).getD i 0) with
        | none =>
          rw [e5] at h2
          cases h2
        | some d =>
          rw [e5] at e4
          have e6 : ((d : Nat) : Int) = x := e4
          rw [← e3, ← e6]
          rfl
      · rintro ⟨t, ht, e⟩
        obtain ⟨i, hi, e3⟩ := List.mem_iff_getElem.mp ht
        have e4 : (tiesAt ts p).getD i 0 = t := by rw [List.getD_eq_getElem?_getD, List.getElem?_eq_getElem hi, e3]; rfl
        refine List.mem_map.mpr ⟨(c : Int), pm.mem_iff.mpr (List.mem_map.mpr ⟨i, List.mem_filter.mpr ⟨List.mem_range.mpr hi, by rw [e4, e]; rfl⟩, by rw [e4, e]; rfl⟩), rfl⟩
/-! ### free_at -/
abbrev N_free_at : List Str := ["web", "hueing", "place", "hues", "taken", "hue"]
theorem sc_free_at : FnScope N_free_at ["web", "hueing", "place", "hues"] (defScope s_free_at) := ⟨rfl, rfl, rfl, by decide +kernel, rfl, by decide +kernel, by decide +kernel⟩
def sp_free_at (K : PySem.W.Frag) : Sp := fun vs H Q _ => ∃ (v hv : V) (m p k : Nat) (ts : List Tie) (h : Hue), vs = [v, hv, vn p, vn k] ∧ WebR H v m ts ∧ HueR H hv h ∧ h.length = ts.length ∧ p < m ∧ ts.length ≤ 1000 ∧ k ≤ 5000 ∧
  ∀ D H', H D = none → Same H H' → H' D = some (.lst ((freeAt ts h p k).map vn)) → Q (.ref D) H'
theorem inV_nats {c : Nat} {l : List Nat} : inV (vn c) (l.map vn) = decide (c ∈ l) := by
  unfold inV
  rw [List.any_map, Bool.eq_iff_iff, List.any_eq_true, decide_eq_true_eq]
  constructor
  · rintro ⟨x, hx, e⟩
    have e2 : ((x : Int) == (c : Int)) = true := e
    have e3 : x = c := by
      have := beq_iff_eq.mp e2
      omega
    exact e3 ▸ hx
  · intro h
    refine ⟨c, h, ?_⟩
    show ((c : Int) == (c : Int)) = true
    exact beq_self_eq_true _
theorem flat_nats {l : List Nat} : (l.map vn).all flatV = true := by
  rw [List.all_map, List.all_eq_true]
  intro _ _
  rfl
theorem ok_free_at (T : Tx P w K mg base) : Has P w K mg base 5 ("free_at", none) ["web", "hueing", "place", "hues"] (sp_free_at K) := by
  obtain ⟨fd_hues_at, G_hues_at, b_hues_at, k_hues_at⟩ := ok_hues_at (P := P) (w := w) (base := base) T
  refine mkHas T 13 (d := d_free_at) rfl sc_free_at rfl rfl (fun us hl => match us, hl with | [_, _, _, _], _ => fun _ _ _ _ _ _ => rfl) (fun vs H Q E => ?_) (fun cdv A outer s H vs Q E hr h => ?_)
  · walk_at "len"
  · have hU := hu_of hr
    refine ⟨_, PSs.nox (pss_cons (ps_set (i := 4) sc_free_at.nd rfl (Or.inr rfl) (pe_call G_hues_at (hr.mono (by decide)) rfl T.g_hues_at k_hues_at b_hues_at .nil pass0 (pa_cons (pv 0) (pa_cons (pv 1) (pa_cons (pv 2) pa_nil)))))
    (pss_one (ps_ret (pe_lc (own := [("hue", 5)]) rfl sc_free_at.nd (pi_range1 rfl T.b_range (pa_cons (pv 3) pa_nil)) (blkOk_by (N := N_free_at) (sc := defScope s_free_at) (by decide +kernel)) (fun _ _ _ _ _ => by exact (pg_name (i := 5) sc_free_at.nd rfl (Or.inl rfl))) (fun _ _ _ _ _ => by exact (pts_one (pt_cmpR (op_notIn_seqK (K := K) rfl) (pv 5) (pv 4) rfl))) (fun _ _ _ _ _ => by exact (pv 5)))))), ?_⟩
    obtain ⟨v, hv, m, p, k, ts, hh, rfl, W, R1, hl, hp, hz, hk, q⟩ := h
    refine ⟨_, rfl, _, rfl, _, rfl, v, hv, m, p, ts, hh, rfl, W, R1, hl, hp, hz, fun D H1 l hD s1 d1 hmem => ⟨_, rfl, k, rfl, (by omega), (by omega), fun D2 hD2 => ?_⟩⟩
    refine lc_val (n := ((k : Nat) : Int).toNat) walk_range (by omega) hD2 (fun _ _ => trivial) (fun i => !decide (i ∈ l)) (fun i => vn i) ?_ ?_
    · rintro i x H2 H3 acc hi s2 d2 ⟨rfl, ex⟩ Good Skip hg hs
      obtain rfl : x = vn i := by
        rw [ex]
        show V.int (0 + (i : Int)) = V.int (i : Int)
        rw [Int.zero_add]
      refine ⟨rfl, _, rfl, _, rfl, D, _, rfl, .inl (.of (s2 _ _ d1)), rfl, flat_nats, _, rfl, ?_⟩
      rw [show (if true then !inV (vn i) (l.map vn) else inV (vn i) (l.map vn)) = !decide (i ∈ l) by rw [inV_nats]; rfl]
      cases e : (!decide (i ∈ l)) with
      | true => exact iteT ⟨_, rfl, hg e _ (Same.refl _)⟩
      | false => exact iteF (hs e _ (Same.refl _))
    · intro H2 s2 d2
      refine q D2 H2 (s1.free hD2) (s1.trans s2) ?_
      rw [d2]
      congr 2
      unfold freeAt
      congr 1
      refine List.filter_congr fun c hc => ?_
      congr 1
      rw [Bool.eq_iff_iff, decide_eq_true_eq, hmem, List.any_eq_true]
      constructor
      · rintro ⟨i, h1, h2⟩
        exact ⟨i, h1, by rw [h2]; exact beq_self_eq_true _⟩
      · rintro ⟨i, h1, h2⟩
        exact ⟨i, h1, beq_iff_eq.mp h2⟩
end
end Hu
end

/-! ## M1 -/
section
set_option maxHeartbeats 4000000
set_option autoImplicit false
namespace Hu
/-! rows of two hues: paths, closed sets, exchange -/
section
variable {ts : List Tie} {h : Hue} {m p q c t : Nat}
theorem tieOf_some (e : tieOf ts h p c = some t) : t < ts.length ∧ inc (en ts t) p = true ∧ hu h t = some c := by
  unfold tieOf at e
  have h1 := List.find?_some e
  have h2 := List.mem_of_find?_eq_some e
  obtain ⟨a, b⟩ := mem_tiesAt.mp h2
  exact ⟨a, b, beq_iff_eq.mp h1⟩
theorem tieOf_none (e : tieOf ts h p c = none) : lacks ts h p c := by
  intro i hi hp hc
  unfold tieOf at e
  rw [List.find?_eq_none] at e
  exact e i (mem_tiesAt.mpr ⟨hi, hp⟩) (by rw [hc]; simp)
theorem tieOf_is (P : Proper ts h) (ht : t < ts.length) (hp : inc (en ts t) p = true) (hc : hu h t = some c) : tieOf ts h p c = some t := by
  cases e : tieOf ts h p c with
  | none => exact absurd hc (tieOf_none e t ht hp)
  | some u =>
    obtain ⟨a, b, d⟩ := tieOf_some e
    rw [P.2 u t p c a ht b hp d hc]
theorem far_inc (hp : inc (en ts t) p = true) : inc (en ts t) (far ts t p) = true := by
  unfold far
  split
  · exact inc_iff.mpr (.inr rfl)
  · exact inc_iff.mpr (.inl rfl)
theorem far_ne (W : WebOk m ts) (ht : t < ts.length) : far ts t p ≠ p := by
  have := W.at ht
  unfold far
  split <;> omega
theorem inc_far (W : WebOk m ts) (ht : t < ts.length) (hp : inc (en ts t) p = true) : inc (en ts t) q = true ↔ q = p ∨ q = far ts t p := by
  have := W.at ht
  rw [inc_iff] at hp ⊢
  unfold far
  split <;> omega
theorem inc_lt (W : WebOk m ts) (ht : t < ts.length) (hp : inc (en ts t) p = true) : p < m := by
  have := W.at ht
  rw [inc_iff] at hp
  omega
end
def col (a b k : Nat) : Nat := if k % 2 = 0 then a else b
theorem col_0 {a b : Nat} : col a b 0 = a := rfl
theorem col_1 {a b : Nat} : col a b 1 = b := rfl
theorem col_par {a b i j : Nat} (hab : a ≠ b) (h : col a b i = col a b j) : i % 2 = j % 2 := by
  unfold col at h
  split at h <;> split at h <;> omega
theorem col_of {a b i j : Nat} (h : i % 2 = j % 2) : col a b i = col a b j := by
  unfold col
  rw [h]
theorem col_or {a b k : Nat} : col a b k = a ∨ col a b k = b := by
  unfold col
  split
  · exact .inl rfl
  · exact .inr rfl
theorem col_succ {a b i : Nat} : col a b (i + 1) = col b a i := by
  unfold col
  split <;> split <;> first | rfl | omega
/-- the places of a row -/
def pw (ts : List Tie) (h : Hue) (a b p : Nat) : Nat → Nat
  | 0 => p
  | k + 1 => match tieOf ts h (pw ts h a b p k) (col a b k) with
    | some t => far ts t (pw ts h a b p k)
    | none => pw ts h a b p k
def pe (ts : List Tie) (h : Hue) (a b p k : Nat) : Option Nat := tieOf ts h (pw ts h a b p k) (col a b k)
def pt (ts : List Tie) (h : Hue) (a b p k : Nat) : Nat := (pe ts h a b p k).getD 0
def rowL (ts : List Tie) (h : Hue) (a b p n : Nat) : List Nat := (List.range n).map (pt ts h a b p)
def Path (ts : List Tie) (h : Hue) (a b p n : Nat) : Prop := ∀ k, k < n → pe ts h a b p k ≠ none
section
variable {ts : List Tie} {h : Hue} {m a b p n : Nat}
theorem Path.at (P : Path ts h a b p n) {k : Nat} (hk : k < n) : pe ts h a b p k = some (pt ts h a b p k) := by
  have := P k hk
  unfold pt
  cases e : pe ts h a b p k with
  | none => exact absurd e this
  | some t => rfl
theorem Path.tie (P : Path ts h a b p n) {k : Nat} (hk : k < n) : pt ts h a b p k < ts.length ∧ inc (en ts (pt ts h a b p k)) (pw ts h a b p k) = true ∧ hu h (pt ts h a b p k) = some (col a b k) := tieOf_some (P.at hk)
theorem Path.next (P : Path ts h a b p n) {k : Nat} (hk : k < n) : pw ts h a b p (k + 1) = far ts (pt ts h a b p k) (pw ts h a b p k) := by
  have e := P.at hk
  unfold pe at e
  show (match tieOf ts h (pw ts h a b p k) (col a b k) with
    | some t => far ts t (pw ts h a b p k)
    | none => pw ts h a b p k) = _
  rw [e]
theorem Path.tie2 (P : Path ts h a b p n) {k : Nat} (hk : k < n) : inc (en ts (pt ts h a b p k)) (pw ts h a b p (k + 1)) = true := by
  rw [P.next hk]
  exact far_inc (P.tie hk).2.1
theorem Path.mono (P : Path ts h a b p n) {k : Nat} (hk : k ≤ n) : Path ts h a b p k := fun i hi => P i (by omega)
/-- no tie comes twice -/
theorem Path.inj (W : WebOk m ts) (Pr : Proper ts h) (hab : a ≠ b) (hl : lacks ts h p b) (P : Path ts h a b p n) : ∀ j, j < n → ∀ i, i < j → pt ts h a b p i ≠ pt ts h a b p j := by
  intro j
  induction j using Nat.strongRecOn with
  | _ j ih =>
    intro hj i hij e
    obtain ⟨t1, t2, t3⟩ := P.tie (k := i) (by omega)
    obtain ⟨u1, u2, u3⟩ := P.tie hj
    have ec : col a b i = col a b j := by
      rw [e, u3] at t3
      exact (Option.some.inj t3).symm
    have hpar := col_par hab ec
    have hj2 : 0 < j := by omega
    obtain ⟨v1, v2, v3⟩ := P.tie (k := j - 1) (by omega)
    have v4 := P.tie2 (k := j - 1) (by omega)
    rw [show j - 1 + 1 = j by omega] at v4
    -- the place behind i
    rw [← e] at u2
    rcases (inc_far W t1 t2).mp u2 with q | q
    · -- w j = w i
      by_cases hi : i = 0
      · subst hi
        have : col a b (j - 1) = b := by
          unfold col
          rw [if_neg (by omega)]
        rw [this] at v3
        rw [q] at v4
        exact hl _ v1 v4 v3
      · obtain ⟨x1, x2, x3⟩ := P.tie (k := i - 1) (by omega)
        have x4 := P.tie2 (k := i - 1) (by omega)
        rw [show i - 1 + 1 = i by omega] at x4
        rw [q] at v4
        have ecc : col a b (i - 1) = col a b (j - 1) := col_of (by omega)
        have := Pr.2 _ _ _ _ x1 v1 x4 v4 (x3.trans (by rw [ecc])) v3
        exact ih (j - 1) (by omega) (by omega) (i - 1) (by omega) this
    · -- w j = w (i + 1)
      rw [← P.next (k := i) (by omega)] at q
      obtain ⟨x1, x2, x3⟩ := P.tie (k := i + 1) (by omega)
      rw [← q] at x2
      have ecc : col a b (i + 1) = col a b (j - 1) := col_of (by omega)
      have es := Pr.2 _ _ _ _ x1 v1 x2 v4 (x3.trans (by rw [ecc])) v3
      by_cases hlt : i + 1 < j - 1
      · exact ih (j - 1) (by omega) (by omega) (i + 1) hlt es
      · -- j = i + 2
        have ej : j = i + 2 := by omega
        subst ej
        have z := P.next (k := i + 1) (by omega)
        rw [q] at z
        exact far_ne W x1 z.symm
theorem Path.nodup (W : WebOk m ts) (Pr : Proper ts h) (hab : a ≠ b) (hl : lacks ts h p b) (P : Path ts h a b p n) : (rowL ts h a b p n).Nodup := by
  unfold rowL
  refine (List.pairwise_map).mpr ?_
  refine List.Pairwise.imp_of_mem ?_ List.pairwise_lt_range
  intro i j hi hj hij
  exact P.inj W Pr hab hl j (List.mem_range.mp hj) i hij
theorem Path.le (W : WebOk m ts) (Pr : Proper ts h) (hab : a ≠ b) (hl : lacks ts h p b) (P : Path ts h a b p n) : n ≤ ts.length := by
  have h1 := (P.nodup W Pr hab hl).length_le_of_subset (l₂ := List.range ts.length) fun x hx => by
    unfold rowL at hx
    obtain ⟨k, hk, rfl⟩ := List.mem_map.mp hx
    exact List.mem_range.mpr (P.tie (List.mem_range.mp hk)).1
  unfold rowL at h1
  rw [List.length_map, List.length_range, List.length_range] at h1
  exact h1
theorem mem_rowL {x : Nat} : x ∈ rowL ts h a b p n ↔ ∃ k, k < n ∧ pt ts h a b p k = x := by
  unfold rowL
  rw [List.mem_map]
  constructor
  · rintro ⟨k, hk, e⟩
    exact ⟨k, List.mem_range.mp hk, e⟩
  · rintro ⟨k, hk, e⟩
    exact ⟨k, List.mem_range.mpr hk, e⟩
end
/-- a set of ties of both hues that no further tie of them meets -/
structure Closed (ts : List Tie) (h : Hue) (a b : Nat) (S : List Nat) : Prop where
  all : ∀ s, s ∈ S → s < ts.length ∧ (hu h s = some a ∨ hu h s = some b)
  cl : ∀ s, s ∈ S → ∀ t v, t < ts.length → inc (en ts s) v = true → inc (en ts t) v = true → (hu h t = some a ∨ hu h t = some b) → t ∈ S
/-- a row to its end -/
structure Row (ts : List Tie) (h : Hue) (a b p n : Nat) : Prop where
  path : Path ts h a b p n
  stop : pe ts h a b p n = none
section
variable {ts : List Tie} {h : Hue} {m a b p n : Nat}
theorem Row.closed (W : WebOk m ts) (Pr : Proper ts h) (hab : a ≠ b) (hl : lacks ts h p b) (R : Row ts h a b p n) : Closed ts h a b (rowL ts h a b p n) := by
  have P := R.path
  refine ⟨fun s hs => ?_, fun s hs t v ht hsv htv hc => ?_⟩
  · obtain ⟨k, hk, rfl⟩ := mem_rowL.mp hs
    obtain ⟨x1, _, x3⟩ := P.tie hk
    rw [x3]
    exact ⟨x1, col_or.imp (congrArg some) (congrArg some)⟩
  · obtain ⟨k, hk, rfl⟩ := mem_rowL.mp hs
    obtain ⟨x1, x2, x3⟩ := P.tie hk
    -- the place is one of the row's
    have hm : ∃ j, j ≤ n ∧ v = pw ts h a b p j := by
      rcases (inc_far W x1 x2).mp hsv with q | q
      · exact ⟨k, by omega, q⟩
      · exact ⟨k + 1, by omega, by rw [P.next hk]; exact q⟩
    obtain ⟨j, hj, rfl⟩ := hm
    -- the tie has the hue of j or of the one ahead
    have hcj : hu h t = some (col a b j) ∨ hu h t = some (col a b (j + 1)) := by
      unfold col
      by_cases e : j % 2 = 0
      · rw [if_pos e, if_neg (by omega)]
        exact hc
      · rw [if_neg e, if_pos (by omega)]
        exact hc.symm
    rcases hcj with q | q
    · by_cases hjn : j < n
      · obtain ⟨y1, y2, y3⟩ := P.tie hjn
        exact mem_rowL.mpr ⟨j, hjn, Pr.2 _ _ _ _ y1 ht y2 htv y3 q⟩
      · have ej : j = n := by omega
        subst ej
        exact absurd q (tieOf_none R.stop t ht htv)
    · by_cases hj0 : j = 0
      · subst hj0
        exact absurd q (hl t ht htv)
      · obtain ⟨y1, y2, y3⟩ := P.tie (k := j - 1) (by omega)
        have y4 := P.tie2 (k := j - 1) (by omega)
        rw [show j - 1 + 1 = j by omega] at y4
        have ecc : col a b (j - 1) = col a b (j + 1) := col_of (by omega)
        exact mem_rowL.mpr ⟨j - 1, by omega, Pr.2 _ _ _ _ y1 ht y4 htv (y3.trans (by rw [ecc])) q⟩
end
/-! ### exchange -/
def otherOf (o : Option Nat) (a b : Nat) : Nat := if o = some a then b else a
def exch (h : Hue) (S : List Nat) (a b : Nat) : Hue := (List.range h.length).map fun i => if i ∈ S then some (otherOf (hu h i) a b) else hu h i
section
variable {ts : List Tie} {h : Hue} {m a b : Nat} {S : List Nat}
theorem exch_len : (exch h S a b).length = h.length := by
  unfold exch
  rw [List.length_map, List.length_range]
theorem hu_exch {i : Nat} (hi : i < h.length) : hu (exch h S a b) i = if i ∈ S then some (otherOf (hu h i) a b) else hu h i := by
  unfold hu exch
  rw [List.getD_eq_getElem?_getD, List.getElem?_map, List.getElem?_range hi]
  rfl
theorem hu_none {i : Nat} (hi : ¬ i < h.length) : hu h i = none := by
  unfold hu
  rw [List.getD_eq_getElem?_getD, List.getElem?_eq_none_iff.mpr (by omega)]
  rfl
theorem hu_exch_out {i : Nat} (hi : i ∉ S) : hu (exch h S a b) i = hu h i := by
  by_cases hl : i < h.length
  · rw [hu_exch hl, if_neg hi]
  · rw [hu_none hl, hu_none (by rw [exch_len]; exact hl)]
theorem Closed.swap (C : Closed ts h a b S) (hl : h.length = ts.length) (hab : a ≠ b) {s : Nat} (hs : s ∈ S) : (hu h s = some a ∧ hu (exch h S a b) s = some b) ∨ (hu h s = some b ∧ hu (exch h S a b) s = some a) := by
  obtain ⟨h1, h2⟩ := C.all s hs
  rw [hu_exch (by omega), if_pos hs]
  unfold otherOf
  rcases h2 with e | e
  · left
    rw [e]
    exact ⟨rfl, by rw [if_pos rfl]⟩
  · right
    rw [e]
    refine ⟨rfl, ?_⟩
    rw [if_neg]
    intro z
    injection z with z
    omega
theorem Closed.proper (C : Closed ts h a b S) (Pr : Proper ts h) (hab : a ≠ b) : Proper ts (exch h S a b) := by
  refine ⟨by rw [exch_len]; exact Pr.1, fun i j p c hi hj hip hjp ei ej => ?_⟩
  have key : ∀ i j, i < ts.length → j < ts.length → inc (en ts i) p = true → inc (en ts j) p = true → hu (exch h S a b) i = some c → hu (exch h S a b) j = some c → i ∈ S → j ∈ S := by
    intro i j hi hj hip hjp ei ej hs
    by_cases hjs : j ∈ S
    · exact hjs
    · rw [hu_exch_out hjs] at ej
      refine C.cl i hs j p hj hip hjp ?_
      rcases C.swap Pr.1 hab hs with ⟨_, e⟩ | ⟨_, e⟩
      · rw [ei] at e
        exact .inr (ej.trans e)
      · rw [ei] at e
        exact .inl (ej.trans e)
  by_cases hs : i ∈ S
  · have hjs := key i j hi hj hip hjp ei ej hs
    rcases C.swap Pr.1 hab hs with ⟨e1, e2⟩ | ⟨e1, e2⟩
    · rcases C.swap Pr.1 hab hjs with ⟨f1, f2⟩ | ⟨f1, f2⟩
      · exact Pr.2 i j p a hi hj hip hjp e1 f1
      · rw [ei] at e2
        rw [ej] at f2
        have := Option.some.inj (e2.symm.trans f2)
        omega
    · rcases C.swap Pr.1 hab hjs with ⟨f1, f2⟩ | ⟨f1, f2⟩
      · rw [ei] at e2
        rw [ej] at f2
        have := Option.some.inj (e2.symm.trans f2)
        omega
      · exact Pr.2 i j p b hi hj hip hjp e1 f1
  · have hjs : j ∉ S := fun z => hs (key j i hj hi hjp hip ej ei z)
    rw [hu_exch_out hs] at ei
    rw [hu_exch_out hjs] at ej
    exact Pr.2 i j p c hi hj hip hjp ei ej
theorem Closed.below (C : Closed ts h a b S) (hl : h.length = ts.length) (hab : a ≠ b) {k : Nat} (ha : a < k) (hb : b < k) (B : Below h k) : Below (exch h S a b) k := by
  intro i c e
  by_cases hs : i ∈ S
  · rcases C.swap hl hab hs with ⟨_, e2⟩ | ⟨_, e2⟩
    · rw [e] at e2
      cases e2
      exact hb
    · rw [e] at e2
      cases e2
      exact ha
  · rw [hu_exch_out hs] at e
    exact B i c e
theorem Closed.none_iff (C : Closed ts h a b S) (hl : h.length = ts.length) (hab : a ≠ b) {i : Nat} : hu (exch h S a b) i = none ↔ hu h i = none := by
  by_cases hs : i ∈ S
  · rcases C.swap hl hab hs with ⟨e1, e2⟩ | ⟨e1, e2⟩ <;> rw [e1, e2] <;> simp
  · rw [hu_exch_out hs]
/-- other hues stay -/
theorem Closed.other (C : Closed ts h a b S) (hl : h.length = ts.length) (hab : a ≠ b) {i c : Nat} (h1 : c ≠ a) (h2 : c ≠ b) : hu (exch h S a b) i = some c ↔ hu h i = some c := by
  by_cases hs : i ∈ S
  · rcases C.swap hl hab hs with ⟨e1, e2⟩ | ⟨e1, e2⟩ <;> rw [e1, e2] <;> simp <;> omega
  · rw [hu_exch_out hs]
theorem Closed.lacks_other (C : Closed ts h a b S) (hl : h.length = ts.length) (hab : a ≠ b) {v c : Nat} (h1 : c ≠ a) (h2 : c ≠ b) (L : lacks ts h v c) : lacks ts (exch h S a b) v c :=
  fun i hi hv e => L i hi hv ((C.other hl hab h1 h2).mp e)
/-- a place that no tie of the set touches -/
theorem lacks_untouched {v c : Nat} (hv : ∀ s, s ∈ S → inc (en ts s) v = false) (L : lacks ts h v c) : lacks ts (exch h S a b) v c := fun i hi hiv e => by
  by_cases hs : i ∈ S
  · rw [hv i hs] at hiv
    cases hiv
  · rw [hu_exch_out hs] at e
    exact L i hi hiv e
end
section
variable {ts : List Tie} {h : Hue} {m a b p n : Nat}
/-- behind the exchange the first place lacks the first hue -/
theorem Row.lacks_start (W : WebOk m ts) (Pr : Proper ts h) (hab : a ≠ b) (hl : lacks ts h p b) (R : Row ts h a b p n) : lacks ts (exch h (rowL ts h a b p n) a b) p a := by
  have C := R.closed W Pr hab hl
  intro i hi hip e
  by_cases hs : i ∈ rowL ts h a b p n
  · rcases C.swap Pr.1 hab hs with ⟨e1, e2⟩ | ⟨e1, e2⟩
    · rw [e] at e2
      exact hab (Option.some.inj e2)
    · exact hl i hi hip e1
  · rw [hu_exch_out hs] at e
    have e0 : pe ts h a b p 0 = some i := tieOf_is Pr hi hip e
    refine hs (mem_rowL.mpr ⟨0, ?_, by unfold pt; rw [e0]; rfl⟩)
    cases n with
    | zero =>
      have := R.stop
      rw [e0] at this
      cases this
    | succ k => exact Nat.succ_pos k
/-- a place that lacks one hue and is none of both ends is not touched -/
theorem Row.untouched (W : WebOk m ts) (Pr : Proper ts h) (hab : a ≠ b) (R : Row ts h a b p n) {v : Nat} (hv : lacks ts h v a ∨ lacks ts h v b) (h1 : v ≠ p) (h2 : v ≠ pw ts h a b p n) : ∀ s, s ∈ rowL ts h a b p n → inc (en ts s) v = false := by
  intro s hs
  cases e : inc (en ts s) v with
  | false => rfl
  | true =>
    exfalso
    have P := R.path
    obtain ⟨k, hk, rfl⟩ := mem_rowL.mp hs
    obtain ⟨x1, x2, x3⟩ := P.tie hk
    have hm : ∃ j, j ≤ n ∧ v = pw ts h a b p j := by
      rcases (inc_far W x1 x2).mp e with q | q
      · exact ⟨k, by omega, q⟩
      · exact ⟨k + 1, by omega, by rw [P.next hk]; exact q⟩
    obtain ⟨j, hj, rfl⟩ := hm
    have j0 : j ≠ 0 := fun z => h1 (by rw [z]; rfl)
    have jn : j ≠ n := fun z => h2 (by rw [z])
    obtain ⟨y1, y2, y3⟩ := P.tie (k := j) (by omega)
    obtain ⟨z1, z2, z3⟩ := P.tie (k := j - 1) (by omega)
    have z4 := P.tie2 (k := j - 1) (by omega)
    rw [show j - 1 + 1 = j by omega] at z4
    have both : ∀ c, c = a ∨ c = b → ¬ lacks ts h (pw ts h a b p j) c := by
      intro c hc L
      have : c = col a b j ∨ c = col a b (j - 1) := by
        unfold col
        by_cases q : j % 2 = 0
        · rw [if_pos q, if_neg (by omega)]
          exact hc
        · rw [if_neg q, if_pos (by omega)]
          exact hc.symm
      rcases this with q | q
      · exact L _ y1 y2 (q ▸ y3)
      · exact L _ z1 z4 (q ▸ z3)
    rcases hv with L | L
    · exact both a (.inl rfl) L
    · exact both b (.inr rfl) L
/-- the last place has the last tie -/
theorem Row.last (R : Row ts h a b p n) (hn : 0 < n) : inc (en ts (pt ts h a b p (n - 1))) (pw ts h a b p n) = true ∧ pt ts h a b p (n - 1) ∈ rowL ts h a b p n := by
  have := R.path.tie2 (k := n - 1) (by omega)
  rw [show n - 1 + 1 = n by omega] at this
  exact ⟨this, mem_rowL.mpr ⟨n - 1, by omega, rfl⟩⟩
end
end Hu
end

/-! ## M2 -/
section
set_option maxHeartbeats 4000000
set_option autoImplicit false
namespace Hu
/-! steps, and the turning of a fan -/
inductive Step where
  | hue (t c : Nat)
  | move (t o : Nat)
  | row (p a b : Nat)
/-- a step is let by and makes h' of h -/
def StepTo (m : Nat) (ts : List Tie) (h : Hue) (s : Step) (h' : Hue) : Prop := Proper ts h' ∧ match s with
  | .hue t c => t < ts.length ∧ hu h t = none ∧ h' = h.set t (some c)
  | .move t o => t < ts.length ∧ o < ts.length ∧ (∃ p, inc (en ts t) p = true ∧ inc (en ts o) p = true) ∧ ∃ c, hu h t = some c ∧ hu h o = none ∧ h' = (h.set t none).set o (some c)
  | .row p a b => p < m ∧ a ≠ b ∧ lacks ts h p b ∧ ∃ n, Row ts h a b p n ∧ h' = exch h (rowL ts h a b p n) a b
def Plays (m : Nat) (ts : List Tie) : Hue → List Step → Hue → Prop
  | h, [], h' => h' = h
  | h, s :: ss, h' => ∃ h1, StepTo m ts h s h1 ∧ Plays m ts h1 ss h'
theorem Plays.append {m : Nat} {ts : List Tie} : ∀ {ss ss' : List Step} {h h1 h2 : Hue}, Plays m ts h ss h1 → Plays m ts h1 ss' h2 → Plays m ts h (ss ++ ss') h2
  | [], _, h, h1, h2, p, q => by
    have e : h1 = h := p
    subst e
    exact q
  | s :: r, ss', h, h1, h2, ⟨g, a, b⟩, q => ⟨g, a, Plays.append b q⟩
theorem hu_set {h : Hue} {i j : Nat} {o : Option Nat} (hi : i < h.length) : hu (h.set i o) j = if i = j then o else hu h j := by
  unfold hu
  rw [List.getD_eq_getElem?_getD, List.getD_eq_getElem?_getD, List.getElem?_set]
  by_cases e : i = j
  · subst e
    rw [if_pos rfl, if_pos rfl, if_pos hi]
    rfl
  · rw [if_neg e, if_neg e]
section
variable {m : Nat} {ts : List Tie} {h g : Hue} {x c k : Nat}
/-- a tie gets a hue that both its places lack -/
theorem proper_set (W : WebOk m ts) (Pr : Proper ts h) {t : Nat} (ht : t < ts.length) (hx : inc (en ts t) x = true) (h1 : lacks ts h x c) (h2 : lacks ts h (far ts t x) c) : Proper ts (h.set t (some c)) := by
  have hl : t < h.length := by rw [Pr.1]; exact ht
  refine ⟨by rw [List.length_set]; exact Pr.1, fun i j p d hi hj hip hjp ei ej => ?_⟩
  rw [hu_set hl] at ei ej
  by_cases q1 : t = i
  · rw [if_pos q1] at ei
    by_cases q2 : t = j
    · omega
    · rw [if_neg q2] at ej
      subst q1
      cases ei
      exfalso
      rcases (inc_far W ht hx).mp hip with e | e
      · rw [e] at hjp
        exact h1 j hj hjp ej
      · rw [e] at hjp
        exact h2 j hj hjp ej
  · rw [if_neg q1] at ei
    by_cases q2 : t = j
    · rw [if_pos q2] at ej
      subst q2
      cases ej
      exfalso
      rcases (inc_far W ht hx).mp hjp with e | e
      · rw [e] at hip
        exact h1 i hi hip ei
      · rw [e] at hip
        exact h2 i hi hip ei
    · rw [if_neg q2] at ej
      exact Pr.2 i j p d hi hj hip hjp ei ej
theorem proper_drop (Pr : Proper ts h) {t : Nat} (ht : t < ts.length) : Proper ts (h.set t none) := by
  have hl : t < h.length := by rw [Pr.1]; exact ht
  refine ⟨by rw [List.length_set]; exact Pr.1, fun i j p d hi hj hip hjp ei ej => ?_⟩
  rw [hu_set hl] at ei ej
  by_cases q1 : t = i
  · rw [if_pos q1] at ei
    cases ei
  · by_cases q2 : t = j
    · rw [if_pos q2] at ej
      cases ej
    · rw [if_neg q1] at ei
      rw [if_neg q2] at ej
      exact Pr.2 i j p d hi hj hip hjp ei ej
theorem lacks_drop {t v : Nat} (ht : t < h.length) (L : lacks ts h v c) : lacks ts (h.set t none) v c := fun i hi hv e => by
  rw [hu_set ht] at e
  by_cases q : t = i
  · rw [if_pos q] at e
    cases e
  · rw [if_neg q] at e
    exact L i hi hv e
end
/-- the steps of a turning along ties u :: us: each gets the next one's hue, the last one c -/
def turnS : Nat → List Nat → Nat → List Step
  | u, [], c => [.hue u c]
  | u, v :: r, c => .move v u :: turnS v r c
/-- the ties' hues behind it -/
def turnH (h : Hue) : Nat → List Nat → Nat → Hue
  | u, [], c => h.set u (some c)
  | u, v :: r, c => turnH ((h.set v none).set u (hu h v)) v r c
/-- what a turning needs -/
def TurnOk (ts : List Tie) (h : Hue) (x : Nat) : Nat → List Nat → Nat → Prop
  | u, [], c => lacks ts h (far ts u x) c
  | u, v :: r, c => (∃ d, hu h v = some d ∧ lacks ts h (far ts u x) d) ∧ TurnOk ts h x v r c
section
variable {m : Nat} {ts : List Tie} {x c k : Nat}
theorem TurnOk.step (W : WebOk m ts) {h : Hue} {u w : Nat} {d : Nat} (hl : h.length = ts.length) (hu1 : u < ts.length) (hw1 : w < ts.length) (hux : inc (en ts u) x = true) (hwx : inc (en ts w) x = true) (Pr : Proper ts h) (hd : hu h w = some d) (hc : lacks ts h x c) :
    ∀ (r : List Nat) (v : Nat), (∀ z ∈ v :: r, z < ts.length ∧ inc (en ts z) x = true) → u ∉ v :: r → w ∉ r → (w = v ∨ w ∉ v :: r) → TurnOk ts h x v r c → TurnOk ts ((h.set w none).set u (some d)) x v r c := by
  have hul : u < h.length := by omega
  have hwl : w < h.length := by omega
  have hul2 : u < (h.set w none).length := by rw [List.length_set]; exact hul
  have stay : ∀ v e, lacks ts h v e → e ≠ d → lacks ts ((h.set w none).set u (some d)) v e := fun v e L hne i hi hv q => by
    rw [hu_set hul2] at q
    by_cases z : u = i
    · rw [if_pos z] at q
      cases q
      exact hne rfl
    · rw [if_neg z, hu_set hwl] at q
      by_cases z2 : w = i
      · rw [if_pos z2] at q
        cases q
      · rw [if_neg z2] at q
        exact L i hi hv q
  have hcd : c ≠ d := fun z => hc w hw1 hwx (by rw [hd, z])
  intro r
  induction r with
  | nil =>
    intro v hv hur hwr hwv T
    exact stay _ _ T hcd
  | cons z r ih =>
    intro v hv hur hwr hwv T
    obtain ⟨⟨e, he, L⟩, T2⟩ := T
    have hz := hv z (by simp)
    have hzu : u ≠ z := fun q => hur (by simp [q])
    have hzw : w ≠ z := fun q => hwr (by simp [q])
    refine ⟨⟨e, ?_, stay _ _ L fun q => ?_⟩, ih z (fun y hy => hv y (List.mem_cons_of_mem _ hy)) (fun q => hur (List.mem_cons_of_mem _ q)) (fun q => hwr (List.mem_cons_of_mem _ q)) (.inr hwr) T2⟩
    · rw [hu_set hul2, if_neg hzu, hu_set hwl, if_neg hzw]
      exact he
    · subst q
      exact hzw (Pr.2 w z x e hw1 hz.1 hwx hz.2 hd he)
theorem turn_plays (W : WebOk m ts) : ∀ (r : List Nat) (u : Nat) (h : Hue), Proper ts h → (∀ z ∈ u :: r, z < ts.length ∧ inc (en ts z) x = true) → (u :: r).Nodup → hu h u = none → lacks ts h x c → TurnOk ts h x u r c →
    Plays m ts h (turnS u r c) (turnH h u r c) ∧ Proper ts (turnH h u r c) ∧ (∀ i, hu (turnH h u r c) i = none ↔ hu h i = none ∧ i ≠ u) ∧ (∀ k, Below h k → c < k → Below (turnH h u r c) k)
  | [], u, h, Pr, hv, nd, hn, hx, T => by
    obtain ⟨h1, h2⟩ := hv u (by simp)
    have hul : u < h.length := by rw [Pr.1]; exact h1
    have P1 : Proper ts (h.set u (some c)) := proper_set W Pr h1 h2 hx T
    refine ⟨⟨_, ⟨P1, h1, hn, rfl⟩, rfl⟩, P1, fun i => ?_, fun k B hck i e => ?_⟩
    · show hu (h.set u (some c)) i = none ↔ _
      rw [hu_set hul]
      by_cases q : u = i
      · rw [if_pos q]
        simp [q]
      · rw [if_neg q]
        exact ⟨fun z => ⟨z, fun y => q y.symm⟩, fun z => z.1⟩
    · intro z
      have z : hu (h.set u (some c)) i = some e := z
      rw [hu_set hul] at z
      by_cases q : u = i
      · rw [if_pos q] at z
        cases z
        exact hck
      · rw [if_neg q] at z
        exact B i e z
  | v :: r, u, h, Pr, hv, nd, hn, hx, T => by
    obtain ⟨h1, h2⟩ := hv u (by simp)
    obtain ⟨v1, v2⟩ := hv v (by simp)
    obtain ⟨⟨d, hd, L⟩, T2⟩ := T
    obtain ⟨n1, n2⟩ := List.nodup_cons.mp nd
    obtain ⟨n3, n4⟩ := List.nodup_cons.mp n2
    have huv : u ≠ v := fun q => n1 (by simp [q])
    have hul : u < h.length := by rw [Pr.1]; exact h1
    have hvl : v < h.length := by rw [Pr.1]; exact v1
    have hul2 : u < (h.set v none).length := by rw [List.length_set]; exact hul
    have lx : lacks ts (h.set v none) x d := fun i hi hix e => by
      rw [hu_set hvl] at e
      by_cases q : v = i
      · rw [if_pos q] at e
        cases e
      · rw [if_neg q] at e
        exact q (Pr.2 v i x d v1 hi v2 hix hd e)
    have P1 : Proper ts ((h.set v none).set u (some d)) := proper_set W (proper_drop Pr v1) h1 h2 lx (lacks_drop hvl L)
    have hx1 : lacks ts ((h.set v none).set u (some d)) x c := fun i hi hix e => by
      rw [hu_set hul2] at e
      by_cases q : u = i
      · rw [if_pos q] at e
        cases e
        exact hx v v1 v2 hd
      · rw [if_neg q] at e
        exact lacks_drop hvl hx i hi hix e
    have hn1 : hu ((h.set v none).set u (some d)) v = none := by
      rw [hu_set hul2, if_neg huv, hu_set hvl, if_pos rfl]
    have T3 := TurnOk.step (c := c) (x := x) W Pr.1 h1 v1 h2 v2 Pr hd hx r v (fun z hz => hv z (List.mem_cons_of_mem _ hz)) n1 n3 (.inl rfl) T2
    obtain ⟨q1, q2, q3, q4⟩ := turn_plays W r v _ P1 (fun z hz => hv z (List.mem_cons_of_mem _ hz)) n2 hn1 hx1 T3
    have et : turnH h u (v :: r) c = turnH ((h.set v none).set u (some d)) v r c := by
      show turnH ((h.set v none).set u (hu h v)) v r c = _
      rw [hd]
    rw [et]
    refine ⟨⟨_, ⟨P1, v1, h1, ⟨x, v2, h2⟩, d, hd, hn, rfl⟩, q1⟩, q2, fun i => ?_, fun k B hck => q4 k (fun i e z => ?_) hck⟩
    · rw [q3 i, hu_set hul2]
      by_cases z : u = i
      · rw [if_pos z]
        simp [z]
      · rw [if_neg z, hu_set hvl]
        by_cases z2 : v = i
        · rw [if_pos z2, ← z2, hd]
          simp
        · rw [if_neg z2]
          exact ⟨fun w => ⟨w.1, fun y => z y.symm⟩, fun w => ⟨w.1, fun y => z2 y.symm⟩⟩
    · rw [hu_set hul2] at z
      by_cases q : u = i
      · rw [if_pos q] at z
        cases z
        exact B v d hd
      · rw [if_neg q, hu_set hvl] at z
        by_cases q2 : v = i
        · rw [if_pos q2] at z
          cases z
        · rw [if_neg q2] at z
          exact B i e z
end
end Hu
end

/-! ## M3 -/
section
set_option maxHeartbeats 4000000
set_option autoImplicit false
namespace Hu
/-! fans: two far ends share a hue; what the told steps come to -/
abbrev FanL := List (Nat × Option Nat)
def fk (F : FanL) (i : Nat) : Nat := (F.getD i (0, none)).1
def fb (F : FanL) (i : Nat) : Option Nat := (F.getD i (0, none)).2
def endF (ts : List Tie) (x : Nat) (F : FanL) (i : Nat) : Nat := far ts (fk F i) x
def rowsF (ts : List Tie) (h : Hue) (k x : Nat) (F : FanL) (i : Nat) : List Nat := freeAt ts h (endF ts x F i) k
structure FanOk (ts : List Tie) (h : Hue) (k x t : Nat) (F : FanL) : Prop where
  ne : 0 < F.length
  first : fk F 0 = t ∧ fb F 0 = none
  tie : ∀ i, i < F.length → fk F i < ts.length ∧ inc (en ts (fk F i)) x = true
  nd : ∀ i j, i < F.length → j < F.length → fk F i = fk F j → i = j
  back : ∀ i, 0 < i → i < F.length → ∃ j c, fb F i = some j ∧ j < i ∧ hu h (fk F i) = some c ∧ c ∈ rowsF ts h k x F j ∧ ∀ j', j' < j → c ∉ rowsF ts h k x F j'
/-- no further tie at the place has a hue that is free at a far end -/
def FanMax (ts : List Tie) (h : Hue) (k x : Nat) (F : FanL) : Prop := ∀ u c, u < ts.length → inc (en ts u) x = true → hu h u = some c → (∀ i, i < F.length → fk F i ≠ u) → ∀ j, j < F.length → c ∉ rowsF ts h k x F j
def isFirst (ts : List Tie) (x : Nat) (F : FanL) (i : Nat) : Bool := (List.range i).all fun j => !(endF ts x F j == endF ts x F i)
theorem isFirst_iff {ts : List Tie} {x : Nat} {F : FanL} {i : Nat} : isFirst ts x F i = true ↔ ∀ j, j < i → endF ts x F j ≠ endF ts x F i := by
  unfold isFirst
  rw [List.all_eq_true]
  constructor
  · intro h j hj
    simpa using h j (List.mem_range.mpr hj)
  · intro h j hj
    simpa using h j (List.mem_range.mp hj)
theorem first_of {ts : List Tie} {x : Nat} {F : FanL} : ∀ i, ∃ f, f ≤ i ∧ isFirst ts x F f = true ∧ endF ts x F f = endF ts x F i := by
  intro i
  induction i using Nat.strongRecOn with
  | _ i ih =>
    by_cases h : isFirst ts x F i = true
    · exact ⟨i, Nat.le_refl _, h, rfl⟩
    · have : ∃ j, j < i ∧ endF ts x F j = endF ts x F i := by
        apply Classical.byContradiction
        intro hn
        exact h (isFirst_iff.mpr fun j hj e => hn ⟨j, hj, e⟩)
      obtain ⟨j, hj, e⟩ := this
      obtain ⟨f, h1, h2, h3⟩ := ih j hj
      exact ⟨f, by omega, h2, h3.trans e⟩
/-- the free hues of the far ends, each end's at its first tie alone -/
def unl (ts : List Tie) (h : Hue) (k x : Nat) (F : FanL) (i : Nat) : List Nat := if isFirst ts x F i then rowsF ts h k x F i else []
/-! ### counting -/
section
variable {m : Nat} {ts : List Tie} {h : Hue} {k x t : Nat} {F : FanL}
theorem freeAt_nodup {p : Nat} : (freeAt ts h p k).Nodup := by
  unfold freeAt
  exact List.Pairwise.filter _ List.nodup_range
theorem filter_split {α : Type} (f : α → Bool) : ∀ l : List α, l.length = (l.filter f).length + (l.filter fun a => !f a).length
  | [] => rfl
  | a :: l => by
    have ih := filter_split f l
    cases e : f a with
    | true => rw [List.filter_cons_of_pos e, List.filter_cons_of_neg (by simp [e])]; simp only [List.length_cons]; omega
    | false => rw [List.filter_cons_of_neg (by simp [e]), List.filter_cons_of_pos (by simp [e])]; simp only [List.length_cons]; omega
/-- free and taken hues -/
theorem free_count {p : Nat} : k ≤ (freeAt ts h p k).length + ((tiesAt ts p).filter fun i => (hu h i).isSome).length := by
  have e := filter_split (fun c => !((tiesAt ts p).any fun i => hu h i == some c)) (List.range k)
  rw [List.length_range] at e
  have hs : ((List.range k).filter fun c => !!((tiesAt ts p).any fun i => hu h i == some c)).length ≤ (((tiesAt ts p).filter fun i => (hu h i).isSome).map fun i => (hu h i).getD 0).length := by
    refine List.Nodup.length_le_of_subset (List.Pairwise.filter _ List.nodup_range) fun c hc => ?_
    obtain ⟨_, h2⟩ := List.mem_filter.mp hc
    rw [Bool.not_not] at h2
    obtain ⟨i, hi, ei⟩ := List.any_eq_true.mp h2
    have e3 : hu h i = some c := beq_iff_eq.mp ei
    exact List.mem_map.mpr ⟨i, List.mem_filter.mpr ⟨hi, by rw [e3]; rfl⟩, by rw [e3]; rfl⟩
  rw [List.length_map] at hs
  unfold freeAt
  omega
theorem deg_le {p : Nat} (hp : p < m) : (tiesAt ts p).length ≤ mostAt m ts := le_maxL (List.mem_map.mpr ⟨p, List.mem_range.mpr hp, rfl⟩)
theorem free_ge {p : Nat} (hp : p < m) : k ≤ (freeAt ts h p k).length + mostAt m ts := by
  have h1 := free_count (ts := ts) (h := h) (k := k) (p := p)
  have h2 := deg_le (ts := ts) hp
  have h3 := List.length_filter_le (fun i => (hu h i).isSome) (tiesAt ts p)
  omega
/-- where a tie has no hue one more is free -/
theorem free_gt {p : Nat} (hp : p < m) {u : Nat} (hu1 : u < ts.length) (hup : inc (en ts u) p = true) (hn : hu h u = none) : k + 1 ≤ (freeAt ts h p k).length + mostAt m ts := by
  have h1 := free_count (ts := ts) (h := h) (k := k) (p := p)
  have h2 := deg_le (ts := ts) hp
  have h3 : ((tiesAt ts p).filter fun i => (hu h i).isSome).length < (tiesAt ts p).length :=
    List.length_filter_lt_length_iff_exists.mpr ⟨u, mem_tiesAt.mpr ⟨hu1, hup⟩, by rw [hn]; simp⟩
  omega
theorem count_en (T : Tie) : ((List.range ts.length).filter fun j => en ts j == T).length = ts.count T := by
  have e : ts = (List.range ts.length).map (en ts) := by
    refine List.ext_getElem (by simp) fun i h1 h2 => ?_
    rw [List.getElem_map, List.getElem_range]
    exact (getD_of (List.getElem?_eq_getElem h1)).symm
  conv => rhs; rw [e]
  rw [List.count_eq_countP, List.countP_map, List.countP_eq_length_filter]
  rfl
theorem count_le_thick {T : Tie} (h : T ∈ ts) : ts.count T ≤ thick ts := le_maxL (List.mem_map.mpr ⟨T, h, rfl⟩)
theorem en_of_far (W : WebOk m ts) {u v : Nat} (hu1 : u < ts.length) (hv1 : v < ts.length) (hux : inc (en ts u) x = true) (hvx : inc (en ts v) x = true) (e : far ts u x = far ts v x) : en ts u = en ts v := by
  have a := W.at hu1
  have b := W.at hv1
  rw [inc_iff] at hux hvx
  unfold far at e
  refine Prod.ext ?_ ?_
  · split at e <;> split at e <;> omega
  · split at e <;> split at e <;> omega
theorem same_end_le (W : WebOk m ts) (O : FanOk ts h k x t F) {i : Nat} (hi : i < F.length) : ((List.range F.length).filter fun j => endF ts x F j == endF ts x F i).length ≤ thick ts := by
  obtain ⟨t1, t2⟩ := O.tie i hi
  have h1 : (((List.range F.length).filter fun j => endF ts x F j == endF ts x F i).map (fk F)).length ≤ ((List.range ts.length).filter fun j => en ts j == en ts (fk F i)).length := by
    refine List.Nodup.length_le_of_subset ?_ fun u hu1 => ?_
    · refine List.pairwise_map.mpr (List.Pairwise.imp_of_mem ?_ (List.Pairwise.filter _ List.nodup_range))
      intro a b ha hb hab e
      exact hab (O.nd a b (List.mem_range.mp (List.mem_filter.mp ha).1) (List.mem_range.mp (List.mem_filter.mp hb).1) e)
    · obtain ⟨j, hj, rfl⟩ := List.mem_map.mp hu1
      obtain ⟨j1, j2⟩ := List.mem_filter.mp hj
      obtain ⟨u1, u2⟩ := O.tie j (List.mem_range.mp j1)
      refine List.mem_filter.mpr ⟨List.mem_range.mpr u1, beq_iff_eq.mpr ?_⟩
      exact en_of_far W u1 t1 u2 t2 (beq_iff_eq.mp j2)
  rw [List.length_map, count_en] at h1
  exact Nat.le_trans h1 (count_le_thick (List.mem_of_getElem? (getD_some t1)))
theorem cover_le {α : Type} (I J : List Nat) (e : Nat → α) [BEq α] [LawfulBEq α] (hc : ∀ j, j ∈ J → ∃ i, i ∈ I ∧ e j = e i) : J.length ≤ (I.map fun i => (J.filter fun j => e j == e i).length).sum := by
  induction J with
  | nil => exact Nat.zero_le _
  | cons j J ih =>
    have ih := ih fun a ha => hc a (List.mem_cons_of_mem _ ha)
    have key : ∀ I : List Nat, (I.map fun i => ((j :: J).filter fun j => e j == e i).length).sum = (I.map fun i => (J.filter fun j => e j == e i).length).sum + (I.filter fun i => e j == e i).length := by
      intro I
      induction I with
      | nil => rfl
      | cons i I ih2 =>
        rw [List.map_cons, List.sum_cons, List.map_cons, List.sum_cons, ih2]
        cases q : (e j == e i) with
        | true =>
          rw [List.filter_cons_of_pos (p := fun j => e j == e i) (a := j) q, List.filter_cons_of_pos (p := fun i => e j == e i) (a := i) q]
          simp only [List.length_cons]
          omega
        | false =>
          rw [List.filter_cons_of_neg (p := fun j => e j == e i) (a := j) (by rw [q]; exact Bool.false_ne_true), List.filter_cons_of_neg (p := fun i => e j == e i) (a := i) (by rw [q]; exact Bool.false_ne_true)]
          omega
    obtain ⟨i, hi, ei⟩ := hc j (by simp)
    have : 0 < (I.filter fun i => e j == e i).length := List.length_pos_of_mem (List.mem_filter.mpr ⟨hi, by rw [ei]; exact beq_self_eq_true _⟩)
    rw [key, List.length_cons]
    omega
theorem sum_le_mul {f : Nat → Nat} {b : Nat} : ∀ (I : List Nat), (∀ i, i ∈ I → f i ≤ b) → (I.map f).sum ≤ b * I.length
  | [], _ => Nat.zero_le _
  | i :: I, h => by
    have ih := sum_le_mul I fun a ha => h a (List.mem_cons_of_mem _ ha)
    have := h i (by simp)
    rw [List.map_cons, List.sum_cons, List.length_cons, Nat.mul_succ]
    omega
theorem mul_le_sum {f : Nat → Nat} {b : Nat} : ∀ (I : List Nat), (∀ i, i ∈ I → b ≤ f i) → b * I.length ≤ (I.map f).sum
  | [], _ => Nat.le_refl _
  | i :: I, h => by
    have ih := mul_le_sum I fun a ha => h a (List.mem_cons_of_mem _ ha)
    have := h i (by simp)
    rw [List.map_cons, List.sum_cons, List.length_cons, Nat.mul_succ]
    omega
/-- two far ends share a hue -/
theorem fan_shared (W : WebOk m ts) (hk : mostAt m ts + thick ts ≤ k) (O : FanOk ts h k x t F) (M : FanMax ts h k x F) (hn : hu h t = none) (no : ∀ i, i < F.length → ∀ c, c ∈ rowsF ts h k x F i → c ∉ freeAt ts h x k) :
    ∃ i j c, i < j ∧ j < F.length ∧ c ∈ unl ts h k x F i ∧ c ∈ unl ts h k x F j := by
  apply Classical.byContradiction
  intro hno
  have dis : ∀ i j c, i < j → j < F.length → c ∈ unl ts h k x F i → c ∉ unl ts h k x F j := fun i j c h1 h2 h3 h4 => hno ⟨i, j, c, h1, h2, h3, h4⟩
  have hI : ∀ i, i ∈ (List.range F.length).filter (isFirst ts x F) → i < F.length ∧ unl ts h k x F i = rowsF ts h k x F i := fun i hi => by
    obtain ⟨h1, h2⟩ := List.mem_filter.mp hi
    exact ⟨List.mem_range.mp h1, by unfold unl; rw [if_pos h2]⟩
  -- the hues in a row
  have nd : (((List.range F.length).filter (isFirst ts x F)).flatMap (rowsF ts h k x F)).Nodup := by
    refine List.pairwise_flatMap.mpr ⟨fun i _ => freeAt_nodup, ?_⟩
    refine List.Pairwise.imp_of_mem ?_ (List.Pairwise.filter _ List.pairwise_lt_range)
    intro i j hi hj hij c hc d hd e
    subst e
    obtain ⟨_, e1⟩ := hI i hi
    obtain ⟨j1, e2⟩ := hI j hj
    rw [← e1] at hc
    rw [← e2] at hd
    exact dis i j c hij j1 hc hd
  have up : (((List.range F.length).filter (isFirst ts x F)).flatMap (rowsF ts h k x F)).length ≤ F.length - 1 := by
    have := nd.length_le_of_subset (l₂ := (List.range (F.length - 1)).map fun j => (hu h (fk F (j + 1))).getD 0) fun c hc => by
      obtain ⟨i, hi, hci⟩ := List.mem_flatMap.mp hc
      obtain ⟨i1, _⟩ := hI i hi
      have hnx := no i i1 c hci
      have hck := (mem_freeAt.mp hci).1
      have : ∃ u, u < ts.length ∧ inc (en ts u) x = true ∧ hu h u = some c := by
        apply Classical.byContradiction
        intro q
        exact hnx (mem_freeAt.mpr ⟨hck, fun u h1 h2 h3 => q ⟨u, h1, h2, h3⟩⟩)
      obtain ⟨u, u1, u2, u3⟩ := this
      have : ∃ j, j < F.length ∧ fk F j = u := by
        apply Classical.byContradiction
        intro q
        exact M u c u1 u2 u3 (fun j hj e => q ⟨j, hj, e⟩) i i1 hci
      obtain ⟨j, j1, j2⟩ := this
      cases j with
      | zero =>
        rw [O.first.1] at j2
        rw [← j2, hn] at u3
        cases u3
      | succ j => exact List.mem_map.mpr ⟨j, List.mem_range.mpr (by omega), by rw [j2, u3]; rfl⟩
    rw [List.length_map, List.length_range] at this
    exact this
  have low : thick ts * ((List.range F.length).filter (isFirst ts x F)).length + 1 ≤ (((List.range F.length).filter (isFirst ts x F)).flatMap (rowsF ts h k x F)).length := by
    rw [List.length_flatMap]
    obtain ⟨n, en1⟩ : ∃ n, F.length = n + 1 := ⟨F.length - 1, by have := O.ne; omega⟩
    have eI : ∃ I', (List.range F.length).filter (isFirst ts x F) = 0 :: I' := by
      rw [en1, List.range_succ_eq_map, List.filter_cons_of_pos (isFirst_iff.mpr fun j hj => absurd hj (Nat.not_lt_zero _))]
      exact ⟨_, rfl⟩
    obtain ⟨I', eI⟩ := eI
    rw [eI] at hI ⊢
    rw [List.map_cons, List.sum_cons, List.length_cons, Nat.mul_succ]
    have h0 : thick ts + 1 ≤ (rowsF ts h k x F 0).length := by
      obtain ⟨t1, t2⟩ := O.tie 0 O.ne
      have t3 := far_inc t2
      have := free_gt (k := k) (h := h) (inc_lt W t1 t3) t1 t3 (by rw [O.first.1]; exact hn)
      unfold rowsF endF
      omega
    have h1 := mul_le_sum (f := fun i => (rowsF ts h k x F i).length) (b := thick ts) I' fun i hi => by
      obtain ⟨i1, _⟩ := hI i (List.mem_cons_of_mem _ hi)
      obtain ⟨t1, t2⟩ := O.tie i i1
      have := free_ge (ts := ts) (k := k) (h := h) (inc_lt W t1 (far_inc t2))
      unfold rowsF endF
      omega
    have h1' : thick ts * I'.length ≤ (I'.map fun i => (rowsF ts h k x F i).length).sum := h1
    show _ ≤ (rowsF ts h k x F 0).length + (I'.map fun i => (rowsF ts h k x F i).length).sum
    omega
  have cov := cover_le ((List.range F.length).filter (isFirst ts x F)) (List.range F.length) (endF ts x F) fun j hj => by
    obtain ⟨f, h1, h2, h3⟩ := first_of (ts := ts) (x := x) (F := F) j
    exact ⟨f, List.mem_filter.mpr ⟨List.mem_range.mpr (by have := List.mem_range.mp hj; omega), h2⟩, h3.symm⟩
  have le2 := sum_le_mul (f := fun i => ((List.range F.length).filter fun j => endF ts x F j == endF ts x F i).length) (b := thick ts) ((List.range F.length).filter (isFirst ts x F)) fun i hi => same_end_le W O (hI i hi).1
  rw [List.length_range] at cov
  have := O.ne
  omega
end
/-! ### chains -/
/-- the ties of a fan from its first one to one of them, by backs -/
def chainT (F : FanL) : Nat → Nat → List Nat
  | 0, at_ => [fk F at_]
  | f + 1, at_ => match fb F at_ with
    | none => [fk F at_]
    | some j => chainT F f j ++ [fk F at_]
theorem TurnOk.snoc {ts : List Tie} {g : Hue} {x d c v : Nat} (hd : hu g v = some d) (L : lacks ts g (far ts v x) c) : ∀ (r : List Nat) (u : Nat), TurnOk ts g x u r d → TurnOk ts g x u (r ++ [v]) c
  | [], u, T => ⟨⟨d, hd, T⟩, L⟩
  | w :: r, u, T => ⟨T.1, TurnOk.snoc hd L r w T.2⟩
section
variable {m : Nat} {ts : List Tie} {h g : Hue} {k x t : Nat} {F : FanL}
theorem chain_ok (O : FanOk ts h k x t F) : ∀ (f at_ : Nat), at_ ≤ f → at_ < F.length → ∀ c, lacks ts g (endF ts x F at_) c → (∀ i j d, 0 < i → i ≤ at_ → fb F i = some j → hu h (fk F i) = some d → hu g (fk F i) = some d ∧ lacks ts g (endF ts x F j) d) →
    ∃ r, chainT F f at_ = t :: r ∧ TurnOk ts g x t r c ∧ (t :: r).Nodup ∧ ∀ z, z ∈ t :: r → ∃ i, i ≤ at_ ∧ fk F i = z := by
  intro f
  induction f with
  | zero =>
    intro at_ h1 h2 c L hg
    have e : at_ = 0 := by omega
    subst e
    refine ⟨[], ?_, ?_, by simp, fun z hz => ⟨0, Nat.le_refl _, ?_⟩⟩
    · show [fk F 0] = [t]
      rw [O.first.1]
    · show lacks ts g (far ts t x) c
      rw [← O.first.1]
      exact L
    · rw [O.first.1]
      exact (List.mem_singleton.mp hz).symm
  | succ f ih =>
    intro at_ h1 h2 c L hg
    by_cases h0 : at_ = 0
    · subst h0
      refine ⟨[], ?_, ?_, by simp, fun z hz => ⟨0, Nat.le_refl _, ?_⟩⟩
      · show (match fb F 0 with | none => [fk F 0] | some j => chainT F f j ++ [fk F 0]) = [t]
        rw [O.first.2, O.first.1]
      · show lacks ts g (far ts t x) c
        rw [← O.first.1]
        exact L
      · rw [O.first.1]
        exact (List.mem_singleton.mp hz).symm
    · obtain ⟨j, d, e1, e2, e3, e4, e5⟩ := O.back at_ (by omega) h2
      obtain ⟨g1, g2⟩ := hg at_ j d (by omega) (Nat.le_refl _) e1 e3
      obtain ⟨r, r1, r2, r3, r4⟩ := ih j (by omega) (by omega) d g2 fun i j' d' a b => hg i j' d' a (by omega)
      refine ⟨r ++ [fk F at_], ?_, TurnOk.snoc g1 L r t r2, ?_, fun z hz => ?_⟩
      · show (match fb F at_ with | none => [fk F at_] | some j => chainT F f j ++ [fk F at_]) = _
        rw [e1]
        show chainT F f j ++ [fk F at_] = _
        rw [r1]
        rfl
      · show ((t :: r) ++ [fk F at_]).Nodup
        refine List.nodup_append.mpr ⟨r3, by simp, fun a ha b hb e => ?_⟩
        obtain ⟨i, i1, i2⟩ := r4 a ha
        have eb : b = fk F at_ := by simpa using hb
        rw [eb, ← i2] at e
        have := O.nd i at_ (by omega) h2 e
        omega
      · have hz : z ∈ (t :: r) ++ [fk F at_] := hz
        rcases List.mem_append.mp hz with q | q
        · obtain ⟨i, i1, i2⟩ := r4 z q
          exact ⟨i, by omega, i2⟩
        · exact ⟨at_, Nat.le_refl _, (List.mem_singleton.mp q).symm⟩
/-- what the steps of a hueing-in come to -/
def HuedIn (m : Nat) (ts : List Tie) (h : Hue) (t k : Nat) (ss : List Step) : Prop := ∃ h', Plays m ts h ss h' ∧ Proper ts h' ∧ Below h' k ∧ ∀ i, hu h' i = none ↔ hu h i = none ∧ i ≠ t
theorem chain_plays (W : WebOk m ts) (O : FanOk ts h k x t F) (Pr : Proper ts g) (B : Below g k) (hn : hu g t = none) {at_ c : Nat} (h2 : at_ < F.length) (hc : c < k) (Lx : lacks ts g x c) (L : lacks ts g (endF ts x F at_) c)
    (hg : ∀ i j d, 0 < i → i ≤ at_ → fb F i = some j → hu h (fk F i) = some d → hu g (fk F i) = some d ∧ lacks ts g (endF ts x F j) d) :
    ∃ r, chainT F at_ at_ = t :: r ∧ HuedIn m ts g t k (turnS t r c) := by
  obtain ⟨r, r1, r2, r3, r4⟩ := chain_ok (g := g) O at_ at_ (Nat.le_refl _) h2 c L hg
  refine ⟨r, r1, turnH g t r c, ?_⟩
  obtain ⟨p1, p2, p3, p4⟩ := turn_plays W r t g Pr (fun z hz => by
    obtain ⟨i, i1, rfl⟩ := r4 z hz
    exact O.tie i (by omega)) r3 hn Lx r2
  exact ⟨p1, p2, p4 k B hc, p3⟩
/-- a hue that is free at the place and at a far end -/
theorem at_once_plays (W : WebOk m ts) (Pr : Proper ts h) (B : Below h k) (hn : hu h t = none) (O : FanOk ts h k x t F) {at_ c : Nat} (h2 : at_ < F.length) (h3 : c ∈ rowsF ts h k x F at_) (h4 : c ∈ freeAt ts h x k) :
    ∃ r, chainT F at_ at_ = t :: r ∧ HuedIn m ts h t k (turnS t r c) := by
  refine chain_plays W O Pr B hn h2 (mem_freeAt.mp h3).1 (mem_freeAt.mp h4).2 (mem_freeAt.mp h3).2 fun i j d i1 i2 e1 e2 => ?_
  obtain ⟨j', d', f1, f2, f3, f4, f5⟩ := O.back i i1 (by omega)
  rw [e1] at f1
  cases f1
  rw [e2] at f3
  cases f3
  exact ⟨e2, (mem_freeAt.mp f4).2⟩
theorem HuedIn.cons {h1 : Hue} {ss : List Step} {s : Step} (h2 : StepTo m ts h s h1) (hi : ∀ i, hu h1 i = none ↔ hu h i = none) (H : HuedIn m ts h1 t k ss) : HuedIn m ts h t k (s :: ss) := by
  obtain ⟨h', p1, p2, p3, p4⟩ := H
  exact ⟨h', ⟨h1, h2, p1⟩, p2, p3, fun i => by rw [p4 i, hi i]⟩
/-- the first pair of far ends that share a hue -/
structure Shared (ts : List Tie) (h : Hue) (k x : Nat) (F : FanL) (one other c : Nat) : Prop where
  lt : one < other
  le : other < F.length
  m1 : c ∈ unl ts h k x F one
  m2 : c ∈ unl ts h k x F other
  first : ∀ i j d, i < j → j < other → d ∈ unl ts h k x F i → d ∉ unl ts h k x F j
theorem mem_unl {i c : Nat} (h1 : c ∈ unl ts h k x F i) : isFirst ts x F i = true ∧ c ∈ rowsF ts h k x F i := by
  unfold unl at h1
  split at h1
  · exact ⟨by assumption, h1⟩
  · cases h1
theorem by_row_plays (W : WebOk m ts) (Pr : Proper ts h) (B : Below h k) (hn : hu h t = none) (O : FanOk ts h k x t F) (no : ∀ i, i < F.length → ∀ c, c ∈ rowsF ts h k x F i → c ∉ freeAt ts h x k)
    {one other c kept : Nat} (S : Shared ts h k x F one other c) (hkept : kept ∈ freeAt ts h x k) {n : Nat} (R : Row ts h c kept x n) :
    (pw ts h c kept x n ≠ endF ts x F one → ∃ r, chainT F one one = t :: r ∧ HuedIn m ts h t k (.row x c kept :: turnS t r c)) ∧
    (pw ts h c kept x n = endF ts x F one → ∀ n2, Row ts h kept c (endF ts x F other) n2 → ∃ r, chainT F other other = t :: r ∧ HuedIn m ts h t k (.row (endF ts x F other) kept c :: turnS t r kept)) := by
  obtain ⟨f1, c1⟩ := mem_unl S.m1
  obtain ⟨f2, c2⟩ := mem_unl S.m2
  have hol : one < F.length := Nat.lt_trans S.lt S.le
  have hck := (mem_freeAt.mp c1).1
  have hkk := (mem_freeAt.mp hkept).1
  have Lk := (mem_freeAt.mp hkept).2
  have nck : c ≠ kept := fun e => no one hol c c1 (e ▸ hkept)
  obtain ⟨t1, t2⟩ := O.tie one hol
  obtain ⟨u1, u2⟩ := O.tie other S.le
  have xlt : x < m := inc_lt W t1 t2
  have zlt : endF ts x F other < m := inc_lt W u1 (far_inc u2)
  have yx : endF ts x F one ≠ x := far_ne W t1
  have zx : endF ts x F other ≠ x := far_ne W u1
  have yz : endF ts x F one ≠ endF ts x F other := isFirst_iff.mp f2 one S.lt
  -- earlier ties of the hue c
  have early : ∀ j, c ∈ rowsF ts h k x F j → one ≤ j := by
    intro j hj
    apply Classical.byContradiction
    intro hlt
    obtain ⟨f, h1, h2, h3⟩ := first_of (ts := ts) (x := x) (F := F) j
    have h4 : c ∈ unl ts h k x F f := by
      unfold unl
      rw [if_pos h2]
      unfold rowsF at hj ⊢
      rw [h3]
      exact hj
    exact S.first f one c (by omega) S.lt h4 S.m1
  have bk : ∀ i j d, 0 < i → i < F.length → fb F i = some j → hu h (fk F i) = some d → j < i ∧ d ∈ rowsF ts h k x F j ∧ ∀ j', j' < j → d ∉ rowsF ts h k x F j' := by
    intro i j d i1 i2 e1 e2
    obtain ⟨j', d', g1, g2, g3, g4, g5⟩ := O.back i i1 i2
    rw [e1] at g1
    cases g1
    rw [e2] at g3
    cases g3
    exact ⟨g2, g4, g5⟩
  have nk : ∀ i d, 0 < i → i < F.length → hu h (fk F i) = some d → d ≠ kept := fun i d i1 i2 e1 e2 => by
    obtain ⟨a, b⟩ := O.tie i i2
    exact Lk _ a b (e2 ▸ e1)
  constructor
  · intro hend
    have C := R.closed W Pr nck Lk
    have P1 := C.proper Pr nck
    have B1 := C.below Pr.1 nck hck hkk B
    have Ly : lacks ts (exch h (rowL ts h c kept x n) c kept) (endF ts x F one) c :=
      lacks_untouched (R.untouched W Pr nck (.inl (mem_freeAt.mp c1).2) yx hend.symm) (mem_freeAt.mp c1).2
    obtain ⟨r, r1, r2⟩ := chain_plays (c := c) W O P1 B1 ((C.none_iff Pr.1 nck).mpr hn) hol hck (R.lacks_start W Pr nck Lk) Ly fun i j d i1 i2 e1 e2 => by
      obtain ⟨q1, q2, q3⟩ := bk i j d i1 (by omega) e1 e2
      have d1 : d ≠ c := fun e => by
        have := early j (e ▸ q2)
        omega
      have d2 := nk i d i1 (by omega) e2
      exact ⟨(C.other Pr.1 nck d1 d2).mpr e2, C.lacks_other Pr.1 nck d1 d2 (mem_freeAt.mp q2).2⟩
    exact ⟨r, r1, HuedIn.cons ⟨P1, xlt, nck, Lk, n, R, rfl⟩ (fun i => C.none_iff Pr.1 nck) r2⟩
  · intro hend n2 R2
    have Lz := (mem_freeAt.mp c2).2
    have C0 := R.closed W Pr nck Lk
    have C := R2.closed W Pr nck.symm Lz
    have P1 := C.proper Pr nck.symm
    have B1 := C.below Pr.1 nck.symm hkk hck B
    -- the row from the place has a tie
    have hn0 : 0 < n := by
      apply Classical.byContradiction
      intro q
      have e : n = 0 := by omega
      subst e
      exact yx hend.symm
    have zun : ∀ s, s ∈ rowL ts h c kept x n → inc (en ts s) (endF ts x F other) = false := R.untouched W Pr nck (.inl Lz) zx (by rw [hend]; exact yz.symm)
    -- both rows are apart
    have apart : ∀ i, i < n2 → pt ts h kept c (endF ts x F other) i ∉ rowL ts h c kept x n := by
      intro i
      induction i with
      | zero =>
        intro hi hm
        have h0 : inc (en ts (pt ts h kept c (endF ts x F other) 0)) (endF ts x F other) = true := (R2.path.tie hi).2.1
        rw [zun _ hm] at h0
        cases h0
      | succ i ih =>
        intro hi hm
        refine ih (by omega) ?_
        obtain ⟨a1, a2, a3⟩ := R2.path.tie (k := i) (by omega)
        have a4 := R2.path.tie2 (k := i) (by omega)
        obtain ⟨b1, b2, b3⟩ := R2.path.tie hi
        refine C0.cl _ hm _ _ a1 b2 a4 ?_
        rw [a3]
        exact (col_or.imp (congrArg some) (congrArg some)).symm
    have ap : ∀ s, s ∈ rowL ts h kept c (endF ts x F other) n2 → s ∉ rowL ts h c kept x n := fun s hs => by
      obtain ⟨i, hi, rfl⟩ := mem_rowL.mp hs
      exact apart i hi
    have hs2 : ∀ s, s ∈ rowL ts h kept c (endF ts x F other) n2 → s < ts.length ∧ (hu h s = some c ∨ hu h s = some kept) := fun s hs => ⟨(C.all s hs).1, (C.all s hs).2.symm⟩
    have xun : ∀ s, s ∈ rowL ts h kept c (endF ts x F other) n2 → inc (en ts s) x = false := fun s hs => by
      cases e : inc (en ts s) x with
      | false => rfl
      | true =>
        exfalso
        refine ap s hs (C0.cl (pt ts h c kept x 0) (mem_rowL.mpr ⟨0, hn0, rfl⟩) s x (hs2 s hs).1 (R.path.tie hn0).2.1 e (hs2 s hs).2)
    have yun : ∀ s, s ∈ rowL ts h kept c (endF ts x F other) n2 → inc (en ts s) (endF ts x F one) = false := fun s hs => by
      cases e : inc (en ts s) (endF ts x F one) with
      | false => rfl
      | true =>
        exfalso
        obtain ⟨l1, l2⟩ := R.last hn0
        rw [hend] at l1
        exact ap s hs (C0.cl _ l2 s _ (hs2 s hs).1 l1 e (hs2 s hs).2)
    obtain ⟨r, r1, r2⟩ := chain_plays (c := kept) W O P1 B1 ((C.none_iff Pr.1 nck.symm).mpr hn) S.le hkk (lacks_untouched xun Lk) (R2.lacks_start W Pr nck.symm Lz) fun i j d i1 i2 e1 e2 => by
      obtain ⟨q1, q2, q3⟩ := bk i j d i1 (by have := S.le; omega) e1 e2
      have d2 := nk i d i1 (by have := S.le; omega) e2
      by_cases d1 : d = c
      · subst d1
        have ej : j = one := by
          have h1 := early j q2
          apply Classical.byContradiction
          intro q
          exact q3 one (by omega) c1
        subst ej
        obtain ⟨a, b⟩ := O.tie i (by have := S.le; omega)
        refine ⟨?_, lacks_untouched yun (mem_freeAt.mp c1).2⟩
        rw [hu_exch_out]
        · exact e2
        · intro hm
          have := xun _ hm
          rw [b] at this
          cases this
      · exact ⟨(C.other Pr.1 nck.symm d2 d1).mpr e2, C.lacks_other Pr.1 nck.symm d2 d1 (mem_freeAt.mp q2).2⟩
    exact ⟨r, r1, HuedIn.cons ⟨P1, zlt, nck.symm, Lz, n2, R2, rfl⟩ (fun i => C.none_iff Pr.1 nck.symm) r2⟩
end
end Hu
end

/-! ## M4 -/
section
set_option maxHeartbeats 4000000
set_option autoImplicit false
namespace Hu
/-! rows that hang together, and even hues -/
theorem row_exists {m : Nat} {ts : List Tie} {h : Hue} {a b p : Nat} (W : WebOk m ts) (Pr : Proper ts h) (hab : a ≠ b) (hl : lacks ts h p b) : ∃ n, Row ts h a b p n := by
  apply Classical.byContradiction
  intro no
  have all : ∀ n, Path ts h a b p n := by
    intro n
    induction n with
    | zero => exact fun k hk => absurd hk (Nat.not_lt_zero _)
    | succ n ih =>
      intro k hk e
      by_cases q : k = n
      · subst q
        exact no ⟨_, ih, e⟩
      · exact ih k (by omega) e
  have := (all (ts.length + 1)).le W Pr hab hl
  omega
theorem Row.unique {ts : List Tie} {h : Hue} {a b p n n' : Nat} (R : Row ts h a b p n) (R' : Row ts h a b p n') : n = n' := by
  apply Classical.byContradiction
  intro q
  rcases Nat.lt_or_gt_of_ne q with h1 | h1
  · exact R'.path n h1 R.stop
  · exact R.path n' h1 R'.stop
/-- the ties of two hues that hang together with one -/
structure Comp (ts : List Tie) (h : Hue) (a b t : Nat) (L : List Nat) : Prop where
  mem : t ∈ L
  closed : Closed ts h a b L
  least : ∀ S, Closed ts h a b S → t ∈ S → ∀ s, s ∈ L → s ∈ S
  nd : L.Nodup
section
variable {m : Nat} {ts : List Tie} {h : Hue} {a b t : Nat} {L S : List Nat}
theorem Comp.reach (C : Comp ts h a b t L) (CS : Closed ts h a b S) {s : Nat} (h1 : s ∈ L) (h2 : s ∈ S) : t ∈ S := by
  apply Classical.byContradiction
  intro no
  have C2 : Closed ts h a b (L.filter fun u => decide (u ∉ S)) := by
    refine ⟨fun u hu1 => C.closed.all u (List.mem_filter.mp hu1).1, fun u hu1 v p hv hup hvp hc => ?_⟩
    obtain ⟨q1, q2⟩ := List.mem_filter.mp hu1
    have q2 : u ∉ S := of_decide_eq_true q2
    refine List.mem_filter.mpr ⟨C.closed.cl u q1 v p hv hup hvp hc, decide_eq_true fun hvS => q2 ?_⟩
    obtain ⟨r1, r2⟩ := C.closed.all u q1
    exact CS.cl v hvS u p r1 hvp hup r2
  have := C.least _ C2 (List.mem_filter.mpr ⟨C.mem, decide_eq_true no⟩) s h1
  exact of_decide_eq_true (List.mem_filter.mp this).2 h2
theorem Comp.sub (C : Comp ts h a b t L) (CS : Closed ts h a b S) {s : Nat} (h1 : s ∈ L) (h2 : s ∈ S) : ∀ u, u ∈ L → u ∈ S := C.least S CS (C.reach CS h1 h2)
/-- the row from a place that has one of them is all of them -/
theorem Comp.row (W : WebOk m ts) (Pr : Proper ts h) (hab : a ≠ b) (C : Comp ts h a b t L) {p s n : Nat} (hs : s ∈ L) (hsp : inc (en ts s) p = true) (hsa : hu h s = some a) (hl : lacks ts h p b) (R : Row ts h a b p n) : ∀ u, u ∈ L ↔ u ∈ rowL ts h a b p n := by
  obtain ⟨s1, _⟩ := C.closed.all s hs
  have e0 : pe ts h a b p 0 = some s := tieOf_is Pr s1 hsp hsa
  have hn : 0 < n := by
    cases n with
    | zero =>
      have := R.stop
      rw [e0] at this
      cases this
    | succ k => exact Nat.succ_pos k
  have ep : pt ts h a b p 0 = s := by unfold pt; rw [e0]; rfl
  intro u
  constructor
  · exact C.sub (R.closed W Pr hab hl) hs (mem_rowL.mpr ⟨0, hn, ep⟩) u
  · intro hu1
    obtain ⟨k, hk, rfl⟩ := mem_rowL.mp hu1
    induction k with
    | zero => rw [ep]; exact hs
    | succ k ih =>
      have hk0 := ih (by omega) (mem_rowL.mpr ⟨k, by omega, rfl⟩)
      have k4 := R.path.tie2 (k := k) (by omega)
      obtain ⟨k1, k2, k3⟩ := R.path.tie hk
      refine C.closed.cl _ hk0 _ _ k1 k4 k2 ?_
      rw [k3]
      exact col_or.imp (congrArg some) (congrArg some)
end
/-! ### counts -/
/-- how many of some ties have a hue -/
def cnt (h : Hue) (L : List Nat) (c : Nat) : Nat := (L.filter fun i => hu h i == some c).length
theorem cnt_same {h : Hue} {L L' : List Nat} {c : Nat} (n1 : L.Nodup) (n2 : L'.Nodup) (e : ∀ u, u ∈ L ↔ u ∈ L') : cnt h L c = cnt h L' c := by
  unfold cnt
  refine Nat.le_antisymm ?_ ?_
  · exact List.Nodup.length_le_of_subset (List.Pairwise.filter _ n1) fun u hu1 => List.mem_filter.mpr ⟨(e u).mp (List.mem_filter.mp hu1).1, (List.mem_filter.mp hu1).2⟩
  · exact List.Nodup.length_le_of_subset (List.Pairwise.filter _ n2) fun u hu1 => List.mem_filter.mpr ⟨(e u).mpr (List.mem_filter.mp hu1).1, (List.mem_filter.mp hu1).2⟩
theorem even_count : ∀ n : Nat, ((List.range n).filter fun k => k % 2 == 0).length = (n + 1) / 2
  | 0 => rfl
  | n + 1 => by
    rw [List.range_succ, List.filter_append, List.length_append, even_count n]
    by_cases e : n % 2 = 0
    · rw [List.filter_cons_of_pos (by simpa using e)]
      show (n + 1) / 2 + 1 = _
      omega
    · rw [List.filter_cons_of_neg (by simpa using e)]
      show (n + 1) / 2 + 0 = _
      omega
theorem odd_count : ∀ n : Nat, ((List.range n).filter fun k => !(k % 2 == 0)).length = n / 2
  | 0 => rfl
  | n + 1 => by
    rw [List.range_succ, List.filter_append, List.length_append, odd_count n]
    by_cases e : n % 2 = 0
    · rw [List.filter_cons_of_neg (by simpa using e)]
      show n / 2 + 0 = _
      omega
    · rw [List.filter_cons_of_pos (by simpa using e)]
      show n / 2 + 1 = _
      omega
section
variable {m : Nat} {ts : List Tie} {h : Hue} {a b p n : Nat}
theorem Path.cnt_a (hab : a ≠ b) (P : Path ts h a b p n) : cnt h (rowL ts h a b p n) a = (n + 1) / 2 := by
  unfold cnt rowL
  rw [List.filter_map, List.length_map, ← even_count n]
  congr 1
  refine List.filter_congr fun k hk => ?_
  have := (P.tie (List.mem_range.mp hk)).2.2
  show (hu h (pt ts h a b p k) == some a) = _
  rw [this]
  unfold col
  by_cases e : k % 2 = 0
  · rw [if_pos e]
    simp [e]
  · rw [if_neg e, show (some b == some a) = false from by simp; omega, show (k % 2 == 0) = false from by simp; omega]
theorem Path.cnt_b (hab : a ≠ b) (P : Path ts h a b p n) : cnt h (rowL ts h a b p n) b = n / 2 := by
  unfold cnt rowL
  rw [List.filter_map, List.length_map, ← odd_count n]
  congr 1
  refine List.filter_congr fun k hk => ?_
  have := (P.tie (List.mem_range.mp hk)).2.2
  show (hu h (pt ts h a b p k) == some b) = _
  rw [this]
  unfold col
  by_cases e : k % 2 = 0
  · rw [if_pos e, show (some a == some b) = false from by simp; omega, show (k % 2 == 0) = true from by simp; omega]
    rfl
  · rw [if_neg e, show (some b == some b) = true from by simp, show (k % 2 == 0) = false from by simp; omega]
    rfl
end
/-- counts over all places from counts of each -/
theorem count_four (f1 f2 f3 f4 : Nat → Bool) : ∀ n : Nat, (∀ i, i < n → (f1 i).toNat + (f2 i).toNat = (f3 i).toNat + (f4 i).toNat) →
    ((List.range n).filter f1).length + ((List.range n).filter f2).length = ((List.range n).filter f3).length + ((List.range n).filter f4).length
  | 0, _ => rfl
  | n + 1, h => by
    have ih := count_four f1 f2 f3 f4 n fun i hi => h i (by omega)
    have hn := h n (by omega)
    have one : ∀ f : Nat → Bool, ((List.range (n + 1)).filter f).length = ((List.range n).filter f).length + (f n).toNat := by
      intro f
      rw [List.range_succ, List.filter_append, List.length_append]
      cases e : f n with
      | true => rw [List.filter_cons_of_pos e]; rfl
      | false => rw [List.filter_cons_of_neg (by rw [e]; exact Bool.false_ne_true)]; rfl
    rw [one, one, one, one]
    omega
theorem cnt_range {h : Hue} {S : List Nat} {c n : Nat} (nd : S.Nodup) (hs : ∀ s, s ∈ S → s < n) : ((List.range n).filter fun i => decide (i ∈ S) && hu h i == some c).length = cnt h S c := by
  unfold cnt
  refine Nat.le_antisymm ?_ ?_
  · refine List.Nodup.length_le_of_subset (List.Pairwise.filter _ List.nodup_range) fun u hu1 => ?_
    obtain ⟨_, q⟩ := List.mem_filter.mp hu1
    obtain ⟨q1, q2⟩ := Bool.and_eq_true_iff.mp q
    exact List.mem_filter.mpr ⟨of_decide_eq_true q1, q2⟩
  · refine List.Nodup.length_le_of_subset (List.Pairwise.filter _ nd) fun u hu1 => ?_
    obtain ⟨q1, q2⟩ := List.mem_filter.mp hu1
    exact List.mem_filter.mpr ⟨List.mem_range.mpr (hs u q1), Bool.and_eq_true_iff.mpr ⟨decide_eq_true q1, q2⟩⟩
section
variable {m : Nat} {ts : List Tie} {h : Hue} {a b : Nat} {S : List Nat}
theorem exch_size_a (C : Closed ts h a b S) (hl : h.length = ts.length) (hab : a ≠ b) (nd : S.Nodup) : (hasHue (exch h S a b) a).length + cnt h S a = (hasHue h a).length + cnt h S b := by
  have hs : ∀ s, s ∈ S → s < h.length := fun s q => by have := (C.all s q).1; omega
  rw [← cnt_range nd hs, ← cnt_range nd hs]
  unfold hasHue
  rw [exch_len]
  have x1 : (a == b) = false := beq_eq_false_iff_ne.mpr hab
  have x2 : (b == a) = false := beq_eq_false_iff_ne.mpr hab.symm
  refine count_four _ _ _ _ _ fun i hi => ?_
  by_cases q : i ∈ S
  · rcases C.swap hl hab q with ⟨e1, e2⟩ | ⟨e1, e2⟩
    · simp [e1, e2, q, x1, x2]
    · simp [e1, e2, q, x1, x2]
  · rw [hu_exch_out q]
    simp [q]
theorem exch_size_b (C : Closed ts h a b S) (hl : h.length = ts.length) (hab : a ≠ b) (nd : S.Nodup) : (hasHue (exch h S a b) b).length + cnt h S b = (hasHue h b).length + cnt h S a := by
  have hs : ∀ s, s ∈ S → s < h.length := fun s q => by have := (C.all s q).1; omega
  rw [← cnt_range nd hs, ← cnt_range nd hs]
  unfold hasHue
  rw [exch_len]
  have x1 : (a == b) = false := beq_eq_false_iff_ne.mpr hab
  have x2 : (b == a) = false := beq_eq_false_iff_ne.mpr hab.symm
  refine count_four _ _ _ _ _ fun i hi => ?_
  by_cases q : i ∈ S
  · rcases C.swap hl hab q with ⟨e1, e2⟩ | ⟨e1, e2⟩
    · simp [e1, e2, q, x1, x2]
    · simp [e1, e2, q, x1, x2]
  · rw [hu_exch_out q]
    simp [q]
theorem exch_size_o (C : Closed ts h a b S) (hl : h.length = ts.length) (hab : a ≠ b) {c : Nat} (h1 : c ≠ a) (h2 : c ≠ b) : (hasHue (exch h S a b) c).length = (hasHue h c).length := by
  unfold hasHue
  rw [exch_len]
  congr 1
  refine List.filter_congr fun i hi => ?_
  rw [Bool.eq_iff_iff, beq_iff_eq, beq_iff_eq]
  exact C.other hl hab h1 h2
end
/-! ### a place at which a row ends -/
def heldOf (ts : List Tie) (L : List Nat) : List Nat := L.flatMap fun s => [(en ts s).1, (en ts s).2]
section
variable {m : Nat} {ts : List Tie} {h : Hue} {a b t : Nat} {L : List Nat}
theorem held_len : (heldOf ts L).length = 2 * L.length := by
  unfold heldOf
  induction L with
  | nil => rfl
  | cons s L ih =>
    rw [List.flatMap_cons, List.length_append, ih]
    show 2 + 2 * L.length = 2 * (L.length + 1)
    omega
theorem mem_held {p : Nat} : p ∈ heldOf ts L ↔ ∃ s, s ∈ L ∧ inc (en ts s) p = true := by
  unfold heldOf
  rw [List.mem_flatMap]
  constructor
  · rintro ⟨s, hs, hp⟩
    exact ⟨s, hs, inc_iff.mpr (by simpa using hp)⟩
  · rintro ⟨s, hs, hp⟩
    exact ⟨s, hs, by simpa using inc_iff.mp hp⟩
theorem held_count (W : WebOk m ts) (hL : ∀ s, s ∈ L → s < ts.length) {p : Nat} : (heldOf ts L).count p = (L.filter fun s => inc (en ts s) p).length := by
  unfold heldOf
  induction L with
  | nil => rfl
  | cons s L ih =>
    have w := W.at (hL s (by simp))
    rw [List.flatMap_cons, List.count_append, ih fun u hu1 => hL u (List.mem_cons_of_mem _ hu1)]
    cases e : inc (en ts s) p with
    | true =>
      rw [List.filter_cons_of_pos (p := fun s => inc (en ts s) p) e, List.length_cons]
      have : ([(en ts s).1, (en ts s).2] : List Nat).count p = 1 := by
        rcases inc_iff.mp e with q | q
        · rw [q, List.count_cons_self, List.count_cons_of_ne (by omega)]
          rfl
        · rw [q, List.count_cons_of_ne (by omega), List.count_cons_self]
          rfl
      omega
    | false =>
      rw [List.filter_cons_of_neg (p := fun s => inc (en ts s) p) (by rw [e]; exact Bool.false_ne_true)]
      have : ([(en ts s).1, (en ts s).2] : List Nat).count p = 0 := by
        refine List.count_eq_zero.mpr fun q => ?_
        have : inc (en ts s) p = true := inc_iff.mpr (by simpa using q)
        rw [e] at this
        cases this
      omega
/-- two of a list -/
theorem two_of {α : Type} [DecidableEq α] {l : List α} {x : α} (nd : l.Nodup) (hx : x ∈ l) (h : l.length ≠ 1) : ∃ y, y ∈ l ∧ y ≠ x := by
  cases l with
  | nil => cases hx
  | cons u r =>
    cases r with
    | nil => exact absurd rfl h
    | cons v r =>
      obtain ⟨n1, _⟩ := List.nodup_cons.mp nd
      by_cases e : u = x
      · refine ⟨v, by simp, fun q => n1 ?_⟩
        rw [e, ← q]
        simp
      · exact ⟨u, by simp, e⟩
theorem ends_nodup (W : WebOk m ts) (Pr : Proper ts h) {A : List Nat} (nd : A.Nodup) (hA : ∀ s, s ∈ A → s < ts.length ∧ hu h s = some a) : (heldOf ts A).Nodup := by
  unfold heldOf
  refine List.pairwise_flatMap.mpr ⟨fun s hs => ?_, ?_⟩
  · have w := W.at (hA s hs).1
    refine List.nodup_cons.mpr ⟨fun q => ?_, List.nodup_cons.mpr ⟨List.not_mem_nil, List.nodup_nil⟩⟩
    have := List.mem_singleton.mp q
    omega
  · refine List.Pairwise.imp_of_mem ?_ nd
    intro u v hu1 hv1 huv p hp q hq e
    subst e
    obtain ⟨u1, u2⟩ := hA u hu1
    obtain ⟨v1, v2⟩ := hA v hv1
    exact huv (Pr.2 u v p a u1 v1 (inc_iff.mpr (by simpa using hp)) (inc_iff.mpr (by simpa using hq)) u2 v2)
theorem row_end (W : WebOk m ts) (Pr : Proper ts h) (C : Closed ts h a b L) (nd : L.Nodup) (hc : cnt h L b < cnt h L a) : ∃ s p, s ∈ L ∧ hu h s = some a ∧ inc (en ts s) p = true ∧ (heldOf ts L).count p = 1 := by
  apply Classical.byContradiction
  intro no
  have hL : ∀ s, s ∈ L → s < ts.length := fun s hs => (C.all s hs).1
  have h1 : (heldOf ts (L.filter fun i => hu h i == some a)).length ≤ (heldOf ts (L.filter fun i => hu h i == some b)).length := by
    refine (ends_nodup (a := a) W Pr (List.Pairwise.filter _ nd) fun s hs => ?_).length_le_of_subset fun p hp => ?_
    · obtain ⟨q1, q2⟩ := List.mem_filter.mp hs
      exact ⟨hL s q1, beq_iff_eq.mp q2⟩
    · obtain ⟨s, hs, hsp⟩ := mem_held.mp hp
      obtain ⟨q1, q2⟩ := List.mem_filter.mp hs
      have q2 : hu h s = some a := beq_iff_eq.mp q2
      have hne : (L.filter fun s => inc (en ts s) p).length ≠ 1 := fun e => no ⟨s, p, q1, q2, hsp, by rw [held_count W hL]; exact e⟩
      obtain ⟨u, hu1, hus⟩ := two_of (List.Pairwise.filter _ nd) (List.mem_filter.mpr ⟨q1, hsp⟩) hne
      obtain ⟨u1, u2⟩ := List.mem_filter.mp hu1
      refine mem_held.mpr ⟨u, List.mem_filter.mpr ⟨u1, ?_⟩, u2⟩
      rcases (C.all u u1).2 with e | e
      · exact absurd (Pr.2 u s p a (hL u u1) (hL s q1) u2 hsp e q2) hus
      · rw [e]
        exact beq_self_eq_true _
  rw [held_len, held_len] at h1
  unfold cnt at hc
  omega
/-- the other hue is not at such a place -/
theorem end_lacks (W : WebOk m ts) (hab : a ≠ b) (C : Closed ts h a b L) (nd : L.Nodup) {s p : Nat} (hs : s ∈ L) (hsa : hu h s = some a) (hsp : inc (en ts s) p = true) (h1 : (heldOf ts L).count p = 1) : lacks ts h p b := by
  intro u hu1 hup hub
  have huL := C.cl s hs u p hu1 hsp hup (.inr hub)
  rw [held_count W fun s hs => (C.all s hs).1] at h1
  have hus : u ≠ s := fun e => by
    rw [e, hsa] at hub
    exact hab (Option.some.inj hub)
  have : 2 ≤ (L.filter fun s => inc (en ts s) p).length := by
    have := List.Nodup.length_le_of_subset (l₁ := [u, s]) (l₂ := L.filter fun s => inc (en ts s) p) (by simpa using hus) fun v hv => by
      rcases List.mem_cons.mp hv with e | e
      · rw [e]
        exact List.mem_filter.mpr ⟨huL, hup⟩
      · rw [List.mem_singleton.mp e]
        exact List.mem_filter.mpr ⟨hs, hsp⟩
    exact this
  omega
/-- all rows of two hues -/
structure Rows (ts : List Tie) (h : Hue) (a b : Nat) (Ls : List (List Nat)) : Prop where
  comp : ∀ L, L ∈ Ls → ∃ t, Comp ts h a b t L
  cover : ∀ i, i < ts.length → (hu h i = some a ∨ hu h i = some b) → ∃ L, L ∈ Ls ∧ i ∈ L
  apart : Ls.Pairwise fun L L' => ∀ i, i ∈ L → i ∉ L'
theorem Rows.pick {Ls : List (List Nat)} (R : Rows ts h a b Ls) (hl : h.length = ts.length) (hc : (hasHue h b).length < (hasHue h a).length) : ∃ L, L ∈ Ls ∧ cnt h L b < cnt h L a := by
  apply Classical.byContradiction
  intro no
  have le : ∀ L, L ∈ Ls → cnt h L a ≤ cnt h L b := fun L hL => by
    apply Classical.byContradiction
    intro q
    exact no ⟨L, hL, by omega⟩
  have h1 : (hasHue h a).length ≤ (Ls.flatMap fun L => L.filter fun i => hu h i == some a).length := by
    refine List.Nodup.length_le_of_subset (List.Pairwise.filter _ List.nodup_range) fun i hi => ?_
    obtain ⟨q1, q2⟩ := List.mem_filter.mp hi
    obtain ⟨L, hL, hiL⟩ := R.cover i (by rw [← hl]; exact List.mem_range.mp q1) (.inl (beq_iff_eq.mp q2))
    exact List.mem_flatMap.mpr ⟨L, hL, List.mem_filter.mpr ⟨hiL, q2⟩⟩
  have h2 : (Ls.flatMap fun L => L.filter fun i => hu h i == some b).length ≤ (hasHue h b).length := by
    refine List.Nodup.length_le_of_subset (List.pairwise_flatMap.mpr ⟨fun L hL => ?_, ?_⟩) fun i hi => ?_
    · obtain ⟨t, C⟩ := R.comp L hL
      exact List.Pairwise.filter _ C.nd
    · refine List.Pairwise.imp ?_ R.apart
      intro L L' hd i hi j hj e
      subst e
      exact hd i (List.mem_filter.mp hi).1 (List.mem_filter.mp hj).1
    · obtain ⟨L, hL, hi⟩ := List.mem_flatMap.mp hi
      obtain ⟨q1, q2⟩ := List.mem_filter.mp hi
      obtain ⟨t, C⟩ := R.comp L hL
      exact List.mem_filter.mpr ⟨List.mem_range.mpr (by rw [hl]; exact (C.closed.all i q1).1), q2⟩
  rw [List.length_flatMap] at h1 h2
  have h3 : (Ls.map fun L => (L.filter fun i => hu h i == some a).length).sum ≤ (Ls.map fun L => (L.filter fun i => hu h i == some b).length).sum := by
    clear h1 h2 no hc R
    induction Ls with
    | nil => exact Nat.le_refl _
    | cons L Ls ih =>
      have a1 := ih fun L hL => le L (List.mem_cons_of_mem _ hL)
      have a2 := le L (by simp)
      unfold cnt at a2
      rw [List.map_cons, List.sum_cons, List.map_cons, List.sum_cons]
      omega
  omega
end
/-! ### the sum of squares falls -/
def sumsq (f : Nat → Nat) (k : Nat) : Nat := ((List.range k).map fun c => f c * f c).sum
theorem sumsq_succ {f : Nat → Nat} {k : Nat} : sumsq f (k + 1) = sumsq f k + f k * f k := by
  unfold sumsq
  rw [List.range_succ, List.map_append, List.sum_append]
  simp
theorem sumsq_falls {f g : Nat → Nat} {a b : Nat} (hab : a ≠ b) (h1 : g a + 1 = f a) (h2 : g b = f b + 1) (h3 : ∀ c, c ≠ a → c ≠ b → g c = f c) : ∀ k, sumsq g k + (if a < k then 2 * g a + 1 else 0) = sumsq f k + (if b < k then 2 * f b + 1 else 0)
  | 0 => rfl
  | k + 1 => by
    have ih := sumsq_falls hab h1 h2 h3 k
    rw [sumsq_succ, sumsq_succ]
    by_cases ha : k = a
    · subst ha
      rw [if_pos (by omega)]
      rw [if_neg (by omega)] at ih
      have e : f k * f k = g k * g k + (2 * g k + 1) := by
        rw [← h1, Nat.mul_add, Nat.add_mul]
        omega
      by_cases hb : b < k
      · rw [if_pos (by omega)]
        rw [if_pos hb] at ih
        omega
      · rw [if_neg (by omega)]
        rw [if_neg hb] at ih
        omega
    · by_cases hb : k = b
      · subst hb
        rw [if_pos (show k < k + 1 by omega)]
        rw [if_neg (show ¬ k < k by omega)] at ih
        have e : g k * g k = f k * f k + (2 * f k + 1) := by
          rw [h2, Nat.mul_add, Nat.add_mul]
          omega
        by_cases ha2 : a < k
        · rw [if_pos (by omega)]
          rw [if_pos ha2] at ih
          omega
        · rw [if_neg (by omega)]
          rw [if_neg ha2] at ih
          omega
      · have e := h3 k ha hb
        rw [e]
        have e1 : (a < k + 1) = (a < k) := by rw [eq_iff_iff]; omega
        have e2 : (b < k + 1) = (b < k) := by rw [eq_iff_iff]; omega
        simp only [e1, e2]
        omega
theorem sumsq_lt {f g : Nat → Nat} {a b k : Nat} (hab : a ≠ b) (h1 : g a + 1 = f a) (h2 : g b = f b + 1) (h3 : ∀ c, c ≠ a → c ≠ b → g c = f c) (ha : a < k) (hb : b < k) (hd : f b + 1 < f a) : sumsq g k < sumsq f k := by
  have := sumsq_falls hab h1 h2 h3 k
  rw [if_pos ha, if_pos hb] at this
  omega
/-- one exchange of an open row makes the sizes more even -/
theorem even_step {m : Nat} {ts : List Tie} {h : Hue} {a b t k p s n : Nat} {L : List Nat} (W : WebOk m ts) (Pr : Proper ts h) (hab : a ≠ b) (C : Comp ts h a b t L) (hs : s ∈ L) (hsa : hu h s = some a) (hsp : inc (en ts s) p = true) (h1 : (heldOf ts L).count p = 1)
    (hc : cnt h L b < cnt h L a) (R : Row ts h a b p n) (ha : a < k) (hb : b < k) (hd : (hasHue h b).length + 1 < (hasHue h a).length) :
    Proper ts (exch h (rowL ts h a b p n) a b) ∧ (Below h k → Below (exch h (rowL ts h a b p n) a b) k) ∧ (Full h → Full (exch h (rowL ts h a b p n) a b)) ∧
      sumsq (fun c => (hasHue (exch h (rowL ts h a b p n) a b) c).length) k < sumsq (fun c => (hasHue h c).length) k := by
  have hl := end_lacks W hab C.closed C.nd hs hsa hsp h1
  have e := C.row W Pr hab hs hsp hsa hl R
  have CR := R.closed W Pr hab hl
  have nd := R.path.nodup W Pr hab hl
  have c1 := R.path.cnt_a hab
  have c2 := R.path.cnt_b hab
  have ca : cnt h (rowL ts h a b p n) a = cnt h L a := cnt_same nd C.nd fun u => (e u).symm
  have cb : cnt h (rowL ts h a b p n) b = cnt h L b := cnt_same nd C.nd fun u => (e u).symm
  rw [ca] at c1
  rw [cb] at c2
  have s1 := exch_size_a CR Pr.1 hab nd
  have s2 := exch_size_b CR Pr.1 hab nd
  rw [ca, cb] at s1
  rw [ca, cb] at s2
  refine ⟨CR.proper Pr hab, CR.below Pr.1 hab ha hb, fun F i hi q => ?_, ?_⟩
  · rw [exch_len] at hi
    exact F i hi ((CR.none_iff Pr.1 hab).mp q)
  · exact sumsq_lt hab (by omega) (by omega) (fun c q1 q2 => exch_size_o CR Pr.1 hab q1 q2) ha hb hd
end Hu
end

/-! ## W4 -/
section
set_option maxHeartbeats 4000000
set_option autoImplicit true
namespace Hu
open PySem PySem.Spec PyProof.Rows L2
local macro_rules | `(tactic| walk_at "len") => `(tactic| (intro h; first
  | (obtain ⟨_, e, _⟩ := h; cases e; rfl)
  | (obtain ⟨_, _, e, _⟩ := h; cases e; rfl)
  | (obtain ⟨_, _, _, e, _⟩ := h; cases e; rfl)
  | (obtain ⟨_, _, _, _, e, _⟩ := h; cases e; rfl)
  | (obtain ⟨_, _, _, _, _, e, _⟩ := h; cases e; rfl)
  | (obtain ⟨_, _, _, _, _, _, e, _⟩ := h; cases e; rfl)
  | (obtain ⟨_, _, _, _, _, _, _, e, _⟩ := h; cases e; rfl)
  | (obtain ⟨_, _, _, _, _, _, _, _, e, _⟩ := h; cases e; rfl)
  | (obtain ⟨_, _, _, _, _, _, _, _, _, e, _⟩ := h; cases e; rfl)
  | (obtain ⟨_, _, _, _, _, _, _, _, _, _, e, _⟩ := h; cases e; rfl)
  | (obtain ⟨_, _, _, _, _, _, _, _, _, _, _, e, _⟩ := h; cases e; rfl)
  | (obtain ⟨_, _, _, _, _, _, _, _, _, _, _, _, e, _⟩ := h; cases e; rfl)
  | (obtain ⟨_, _, _, _, _, _, _, _, _, _, _, _, _, e, _⟩ := h; cases e; rfl)
  | (obtain ⟨_, _, _, _, _, _, _, _, _, _, _, _, _, _, e, _⟩ := h; cases e; rfl)
  | (obtain ⟨_, _, _, _, _, _, _, _, _, _, _, _, _, _, _, e, _⟩ := h; cases e; rfl)
  | (obtain ⟨_, _, _, _, _, _, _, _, _, _, _, _, _, _, _, _, e, _⟩ := h; cases e; rfl)
  | (obtain ⟨_, _, _, _, _, _, _, _, _, _, _, _, _, _, _, _, _, e, _⟩ := h; cases e; rfl)
  | (obtain ⟨_, _, _, _, _, _, _, _, _, _, _, _, _, _, _, _, _, _, e, _⟩ := h; cases e; rfl)))
section
variable {P : Program} {w : World} {K : PySem.W.Frag} {mg : Str → Option Value} {base : Heap}
/-! ### row_from -/
abbrev N_row_from : List Str := ["web", "hueing", "place", "one", "other", "held", "found", "due", "then", "tie"]
theorem sc_row_from : FnScope N_row_from ["web", "hueing", "place", "one", "other"] (defScope s_row_from) := ⟨rfl, rfl, rfl, by decide +kernel, rfl, by decide +kernel, by decide +kernel⟩
def sp_row_from (K : PySem.W.Frag) : Sp := fun vs H Q _ => ∃ (v hv : V) (m p a b n : Nat) (ts : List Tie) (h : Hue), vs = [v, hv, vn p, vn a, vn b] ∧ WebR H v m ts ∧ HueR H hv h ∧ WebOk m ts ∧ Proper ts h ∧ p < m ∧ a ≠ b ∧ lacks ts h p b ∧ Row ts h a b p n ∧
  ∀ D H', H D = none → Same H H' → H' D = some (.lst ((rowL ts h a b p n).map vn)) → Q (.ref D) H'
theorem inV_no {c : Nat} {l : List (Option Nat)} (h : some c ∉ l) : inV (vn c) (l.map vo) = false := by
  unfold inV
  rw [List.any_map, List.any_eq_false]
  intro o ho e
  cases o with
  | none => cases e
  | some d =>
    have e2 : ((d : Int) == (c : Int)) = true := e
    have e3 : d = c := by
      have := beq_iff_eq.mp e2
      omega
    exact h (e3 ▸ ho)
theorem flat_vos {l : List (Option Nat)} : (l.map vo).all flatV = true := by
  rw [List.all_map, List.all_eq_true]
  intro o _
  exact vo_flat
theorem ok_row_from (T : Tx P w K mg base) : Has P w K mg base 5 ("row_from", none) ["web", "hueing", "place", "one", "other"] (sp_row_from K) := by
  obtain ⟨fd_ties_at, G_ties_at, b_ties_at, k_ties_at⟩ := ok_ties_at (P := P) (w := w) (base := base) T
  obtain ⟨fd_look_hues, G_look_hues, b_look_hues, k_look_hues⟩ := ok_look_hues (P := P) (w := w) (base := base) T
  obtain ⟨fd_tie_of, G_tie_of, b_tie_of, k_tie_of⟩ := ok_tie_of (P := P) (w := w) (base := base) T
  obtain ⟨fd_far_end, G_far_end, b_far_end, k_far_end⟩ := ok_far_end (P := P) (w := w) (base := base) T
  refine mkHas T 17 (d := d_row_from) rfl sc_row_from rfl rfl (fun us hl => match us, hl with | [_, _, _, _, _], _ => fun _ _ _ _ _ _ => rfl) (fun vs H Q E => ?_) (fun cdv A outer s H vs Q E hr h => ?_)
  · walk_at "len"
  · have hU := hu_of hr
    refine ⟨_, PSs.nox (pss_cons (ps_set (i := 5) sc_row_from.nd rfl (Or.inl rfl) (pe_call G_ties_at (hr.mono (by decide)) rfl T.g_ties_at k_ties_at b_ties_at .nil pass0 (pa_cons (pv 0) (pa_cons (pv 2) pa_nil))))
    (pss_cons (ps_expr (pe_call G_look_hues (hr.mono (by decide)) rfl T.g_look_hues k_look_hues b_look_hues .nil pass0 (pa_cons (pv 3) (pa_cons (pv 4) pa_nil))))
    (pss_cons (ps_if (pt_cmpR op_in_seq (pv 4) (pe_lc (own := [("tie", 9)]) rfl sc_row_from.nd (pi_list (pv 5)) (blkOk_by (N := N_row_from) (sc := defScope s_row_from) (by decide +kernel)) (fun _ _ _ _ _ => by exact (pg_name (i := 9) sc_row_from.nd rfl (Or.inl rfl))) (fun _ _ _ _ _ => by exact pts_nil) (fun _ _ _ _ _ => by exact (pe_ix (ix_listK (K := K) rfl) (pv 1) (pv 9) (fun _ _ => rfl)))) rfl) (pss_one ps_never) pss_nil)
    (pss_cons (ps_set (i := 6) sc_row_from.nd rfl (Or.inl rfl) (pe_lst pa_nil))
    (pss_cons (ps_par (i := 7) (j := 8) (by rfl) sc_row_from.nd rfl rfl (by decide) rfl rfl (pa_cons (pv 3) (pa_cons (pv 4) pa_nil)) (by rfl))
    (pss_cons (ps_set (i := 9) sc_row_from.nd rfl (Or.inl rfl) (pe_call G_tie_of (hr.mono (by decide)) rfl T.g_tie_of k_tie_of b_tie_of .nil pass0 (pa_cons (pv 0) (pa_cons (pv 1) (pa_cons (pv 2) (pa_cons (pv 7) pa_nil))))))
    (pss_cons (ps_while PassesOwn.never (pt_cmpR op_notN (pv 9) pe_non (nomark _))
      (pss_cons (ps_expr (pe_bm PySem.F.plainAttrs_list PySem.F.slot_list_append PySem.F.type_list_append mt_append (pv 6) (pa_cons (pv 9) pa_nil)))
      (pss_cons (ps_set (i := 2) sc_row_from.nd rfl (Or.inl rfl) (pe_call G_far_end (hr.mono (by decide)) rfl T.g_far_end k_far_end b_far_end .nil pass0 (pa_cons (pv 0) (pa_cons (pv 9) (pa_cons (pv 2) pa_nil)))))
      (pss_cons (ps_par (i := 7) (j := 8) (by rfl) sc_row_from.nd rfl rfl (by decide) rfl rfl (pa_cons (pv 8) (pa_cons (pv 7) pa_nil)) (by rfl))
      (pss_one (ps_set (i := 9) sc_row_from.nd rfl (Or.inl rfl) (pe_call G_tie_of (hr.mono (by decide)) rfl T.g_tie_of k_tie_of b_tie_of .nil pass0 (pa_cons (pv 0) (pa_cons (pv 1) (pa_cons (pv 2) (pa_cons (pv 7) pa_nil)))))))))))
    (pss_one (ps_ret (pv 6)))))))))), ?_⟩
    obtain ⟨v, hv, m, p, a, b, n, ts, hh, rfl, W, R1, O, Pr, hp, hab, hl, R, q⟩ := h
    have hlh := Pr.1
    have hz := O.len
    have R0 := R1
    obtain ⟨ad, rfl, ha⟩ := R1
    refine ⟨_, rfl, _, rfl, v, m, p, ts, rfl, W, hp, hz, fun D H1 hD s1 d1 => ?_⟩
    refine ⟨_, rfl, _, rfl, a, b, rfl, hab, ?_⟩
    refine ⟨_, rfl, _, rfl, D, rfl, ⟨_, .of d1⟩, fun D2 hD2 => ?_⟩
    have lt : (tiesAt ts p).length ≤ 1000 := Nat.le_trans range_filter_le hz
    refine lc_val (n := ((tiesAt ts p).map vn).length) walk_list (by rw [List.length_map]; omega) hD2 (fun H2 s2 => .of (s2 _ _ d1)) (fun _ => true) (fun i => vo (hu hh ((tiesAt ts p).getD i 0))) ?_ ?_
    · rintro i x H2 H3 acc hi s2 d2 ⟨rfl, e⟩ Good Skip hg hs
      rw [List.getElem?_map] at e
      obtain ⟨t, et, rfl⟩ := Option.map_eq_some_iff.mp e
      rw [getD_of et] at hg
      have htl : t < hh.length := by rw [hlh]; exact (mem_tiesAt.mp (List.mem_of_getElem? et)).1
      exact ⟨rfl, _, rfl, _, rfl, ad, _, _, _, rfl, rfl, .of (s2 _ _ (s1 _ _ ha)), atI_nat (hue_get htl), hg rfl _ (Same.refl _)⟩
    intro H2 s2 d2
    rw [List.length_map, filter_all] at d2
    have e1 : (List.range (tiesAt ts p).length).map (fun i => vo (hu hh ((tiesAt ts p).getD i 0))) = ((List.range (tiesAt ts p).length).map fun i => hu hh ((tiesAt ts p).getD i 0)).map vo := by
      rw [List.map_map]
      rfl
    rw [e1] at d2
    have hno : (some b) ∉ ((List.range (tiesAt ts p).length).map fun i => hu hh ((tiesAt ts p).getD i 0)) := by
      intro hm
      obtain ⟨i, hi, e⟩ := List.mem_map.mp hm
      obtain ⟨t1, t2⟩ := mem_tiesAt.mp (List.mem_of_getElem? (getD_some (d := 0) (List.mem_range.mp hi)))
      exact hl _ t1 t2 e
    refine ⟨D2, _, rfl, .inl (.of d2), rfl, flat_vos, _, rfl, ?_⟩
    rw [inV_no hno]
    refine iteF ⟨by decide, fun F hF => ?_⟩
    refine ⟨_, rfl, _, rfl, _, _, rfl, ?_⟩
    have s3 : Same H (upd H2 F (.lst [])) := (s1.trans s2).trans (same_new hF)
    have hFH : H F = none := (s1.trans s2).free hF
    refine ⟨_, rfl, _, rfl, _, rfl, _, rfl, v, _, m, p, a, ts, hh, rfl, W.mono s3, R0.mono s3, hlh, hp, hz, fun H4 s4 => ?_⟩
    refine ⟨fun k σ H5 => ∃ j, k = n - j ∧ j ≤ n ∧ Same H H5 ∧ H5 F = some (.lst ((rowL ts hh a b p j).map vn)) ∧ pw ts hh a b p j < m ∧ ∃ z, σ = [some v, some (.ref ad), some (vn (pw ts hh a b p j)), some (vn a), some (vn b), z, some (.ref F), some (vn (col a b j)), some (vn (col b a j)), some (vo (pe ts hh a b p j))], ⟨n, 0, rfl, Nat.zero_le _, s3.trans s4, s4 _ _ upd_same, hp, _, rfl⟩, ?_⟩
    rintro k σ H5 ⟨j, rfl, hj, s5, f5, hw, z, rfl⟩
    by_cases hjn : j = n
    · subst hjn
      refine ⟨_, rfl, rfl, false, ?_, iteF ⟨_, rfl, q F H5 hFH s5 f5⟩⟩
      rw [R.stop]
      rfl
    · have hjn : j < n := by omega
      obtain ⟨t1, t2, t3⟩ := R.path.tie hjn
      have ej := R.path.at hjn
      refine ⟨_, rfl, rfl, true, ?_, iteT ?_⟩
      · rw [ej]
        rfl
      have lz : ((rowL ts hh a b p j).map vn).length < sizeLine := by
        have := R.path.le O Pr hab hl
        rw [List.length_map]
        unfold rowL
        rw [List.length_map, List.length_range]
        exact smalls (by omega)
      refine ⟨fun σ' H' => ∃ m', m' < n - j ∧ _, fun _ _ w => w, ?_⟩
      refine ⟨_, rfl, ty_lst f5, _, rfl, _, _, _, rfl, rfl, f5, lz, ?_⟩
      have s6 := same_mut (o := .lst ((rowL ts hh a b p j).map vn ++ [vo (pe ts hh a b p j)])) s5 hFH
      refine ⟨_, rfl, _, rfl, _, rfl, v, m, pt ts hh a b p j, pw ts hh a b p j, ts, ?_, W.mono s6, t1, t2, fun H7 s7 => ?_⟩
      · rw [ej]
        rfl
      refine ⟨_, rfl, _, rfl, _, _, rfl, ?_⟩
      have hw2 : pw ts hh a b p (j + 1) < m := inc_lt O t1 (R.path.tie2 hjn)
      have hw3 := R.path.next hjn
      rw [hw3] at hw2
      refine ⟨_, rfl, _, rfl, _, rfl, _, rfl, v, _, m, far ts (pt ts hh a b p j) (pw ts hh a b p j), col a b (j + 1), ts, hh, ?_, W.mono (s6.trans s7), R0.mono (s6.trans s7), hlh, hw2, hz, fun H8 s8 => ?_⟩
      · rw [col_succ]
        rfl
      refine ⟨n - (j + 1), by omega, j + 1, rfl, by omega, (s6.trans s7).trans s8, ?_, by rw [hw3]; exact hw2, z, ?_⟩
      · rw [s8 _ _ (s7 _ _ upd_same)]
        unfold rowL
        rw [List.range_succ, List.map_append, List.map_append, ej]
        rfl
      · unfold pe
        rw [hw3, col_succ, col_succ]
        rfl
/-! ### other_of -/
abbrev N_other_of : List Str := ["hue", "one", "other"]
theorem sc_other_of : FnScope N_other_of ["hue", "one", "other"] (defScope s_other_of) := ⟨rfl, rfl, rfl, by decide +kernel, rfl, by decide +kernel, by decide +kernel⟩
def sp_other_of (K : PySem.W.Frag) : Sp := fun vs H Q _ => ∃ c a b : Nat, vs = [vn c, vn a, vn b] ∧ Q (vn (otherOf (some c) a b)) H
theorem ok_other_of (T : Tx P w K mg base) : Has P w K mg base 1 ("other_of", none) ["hue", "one", "other"] (sp_other_of K) := by
  refine mkHas T 22 (d := d_other_of) rfl sc_other_of rfl rfl (fun us hl => match us, hl with | [_, _, _], _ => fun _ _ _ _ _ _ => rfl) (fun vs H Q E => ?_) (fun cdv A outer s H vs Q E hr h => ?_)
  · walk_at "len"
  · have hU := hu_of hr
    refine ⟨_, PSs.nox (pss_one (ps_ret (pe_ifExp (pt_cmpR op_eq (pv 0) (pv 1) (nomark _)) (pv 2) (pv 1)))), ?_⟩
    obtain ⟨c, a, b, rfl, q⟩ := h
    refine ⟨_, rfl, _, rfl, rfl, _, rfl, ?_⟩
    unfold otherOf at q
    by_cases e : c = a
    · rw [if_pos (congrArg some e)] at q
      rw [decide_eq_true (show V.int (c : Int) = V.int (a : Int) by rw [e])]
      exact iteT ⟨_, rfl, q⟩
    · rw [if_neg (fun z => e (Option.some.inj z))] at q
      rw [decide_eq_false (show ¬ V.int (c : Int) = V.int (a : Int) from fun z => e (by injection z with z; omega))]
      exact iteF ⟨_, rfl, q⟩
/-! ### exchanged -/
abbrev N_exchanged : List Str := ["web", "hueing", "ties", "one", "other", "made", "tie"]
theorem sc_exchanged : FnScope N_exchanged ["web", "hueing", "ties", "one", "other"] (defScope s_exchanged) := ⟨rfl, rfl, rfl, by decide +kernel, rfl, by decide +kernel, by decide +kernel⟩
def sp_exchanged (K : PySem.W.Frag) : Sp := fun vs H Q _ => ∃ (v hv : V) (L : Addr) (m a b : Nat) (ts : List Tie) (h : Hue) (S : List Nat), vs = [v, hv, .ref L, vn a, vn b] ∧ WebR H v m ts ∧ HueR H hv h ∧ H L = some (.lst (S.map vn)) ∧ WebOk m ts ∧ Proper ts h ∧ a ≠ b ∧ Closed ts h a b S ∧
  ∀ D H', H D = none → Same H H' → H' D = some (.lst ((exch h S a b).map vo)) → Q (.ref D) H'
theorem ixN_at {len i : Nat} (lt : i < len) : ixN len (i : Int) = some i := by
  unfold ixN
  rw [if_pos (show (0 : Int) ≤ (i : Int) by omega), if_pos (show (i : Int) < (len : Int) by omega), Int.toNat_natCast]
theorem exch_at {h : Hue} {S : List Nat} {a b i : Nat} : (exch h S a b)[i]? = if i < h.length then some (if i ∈ S then some (otherOf (hu h i) a b) else hu h i) else none := by
  unfold exch
  rw [List.getElem?_map]
  by_cases hi : i < h.length
  · rw [List.getElem?_range hi, if_pos hi]
    rfl
  · rw [if_neg hi, List.getElem?_eq_none (by rw [List.length_range]; omega)]
    rfl
theorem exch_nil {h : Hue} {a b : Nat} : exch h [] a b = h := by
  refine List.ext_getElem? fun i => ?_
  rw [exch_at, if_neg List.not_mem_nil]
  by_cases hi : i < h.length
  · rw [if_pos hi]
    exact (getD_some hi).symm
  · rw [if_neg hi, List.getElem?_eq_none (by omega)]
theorem exch_snoc {h : Hue} {S : List Nat} {s a b : Nat} (hs : s < h.length) : exch h (S ++ [s]) a b = (exch h S a b).set s (some (otherOf (hu h s) a b)) := by
  refine List.ext_getElem? fun i => ?_
  rw [List.getElem?_set, exch_at, exch_at, exch_len]
  by_cases e : s = i
  · subst e
    rw [if_pos hs, if_pos rfl, if_pos hs, if_pos (by simp)]
  · rw [if_neg e]
    have : (i ∈ S ++ [s]) ↔ i ∈ S := by
      rw [List.mem_append, List.mem_singleton]
      exact ⟨fun z => z.elim id fun z => absurd z.symm e, .inl⟩
    simp only [this]
theorem ok_exchanged (T : Tx P w K mg base) : Has P w K mg base 4 ("exchanged", none) ["web", "hueing", "ties", "one", "other"] (sp_exchanged K) := by
  obtain ⟨fd_look_hues, G_look_hues, b_look_hues, k_look_hues⟩ := ok_look_hues (P := P) (w := w) (base := base) T
  obtain ⟨fd_other_of, G_other_of, b_other_of, k_other_of⟩ := ok_other_of (P := P) (w := w) (base := base) T
  obtain ⟨fd_is_hueing, G_is_hueing, b_is_hueing, k_is_hueing⟩ := ok_is_hueing (P := P) (w := w) (base := base) T
  refine mkHas T 23 (d := d_exchanged) rfl sc_exchanged rfl rfl (fun us hl => match us, hl with | [_, _, _, _, _], _ => fun _ _ _ _ _ _ => rfl) (fun vs H Q E => ?_) (fun cdv A outer s H vs Q E hr h => ?_)
  · walk_at "len"
  · have hU := hu_of hr
    refine ⟨_, PSs.nox (pss_cons (ps_expr (pe_call G_look_hues (hr.mono (by decide)) rfl T.g_look_hues k_look_hues b_look_hues .nil pass0 (pa_cons (pv 3) (pa_cons (pv 4) pa_nil))))
    (pss_cons (ps_set (i := 5) sc_exchanged.nd rfl (Or.inl rfl) (pe_callTy call_list_of (by rfl) T.b_list (by decide +kernel) (pa_cons (pv 1) pa_nil)))
    (pss_cons (ps_for PassesOwn.never rfl (pi_list (pv 2)) (pg_name (i := 6) sc_exchanged.nd rfl (Or.inl rfl))
      (pss_cons (ps_if (pt_cmpR op_notIn_seq (pe_ix ix_list (pv 1) (pv 6) (fun _ _ => rfl)) (pe_tup (pa_cons (pv 3) (pa_cons (pv 4) pa_nil))) rfl) (pss_one ps_never) pss_nil)
      (pss_one (ps_asg (pe_call G_other_of (hr.mono (by decide)) rfl T.g_other_of k_other_of b_other_of .nil pass0 (pa_cons (pe_ix ix_list (pv 1) (pv 6) (fun _ _ => rfl)) (pa_cons (pv 3) (pa_cons (pv 4) pa_nil)))) (pg_sub (pv 5) (pv 6) set_list)))))
    (pss_cons (ps_if (pt_not (pt_val (pe_call G_is_hueing (hr.mono (by decide)) rfl T.g_is_hueing k_is_hueing b_is_hueing .nil pass0 (pa_cons (pv 0) (pa_cons (pv 5) pa_nil))))) (pss_one ps_never) pss_nil)
    (pss_one (ps_ret (pv 5))))))), ?_⟩
    obtain ⟨v, hv, L, m, a, b, ts, hh, S, rfl, W, R1, hL, O, Pr, hab, C, q⟩ := h
    have hlh := Pr.1
    have hz := O.len
    have R0 := R1
    obtain ⟨ad, rfl, ha⟩ := R1
    refine ⟨_, rfl, _, rfl, a, b, rfl, hab, ?_⟩
    refine ⟨_, rfl, ad, _, rfl, .inl (.of ha), fun D hD => ?_⟩
    have s1 : Same H (upd H D (.lst (hh.map vo))) := same_new hD
    refine ⟨_, rfl, L, rfl, ⟨_, .of (s1 _ _ hL)⟩, ?_⟩
    refine for_list (xs := S.map vn) (fun i σ H2 => Same H H2 ∧ (∃ z, σ = [some v, some (.ref ad), some (.ref L), some (vn a), some (vn b), some (.ref D), z]) ∧ H2 D = some (.lst ((exch hh (S.take i) a b).map vo))) ⟨s1, ⟨_, rfl⟩, ?_⟩ (fun i σ H2 _ h2 => .of (h2.1 _ _ hL)) ?_ ?_
    · rw [upd_same, List.take_zero, exch_nil]
    · rintro i x σ H2 hi ⟨s2, ⟨z, rfl⟩, d2⟩
      rw [List.getElem?_map] at hi
      obtain ⟨t, et, rfl⟩ := Option.map_eq_some_iff.mp hi
      obtain ⟨c1, c2⟩ := C.all t (List.mem_of_getElem? et)
      have htl : t < hh.length := by omega
      obtain ⟨c, ec, hcab⟩ : ∃ c, hu hh t = some c ∧ (c = a ∨ c = b) := by
        rcases c2 with e | e
        · exact ⟨a, e, .inl rfl⟩
        · exact ⟨b, e, .inr rfl⟩
      have gt := atI_nat (hue_get htl)
      rw [ec] at gt
      refine ⟨_, rfl, _, rfl, ad, _, _, _, rfl, rfl, .of (s2 _ _ ha), gt, ?_⟩
      refine ⟨_, rfl, _, rfl, (by show 2 ≤ sizeLine; decide), fun u hu1 => ?_⟩
      have s3 : Same H2 (upd H2 u (.tup [vn a, vn b])) := same_new hu1
      refine ⟨u, _, rfl, .inr (.of upd_same), rfl, rfl, _, rfl, ?_⟩
      have ei : inV (vo (some c)) [vn a, vn b] = true := by
        have := inc_in (t := (a, b)) (p := c)
        refine this.trans (inc_iff.mpr ?_)
        exact hcab
      rw [show inV _ _ = true from ei]
      refine iteF ?_
      refine ⟨_, rfl, _, rfl, ad, _, _, _, rfl, rfl, .of (s3 _ _ (s2 _ _ ha)), gt, _, rfl, _, rfl, c, a, b, rfl, ?_⟩
      refine ⟨_, rfl, _, rfl, D, _, _, t, rfl, rfl, s3 _ _ d2, ?_, ?_⟩
      · exact ixN_at (by rw [List.length_map, exch_len]; exact htl)
      refine ⟨same_mut (s2.trans s3) hD, ⟨_, rfl⟩, ?_⟩
      rw [upd_same, List.take_succ, et]
      show some (HO.lst ((List.map vo (exch hh (List.take i S) a b)).set t _)) = some (HO.lst (List.map vo (exch hh (List.take i S ++ [t]) a b)))
      rw [exch_snoc htl, List.map_set, ec]
      rfl
    · rintro σ H2 ⟨s2, ⟨z, rfl⟩, d2⟩
      rw [List.length_map, List.take_length] at d2
      refine ⟨_, rfl, _, rfl, v, _, m, ts, _, rfl, W.mono s2, ⟨D, rfl, d2⟩, O, C.proper Pr hab, fun H3 s3 => ⟨_, rfl, ?_⟩⟩
      refine iteF ⟨_, rfl, q D H3 hD (s2.trans s3) (s3 _ _ d2)⟩
/-! ### look_so -/
abbrev N_look_so : List Str := ["is_so"]
theorem sc_look_so : FnScope N_look_so ["is_so"] (defScope s_look_so) := ⟨rfl, rfl, rfl, by decide +kernel, rfl, by decide +kernel, by decide +kernel⟩
def sp_look_so (K : PySem.W.Frag) : Sp := fun vs H Q _ => ∃ b : Bool, vs = [.bl b] ∧ b = true ∧ Q .non H
theorem ok_look_so (T : Tx P w K mg base) : Has P w K mg base 1 ("look_so", none) ["is_so"] (sp_look_so K) := by
  refine mkHas T 24 (d := d_look_so) rfl sc_look_so rfl rfl (fun us hl => match us, hl with | [_], _ => fun _ _ _ _ _ _ => rfl) (fun vs H Q E => ?_) (fun cdv A outer s H vs Q E hr h => ?_)
  · walk_at "len"
  · have hU := hu_of hr
    refine ⟨_, PSs.nox (pss_one (ps_if (pt_not (pt_val (pv 0))) (pss_one ps_never) pss_nil)), ?_⟩
    obtain ⟨_, rfl, rfl, q⟩ := h
    exact ⟨_, rfl, true, rfl, iteF q⟩
/-! ### is_tie -/
abbrev N_is_tie : List Str := ["web", "tie"]
theorem sc_is_tie : FnScope N_is_tie ["web", "tie"] (defScope s_is_tie) := ⟨rfl, rfl, rfl, by decide +kernel, rfl, by decide +kernel, by decide +kernel⟩
def sp_is_tie (K : PySem.W.Frag) : Sp := fun vs H Q _ => ∃ (v : V) (m i : Nat) (ts : List Tie), vs = [v, vn i] ∧ WebR H v m ts ∧ i < ts.length ∧ Q (.bl true) H
theorem ok_is_tie (T : Tx P w K mg base) : Has P w K mg base 1 ("is_tie", none) ["web", "tie"] (sp_is_tie K) := by
  refine mkHas T 25 (d := d_is_tie) rfl sc_is_tie rfl rfl (fun us hl => match us, hl with | [_, _], _ => fun _ _ _ _ _ _ => rfl) (fun vs H Q E => ?_) (fun cdv A outer s H vs Q E hr h => ?_)
  · walk_at "len"
  · have hU := hu_of hr
    refine ⟨_, PSs.nox (pss_one (ps_ret (pe_chain op_le op_lt pe_int (pv 1) (pe_callB call_len_seq (by rfl) T.b_len (by decide +kernel) (pa_cons (pe_ix ix_tup (pv 0) pe_int (fun _ _ => rfl)) pa_nil))))), ?_⟩
    obtain ⟨v, m, i, ts, rfl, W, hi, q⟩ := h
    obtain ⟨a, b, rfl, hw, b', ps, e, ht, hl, hr⟩ := W
    cases e
    refine ⟨_, rfl, _, _, rfl, rfl, _, rfl, ?_⟩
    rw [decide_eq_true (show (0 : Int) ≤ (i : Int) by omega)]
    refine iteT ⟨_, rfl, a, _, 1, _, rfl, rfl, .of hw, rfl, b, ps, rfl, .inr (.of ht), _, _, rfl, rfl, ?_⟩
    show Q (.bl (decide ((i : Int) < ((ps.length : Nat) : Int)))) H
    rw [decide_eq_true (show (i : Int) < ((ps.length : Nat) : Int) by omega)]
    exact q
/-! ### do_meet -/
abbrev N_do_meet : List Str := ["web", "tie", "other"]
theorem sc_do_meet : FnScope N_do_meet ["web", "tie", "other"] (defScope s_do_meet) := ⟨rfl, rfl, rfl, by decide +kernel, rfl, by decide +kernel, by decide +kernel⟩
def sp_do_meet (K : PySem.W.Frag) : Sp := fun vs H Q _ => ∃ (v : V) (m i j : Nat) (ts : List Tie), vs = [v, vn i, vn j] ∧ WebR H v m ts ∧ i < ts.length ∧ j < ts.length ∧ (∃ p, inc (en ts i) p = true ∧ inc (en ts j) p = true) ∧ Q (.bl true) H
theorem ok_do_meet (T : Tx P w K mg base) : Has P w K mg base 1 ("do_meet", none) ["web", "tie", "other"] (sp_do_meet K) := by
  refine mkHas T 28 (d := d_do_meet) rfl sc_do_meet rfl rfl (fun us hl => match us, hl with | [_, _, _], _ => fun _ _ _ _ _ _ => rfl) (fun vs H Q E => ?_) (fun cdv A outer s H vs Q E hr h => ?_)
  · walk_at "len"
  · have hU := hu_of hr
    refine ⟨_, PSs.nox (pss_one (ps_ret (pe_or (pe_cmpR op_in_seq (pe_ix ix_tup (pe_ix ix_tup (pe_ix ix_tup (pv 0) pe_int (fun _ _ => rfl)) (pv 1) (fun _ _ => rfl)) pe_int (fun _ _ => rfl)) (pe_ix ix_tup (pe_ix ix_tup (pv 0) pe_int (fun _ _ => rfl)) (pv 2) (fun _ _ => rfl)) rfl) (pe_one (pe_cmpR op_in_seq (pe_ix ix_tup (pe_ix ix_tup (pe_ix ix_tup (pv 0) pe_int (fun _ _ => rfl)) (pv 1) (fun _ _ => rfl)) pe_int (fun _ _ => rfl)) (pe_ix ix_tup (pe_ix ix_tup (pv 0) pe_int (fun _ _ => rfl)) (pv 2) (fun _ _ => rfl)) rfl))))), ?_⟩
    obtain ⟨v, m, i, j, ts, rfl, W, hi, hj, ⟨p, hip, hjp⟩, q⟩ := h
    obtain ⟨a, b, rfl, hw, b', ps, e, ht, hl, hr⟩ := W
    cases e
    obtain ⟨_, e1, p1, rfl, h1⟩ := Al.get (α := Tie) ⟨hl, hr⟩ (getD_some (d := (0, 0)) hi)
    obtain ⟨_, e2, p2, rfl, h2⟩ := Al.get (α := Tie) ⟨hl, hr⟩ (getD_some (d := (0, 0)) hj)
    refine ⟨_, rfl, a, _, 1, _, rfl, rfl, .of hw, rfl, _, rfl, b, ps, _, _, rfl, rfl, .of ht, atI_nat e1, p1, _, 0, _, rfl, rfl, .of h1, rfl, ?_⟩
    refine ⟨_, rfl, a, _, 1, _, rfl, rfl, .of hw, rfl, _, rfl, b, ps, _, _, rfl, rfl, .of ht, atI_nat e2, ?_⟩
    refine ⟨p2, _, rfl, .inr (.of h2), rfl, rfl, _, rfl, ?_⟩
    have k1 : inV (vn (en ts i).1) [vn (en ts j).1, vn (en ts j).2] = inc (en ts j) (en ts i).1 := inc_in
    have k2 : inV (vn (en ts i).2) [vn (en ts j).1, vn (en ts j).2] = inc (en ts j) (en ts i).2 := inc_in
    rw [show (if false = true then !inV (vn (en ts i).1) [vn (en ts j).1, vn (en ts j).2] else inV (vn (en ts i).1) [vn (en ts j).1, vn (en ts j).2]) = inc (en ts j) (en ts i).1 from k1]
    cases e3 : inc (en ts j) (en ts i).1 with
    | true => exact iteT q
    | false =>
      refine iteF ⟨_, rfl, a, _, 1, _, rfl, rfl, .of hw, rfl, _, rfl, b, ps, _, _, rfl, rfl, .of ht, atI_nat e1, p1, _, 1, _, rfl, rfl, .of h1, rfl, ?_⟩
      refine ⟨_, rfl, a, _, 1, _, rfl, rfl, .of hw, rfl, _, rfl, b, ps, _, _, rfl, rfl, .of ht, atI_nat e2, ?_⟩
      refine ⟨p2, _, rfl, .inr (.of h2), rfl, rfl, ?_⟩
      rw [show (if false = true then !inV (vn (en ts i).2) [vn (en ts j).1, vn (en ts j).2] else inV (vn (en ts i).2) [vn (en ts j).1, vn (en ts j).2]) = true from ?_]
      · exact q
      · refine k2.trans ?_
        rcases inc_iff.mp hip with rfl | rfl
        · rw [hjp] at e3
          cases e3
        · exact hjp
/-! ### with_hue -/
abbrev N_with_hue : List Str := ["web", "hueing", "step", "word", "tie", "hue", "made"]
theorem sc_with_hue : FnScope N_with_hue ["web", "hueing", "step"] (defScope s_with_hue) := ⟨rfl, rfl, rfl, by decide +kernel, rfl, by decide +kernel, by decide +kernel⟩
/-- steps as the program has them -/
def stepV : Step → List V
  | .hue t c => [.str "hue", vn t, vn c]
  | .move t o => [.str "move", vn t, vn o]
  | .row p a b => [.str "row", vn p, vn a, vn b]
def StepR (H : Hp) (v : V) (s : Step) : Prop := ∃ p, v = .ref p ∧ H p = some (.tup (stepV s))
theorem StepR.mono {H H' : Hp} {v : V} (e : Same H H') {s : Step} (h : StepR H v s) : StepR H' v s := let ⟨p, a, b⟩ := h; ⟨p, a, e _ _ b⟩
def sp_with_hue (K : PySem.W.Frag) : Sp := fun vs H Q _ => ∃ (v hv sv : V) (m t c : Nat) (ts : List Tie) (h : Hue), vs = [v, hv, sv] ∧ WebR H v m ts ∧ HueR H hv h ∧ StepR H sv (.hue t c) ∧ h.length = ts.length ∧ t < ts.length ∧ hu h t = none ∧
  ∀ D H', H D = none → Same H H' → H' D = some (.lst ((h.set t (some c)).map vo)) → Q (.ref D) H'
theorem ok_with_hue (T : Tx P w K mg base) : Has P w K mg base 2 ("with_hue", none) ["web", "hueing", "step"] (sp_with_hue K) := by
  obtain ⟨fd_look_so, G_look_so, b_look_so, k_look_so⟩ := ok_look_so (P := P) (w := w) (base := base) T
  obtain ⟨fd_is_tie, G_is_tie, b_is_tie, k_is_tie⟩ := ok_is_tie (P := P) (w := w) (base := base) T
  refine mkHas T 26 (d := d_with_hue) rfl sc_with_hue rfl rfl (fun us hl => match us, hl with | [_, _, _], _ => fun _ _ _ _ _ _ => rfl) (fun vs H Q E => ?_) (fun cdv A outer s H vs Q E hr h => ?_)
  · walk_at "len"
  · have hU := hu_of hr
    refine ⟨_, PSs.nox (pss_cons (ps_asg (pv 2) (pg_tup rfl (pgs_cons (pg_name (i := 3) sc_with_hue.nd rfl (Or.inl rfl)) (pgs_cons (pg_name (i := 4) sc_with_hue.nd rfl (Or.inl rfl)) (pgs_cons (pg_name (i := 5) sc_with_hue.nd rfl (Or.inl rfl)) pgs_nil)))))
    (pss_cons (ps_expr (pe_call G_look_so (hr.mono (by decide)) rfl T.g_look_so k_look_so b_look_so .nil pass0 (pa_cons (pe_and (pe_call G_is_tie (hr.mono (by decide)) rfl T.g_is_tie k_is_tie b_is_tie .nil pass0 (pa_cons (pv 0) (pa_cons (pv 4) pa_nil))) (pe_and (pe_cmpR op_isN (pe_ix ix_list (pv 1) (pv 4) (fun _ _ => rfl)) pe_non (nomark _)) (pe_one (pe_cmpR op_ge (pv 5) pe_int (nomark _))))) pa_nil)))
    (pss_cons (ps_set (i := 6) sc_with_hue.nd rfl (Or.inl rfl) (pe_callTy call_list_of (by rfl) T.b_list (by decide +kernel) (pa_cons (pv 1) pa_nil)))
    (pss_cons (ps_asg (pv 5) (pg_sub (pv 6) (pv 4) set_list))
    (pss_one (ps_ret (pv 6))))))), ?_⟩
    obtain ⟨v, hv, sv, m, t, c, ts, hh, rfl, W, ⟨ad, rfl, ha⟩, ⟨sp, rfl, hs⟩, hl, ht, hn, q⟩ := h
    refine ⟨_, rfl, sp, _, rfl, .of hs, rfl, _, _, rfl, _, _, rfl, _, _, rfl, rfl, ?_⟩
    have gt := atI_nat (hue_get (h := hh) (i := t) (by omega))
    rw [hn] at gt
    refine ⟨_, rfl, _, rfl, v, m, t, ts, rfl, W, ht, true, rfl, iteT ?_⟩
    refine ⟨_, rfl, _, rfl, ad, _, _, _, rfl, rfl, .of ha, gt, rfl, true, rfl, iteT ?_⟩
    refine ⟨_, rfl, _, _, rfl, rfl, ?_⟩
    refine ⟨_, rfl, decide_eq_true (show (0 : Int) ≤ (c : Int) by omega), ?_⟩
    refine ⟨_, rfl, ad, _, rfl, .inl (.of ha), fun D hD => ?_⟩
    refine ⟨_, rfl, _, rfl, _, rfl, D, _, _, t, rfl, rfl, upd_same, ?_, ?_⟩
    · exact ixN_at (by rw [List.length_map]; omega)
    refine ⟨_, rfl, q D _ hD (same_mut (same_new hD) hD) ?_⟩
    rw [upd_same, List.map_set]
    rfl
/-! ### dropped -/
abbrev N_dropped : List Str := ["web", "hueing", "step", "tie", "made"]
theorem sc_dropped : FnScope N_dropped ["web", "hueing", "step"] (defScope s_dropped) := ⟨rfl, rfl, rfl, by decide +kernel, rfl, by decide +kernel, by decide +kernel⟩
def sp_dropped (K : PySem.W.Frag) : Sp := fun vs H Q _ => ∃ a b c : V, vs = [a, b, c] ∧ False
theorem ok_dropped (T : Tx P w K mg base) : Has P w K mg base 2 ("dropped", none) ["web", "hueing", "step"] (sp_dropped K) := by
  obtain ⟨fd_look_so, G_look_so, b_look_so, k_look_so⟩ := ok_look_so (P := P) (w := w) (base := base) T
  obtain ⟨fd_is_tie, G_is_tie, b_is_tie, k_is_tie⟩ := ok_is_tie (P := P) (w := w) (base := base) T
  refine mkHas T 27 (d := d_dropped) rfl sc_dropped rfl rfl (fun us hl => match us, hl with | [_, _, _], _ => fun _ _ _ _ _ _ => rfl) (fun vs H Q E => ?_) (fun cdv A outer s H vs Q E hr h => ?_)
  · walk_at "len"
  · have hU := hu_of hr
    refine ⟨_, PSs.nox (pss_cons (ps_set (i := 3) sc_dropped.nd rfl (Or.inl rfl) (pe_ix ix_tup (pv 2) pe_int (fun _ _ => rfl)))
    (pss_cons (ps_expr (pe_call G_look_so (hr.mono (by decide)) rfl T.g_look_so k_look_so b_look_so .nil pass0 (pa_cons (pe_and (pe_call G_is_tie (hr.mono (by decide)) rfl T.g_is_tie k_is_tie b_is_tie .nil pass0 (pa_cons (pv 0) (pa_cons (pv 3) pa_nil))) (pe_one (pe_cmpR op_notN (pe_ix ix_list (pv 1) (pv 3) (fun _ _ => rfl)) pe_non (nomark _)))) pa_nil)))
    (pss_cons (ps_set (i := 4) sc_dropped.nd rfl (Or.inl rfl) (pe_callTy call_list_of (by rfl) T.b_list (by decide +kernel) (pa_cons (pv 1) pa_nil)))
    (pss_cons (ps_asg pe_non (pg_sub (pv 4) (pv 3) set_list))
    (pss_one (ps_ret (pv 4))))))), ?_⟩
    obtain ⟨a, b, c, _, q⟩ := h
    exact q.elim
/-! ### moved -/
abbrev N_moved : List Str := ["web", "hueing", "step", "word", "tie", "other", "made"]
theorem sc_moved : FnScope N_moved ["web", "hueing", "step"] (defScope s_moved) := ⟨rfl, rfl, rfl, by decide +kernel, rfl, by decide +kernel, by decide +kernel⟩
def sp_moved (K : PySem.W.Frag) : Sp := fun vs H Q _ => ∃ (v hv sv : V) (m t o c : Nat) (ts : List Tie) (h : Hue), vs = [v, hv, sv] ∧ WebR H v m ts ∧ HueR H hv h ∧ StepR H sv (.move t o) ∧ h.length = ts.length ∧ t < ts.length ∧ o < ts.length ∧ (∃ p, inc (en ts t) p = true ∧ inc (en ts o) p = true) ∧ hu h t = some c ∧ hu h o = none ∧
  ∀ D H', H D = none → Same H H' → H' D = some (.lst (((h.set t none).set o (some c)).map vo)) → Q (.ref D) H'
theorem ok_moved (T : Tx P w K mg base) : Has P w K mg base 2 ("moved", none) ["web", "hueing", "step"] (sp_moved K) := by
  obtain ⟨fd_look_so, G_look_so, b_look_so, k_look_so⟩ := ok_look_so (P := P) (w := w) (base := base) T
  obtain ⟨fd_is_tie, G_is_tie, b_is_tie, k_is_tie⟩ := ok_is_tie (P := P) (w := w) (base := base) T
  obtain ⟨fd_do_meet, G_do_meet, b_do_meet, k_do_meet⟩ := ok_do_meet (P := P) (w := w) (base := base) T
  refine mkHas T 29 (d := d_moved) rfl sc_moved rfl rfl (fun us hl => match us, hl with | [_, _, _], _ => fun _ _ _ _ _ _ => rfl) (fun vs H Q E => ?_) (fun cdv A outer s H vs Q E hr h => ?_)
  · walk_at "len"
  · have hU := hu_of hr
    refine ⟨_, PSs.nox (pss_cons (ps_asg (pv 2) (pg_tup rfl (pgs_cons (pg_name (i := 3) sc_moved.nd rfl (Or.inl rfl)) (pgs_cons (pg_name (i := 4) sc_moved.nd rfl (Or.inl rfl)) (pgs_cons (pg_name (i := 5) sc_moved.nd rfl (Or.inl rfl)) pgs_nil)))))
    (pss_cons (ps_expr (pe_call G_look_so (hr.mono (by decide)) rfl T.g_look_so k_look_so b_look_so .nil pass0 (pa_cons (pe_and (pe_call G_is_tie (hr.mono (by decide)) rfl T.g_is_tie k_is_tie b_is_tie .nil pass0 (pa_cons (pv 0) (pa_cons (pv 4) pa_nil))) (pe_and (pe_call G_is_tie (hr.mono (by decide)) rfl T.g_is_tie k_is_tie b_is_tie .nil pass0 (pa_cons (pv 0) (pa_cons (pv 5) pa_nil))) (pe_one (pe_call G_do_meet (hr.mono (by decide)) rfl T.g_do_meet k_do_meet b_do_meet .nil pass0 (pa_cons (pv 0) (pa_cons (pv 4) (pa_cons (pv 5) pa_nil))))))) pa_nil)))
    (pss_cons (ps_expr (pe_call G_look_so (hr.mono (by decide)) rfl T.g_look_so k_look_so b_look_so .nil pass0 (pa_cons (pe_and (pe_cmpR op_notN (pe_ix ix_list (pv 1) (pv 4) (fun _ _ => rfl)) pe_non (nomark _)) (pe_one (pe_cmpR op_isN (pe_ix ix_list (pv 1) (pv 5) (fun _ _ => rfl)) pe_non (nomark _)))) pa_nil)))
    (pss_cons (ps_set (i := 6) sc_moved.nd rfl (Or.inl rfl) (pe_callTy call_list_of (by rfl) T.b_list (by decide +kernel) (pa_cons (pv 1) pa_nil)))
    (pss_cons (ps_asg (pe_tup (pa_cons pe_non (pa_cons (pe_ix ix_list (pv 1) (pv 4) (fun _ _ => rfl)) pa_nil))) (pg_tup rfl (pgs_cons (pg_sub (pv 6) (pv 4) set_list) (pgs_cons (pg_sub (pv 6) (pv 5) set_list) pgs_nil))))
    (pss_one (ps_ret (pv 6)))))))), ?_⟩
    obtain ⟨v, hv, sv, m, t, o, c, ts, hh, rfl, W, ⟨ad, rfl, ha⟩, ⟨sp, rfl, hs⟩, hl, ht, ho, hm, hc, hn, q⟩ := h
    refine ⟨_, rfl, sp, _, rfl, .of hs, rfl, _, _, rfl, _, _, rfl, _, _, rfl, rfl, ?_⟩
    have gt := atI_nat (hue_get (h := hh) (i := t) (by omega))
    have go := atI_nat (hue_get (h := hh) (i := o) (by omega))
    rw [hc] at gt
    rw [hn] at go
    refine ⟨_, rfl, _, rfl, v, m, t, ts, rfl, W, ht, true, rfl, iteT ?_⟩
    refine ⟨_, rfl, _, rfl, v, m, o, ts, rfl, W, ho, true, rfl, iteT ?_⟩
    refine ⟨_, rfl, _, rfl, _, rfl, v, m, t, o, ts, rfl, W, ht, ho, hm, _, rfl, rfl, ?_⟩
    refine ⟨_, rfl, _, rfl, ad, _, _, _, rfl, rfl, .of ha, gt, rfl, true, rfl, iteT ?_⟩
    refine ⟨_, rfl, _, rfl, ad, _, _, _, rfl, rfl, .of ha, go, rfl, _, rfl, rfl, ?_⟩
    refine ⟨_, rfl, ad, _, rfl, .inl (.of ha), fun D hD => ?_⟩
    have s1 : Same H (upd H D (.lst (hh.map vo))) := same_new hD
    refine ⟨_, rfl, _, rfl, ad, _, _, _, rfl, rfl, .of (s1 _ _ ha), gt, (by show 2 ≤ sizeLine; decide), fun u hu1 => ?_⟩
    have s2 := s1.trans (same_new (o := .tup [.non, vo (some c)]) hu1)
    have nDu : D ≠ u := ne_of_none upd_same hu1
    refine ⟨u, _, rfl, .of upd_same, rfl, _, _, rfl, ?_⟩
    refine ⟨_, rfl, _, rfl, D, _, _, t, rfl, rfl, (by rw [upd_ne nDu, upd_same]), ?_, ?_⟩
    · exact ixN_at (by rw [List.length_map]; omega)
    refine ⟨_, _, rfl, _, rfl, _, rfl, D, _, _, o, rfl, rfl, upd_same, ?_, ?_⟩
    · exact ixN_at (by rw [List.length_set, List.length_map]; omega)
    refine ⟨rfl, _, rfl, q D _ hD (same_mut (same_mut s2 hD) hD) ?_⟩
    rw [upd_same, List.map_set, List.map_set]
    rfl
/-! ### row_turned -/
abbrev N_row_turned : List Str := ["web", "hueing", "step", "word", "place", "one", "other"]
theorem sc_row_turned : FnScope N_row_turned ["web", "hueing", "step"] (defScope s_row_turned) := ⟨rfl, rfl, rfl, by decide +kernel, rfl, by decide +kernel, by decide +kernel⟩
def sp_row_turned (K : PySem.W.Frag) : Sp := fun vs H Q _ => ∃ (v hv sv : V) (m p a b n : Nat) (ts : List Tie) (h : Hue), vs = [v, hv, sv] ∧ WebR H v m ts ∧ HueR H hv h ∧ StepR H sv (.row p a b) ∧ WebOk m ts ∧ Proper ts h ∧ p < m ∧ a ≠ b ∧ lacks ts h p b ∧ Row ts h a b p n ∧
  ∀ D H', H D = none → Same H H' → H' D = some (.lst ((exch h (rowL ts h a b p n) a b).map vo)) → Q (.ref D) H'
theorem ok_row_turned (T : Tx P w K mg base) : Has P w K mg base 6 ("row_turned", none) ["web", "hueing", "step"] (sp_row_turned K) := by
  obtain ⟨fd_exchanged, G_exchanged, b_exchanged, k_exchanged⟩ := ok_exchanged (P := P) (w := w) (base := base) T
  obtain ⟨fd_row_from, G_row_from, b_row_from, k_row_from⟩ := ok_row_from (P := P) (w := w) (base := base) T
  refine mkHas T 30 (d := d_row_turned) rfl sc_row_turned rfl rfl (fun us hl => match us, hl with | [_, _, _], _ => fun _ _ _ _ _ _ => rfl) (fun vs H Q E => ?_) (fun cdv A outer s H vs Q E hr h => ?_)
  · walk_at "len"
  · have hU := hu_of hr
    refine ⟨_, PSs.nox (pss_cons (ps_asg (pv 2) (pg_tup rfl (pgs_cons (pg_name (i := 3) sc_row_turned.nd rfl (Or.inl rfl)) (pgs_cons (pg_name (i := 4) sc_row_turned.nd rfl (Or.inl rfl)) (pgs_cons (pg_name (i := 5) sc_row_turned.nd rfl (Or.inl rfl)) (pgs_cons (pg_name (i := 6) sc_row_turned.nd rfl (Or.inl rfl)) pgs_nil))))))
    (pss_one (ps_ret (pe_call G_exchanged (hr.mono (by decide)) rfl T.g_exchanged k_exchanged b_exchanged .nil pass0 (pa_cons (pv 0) (pa_cons (pv 1) (pa_cons (pe_call G_row_from (hr.mono (by decide)) rfl T.g_row_from k_row_from b_row_from .nil pass0 (pa_cons (pv 0) (pa_cons (pv 1) (pa_cons (pv 4) (pa_cons (pv 5) (pa_cons (pv 6) pa_nil)))))) (pa_cons (pv 5) (pa_cons (pv 6) pa_nil))))))))), ?_⟩
    obtain ⟨v, hv, sv, m, p, a, b, n, ts, hh, rfl, W, R1, ⟨sp, rfl, hs⟩, O, Pr, hp, hab, hl, R, q⟩ := h
    refine ⟨_, rfl, sp, _, rfl, .of hs, rfl, _, _, rfl, _, _, rfl, _, _, rfl, _, _, rfl, rfl, ?_⟩
    refine ⟨_, rfl, _, rfl, ?_⟩
    refine ⟨_, rfl, _, rfl, _, rfl, _, rfl, _, rfl, v, hv, m, p, a, b, n, ts, hh, rfl, W, R1, O, Pr, hp, hab, hl, R, fun D H1 hD s1 d1 => ?_⟩
    refine ⟨_, rfl, _, rfl, v, hv, D, m, a, b, ts, hh, _, rfl, W.mono s1, R1.mono s1, d1, O, Pr, hab, R.closed O Pr hab hl, fun D2 H2 hD2 s2 d2 => ?_⟩
    exact q D2 H2 (s1.free hD2) (s1.trans s2) d2
/-! ### made_by -/
abbrev N_made_by : List Str := ["web", "hueing", "step"]
theorem sc_made_by : FnScope N_made_by ["web", "hueing", "step"] (defScope s_made_by) := ⟨rfl, rfl, rfl, by decide +kernel, rfl, by decide +kernel, by decide +kernel⟩
def sp_made_by (K : PySem.W.Frag) : Sp := fun vs H Q _ => ∃ (v hv sv : V) (m : Nat) (ts : List Tie) (h h' : Hue) (s : Step), vs = [v, hv, sv] ∧ WebR H v m ts ∧ HueR H hv h ∧ StepR H sv s ∧ WebOk m ts ∧ Proper ts h ∧ StepTo m ts h s h' ∧
  ∀ D H', H D = none → Same H H' → H' D = some (.lst (h'.map vo)) → Q (.ref D) H'
theorem ok_made_by (T : Tx P w K mg base) : Has P w K mg base 7 ("made_by", none) ["web", "hueing", "step"] (sp_made_by K) := by
  obtain ⟨fd_with_hue, G_with_hue, b_with_hue, k_with_hue⟩ := ok_with_hue (P := P) (w := w) (base := base) T
  obtain ⟨fd_dropped, G_dropped, b_dropped, k_dropped⟩ := ok_dropped (P := P) (w := w) (base := base) T
  obtain ⟨fd_moved, G_moved, b_moved, k_moved⟩ := ok_moved (P := P) (w := w) (base := base) T
  obtain ⟨fd_row_turned, G_row_turned, b_row_turned, k_row_turned⟩ := ok_row_turned (P := P) (w := w) (base := base) T
  refine mkHas T 31 (d := d_made_by) rfl sc_made_by rfl rfl (fun us hl => match us, hl with | [_, _, _], _ => fun _ _ _ _ _ _ => rfl) (fun vs H Q E => ?_) (fun cdv A outer s H vs Q E hr h => ?_)
  · walk_at "len"
  · have hU := hu_of hr
    refine ⟨_, PSs.nox (pss_cons (ps_if (pt_cmpR op_eq (pe_ix ix_tup (pv 2) pe_int (fun _ _ => rfl)) (pe_glob (v := .str "hue") rfl T.g_HUE.choose_spec ⟨_, rfl⟩) (nomark _)) (pss_one (ps_ret (pe_call G_with_hue (hr.mono (by decide)) rfl T.g_with_hue k_with_hue b_with_hue .nil pass0 (pa_cons (pv 0) (pa_cons (pv 1) (pa_cons (pv 2) pa_nil)))))) pss_nil)
    (pss_cons (ps_if (pt_cmpR op_eq (pe_ix ix_tup (pv 2) pe_int (fun _ _ => rfl)) (pe_glob (v := .str "drop") rfl T.g_DROP.choose_spec ⟨_, rfl⟩) (nomark _)) (pss_one (ps_ret (pe_call G_dropped (hr.mono (by decide)) rfl T.g_dropped k_dropped b_dropped .nil pass0 (pa_cons (pv 0) (pa_cons (pv 1) (pa_cons (pv 2) pa_nil)))))) pss_nil)
    (pss_cons (ps_if (pt_cmpR op_eq (pe_ix ix_tup (pv 2) pe_int (fun _ _ => rfl)) (pe_glob (v := .str "move") rfl T.g_MOVE.choose_spec ⟨_, rfl⟩) (nomark _)) (pss_one (ps_ret (pe_call G_moved (hr.mono (by decide)) rfl T.g_moved k_moved b_moved .nil pass0 (pa_cons (pv 0) (pa_cons (pv 1) (pa_cons (pv 2) pa_nil)))))) pss_nil)
    (pss_one (ps_ret (pe_call G_row_turned (hr.mono (by decide)) rfl T.g_row_turned k_row_turned b_row_turned .nil pass0 (pa_cons (pv 0) (pa_cons (pv 1) (pa_cons (pv 2) pa_nil))))))))), ?_⟩
    obtain ⟨v, hv, sv, m, ts, hh, h', s, rfl, W, R1, ⟨sp, rfl, hs⟩, O, Pr, ⟨_, st⟩, q⟩ := h
    have R2 : StepR H (.ref sp) s := ⟨sp, rfl, hs⟩
    cases s with
    | hue t c =>
      obtain ⟨t1, t2, rfl⟩ := st
      refine ⟨_, rfl, sp, _, 0, _, rfl, rfl, .of hs, rfl, rfl, true, rfl, iteT ?_⟩
      exact ⟨_, rfl, _, rfl, _, rfl, v, hv, _, m, t, c, ts, hh, rfl, W, R1, R2, Pr.1, t1, t2, q⟩
    | move t o =>
      obtain ⟨t1, t2, t3, c, t4, t5, rfl⟩ := st
      refine ⟨_, rfl, sp, _, 0, _, rfl, rfl, .of hs, rfl, rfl, false, rfl, iteF ?_⟩
      refine ⟨_, rfl, sp, _, 0, _, rfl, rfl, .of hs, rfl, rfl, false, rfl, iteF ?_⟩
      refine ⟨_, rfl, sp, _, 0, _, rfl, rfl, .of hs, rfl, rfl, true, rfl, iteT ?_⟩
      exact ⟨_, rfl, _, rfl, _, rfl, v, hv, _, m, t, o, c, ts, hh, rfl, W, R1, R2, Pr.1, t1, t2, t3, t4, t5, q⟩
    | row p a b =>
      obtain ⟨t1, t2, t3, n, t4, rfl⟩ := st
      refine ⟨_, rfl, sp, _, 0, _, rfl, rfl, .of hs, rfl, rfl, false, rfl, iteF ?_⟩
      refine ⟨_, rfl, sp, _, 0, _, rfl, rfl, .of hs, rfl, rfl, false, rfl, iteF ?_⟩
      refine ⟨_, rfl, sp, _, 0, _, rfl, rfl, .of hs, rfl, rfl, false, rfl, iteF ?_⟩
      exact ⟨_, rfl, _, rfl, _, rfl, v, hv, _, m, p, a, b, n, ts, hh, rfl, W, R1, R2, O, Pr, t1, t2, t3, t4, q⟩
/-! ### done_step -/
abbrev N_done_step : List Str := ["web", "hueing", "step", "made"]
theorem sc_done_step : FnScope N_done_step ["web", "hueing", "step"] (defScope s_done_step) := ⟨rfl, rfl, rfl, by decide +kernel, rfl, by decide +kernel, by decide +kernel⟩
def sp_done_step (K : PySem.W.Frag) : Sp := fun vs H Q _ => ∃ (v hv sv : V) (m : Nat) (ts : List Tie) (h h' : Hue) (s : Step), vs = [v, hv, sv] ∧ WebR H v m ts ∧ HueR H hv h ∧ StepR H sv s ∧ WebOk m ts ∧ Proper ts h ∧ StepTo m ts h s h' ∧
  ∀ D H', H D = none → Same H H' → H' D = some (.lst (h'.map vo)) → Q (.ref D) H'
theorem ok_done_step (T : Tx P w K mg base) : Has P w K mg base 8 ("done_step", none) ["web", "hueing", "step"] (sp_done_step K) := by
  obtain ⟨fd_made_by, G_made_by, b_made_by, k_made_by⟩ := ok_made_by (P := P) (w := w) (base := base) T
  obtain ⟨fd_look_so, G_look_so, b_look_so, k_look_so⟩ := ok_look_so (P := P) (w := w) (base := base) T
  obtain ⟨fd_is_hueing, G_is_hueing, b_is_hueing, k_is_hueing⟩ := ok_is_hueing (P := P) (w := w) (base := base) T
  refine mkHas T 32 (d := d_done_step) rfl sc_done_step rfl rfl (fun us hl => match us, hl with | [_, _, _], _ => fun _ _ _ _ _ _ => rfl) (fun vs H Q E => ?_) (fun cdv A outer s H vs Q E hr h => ?_)
  · walk_at "len"
  · have hU := hu_of hr
    refine ⟨_, PSs.nox (pss_cons (ps_try_thru0 (pss_one (ps_set (i := 3) sc_done_step.nd rfl (Or.inl rfl) (pe_call G_made_by (hr.mono (by decide)) rfl T.g_made_by k_made_by b_made_by .nil pass0 (pa_cons (pv 0) (pa_cons (pv 1) (pa_cons (pv 2) pa_nil)))))))
    (pss_cons (ps_expr (pe_call G_look_so (hr.mono (by decide)) rfl T.g_look_so k_look_so b_look_so .nil pass0 (pa_cons (pe_call G_is_hueing (hr.mono (by decide)) rfl T.g_is_hueing k_is_hueing b_is_hueing .nil pass0 (pa_cons (pv 0) (pa_cons (pv 3) pa_nil))) pa_nil)))
    (pss_one (ps_ret (pv 3))))), ?_⟩
    obtain ⟨v, hv, sv, m, ts, hh, h', s, rfl, W, R1, R2, O, Pr, st, q⟩ := h
    refine ⟨_, rfl, _, rfl, _, rfl, v, hv, sv, m, ts, hh, h', s, rfl, W, R1, R2, O, Pr, st, fun D H1 hD s1 d1 => ?_⟩
    refine ⟨_, rfl, _, rfl, v, _, m, ts, h', rfl, W.mono s1, ⟨D, rfl, d1⟩, O, st.1, fun H2 s2 => ?_⟩
    exact ⟨_, rfl, rfl, _, rfl, q D H2 hD (s1.trans s2) (s2 _ _ d1)⟩
/-! ### played -/
abbrev N_played : List Str := ["web", "hueing", "steps", "found", "here", "place", "step"]
theorem sc_played : FnScope N_played ["web", "hueing", "steps"] (defScope s_played) := ⟨rfl, rfl, rfl, by decide +kernel, rfl, by decide +kernel, by decide +kernel⟩
/-- the hueings behind each of some steps -/
def PlaysL (m : Nat) (ts : List Tie) : Hue → List Step → List Hue → Prop
  | _, [], hs => hs = []
  | h, s :: ss, hs => ∃ h1 r, StepTo m ts h s h1 ∧ hs = h1 :: r ∧ PlaysL m ts h1 ss r
def sp_played (K : PySem.W.Frag) : Sp := fun vs H Q _ => ∃ (v hv sv : V) (m : Nat) (ts : List Tie) (h h' : Hue) (ss : List Step), vs = [v, hv, sv] ∧ WebR H v m ts ∧ HueR H hv h ∧ LstR (StepR H) H sv ss ∧ ss.length ≤ 3000 ∧ WebOk m ts ∧ Proper ts h ∧ Plays m ts h ss h' ∧
  ∀ D H' xs, H D = none → Same H H' → H' D = some (.lst xs) → xs.length = ss.length → (ss ≠ [] → ∃ x, xs[xs.length - 1]? = some x ∧ HueR H' x h') → Q (.ref D) H'
theorem Plays.proper {m : Nat} {ts : List Tie} : ∀ {ss : List Step} {h h' : Hue}, Proper ts h → Plays m ts h ss h' → Proper ts h'
  | [], _, _, Pr, e => by
    rw [show _ = _ from e]
    exact Pr
  | _ :: _, _, _, _, ⟨_, st, p⟩ => Plays.proper st.1 p
theorem Plays.split {m : Nat} {ts : List Tie} : ∀ {ss : List Step} {h h' : Hue} {i : Nat}, Plays m ts h ss h' → i ≤ ss.length → ∃ h1, Plays m ts h (ss.take i) h1 ∧ Plays m ts h1 (ss.drop i) h'
  | ss, h, h', 0, p, _ => ⟨h, by rw [List.take_zero]; exact rfl, by rw [List.drop_zero]; exact p⟩
  | [], h, h', i + 1, p, hi => absurd hi (by simp)
  | s :: ss, h, h', i + 1, ⟨h1, st, p⟩, hi => by
    obtain ⟨h2, p1, p2⟩ := Plays.split (i := i) p (by simpa using hi)
    exact ⟨h2, ⟨h1, st, p1⟩, p2⟩
theorem ok_played (T : Tx P w K mg base) : Has P w K mg base 9 ("played", none) ["web", "hueing", "steps"] (sp_played K) := by
  obtain ⟨fd_done_step, G_done_step, b_done_step, k_done_step⟩ := ok_done_step (P := P) (w := w) (base := base) T
  refine mkHas T 33 (d := d_played) rfl sc_played rfl rfl (fun us hl => match us, hl with | [_, _, _], _ => fun _ _ _ _ _ _ => rfl) (fun vs H Q E => ?_) (fun cdv A outer s H vs Q E hr h => ?_)
  · walk_at "len"
  · have hU := hu_of hr
    refine ⟨_, PSs.nox (pss_cons (ps_set (i := 3) sc_played.nd rfl (Or.inl rfl) (pe_lst pa_nil))
    (pss_cons (ps_set (i := 4) sc_played.nd rfl (Or.inl rfl) (pv 1))
    (pss_cons (ps_for PassesOwn.never rfl (pi_enum (by rfl) T.b_enumerate (pa_cons (pv 2) pa_nil)) (pg_tup rfl (pgs_cons (pg_name (i := 5) sc_played.nd rfl (Or.inl rfl)) (pgs_cons (pg_name (i := 6) sc_played.nd rfl (Or.inl rfl)) pgs_nil)))
      (pss_cons (ps_try_thru0 (pss_one (ps_set (i := 4) sc_played.nd rfl (Or.inl rfl) (pe_call G_done_step (hr.mono (by decide)) rfl T.g_done_step k_done_step b_done_step .nil pass0 (pa_cons (pv 0) (pa_cons (pv 4) (pa_cons (pv 6) pa_nil)))))))
      (pss_one (ps_expr (pe_bm PySem.F.plainAttrs_list PySem.F.slot_list_append PySem.F.type_list_append mt_append (pv 3) (pa_cons (pv 4) pa_nil))))))
    (pss_one (ps_ret (pv 3)))))), ?_⟩
    obtain ⟨v, hv, sv, m, ts, hh, h', ss, rfl, W, R1, R2, hz, O, Pr, pl, q⟩ := h
    obtain ⟨sa, xs, rfl, hsa, hxl, hxr⟩ := R2
    refine ⟨by decide, fun F hF => ?_⟩
    have s1 : Same H (upd H F (.lst [])) := same_new hF
    refine ⟨_, rfl, _, rfl, sa, xs, rfl, .of (s1 _ _ hsa), ?_⟩
    refine for_it (walk_enum (xs := xs)) (fun i σ H2 => Same H H2 ∧ ∃ here h1 ys, (∃ z1 z2, σ = [some v, some hv, some (.ref sa), some (.ref F), some here, z1, z2]) ∧ HueR H2 here h1 ∧ Proper ts h1 ∧ Plays m ts h1 (ss.drop i) h' ∧ H2 F = some (.lst ys) ∧ ys.length = i ∧ (i ≠ 0 → ys[i - 1]? = some here)) ?_ (fun i σ H2 _ h2 => .of (h2.1 _ _ hsa)) ?_ ?_
    · exact ⟨s1, hv, hh, [], ⟨_, _, rfl⟩, R1.mono s1, Pr, pl, upd_same, rfl, fun z => absurd rfl z⟩
    · rintro i x σ H2 H3 hi ⟨s2, here, h1, ys, ⟨z1, z2, rfl⟩, R3, Pr1, pl1, f2, hy, hlast⟩ ⟨t, y, z, rfl, hn, rfl, e1, e2⟩
      cases e1
      obtain ⟨s, es, sr⟩ := Al.getV (α := Step) ⟨hxl, hxr⟩ e2
      have s3 : Same H2 (upd H2 t (.tup [.int (i : Nat), z])) := same_new hn
      have s4 := s2.trans s3
      have hid : ss.drop i = s :: ss.drop (i + 1) := by
        obtain ⟨h1, h2⟩ := List.getElem?_eq_some_iff.mp es
        rw [List.drop_eq_getElem_cons h1, h2]
      rw [hid] at pl1
      obtain ⟨h2, st, pl2⟩ := pl1
      refine ⟨t, _, rfl, .of upd_same, rfl, _, _, rfl, _, _, rfl, rfl, ?_⟩
      refine ⟨_, rfl, _, rfl, _, rfl, v, here, z, m, ts, h1, h2, s, rfl, W.mono s4, R3.mono s3, sr.mono s4, O, Pr1, st, fun D H4 hD s5 d5 => ?_⟩
      have f4 := s5 _ _ (s3 _ _ f2)
      have nFD : F ≠ D := fun z => by
        rw [← z, s3 _ _ f2] at hD
        cases hD
      refine ⟨_, rfl, ty_lst f4, _, rfl, _, _, _, rfl, rfl, f4, smalls (by omega), ?_⟩
      refine ⟨same_mut (s4.trans s5) hF, .ref D, h2, ys ++ [.ref D], ⟨_, _, rfl⟩, ⟨D, rfl, by rw [upd_ne nFD.symm]; exact d5⟩, st.1, pl2, upd_same, by rw [List.length_append, hy]; rfl, fun _ => ?_⟩
      rw [List.getElem?_append_right (by omega), hy, show i + 1 - 1 - i = 0 by omega]
      rfl
    · rintro σ H2 ⟨s2, here, h1, ys, ⟨z1, z2, rfl⟩, R3, Pr1, pl1, f2, hy, hlast⟩
      refine ⟨_, rfl, q F H2 ys hF s2 f2 (by rw [hy, hxl]) fun hne => ⟨here, ?_, ?_⟩⟩
      · rw [hy]
        refine hlast fun z => hne ?_
        rw [hxl] at z
        exact List.eq_nil_of_length_eq_zero z
      · have e : h' = h1 := by
          have := pl1
          rw [hxl, List.drop_length] at this
          exact this
        rw [e]
        exact R3
end
end Hu
end

/-! ## M5 -/
section
set_option maxHeartbeats 4000000
set_option autoImplicit false
namespace Hu
/-! the fan as it grows -/
theorem fk_app {F G : FanL} {i : Nat} (h : i < F.length) : fk (F ++ G) i = fk F i := by
  unfold fk
  rw [List.getD_eq_getElem?_getD, List.getD_eq_getElem?_getD, List.getElem?_append_left h]
theorem fb_app {F G : FanL} {i : Nat} (h : i < F.length) : fb (F ++ G) i = fb F i := by
  unfold fb
  rw [List.getD_eq_getElem?_getD, List.getD_eq_getElem?_getD, List.getElem?_append_left h]
theorem fk_last {F : FanL} {e : Nat × Option Nat} : fk (F ++ [e]) F.length = e.1 := by
  unfold fk
  rw [List.getD_eq_getElem?_getD, List.getElem?_append_right (Nat.le_refl _), Nat.sub_self]
  rfl
theorem fb_last {F : FanL} {e : Nat × Option Nat} : fb (F ++ [e]) F.length = e.2 := by
  unfold fb
  rw [List.getD_eq_getElem?_getD, List.getElem?_append_right (Nat.le_refl _), Nat.sub_self]
  rfl
section
variable {m : Nat} {ts : List Tie} {h : Hue} {k x t : Nat} {F : FanL}
theorem rowsF_app {G : FanL} {i : Nat} (hi : i < F.length) : rowsF ts h k x (F ++ G) i = rowsF ts h k x F i := by
  unfold rowsF endF
  rw [fk_app hi]
theorem fan_first (ht : t < ts.length) (hx : inc (en ts t) x = true) : FanOk ts h k x t [(t, none)] where
  ne := Nat.zero_lt_one
  first := ⟨rfl, rfl⟩
  tie := fun i hi => by
    have : i = 0 := Nat.lt_one_iff.mp hi
    subst this
    exact ⟨ht, hx⟩
  nd := fun i j hi hj _ => by
    have a : i < 1 := hi
    have b : j < 1 := hj
    omega
  back := fun i h0 hi => by
    have a : i < 1 := hi
    omega
theorem FanOk.snoc (O : FanOk ts h k x t F) {u j c : Nat} (h1 : u < ts.length) (h2 : inc (en ts u) x = true) (h3 : ∀ i, i < F.length → fk F i ≠ u) (h4 : hu h u = some c) (h5 : j < F.length) (h6 : c ∈ rowsF ts h k x F j) (h7 : ∀ j', j' < j → c ∉ rowsF ts h k x F j') : FanOk ts h k x t (F ++ [(u, some j)]) := by
  have hl : (F ++ [(u, some j)]).length = F.length + 1 := by simp
  have lt : ∀ i, i < F.length + 1 → i < F.length ∨ i = F.length := fun i hi => by omega
  refine ⟨by omega, ?_, fun i hi => ?_, fun i i' hi hi' e => ?_, fun i h0 hi => ?_⟩
  · rw [fk_app O.ne, fb_app O.ne]
    exact O.first
  · rcases lt i (by omega) with q | rfl
    · rw [fk_app q]
      exact O.tie i q
    · rw [fk_last]
      exact ⟨h1, h2⟩
  · rcases lt i (by omega) with q | rfl
    · rcases lt i' (by omega) with q' | rfl
      · rw [fk_app q, fk_app q'] at e
        exact O.nd i i' q q' e
      · rw [fk_app q, fk_last] at e
        exact absurd e (h3 i q)
    · rcases lt i' (by omega) with q' | rfl
      · rw [fk_app q', fk_last] at e
        exact absurd e.symm (h3 i' q')
      · rfl
  · rcases lt i (by omega) with q | rfl
    · obtain ⟨j', c', b1, b2, b3, b4, b5⟩ := O.back i h0 q
      refine ⟨j', c', by rw [fb_app q]; exact b1, b2, by rw [fk_app q]; exact b3, by rw [rowsF_app (by omega)]; exact b4, fun j2 hj2 => ?_⟩
      rw [rowsF_app (by omega)]
      exact b5 j2 hj2
    · refine ⟨j, c, fb_last, h5, by rw [fk_last]; exact h4, by rw [rowsF_app h5]; exact h6, fun j2 hj2 => ?_⟩
      rw [rowsF_app (by omega)]
      exact h7 j2 hj2
theorem FanOk.len (O : FanOk ts h k x t F) : F.length ≤ ts.length := by
  have h1 : ((List.range F.length).map (fk F)).length ≤ (List.range ts.length).length := by
    refine List.Nodup.length_le_of_subset ?_ fun u hu1 => ?_
    · refine (List.pairwise_map).mpr (List.Pairwise.imp_of_mem ?_ List.pairwise_lt_range)
      intro a b ha hb hab e
      have := O.nd a b (List.mem_range.mp ha) (List.mem_range.mp hb) e
      omega
    · obtain ⟨i, hi, rfl⟩ := List.mem_map.mp hu1
      exact List.mem_range.mpr (O.tie i (List.mem_range.mp hi)).1
  rw [List.length_map, List.length_range, List.length_range] at h1
  exact h1
theorem FanOk.backs (O : FanOk ts h k x t F) {i j : Nat} (hi : i < F.length) (e : fb F i = some j) : j < i := by
  by_cases h0 : i = 0
  · rw [h0, O.first.2] at e
    cases e
  · obtain ⟨j', c', b1, b2, _⟩ := O.back i (by omega) hi
    rw [e] at b1
    cases b1
    exact b2
end
theorem chainT_len {F : FanL} : ∀ f i, (chainT F f i).length ≤ f + 1
  | 0, _ => Nat.le_refl _
  | f + 1, i => by
    show (match fb F i with
      | none => [fk F i]
      | some j => chainT F f j ++ [fk F i]).length ≤ _
    cases fb F i with
    | none => exact Nat.le_add_left _ _
    | some j =>
      have := chainT_len (F := F) f j
      show (chainT F f j ++ [fk F i]).length ≤ _
      rw [List.length_append, List.length_singleton]
      omega
theorem chainT_none {F : FanL} {f i : Nat} (e : fb F i = none) : chainT F f i = [fk F i] := by
  cases f with
  | zero => rfl
  | succ f =>
    show (match fb F i with
      | none => [fk F i]
      | some j => chainT F f j ++ [fk F i]) = _
    rw [e]
theorem chainT_some {F : FanL} {f i j : Nat} (e : fb F i = some j) : chainT F (f + 1) i = chainT F f j ++ [fk F i] := by
  show (match fb F i with
      | none => [fk F i]
      | some j => chainT F f j ++ [fk F i]) = _
  rw [e]
theorem turnS_list : ∀ (r : List Nat) (u c : Nat), turnS u r c = ((List.range r.length).map fun i => Step.move ((u :: r).getD (i + 1) 0) ((u :: r).getD i 0)) ++ [.hue ((u :: r).getD r.length 0) c]
  | [], _, _ => rfl
  | v :: r, u, c => by
    show Step.move v u :: turnS v r c = _
    rw [turnS_list r v c, List.length_cons, List.range_succ_eq_map, List.map_cons, List.map_map]
    rfl
/-- the number of the first row that has it -/
def FB (rows : List (List Nat)) (c : Nat) : Option Nat → Prop
  | none => ∀ r, r ∈ rows → c ∉ r
  | some j => (∃ r, rows[j]? = some r ∧ c ∈ r) ∧ ∀ j', j' < j → ∀ r, rows[j']? = some r → c ∉ r
end Hu
end

/-! ## W5 -/
section
set_option maxHeartbeats 4000000
set_option autoImplicit true
namespace Hu
open PySem PySem.Spec PyProof.Rows L2
local macro_rules | `(tactic| walk_at "len") => `(tactic| (intro h; first
  | (obtain ⟨_, e, _⟩ := h; cases e; rfl)
  | (obtain ⟨_, _, e, _⟩ := h; cases e; rfl)
  | (obtain ⟨_, _, _, e, _⟩ := h; cases e; rfl)
  | (obtain ⟨_, _, _, _, e, _⟩ := h; cases e; rfl)
  | (obtain ⟨_, _, _, _, _, e, _⟩ := h; cases e; rfl)
  | (obtain ⟨_, _, _, _, _, _, e, _⟩ := h; cases e; rfl)
  | (obtain ⟨_, _, _, _, _, _, _, e, _⟩ := h; cases e; rfl)
  | (obtain ⟨_, _, _, _, _, _, _, _, e, _⟩ := h; cases e; rfl)
  | (obtain ⟨_, _, _, _, _, _, _, _, _, e, _⟩ := h; cases e; rfl)
  | (obtain ⟨_, _, _, _, _, _, _, _, _, _, e, _⟩ := h; cases e; rfl)
  | (obtain ⟨_, _, _, _, _, _, _, _, _, _, _, e, _⟩ := h; cases e; rfl)
  | (obtain ⟨_, _, _, _, _, _, _, _, _, _, _, _, e, _⟩ := h; cases e; rfl)
  | (obtain ⟨_, _, _, _, _, _, _, _, _, _, _, _, _, e, _⟩ := h; cases e; rfl)
  | (obtain ⟨_, _, _, _, _, _, _, _, _, _, _, _, _, _, e, _⟩ := h; cases e; rfl)
  | (obtain ⟨_, _, _, _, _, _, _, _, _, _, _, _, _, _, _, e, _⟩ := h; cases e; rfl)
  | (obtain ⟨_, _, _, _, _, _, _, _, _, _, _, _, _, _, _, _, e, _⟩ := h; cases e; rfl)
  | (obtain ⟨_, _, _, _, _, _, _, _, _, _, _, _, _, _, _, _, _, e, _⟩ := h; cases e; rfl)
  | (obtain ⟨_, _, _, _, _, _, _, _, _, _, _, _, _, _, _, _, _, _, e, _⟩ := h; cases e; rfl)))
section
variable {P : Program} {w : World} {K : PySem.W.Frag} {mg : Str → Option Value} {base : Heap}
/-! ### first_back -/
abbrev N_first_back : List Str := ["rows", "hue", "at", "row"]
theorem sc_first_back : FnScope N_first_back ["rows", "hue"] (defScope s_first_back) := ⟨rfl, rfl, rfl, by decide +kernel, rfl, by decide +kernel, by decide +kernel⟩
def sp_first_back (K : PySem.W.Frag) : Sp := fun vs H Q _ => ∃ (v : V) (c : Nat) (rows : List (List Nat)), vs = [v, vn c] ∧ LstR (NatR H) H v rows ∧ ∀ H' o, Same H H' → FB rows c o → Q (vo o) H'
theorem ok_first_back (T : Tx P w K mg base) : Has P w K mg base 1 ("first_back", none) ["rows", "hue"] (sp_first_back K) := by
  refine mkHas T 34 (d := d_first_back) rfl sc_first_back rfl rfl (fun us hl => match us, hl with | [_, _], _ => fun _ _ _ _ _ _ => rfl) (fun vs H Q E => ?_) (fun cdv A outer s H vs Q E hr h => ?_)
  · walk_at "len"
  · have hU := hu_of hr
    refine ⟨_, PSs.nox (pss_cons (ps_for PassesOwn.never rfl (pi_enum (by rfl) T.b_enumerate (pa_cons (pv 0) pa_nil)) (pg_tup rfl (pgs_cons (pg_name (i := 2) sc_first_back.nd rfl (Or.inl rfl)) (pgs_cons (pg_name (i := 3) sc_first_back.nd rfl (Or.inl rfl)) pgs_nil)))
      (pss_one (ps_if (pt_cmpR op_in_seq (pv 1) (pv 3) rfl) (pss_one (ps_ret (pv 2))) pss_nil)))
    (pss_one (ps_ret pe_non))), ?_⟩
    obtain ⟨v, c, rows, rfl, ⟨p, xs, rfl, hp, hxl, hxr⟩, q⟩ := h
    refine ⟨_, rfl, p, xs, rfl, .of hp, ?_⟩
    refine for_it (walk_enum (xs := xs)) (fun i σ H2 => Same H H2 ∧ (∃ z1 z2, σ = [some (.ref p), some (vn c), z1, z2]) ∧ ∀ j < i, ∀ r, rows[j]? = some r → c ∉ r) ⟨Same.refl _, ⟨_, _, rfl⟩, fun j hj => absurd hj (Nat.not_lt_zero _)⟩ (fun i σ H2 _ h2 => .of (h2.1 _ _ hp)) ?_ ?_
    · rintro i x σ H2 H3 hi ⟨s2, ⟨z1, z2, rfl⟩, hno⟩ ⟨t, y, z, rfl, hn, rfl, e1, e2⟩
      cases e1
      obtain ⟨r, er, rp, rfl, hr⟩ := Al.getV (α := List Nat) ⟨hxl, hxr⟩ e2
      have s3 := s2.trans (same_new (o := .tup [.int (i : Nat), .ref rp]) hn)
      refine ⟨t, _, rfl, .of upd_same, rfl, _, _, rfl, _, _, rfl, rfl, ?_⟩
      refine ⟨_, rfl, _, rfl, rp, _, rfl, .inl (.of (s3 _ _ hr)), rfl, flat_nats, _, rfl, ?_⟩
      rw [show (if false = true then !inV (vn c) (r.map vn) else inV (vn c) (r.map vn)) = decide (c ∈ r) from inV_nats]
      by_cases hc : c ∈ r
      · rw [decide_eq_true hc]
        exact iteT ⟨_, rfl, q _ (some i) s3 ⟨⟨r, er, hc⟩, hno⟩⟩
      · rw [decide_eq_false hc]
        refine iteF ⟨s3, ⟨_, _, rfl⟩, fun j hj r' er' => ?_⟩
        by_cases hji : j < i
        · exact hno j hji r' er'
        · have : j = i := by omega
          subst this
          rw [er] at er'
          cases er'
          exact hc
    · rintro σ H2 ⟨s2, ⟨z1, z2, rfl⟩, hno⟩
      refine q _ none s2 fun r hr => ?_
      obtain ⟨j, hj, e⟩ := List.mem_iff_getElem.mp hr
      exact hno j (by rw [hxl]; exact hj) r (by rw [List.getElem?_eq_getElem hj, e])
/-! ### next_of_fan -/
abbrev N_next_of_fan : List Str := ["hueing", "left", "rows", "tie", "back"]
theorem sc_next_of_fan : FnScope N_next_of_fan ["hueing", "left", "rows"] (defScope s_next_of_fan) := ⟨rfl, rfl, rfl, by decide +kernel, rfl, by decide +kernel, by decide +kernel⟩
def NextOf (h : Hue) (left : List Nat) (rows : List (List Nat)) (H : Hp) (v : V) : Prop :=
  (v = .non ∧ ∀ u c, u ∈ left → hu h u = some c → FB rows c none) ∨ ∃ p u c j, v = .ref p ∧ H p = some (.tup [vn u, vn j]) ∧ u ∈ left ∧ hu h u = some c ∧ FB rows c (some j)
def sp_next_of_fan (K : PySem.W.Frag) : Sp := fun vs H Q _ => ∃ (hv lv rv : V) (h : Hue) (left : List Nat) (rows : List (List Nat)), vs = [hv, lv, rv] ∧ HueR H hv h ∧ NatR H lv left ∧ LstR (NatR H) H rv rows ∧ (∀ u, u ∈ left → u < h.length ∧ hu h u ≠ none) ∧
  ∀ H' v, Same H H' → NextOf h left rows H' v → Q v H'
theorem ok_next_of_fan (T : Tx P w K mg base) : Has P w K mg base 2 ("next_of_fan", none) ["hueing", "left", "rows"] (sp_next_of_fan K) := by
  obtain ⟨fd_first_back, G_first_back, b_first_back, k_first_back⟩ := ok_first_back (P := P) (w := w) (base := base) T
  refine mkHas T 35 (d := d_next_of_fan) rfl sc_next_of_fan rfl rfl (fun us hl => match us, hl with | [_, _, _], _ => fun _ _ _ _ _ _ => rfl) (fun vs H Q E => ?_) (fun cdv A outer s H vs Q E hr h => ?_)
  · walk_at "len"
  · have hU := hu_of hr
    refine ⟨_, PSs.nox (pss_cons (ps_for PassesOwn.never rfl (pi_list (pv 1)) (pg_name (i := 3) sc_next_of_fan.nd rfl (Or.inl rfl))
      (pss_cons (ps_set (i := 4) sc_next_of_fan.nd rfl (Or.inl rfl) (pe_call G_first_back (hr.mono (by decide)) rfl T.g_first_back k_first_back b_first_back .nil pass0 (pa_cons (pv 2) (pa_cons (pe_ix ix_list (pv 0) (pv 3) (fun _ _ => rfl)) pa_nil))))
      (pss_one (ps_if (pt_cmpR op_notN (pv 4) pe_non (nomark _)) (pss_one (ps_ret (pe_tup (pa_cons (pv 3) (pa_cons (pv 4) pa_nil))))) pss_nil))))
    (pss_one (ps_ret pe_non))), ?_⟩
    obtain ⟨hv, lv, rv, hh, left, rows, rfl, ⟨ad, rfl, ha⟩, ⟨la, rfl, hla⟩, RR, hL, q⟩ := h
    refine ⟨_, rfl, la, rfl, ⟨_, .of hla⟩, ?_⟩
    refine for_list (xs := left.map vn) (fun i σ H2 => Same H H2 ∧ (∃ z1 z2, σ = [some (.ref ad), some (.ref la), some rv, z1, z2]) ∧ ∀ u c, u ∈ left.take i → hu hh u = some c → FB rows c none) ⟨Same.refl _, ⟨_, _, rfl⟩, fun u c hu1 => by simp at hu1⟩ (fun i σ H2 _ h2 => .of (h2.1 _ _ hla)) ?_ ?_
    · rintro i x σ H2 hi ⟨s2, ⟨z1, z2, rfl⟩, hno⟩
      rw [List.getElem?_map] at hi
      obtain ⟨u, eu, rfl⟩ := Option.map_eq_some_iff.mp hi
      obtain ⟨u1, u2⟩ := hL u (List.mem_of_getElem? eu)
      obtain ⟨c, ec⟩ := Option.ne_none_iff_exists'.mp u2
      have gt := atI_nat (hue_get u1)
      rw [ec] at gt
      refine ⟨_, rfl, _, rfl, _, rfl, ad, _, _, _, rfl, rfl, .of (s2 _ _ ha), gt, rv, c, rows, rfl, RR.mono s2 (fun _ _ r => r.mono s2), fun H3 o s3 hfb => ?_⟩
      cases o with
      | none =>
        refine ⟨_, rfl, rfl, false, rfl, iteF ⟨s2.trans s3, ⟨_, _, rfl⟩, fun u' c' hu' ec' => ?_⟩⟩
        rw [List.take_succ, eu] at hu'
        rcases List.mem_append.mp hu' with h | h
        · exact hno u' c' h ec'
        · have : u' = u := by simpa using h
          subst this
          rw [ec] at ec'
          cases ec'
          exact hfb
      | some j =>
        refine ⟨_, rfl, rfl, true, rfl, iteT ⟨_, rfl, _, rfl, (by show 2 ≤ sizeLine; decide), fun p hp => ?_⟩⟩
        exact q _ _ ((s2.trans s3).trans (same_new hp)) (.inr ⟨p, u, c, j, rfl, upd_same, List.mem_of_getElem? eu, ec, hfb⟩)
    · rintro σ H2 ⟨s2, ⟨z1, z2, rfl⟩, hno⟩
      rw [List.length_map, List.take_length] at hno
      exact q _ _ s2 (.inl ⟨rfl, hno⟩)
/-! ### chain_to -/
abbrev N_chain_to : List Str := ["fan", "at", "found"]
theorem sc_chain_to : FnScope N_chain_to ["fan", "at"] (defScope s_chain_to) := ⟨rfl, rfl, rfl, by decide +kernel, rfl, by decide +kernel, by decide +kernel⟩
def FanR (H : Hp) (v : V) (e : Nat × Option Nat) : Prop := ∃ p, v = .ref p ∧ H p = some (.tup [vn e.1, vo e.2])
theorem FanR.mono {H H' : Hp} {v : V} (s : Same H H') {e : Nat × Option Nat} (h : FanR H v e) : FanR H' v e := let ⟨p, a, b⟩ := h; ⟨p, a, s _ _ b⟩
def sp_chain_to (K : PySem.W.Frag) : Sp := fun vs H Q _ => ∃ (fv : V) (F : FanL) (i : Nat), vs = [fv, vn i] ∧ LstR (FanR H) H fv F ∧ i < F.length ∧ (∀ i j, i < F.length → fb F i = some j → j < i) ∧ F.length ≤ 1000 ∧
  ∀ D H', H D = none → Same H H' → H' D = some (.lst ((chainT F i i).map vn)) → Q (.ref D) H'
theorem ok_chain_to (T : Tx P w K mg base) : Has P w K mg base 1 ("chain_to", none) ["fan", "at"] (sp_chain_to K) := by
  refine mkHas T 37 (d := d_chain_to) rfl sc_chain_to rfl rfl (fun us hl => match us, hl with | [_, _], _ => fun _ _ _ _ _ _ => rfl) (fun vs H Q E => ?_) (fun cdv A outer s H vs Q E hr h => ?_)
  · walk_at "len"
  · have hU := hu_of hr
    refine ⟨_, PSs.nox (pss_cons (ps_set (i := 2) sc_chain_to.nd rfl (Or.inl rfl) (pe_lst pa_nil))
    (pss_cons (ps_while PassesOwn.never (pt_cmpR op_notN (pv 1) pe_non (nomark _))
      (pss_cons (ps_expr (pe_bm PySem.F.plainAttrs_list PySem.F.slot_list_append PySem.F.type_list_append mt_append (pv 2) (pa_cons (pe_ix ix_tup (pe_ix ix_list (pv 0) (pv 1) (fun _ _ => rfl)) pe_int (fun _ _ => rfl)) pa_nil)))
      (pss_one (ps_set (i := 1) sc_chain_to.nd rfl (Or.inl rfl) (pe_ix ix_tup (pe_ix ix_list (pv 0) (pv 1) (fun _ _ => rfl)) pe_int (fun _ _ => rfl))))))
    (pss_cons (ps_expr (pe_bm0 PySem.F.plainAttrs_list PySem.F.slot_list_reverse PySem.F.type_list_reverse mt_reverse (pv 2)))
    (pss_one (ps_ret (pv 2)))))), ?_⟩
    obtain ⟨fv, F, at0, rfl, ⟨fa, xs, rfl, hfa, hxl, hxr⟩, hat, hb, hz, q⟩ := h
    refine ⟨by decide, fun D hD => ?_⟩
    refine ⟨fun k σ H5 => ∃ (o : Option Nat) (l : List Nat), k = o.elim 0 (· + 1) ∧ Same H H5 ∧ H5 D = some (.lst (l.map vn)) ∧ σ = [some (.ref fa), some (vo o), some (.ref D)] ∧ l.length + k ≤ at0 + 1 ∧ ((o = none ∧ chainT F at0 at0 = l.reverse) ∨ ∃ i f, o = some i ∧ i < F.length ∧ i ≤ f ∧ chainT F at0 at0 = chainT F f i ++ l.reverse), ⟨_, some at0, [], rfl, same_new hD, upd_same, rfl, by show 0 + (at0 + 1) ≤ _; omega, .inr ⟨at0, at0, rfl, hat, Nat.le_refl _, by simp⟩⟩, ?_⟩
    rintro k σ H5 ⟨o, l, rfl, s5, d5, rfl, hlk, ⟨rfl, hc⟩ | ⟨i, f, rfl, hi, hif, hc⟩⟩
    · refine ⟨_, rfl, rfl, false, rfl, iteF ⟨_, rfl, ty_lst d5, D, _, rfl, rfl, d5, _, rfl, ?_⟩⟩
      refine q D _ hD (same_mut s5 hD) ?_
      rw [upd_same, hc, List.map_reverse]
    · have hk : l.length + (i + 1) ≤ at0 + 1 := hlk
      obtain ⟨_, ev, p, rfl, hp⟩ := Al.get (α := Nat × Option Nat) ⟨hxl, hxr⟩ (getD_some (d := (0, none)) hi)
      have s6 := same_mut (o := .lst (l.map vn ++ [vn (fk F i)])) s5 hD
      refine ⟨_, rfl, rfl, true, rfl, iteT ⟨fun σ' H' => ∃ m', m' < i + 1 ∧ _, fun _ _ w => w, ?_⟩⟩
      refine ⟨_, rfl, ty_lst d5, _, rfl, _, rfl, fa, _, _, _, rfl, rfl, .of (s5 _ _ hfa), atI_nat ev, p, _, 0, _, rfl, rfl, .of (s5 _ _ hp), rfl, _, _, _, rfl, rfl, d5, ?_, ?_⟩
      · rw [List.length_map]
        exact smalls (by omega)
      refine ⟨_, rfl, _, rfl, fa, _, _, _, rfl, rfl, .of (s6 _ _ hfa), atI_nat ev, p, _, 1, _, rfl, rfl, .of (s6 _ _ hp), rfl, ?_⟩
      have hl2 : (l ++ [fk F i]).length = l.length + 1 := by simp
      have hr2 : (l ++ [fk F i]).reverse = fk F i :: l.reverse := by simp
      cases e : fb F i with
      | none =>
        refine ⟨0, by omega, none, l ++ [fk F i], rfl, s6, ?_, ?_, by omega, .inl ⟨rfl, ?_⟩⟩
        · rw [upd_same, List.map_append]
          rfl
        · rw [show (F.getD i (0, none)).2 = none from e]
          rfl
        · rw [hc, chainT_none e, hr2]
          rfl
      | some j =>
        have hj := hb i j hi e
        obtain ⟨f, rfl⟩ : ∃ f', f = f' + 1 := ⟨f - 1, by omega⟩
        refine ⟨j + 1, by omega, some j, l ++ [fk F i], rfl, s6, ?_, ?_, by omega, .inr ⟨j, f, rfl, by omega, by omega, ?_⟩⟩
        · rw [upd_same, List.map_append]
          rfl
        · rw [show (F.getD i (0, none)).2 = some j from e]
          rfl
        · rw [hc, chainT_some e, hr2, List.append_assoc]
          rfl
/-! ### fan_of -/
abbrev N_fan_of : List Str := ["web", "hueing", "tie", "place", "hues", "rows", "fan", "left", "further", "other"]
theorem sc_fan_of : FnScope N_fan_of ["web", "hueing", "tie", "place", "hues"] (defScope s_fan_of) := ⟨rfl, rfl, rfl, by decide +kernel, rfl, by decide +kernel, by decide +kernel⟩
/-- the heap without some places -/
def dels (H : Hp) (l : List Addr) : Hp := fun b => if b ∈ l then none else H b
theorem dels_upd {H : Hp} {l : List Addr} {p : Addr} {o : HO} (h : p ∈ l) : dels (upd H p o) l = dels H l := by
  funext b
  unfold dels upd
  by_cases q : b ∈ l
  · rw [if_pos q, if_pos q]
  · have hbp : b ≠ p := fun z => q (by rw [z]; exact h)
    rw [if_neg q, if_neg q, if_neg hbp]
theorem dels_same {H : Hp} {l : List Addr} : Same (dels H l) H := fun b o e => by
  unfold dels at e
  by_cases q : b ∈ l
  · rw [if_pos q] at e
    cases e
  · rw [if_neg q] at e
    exact e
theorem dels_mono {H H' : Hp} {l : List Addr} (s : Same H H') : Same (dels H l) (dels H' l) := fun b o e => by
  unfold dels at e ⊢
  by_cases q : b ∈ l
  · rw [if_pos q] at e
    cases e
  · rw [if_neg q] at e ⊢
    exact s _ _ e
theorem dels_ne {H : Hp} {l : List Addr} {b : Addr} (h : b ∉ l) : dels H l b = H b := by
  unfold dels
  rw [if_neg h]
/-- what stood ahead stands where only new places are left out -/
theorem dels_of {H H' : Hp} {l : List Addr} (s : Same H H') (h : ∀ p ∈ l, H p = none) : Same H (dels H' l) := fun b o e => by
  rw [dels_ne fun q => by rw [h b q] at e; cases e]
  exact s _ _ e
def rowsL (ts : List Tie) (h : Hue) (k x : Nat) (F : FanL) : List (List Nat) := (List.range F.length).map (rowsF ts h k x F)
theorem rowsL_snoc {ts : List Tie} {h : Hue} {k x u : Nat} {o : Option Nat} {F : FanL} : rowsL ts h k x (F ++ [(u, o)]) = rowsL ts h k x F ++ [freeAt ts h (far ts u x) k] := by
  unfold rowsL
  rw [List.length_append, List.length_singleton, List.range_succ, List.map_append]
  congr 1
  · refine List.map_congr_left fun i hi => rowsF_app (List.mem_range.mp hi)
  · show [rowsF ts h k x (F ++ [(u, o)]) F.length] = _
    unfold rowsF endF
    rw [fk_last]
theorem FB.row {ts : List Tie} {h : Hue} {k x c j : Nat} {F : FanL} (w : FB (rowsL ts h k x F) c (some j)) : j < F.length ∧ c ∈ rowsF ts h k x F j ∧ ∀ j', j' < j → c ∉ rowsF ts h k x F j' := by
  obtain ⟨⟨r, er, hr⟩, hno⟩ := w
  unfold rowsL at er
  rw [List.getElem?_map] at er
  obtain ⟨i, ei, rfl⟩ := Option.map_eq_some_iff.mp er
  obtain ⟨hj, ei⟩ := List.getElem?_eq_some_iff.mp ei
  rw [List.getElem_range] at ei
  subst ei
  rw [List.length_range] at hj
  refine ⟨hj, hr, fun j' hj' => hno j' hj' _ ?_⟩
  unfold rowsL
  rw [List.getElem?_map, List.getElem?_range (by omega)]
  rfl
theorem FB.none_row {ts : List Tie} {h : Hue} {k x c j : Nat} {F : FanL} (w : FB (rowsL ts h k x F) c none) (hj : j < F.length) : c ∉ rowsF ts h k x F j := w _ (List.mem_map.mpr ⟨j, List.mem_range.mpr hj, rfl⟩)
structure LeftOk (ts : List Tie) (h : Hue) (x : Nat) (F : FanL) (L : List Nat) : Prop where
  mem : ∀ u, u ∈ L ↔ (u < ts.length ∧ inc (en ts u) x = true ∧ hu h u ≠ none ∧ ∀ i, i < F.length → fk F i ≠ u)
  nd : L.Nodup
theorem LeftOk.take {ts : List Tie} {h : Hue} {x u j : Nat} {F : FanL} {L : List Nat} {o : Option Nat} (O : LeftOk ts h x F L) (e : L[j]? = some u) : LeftOk ts h x (F ++ [(u, o)]) (L.eraseIdx j) ∧ (L.eraseIdx j).length + 1 = L.length := by
  obtain ⟨hj, ej⟩ := List.getElem?_eq_some_iff.mp e
  have hl : (F ++ [(u, o)]).length = F.length + 1 := by simp
  have he : ∀ v, v ∈ L.eraseIdx j ↔ v ∈ L ∧ v ≠ u := by
    intro v
    rw [List.mem_eraseIdx_iff_getElem]
    constructor
    · rintro ⟨i, hi, hij, rfl⟩
      refine ⟨List.getElem_mem hi, fun z => hij ?_⟩
      exact nd_ix O.nd (List.getElem?_eq_getElem hi) (by rw [z]; exact e)
    · rintro ⟨hv, hvu⟩
      obtain ⟨i, hi, rfl⟩ := List.mem_iff_getElem.mp hv
      exact ⟨i, hi, fun z => hvu (by subst z; exact ej), rfl⟩
  refine ⟨⟨fun v => ?_, List.Pairwise.sublist (List.eraseIdx_sublist _ _) O.nd⟩, ?_⟩
  · rw [he, O.mem]
    constructor
    · rintro ⟨⟨h1, h2, h3, h4⟩, h5⟩
      refine ⟨h1, h2, h3, fun i hi => ?_⟩
      by_cases q : i < F.length
      · rw [fk_app q]
        exact h4 i q
      · have : i = F.length := by omega
        subst this
        rw [fk_last]
        exact h5.symm
    · rintro ⟨h1, h2, h3, h4⟩
      refine ⟨⟨h1, h2, h3, fun i hi => ?_⟩, fun z => ?_⟩
      · have := h4 i (by omega)
        rw [fk_app hi] at this
        exact this
      · have := h4 F.length (by omega)
        rw [fk_last] at this
        exact this z.symm
  · rw [List.length_eraseIdx, if_pos hj]
    omega
theorem map_erase {α β : Type} {f : α → β} : ∀ (l : List α) (j : Nat), (l.eraseIdx j).map f = (l.map f).eraseIdx j
  | [], j => by simp
  | a :: l, 0 => by simp
  | a :: l, j + 1 => by simp [map_erase l j]
theorem index_of {L : List Nat} {u : Nat} (nd : L.Nodup) (h : u ∈ L) : ∃ j : Nat, L[j]? = some u ∧ ∀ i : Nat, i < j → L[i]? ≠ some u := by
  obtain ⟨j, hj, e⟩ := List.mem_iff_getElem.mp h
  refine ⟨j, by rw [List.getElem?_eq_getElem hj, e], fun i hi e2 => ?_⟩
  obtain ⟨hi2, e2⟩ := List.getElem?_eq_some_iff.mp e2
  have := nd_ix nd (show L[i]? = some u by rw [List.getElem?_eq_getElem hi2, e2]) (by rw [List.getElem?_eq_getElem hj, e])
  omega
def sp_fan_of (K : PySem.W.Frag) : Sp := fun vs H Q _ => ∃ (v hv : V) (m t x k : Nat) (ts : List Tie) (h : Hue), vs = [v, hv, vn t, vn x, vn k] ∧ WebR H v m ts ∧ HueR H hv h ∧ WebOk m ts ∧ h.length = ts.length ∧ t < ts.length ∧ inc (en ts t) x = true ∧ hu h t = none ∧ k ≤ 5000 ∧
  ∀ D H' F, H D = none → Same H H' → LstR (FanR H') H' (.ref D) F → FanOk ts h k x t F → FanMax ts h k x F → Q (.ref D) H'
theorem ok_fan_of (T : Tx P w K mg base) : Has P w K mg base 6 ("fan_of", none) ["web", "hueing", "tie", "place", "hues"] (sp_fan_of K) := by
  obtain ⟨fd_free_at, G_free_at, b_free_at, k_free_at⟩ := ok_free_at (P := P) (w := w) (base := base) T
  obtain ⟨fd_far_end, G_far_end, b_far_end, k_far_end⟩ := ok_far_end (P := P) (w := w) (base := base) T
  obtain ⟨fd_ties_at, G_ties_at, b_ties_at, k_ties_at⟩ := ok_ties_at (P := P) (w := w) (base := base) T
  obtain ⟨fd_next_of_fan, G_next_of_fan, b_next_of_fan, k_next_of_fan⟩ := ok_next_of_fan (P := P) (w := w) (base := base) T
  refine mkHas T 36 (d := d_fan_of) rfl sc_fan_of rfl rfl (fun us hl => match us, hl with | [_, _, _, _, _], _ => fun _ _ _ _ _ _ => rfl) (fun vs H Q E => ?_) (fun cdv A outer s H vs Q E hr h => ?_)
  · walk_at "len"
  · have hU := hu_of hr
    refine ⟨_, PSs.nox (pss_cons (ps_set (i := 5) sc_fan_of.nd rfl (Or.inl rfl) (pe_lst (pa_cons (pe_call G_free_at (hr.mono (by decide)) rfl T.g_free_at k_free_at b_free_at .nil pass0 (pa_cons (pv 0) (pa_cons (pv 1) (pa_cons (pe_call G_far_end (hr.mono (by decide)) rfl T.g_far_end k_far_end b_far_end .nil pass0 (pa_cons (pv 0) (pa_cons (pv 2) (pa_cons (pv 3) pa_nil)))) (pa_cons (pv 4) pa_nil))))) pa_nil)))
    (pss_cons (ps_if (pt_cmpR op_notN (pe_ix ix_list (pv 1) (pv 2) (fun _ _ => rfl)) pe_non (nomark _)) (pss_one ps_never) pss_nil)
    (pss_cons (ps_set (i := 6) sc_fan_of.nd rfl (Or.inl rfl) (pe_lst (pa_cons (pe_tup (pa_cons (pv 2) (pa_cons pe_non pa_nil))) pa_nil)))
    (pss_cons (ps_setLc (i := 7) (own := [("other", 9)]) rfl sc_fan_of.nd rfl rfl (sw_true rfl rfl rfl (by decide +kernel)) (pi_list (pe_call G_ties_at (hr.mono (by decide)) rfl T.g_ties_at k_ties_at b_ties_at .nil pass0 (pa_cons (pv 0) (pa_cons (pv 3) pa_nil)))) (blkOk_by (N := N_fan_of) (sc := defScope s_fan_of) (by decide +kernel)) (fun _ _ _ _ _ => by exact (pg_name (i := 9) sc_fan_of.nd rfl (Or.inl rfl))) (fun _ _ _ _ _ => by exact (pts_one (pt_cmpR op_notN (pe_ix (ix_listK (K := K) rfl) (pv 1) (pv 9) (fun _ _ => rfl)) pe_non (nomark _)))) (fun _ _ _ _ _ => by exact (pv 9)))
    (pss_cons (ps_set (i := 8) sc_fan_of.nd rfl (Or.inl rfl) (pe_call G_next_of_fan (hr.mono (by decide)) rfl T.g_next_of_fan k_next_of_fan b_next_of_fan .nil pass0 (pa_cons (pv 1) (pa_cons (pv 7) (pa_cons (pv 5) pa_nil)))))
    (pss_cons (ps_while PassesOwn.never (pt_cmpR op_notN (pv 8) pe_non (nomark _))
      (pss_cons (ps_expr (pe_bm PySem.F.plainAttrs_list PySem.F.slot_list_append PySem.F.type_list_append mt_append (pv 6) (pa_cons (pv 8) pa_nil)))
      (pss_cons (ps_expr (pe_bm PySem.F.plainAttrs_list PySem.F.slot_list_remove PySem.F.type_list_remove mt_remove (pv 7) (pa_cons (pe_ix ix_tup (pv 8) pe_int (fun _ _ => rfl)) pa_nil)))
      (pss_cons (ps_expr (pe_bm PySem.F.plainAttrs_list PySem.F.slot_list_append PySem.F.type_list_append mt_append (pv 5) (pa_cons (pe_call G_free_at (hr.mono (by decide)) rfl T.g_free_at k_free_at b_free_at .nil pass0 (pa_cons (pv 0) (pa_cons (pv 1) (pa_cons (pe_call G_far_end (hr.mono (by decide)) rfl T.g_far_end k_far_end b_far_end .nil pass0 (pa_cons (pv 0) (pa_cons (pe_ix ix_tup (pv 8) pe_int (fun _ _ => rfl)) (pa_cons (pv 3) pa_nil)))) (pa_cons (pv 4) pa_nil))))) pa_nil)))
      (pss_one (ps_set (i := 8) sc_fan_of.nd rfl (Or.inl rfl) (pe_call G_next_of_fan (hr.mono (by decide)) rfl T.g_next_of_fan k_next_of_fan b_next_of_fan .nil pass0 (pa_cons (pv 1) (pa_cons (pv 7) (pa_cons (pv 5) pa_nil))))))))))
    (pss_one (ps_ret (pv 6))))))))), ?_⟩
    obtain ⟨v, hv, m, t, x, k, ts, hh, rfl, W, R1, O, hl, ht, hx, hn, hk, q⟩ := h
    have hz := O.len
    have R0 := R1
    obtain ⟨ad, rfl, ha⟩ := R1
    have hxm := inc_lt O ht hx
    have gt := atI_nat (hue_get (h := hh) (i := t) (by omega))
    rw [hn] at gt
    refine ⟨_, rfl, _, rfl, _, rfl, _, rfl, _, rfl, v, m, t, x, ts, rfl, W, ht, hx, fun H1 s1 => ?_⟩
    have hfm : far ts t x < m := inc_lt O ht (far_inc hx)
    refine ⟨_, rfl, v, _, m, far ts t x, k, ts, hh, rfl, W.mono s1, R0.mono s1, hl, hfm, hz, hk, fun D1 H2 hD1 s2 d1 => ?_⟩
    refine ⟨by show 1 ≤ sizeLine; decide, fun R hR => ?_⟩
    have s3 := (s1.trans s2).trans (same_new (o := .lst [.ref D1]) hR)
    have rR : H R = none := (s1.trans s2).free hR
    refine ⟨_, rfl, _, rfl, ad, _, _, _, rfl, rfl, .of (s3 _ _ ha), gt, rfl, false, rfl, iteF ?_⟩
    refine ⟨_, rfl, (by show 2 ≤ sizeLine; decide), fun p0 hp0 => ⟨by show 1 ≤ sizeLine; decide, fun Fa hFa => ?_⟩⟩
    have s4 := s3.trans ((same_new (o := .tup [vn t, .non]) hp0).trans (same_new (o := .lst [.ref p0]) hFa))
    have rF : H Fa = none := (s3.trans (same_new hp0)).free hFa
    refine ⟨_, rfl, _, rfl, v, m, x, ts, rfl, W.mono s4, hxm, hz, fun D2 H3 hD2 s5 d2 => ⟨D2, rfl, ⟨_, .of d2⟩, fun La hLa => ?_⟩⟩
    have s6 := s4.trans s5
    have lt : (tiesAt ts x).length ≤ 1000 := Nat.le_trans range_filter_le hz
    have key : ∀ i y, ((tiesAt ts x).map vn)[i]? = some y → ∃ u, y = vn u ∧ (tiesAt ts x)[i]? = some u ∧ u < hh.length := fun i y e => by
      rw [List.getElem?_map] at e
      obtain ⟨u, eu, rfl⟩ := Option.map_eq_some_iff.mp e
      exact ⟨u, rfl, eu, by rw [hl]; exact (mem_tiesAt.mp (List.mem_of_getElem? eu)).1⟩
    have rL : H La = none := s6.free hLa
    refine lc_val (n := ((tiesAt ts x).map vn).length) walk_list (by rw [List.length_map]; omega) hLa (fun H2 s2 => .of (s2 _ _ d2)) (fun i => (hu hh ((tiesAt ts x).getD i 0)).isSome) (fun i => vn ((tiesAt ts x).getD i 0)) ?_ ?_
    · rintro i y H4 H5 acc hi s7 e7 ⟨rfl, e⟩ Good Skip hg hs
      obtain ⟨u, rfl, eu, hul⟩ := key i y e
      rw [getD_of eu] at hg hs
      refine ⟨rfl, _, rfl, _, rfl, ad, _, _, _, rfl, rfl, .of (s7 _ _ (s6 _ _ ha)), atI_nat (hue_get hul), rfl, _, rfl, ?_⟩
      cases e2 : hu hh u with
      | none =>
        rw [e2] at hs
        exact iteF (hs rfl _ (Same.refl _))
      | some c =>
        rw [e2] at hg
        exact iteT ⟨_, rfl, hg rfl _ (Same.refl _)⟩
    intro H4 s7 d7
    have e1 : ((List.range ((tiesAt ts x).map vn).length).filter fun i => (hu hh ((tiesAt ts x).getD i 0)).isSome).map (fun i => vn ((tiesAt ts x).getD i 0)) = (((List.range (tiesAt ts x).length).filter fun i => (hu hh ((tiesAt ts x).getD i 0)).isSome).map fun i => (tiesAt ts x).getD i 0).map vn := by
      rw [List.length_map, List.map_map]
      rfl
    rw [e1] at d7
    have L0 : LeftOk ts hh x [(t, none)] (((List.range (tiesAt ts x).length).filter fun i => (hu hh ((tiesAt ts x).getD i 0)).isSome).map fun i => (tiesAt ts x).getD i 0) := by
      have ndT : (tiesAt ts x).Nodup := List.Pairwise.filter _ List.nodup_range
      refine ⟨fun u => ?_, ?_⟩
      · rw [List.mem_map]
        constructor
        · rintro ⟨i, hi, rfl⟩
          obtain ⟨h1, h2⟩ := List.mem_filter.mp hi
          obtain ⟨t1, t2⟩ := mem_tiesAt.mp (List.mem_of_getElem? (getD_some (d := 0) (List.mem_range.mp h1)))
          refine ⟨t1, t2, fun z => ?_, fun i' hi' z => ?_⟩
          · rw [z] at h2
            cases h2
          · have : i' = 0 := Nat.lt_one_iff.mp hi'
            subst this
            have z2 : t = (tiesAt ts x).getD i 0 := z
            rw [← z2, hn] at h2
            cases h2
        · rintro ⟨h1, h2, h3, _⟩
          obtain ⟨i, hi, e⟩ := List.mem_iff_getElem.mp (mem_tiesAt.mpr ⟨h1, h2⟩)
          have e3 : (tiesAt ts x).getD i 0 = u := getD_of (by rw [List.getElem?_eq_getElem hi, e])
          refine ⟨i, List.mem_filter.mpr ⟨List.mem_range.mpr hi, ?_⟩, e3⟩
          rw [e3]
          exact Option.isSome_iff_ne_none.mpr h3
      · refine (List.pairwise_map).mpr (List.Pairwise.imp_of_mem ?_ (List.Pairwise.filter _ List.pairwise_lt_range))
        intro i j hi hj hij e
        have h1 := List.mem_range.mp (List.mem_filter.mp hi).1
        have h2 := List.mem_range.mp (List.mem_filter.mp hj).1
        have := nd_ix ndT (getD_some (d := 0) h1) (by rw [e]; exact getD_some h2)
        omega
    generalize (((List.range (tiesAt ts x).length).filter fun i => (hu hh ((tiesAt ts x).getD i 0)).isSome).map fun i => (tiesAt ts x).getD i 0) = L at d7 L0
    have s8 := s6.trans s7
    have p4 : H4 p0 = some (.tup [vn t, .non]) := s7 _ _ (s5 _ _ ((same_new hFa) _ _ upd_same))
    have f4 : H4 Fa = some (.lst [.ref p0]) := s7 _ _ (s5 _ _ upd_same)
    have r4 : H4 R = some (.lst [.ref D1]) := s7 _ _ (s5 _ _ ((same_new hFa) _ _ ((same_new hp0) _ _ upd_same)))
    have d4 : H4 D1 = some (.lst ((freeAt ts hh (far ts t x) k).map vn)) := s7 _ _ (s5 _ _ ((same_new hFa) _ _ ((same_new hp0) _ _ ((same_new hR) _ _ d1))))
    have nDR : D1 ≠ R := ne_of_none d1 hR
    have nDF : D1 ≠ Fa := ne_of_none ((same_new hp0) _ _ ((same_new hR) _ _ d1)) hFa
    have nDL : D1 ≠ La := ne_of_none (s5 _ _ ((same_new hFa) _ _ ((same_new hp0) _ _ ((same_new hR) _ _ d1)))) hLa
    have npR : p0 ≠ R := fun z => by
      rw [z, r4] at p4
      cases p4
    have npF : p0 ≠ Fa := ne_of_none upd_same hFa
    have npL : p0 ≠ La := ne_of_none (s5 _ _ ((same_new hFa) _ _ upd_same)) hLa
    have nRF : R ≠ Fa := ne_of_none ((same_new hp0) _ _ upd_same) hFa
    have nRL : R ≠ La := ne_of_none (s5 _ _ ((same_new hFa) _ _ ((same_new hp0) _ _ upd_same))) hLa
    have nFL : Fa ≠ La := ne_of_none (s5 _ _ upd_same) hLa
    have rws : ∀ p ∈ [R, Fa, La], H p = none := fun p hp => by
      rcases List.mem_cons.mp hp with rfl | hp
      · exact rR
      · rcases List.mem_cons.mp hp with rfl | hp
        · exact rF
        · rw [List.mem_singleton.mp hp]
          exact rL
    have RR4 : Al (NatR (dels H4 [R, Fa, La])) [.ref D1] (rowsL ts hh k x [(t, none)]) := by
      refine Al.snoc Al.nil ⟨D1, rfl, ?_⟩
      rw [dels_ne (by simp [nDR, nDF, nDL]), d4]
      rfl
    have nxt : ∀ (Lc : List Nat) (F : FanL), LeftOk ts hh x F Lc → ∀ u, u ∈ Lc → u < hh.length ∧ hu hh u ≠ none := fun Lc F LO u hu1 => by
      obtain ⟨h1, _, h3, _⟩ := (LO.mem u).mp hu1
      exact ⟨by omega, h3⟩
    refine ⟨_, rfl, _, rfl, _, rfl, _, _, _, hh, L, rowsL ts hh k x [(t, none)], rfl, R0.mono s8, ⟨La, rfl, d7⟩, ⟨R, _, rfl, r4, RR4.mono fun _ _ w => w.mono dels_same⟩, nxt L _ L0, fun H5 fur s9 nx => ?_⟩
    refine ⟨fun n σ H5 => ∃ F L rvs fvs fur z, n = L.length ∧ Same H H5 ∧ H5 R = some (.lst rvs) ∧ Al (NatR (dels H5 [R, Fa, La])) rvs (rowsL ts hh k x F) ∧ H5 Fa = some (.lst fvs) ∧ Al (FanR (dels H5 [R, Fa, La])) fvs F ∧ H5 La = some (.lst (L.map vn)) ∧ FanOk ts hh k x t F ∧ LeftOk ts hh x F L ∧ L.length ≤ 1000 ∧ NextOf hh L (rowsL ts hh k x F) H5 fur ∧ σ = [some v, some (.ref ad), some (vn t), some (vn x), some (vn k), some (.ref R), some (.ref Fa), some (.ref La), some fur, z],
      ⟨_, [(t, none)], L, _, _, fur, _, rfl, s8.trans s9, s9 _ _ r4, RR4.mono fun _ _ w => w.mono (dels_mono s9), s9 _ _ f4, ?_, s9 _ _ d7, fan_first ht hx, L0, ?_, nx, rfl⟩, ?_⟩
    · refine Al.snoc Al.nil ⟨p0, rfl, ?_⟩
      rw [dels_ne (by simp [npR, npF, npL])]
      exact s9 _ _ p4
    · have h1 : L.length ≤ (List.range ts.length).length := List.Nodup.length_le_of_subset L0.nd fun u hu1 => List.mem_range.mpr ((L0.mem u).mp hu1).1
      rw [List.length_range] at h1
      omega
    rintro n σ H5 ⟨F, L, rvs, fvs, fur, z, rfl, s5, r5, al5, f5, fl5, l5, FO, LO, hL, nx, rfl⟩
    rcases nx with ⟨rfl, hno⟩ | ⟨p, u, c, j, rfl, hp, huL, huc, hfb⟩
    · refine ⟨_, rfl, rfl, false, rfl, iteF ⟨_, rfl, q Fa H5 F rF s5 ⟨Fa, fvs, rfl, f5, fl5.mono fun _ _ w => w.mono dels_same⟩ FO fun u c h1 h2 h3 h4 j hj => ?_⟩⟩
      exact (hno u c ((LO.mem u).mpr ⟨h1, h2, by rw [h3]; exact fun z => (nomatch z), h4⟩) h3).none_row hj
    · obtain ⟨j1, j2, j3⟩ := hfb.row
      obtain ⟨u1, u2, u3, u4⟩ := (LO.mem u).mp huL
      have npR : p ≠ R := fun z => by
        rw [z, r5] at hp
        cases hp
      have npF : p ≠ Fa := fun z => by
        rw [z, f5] at hp
        cases hp
      have npL : p ≠ La := fun z => by
        rw [z, l5] at hp
        cases hp
      have FO2 := FO.snoc u1 u2 u4 huc j1 j2 j3
      have hFl := FO.len
      have hrl : rvs.length = F.length := by
        rw [al5.1]
        unfold rowsL
        rw [List.length_map, List.length_range]
      obtain ⟨i, ei, eno⟩ := index_of LO.nd huL
      obtain ⟨LO2, hL2⟩ := LO.take (o := some j) ei
      refine ⟨_, rfl, rfl, true, rfl, iteT ⟨fun σ' H' => ∃ m', m' < L.length ∧ _, fun _ _ w => w, ?_⟩⟩
      refine ⟨_, rfl, ty_lst f5, _, rfl, _, _, _, rfl, rfl, f5, ?_, ?_⟩
      · rw [fl5.1]
        exact smalls (by omega)
      have l6 : upd H5 Fa (.lst (fvs ++ [.ref p])) La = some (.lst (L.map vn)) := by
        rw [upd_ne nFL.symm]
        exact l5
      have p6 : upd H5 Fa (.lst (fvs ++ [.ref p])) p = some (.tup [vn u, vn j]) := by
        rw [upd_ne npF]
        exact hp
      refine ⟨_, rfl, ty_lst l6, _, rfl, p, _, 0, _, rfl, rfl, .of p6, rfl, ?_⟩
      refine ⟨La, L.map fun n : Nat => (n : Int), (u : Int), i, rfl, rfl, ?_, ?_, ?_, ?_⟩
      · rw [l6, map_vn_int]
      · rw [List.getElem?_map, ei]
        rfl
      · intro m' hm' e
        rw [List.getElem?_map] at e
        obtain ⟨w, ew, e3⟩ := Option.map_eq_some_iff.mp e
        have e4 : w = u := by
          have : ((w : Nat) : Int) = (u : Int) := e3
          omega
        subst e4
        exact eno m' hm' ew
      have e6 : ((L.map fun n : Nat => (n : Int)).eraseIdx i).map V.int = (L.eraseIdx i).map vn := by
        rw [map_vn_int, map_erase (f := fun n : Nat => (n : Int))]
      rw [e6]
      have s7 : Same H (upd (upd H5 Fa (.lst (fvs ++ [.ref p]))) La (.lst ((L.eraseIdx i).map vn))) := same_mut (same_mut s5 rF) rL
      have r7 : upd (upd H5 Fa (.lst (fvs ++ [.ref p]))) La (.lst ((L.eraseIdx i).map vn)) R = some (.lst rvs) := by
        rw [upd_ne nRL, upd_ne nRF]
        exact r5
      have p7 : upd (upd H5 Fa (.lst (fvs ++ [.ref p]))) La (.lst ((L.eraseIdx i).map vn)) p = some (.tup [vn u, vn j]) := by
        rw [upd_ne npL]
        exact p6
      have g7 : dels (upd (upd H5 Fa (.lst (fvs ++ [.ref p]))) La (.lst ((L.eraseIdx i).map vn))) [R, Fa, La] = dels H5 [R, Fa, La] := by
        rw [dels_upd (by simp), dels_upd (by simp)]
      have l7 : upd (upd H5 Fa (.lst (fvs ++ [.ref p]))) La (.lst ((L.eraseIdx i).map vn)) La = some (.lst ((L.eraseIdx i).map vn)) := upd_same
      have f7 : upd (upd H5 Fa (.lst (fvs ++ [.ref p]))) La (.lst ((L.eraseIdx i).map vn)) Fa = some (.lst (fvs ++ [.ref p])) := by
        rw [upd_ne nFL, upd_same]
      generalize upd (upd H5 Fa (.lst (fvs ++ [.ref p]))) La (.lst ((L.eraseIdx i).map vn)) = H7 at *
      refine ⟨_, rfl, ty_lst r7, _, rfl, _, rfl, _, rfl, _, rfl, p, _, 0, _, rfl, rfl, .of p7, rfl, _, rfl, v, m, u, x, ts, rfl, W.mono s7, u1, u2, fun H8 s8 => ?_⟩
      refine ⟨_, rfl, v, _, m, far ts u x, k, ts, hh, rfl, W.mono (s7.trans s8), R0.mono (s7.trans s8), hl, inc_lt O u1 (far_inc u2), hz, hk, fun D3 H9 hD3 s9 d3 => ?_⟩
      have r9 := s9 _ _ (s8 _ _ r7)
      have n3R : D3 ≠ R := fun z => by
        rw [z, s8 _ _ r7] at hD3
        cases hD3
      have n3F : D3 ≠ Fa := fun z => by
        rw [z, s8 _ _ f7] at hD3
        cases hD3
      have n3L : D3 ≠ La := fun z => by
        rw [z, s8 _ _ l7] at hD3
        cases hD3
      refine ⟨_, _, _, rfl, rfl, r9, smalls (by omega), ?_⟩
      have s10 := same_mut (o := .lst (rvs ++ [.ref D3])) ((s7.trans s8).trans s9) rR
      have g10 : Same (dels H5 [R, Fa, La]) (dels (upd H9 R (.lst (rvs ++ [.ref D3]))) [R, Fa, La]) := by
        rw [dels_upd (by simp), ← g7]
        exact dels_mono (s8.trans s9)
      have al10 : Al (NatR (dels (upd H9 R (.lst (rvs ++ [.ref D3]))) [R, Fa, La])) (rvs ++ [.ref D3]) (rowsL ts hh k x (F ++ [(u, some j)])) := by
        rw [rowsL_snoc]
        refine (al5.mono fun _ _ w => w.mono g10).snoc ⟨D3, rfl, ?_⟩
        rw [dels_ne (by simp [n3R, n3F, n3L]), upd_ne n3R]
        exact d3
      have fl10 : Al (FanR (dels (upd H9 R (.lst (rvs ++ [.ref D3]))) [R, Fa, La])) (fvs ++ [.ref p]) (F ++ [(u, some j)]) := by
        refine (fl5.mono fun _ _ w => w.mono g10).snoc ⟨p, rfl, ?_⟩
        rw [dels_ne (by simp [npR, npF, npL]), upd_ne npR]
        exact s9 _ _ (s8 _ _ p7)
      have l10 : upd H9 R (.lst (rvs ++ [.ref D3])) La = some (.lst ((L.eraseIdx i).map vn)) := by
        rw [upd_ne nRL.symm]
        exact s9 _ _ (s8 _ _ l7)
      have f10 : upd H9 R (.lst (rvs ++ [.ref D3])) Fa = some (.lst (fvs ++ [.ref p])) := by
        rw [upd_ne nRF.symm]
        exact s9 _ _ (s8 _ _ f7)
      refine ⟨_, rfl, _, rfl, _, rfl, _, _, _, hh, _, _, rfl, R0.mono s10, ⟨La, rfl, l10⟩, ⟨R, _, rfl, upd_same, al10.mono fun _ _ w => w.mono dels_same⟩, nxt _ _ LO2, fun H11 fur s11 nx => ?_⟩
      exact ⟨_, by omega, F ++ [(u, some j)], L.eraseIdx i, _, _, fur, _, rfl, s10.trans s11, s11 _ _ upd_same, al10.mono fun _ _ w => w.mono (dels_mono s11), s11 _ _ f10, fl10.mono fun _ _ w => w.mono (dels_mono s11), s11 _ _ l10, FO2, LO2, by omega, nx, rfl⟩
/-! ### turning -/
abbrev N_turning : List Str := ["fan", "at", "hue", "chain", "steps", "tie", "further"]
theorem sc_turning : FnScope N_turning ["fan", "at", "hue"] (defScope s_turning) := ⟨rfl, rfl, rfl, by decide +kernel, rfl, by decide +kernel, by decide +kernel⟩
def sp_turning (K : PySem.W.Frag) : Sp := fun vs H Q _ => ∃ (fv : V) (F : FanL) (i c u : Nat) (r : List Nat), vs = [fv, vn i, vn c] ∧ LstR (FanR H) H fv F ∧ i < F.length ∧ (∀ i j, i < F.length → fb F i = some j → j < i) ∧ F.length ≤ 1000 ∧ chainT F i i = u :: r ∧
  ∀ D H', H D = none → Same H H' → LstR (StepR H') H' (.ref D) (turnS u r c) → Q (.ref D) H'
theorem ok_turning (T : Tx P w K mg base) : Has P w K mg base 2 ("turning", none) ["fan", "at", "hue"] (sp_turning K) := by
  obtain ⟨fd_chain_to, G_chain_to, b_chain_to, k_chain_to⟩ := ok_chain_to (P := P) (w := w) (base := base) T
  refine mkHas T 38 (d := d_turning) rfl sc_turning rfl rfl (fun us hl => match us, hl with | [_, _, _], _ => fun _ _ _ _ _ _ => rfl) (fun vs H Q E => ?_) (fun cdv A outer s H vs Q E hr h => ?_)
  · walk_at "len"
  · have hU := hu_of hr
    refine ⟨_, PSs.nox (pss_cons (ps_set (i := 3) sc_turning.nd rfl (Or.inl rfl) (pe_call G_chain_to (hr.mono (by decide)) rfl T.g_chain_to k_chain_to b_chain_to .nil pass0 (pa_cons (pv 0) (pa_cons (pv 1) pa_nil))))
    (pss_cons (ps_setLc (i := 4) (own := [("tie", 5), ("further", 6)]) rfl sc_turning.nd rfl rfl (sw_true rfl rfl rfl (by decide +kernel)) (pi_zip (by rfl) T.b_zip (pa_cons (pv 3) (pa_cons (pe_slice sl_list (pv 3) (po_some pe_int) po_none) pa_nil))) (blkOk_by (N := N_turning) (sc := defScope s_turning) (by decide +kernel)) (fun _ _ _ _ _ => by exact (pg_tupK (K := K) (n := 2) rfl rfl (pgs_cons (pg_name (i := 5) sc_turning.nd rfl (Or.inl rfl)) (pgs_cons (pg_name (i := 6) sc_turning.nd rfl (Or.inl rfl)) pgs_nil)))) (fun _ _ _ _ _ => by exact pts_nil) (fun _ _ _ _ _ => by exact (pe_tup (pa_cons pe_str (pa_cons (pv 6) (pa_cons (pv 5) pa_nil))))))
    (pss_one (ps_ret (pe_op op_cat (pv 4) (pe_lst (pa_cons (pe_tup (pa_cons pe_str (pa_cons (pe_ix ix_list (pv 3) (pe_un un_neg pe_int) (fun _ _ => rfl)) (pa_cons (pv 2) pa_nil)))) pa_nil))))))), ?_⟩
    obtain ⟨fv, F, at0, c, u, r, rfl, R1, hat, hb, hz, hc, q⟩ := h
    have hlen := chainT_len (F := F) at0 at0
    rw [hc, List.length_cons] at hlen
    refine ⟨_, rfl, _, rfl, fv, F, at0, rfl, R1, hat, hb, hz, fun D H1 hD s1 d1 => ?_⟩
    rw [hc] at d1
    refine ⟨_, rfl, _, rfl, 1, rfl, D, _, rfl, .of d1, fun E2 hE2 => ?_⟩
    have cv : cutV ((u :: r).map vn) (some 1) none = r.map vn := by
      unfold cutV
      rw [List.length_map, List.length_cons]
      show List.take ((r.length + 1) - HT.sIx (r.length + 1) 0 (some 1)) (List.drop (HT.sIx (r.length + 1) 0 (some 1)) _) = _
      have e : HT.sIx (r.length + 1) 0 (some 1) = 1 := by
        unfold HT.sIx
        simp
      rw [e, List.map_cons, List.drop_succ_cons, List.drop_zero, List.take_of_length_le (by rw [List.length_map]; omega)]
    have s2 := s1.trans (same_new (o := .lst (cutV ((u :: r).map vn) (some 1) none)) hE2)
    refine ⟨D, E2, (u :: r).map vn, r.map vn, rfl, .of ((same_new hE2) _ _ d1), .of (by rw [upd_same, cv]), fun G hG => ?_⟩
    have hGH : H G = none := s2.free hG
    refine lc_rel (n := r.length) (walk_zip (xs := (u :: r).map vn) (ys := r.map vn) (by rw [List.length_map, List.length_map, List.length_cons]; omega)) (by omega) hG (fun H3 s3 => ⟨.of (s3 _ _ ((same_new hE2) _ _ d1)), .of (s3 _ _ (by rw [upd_same, cv]))⟩) (fun _ => true) (fun i H v => StepR H v (.move ((u :: r).getD (i + 1) 0) ((u :: r).getD i 0))) (fun i Ha Hb v s w => w.mono s) ?_ ?_
    · rintro i x H3 H4 acc hi s3 g3 ⟨t, y, z, rfl, hn, rfl, e1, e2⟩ Good Skip hg hs
      replace e1 : ((u :: r).map vn)[i]? = some y := e1
      replace e2 : (r.map vn)[i]? = some z := e2
      rw [List.getElem?_map] at e1 e2
      obtain ⟨a1, ea1, rfl⟩ := Option.map_eq_some_iff.mp e1
      obtain ⟨a2, ea2, rfl⟩ := Option.map_eq_some_iff.mp e2
      have ga1 : (u :: r).getD i 0 = a1 := getD_of ea1
      have ga2 : (u :: r).getD (i + 1) 0 = a2 := getD_of (by rw [List.getElem?_cons_succ]; exact ea2)
      rw [ga1, ga2] at hg
      refine ⟨t, _, rfl, .of upd_same, rfl, _, _, rfl, _, _, rfl, rfl, rfl, _, rfl, _, rfl, (by show 3 ≤ sizeLine; decide), fun p hp => ?_⟩
      have hpG : p ≠ G := (ne_of_none ((same_new hn) _ _ g3) hp).symm
      refine hg rfl _ _ ((same_new hn).trans (same_new hp)) ⟨p, rfl, ?_⟩
      rw [del_ne hpG, upd_same]
      rfl
    · intro H3 ys s3 d3 al
      rw [filter_all] at al
      have dD := s3 _ _ ((same_new (o := .lst (cutV ((u :: r).map vn) (some 1) none)) hE2) _ _ d1)
      refine ⟨_, rfl, _, rfl, _, rfl, D, _, _, vn ((u :: r).getD r.length 0), rfl, rfl, .of dD, ?_, _, rfl, (by show 3 ≤ sizeLine; decide), fun p hp => ⟨by show 1 ≤ sizeLine; decide, fun l hl => ?_⟩⟩
      · unfold atI
        rw [List.length_map, List.length_cons]
        have e : ixN (r.length + 1) (-1) = some r.length := by
          unfold ixN
          rw [if_neg (by omega), if_pos (by omega)]
          congr 1
          omega
        rw [e]
        show ((u :: r).map vn)[r.length]? = _
        rw [List.getElem?_map, getD_some (d := 0) (by simp)]
        rfl
      have s4 : Same H3 (upd H3 p (.tup [.str "hue", vn ((u :: r).getD r.length 0), vn c])) := same_new hp
      have s5 := s4.trans (same_new (o := .lst [.ref p]) hl)
      refine ⟨G, l, _, _, rfl, rfl, s5 _ _ d3, upd_same, ?_, fun w' hw' => ?_⟩
      · rw [al.1, List.length_range]
        exact small (by show r.length + 1 ≤ 100000; omega)
      have s6 := (s2.trans s3).trans (s5.trans (same_new (o := .lst (ys ++ [.ref p])) hw'))
      refine q w' _ ((s2.trans s3).trans s5 |>.free hw') s6 ⟨w', _, rfl, upd_same, ?_⟩
      rw [turnS_list]
      refine Al.snoc ?_ ⟨p, rfl, ?_⟩
      · refine ⟨by rw [al.1, List.length_map], fun i y st e1 e2 => ?_⟩
        rw [List.getElem?_map] at e2
        obtain ⟨j, ej, rfl⟩ := Option.map_eq_some_iff.mp e2
        exact (al.2 i y j e1 ej).mono (s5.trans (same_new hw'))
      · exact (same_new hw') _ _ ((same_new hl) _ _ upd_same)
/-! ### shared_first -/
abbrev N_shared_first : List Str := ["rows", "other", "row", "one", "hue"]
theorem sc_shared_first : FnScope N_shared_first ["rows"] (defScope s_shared_first) := ⟨rfl, rfl, rfl, by decide +kernel, rfl, by decide +kernel, by decide +kernel⟩
def SharedV (rows : List (List Nat)) (H : Hp) (v : V) : Prop :=
  (v = .non ∧ ∀ (i j : Nat) (ri rj : List Nat) (c : Nat), i < j → rows[i]? = some ri → rows[j]? = some rj → c ∈ ri → c ∉ rj) ∨
  ∃ (p : Addr) (i j c : Nat) (ri rj : List Nat), v = .ref p ∧ H p = some (.tup [vn i, vn j, vn c]) ∧ i < j ∧ rows[i]? = some ri ∧ rows[j]? = some rj ∧ c ∈ ri ∧ c ∈ rj ∧ ∀ (i' j' : Nat) (r r' : List Nat) (d : Nat), i' < j' → j' < j → rows[i']? = some r → rows[j']? = some r' → d ∈ r → d ∉ r'
def sp_shared_first (K : PySem.W.Frag) : Sp := fun vs H Q _ => ∃ (v : V) (rows : List (List Nat)), vs = [v] ∧ LstR (NatR H) H v rows ∧ rows.length ≤ 3000 ∧ ∀ H' v', Same H H' → SharedV rows H' v' → Q v' H'
theorem ok_shared_first (T : Tx P w K mg base) : Has P w K mg base 1 ("shared_first", none) ["rows"] (sp_shared_first K) := by
  refine mkHas T 39 (d := d_shared_first) rfl sc_shared_first rfl rfl (fun us hl => match us, hl with | [_], _ => fun _ _ _ _ _ _ => rfl) (fun vs H Q E => ?_) (fun cdv A outer s H vs Q E hr h => ?_)
  · walk_at "len"
  · have hU := hu_of hr
    refine ⟨_, PSs.nox (pss_cons (ps_for PassesOwn.never rfl (pi_enum (by rfl) T.b_enumerate (pa_cons (pv 0) pa_nil)) (pg_tup rfl (pgs_cons (pg_name (i := 1) sc_shared_first.nd rfl (Or.inl rfl)) (pgs_cons (pg_name (i := 2) sc_shared_first.nd rfl (Or.inl rfl)) pgs_nil)))
      (pss_one (ps_for PassesOwn.never rfl (pi_range1 rfl T.b_range (pa_cons (pv 1) pa_nil)) (pg_name (i := 3) sc_shared_first.nd rfl (Or.inl rfl))
        (pss_one (ps_for PassesOwn.never rfl (pi_list (pe_ix ix_list (pv 0) (pv 3) (fun _ _ => rfl))) (pg_name (i := 4) sc_shared_first.nd rfl (Or.inl rfl))
          (pss_one (ps_if (pt_cmpR op_in_seq (pv 4) (pv 2) rfl) (pss_one (ps_ret (pe_tup (pa_cons (pv 3) (pa_cons (pv 1) (pa_cons (pv 4) pa_nil)))))) pss_nil)))))))
    (pss_one (ps_ret pe_non))), ?_⟩
    obtain ⟨v, rows, rfl, ⟨p, xs, rfl, hp, hxl, hxr⟩, hz, q⟩ := h
    refine ⟨_, rfl, p, xs, rfl, .of hp, ?_⟩
    refine for_it (walk_enum (xs := xs)) (fun n σ H2 => Same H H2 ∧ (∃ z1 z2 z3 z4, σ = [some (.ref p), z1, z2, z3, z4]) ∧ ∀ (i' j' : Nat) (r r' : List Nat) (d : Nat), i' < j' → j' < n → rows[i']? = some r → rows[j']? = some r' → d ∈ r → d ∉ r') ⟨Same.refl _, ⟨_, _, _, _, rfl⟩, fun i' j' r r' d h1 h2 => absurd h2 (Nat.not_lt_zero _)⟩ (fun i σ H2 _ h2 => .of (h2.1 _ _ hp)) ?_ ?_
    · rintro j x σ H2 H3 hj ⟨s2, ⟨z1, z2, z3, z4, rfl⟩, hno⟩ ⟨t, y, z, rfl, hn, rfl, e1, e2⟩
      cases e1
      obtain ⟨rj, erj, rp, rfl, hrj⟩ := Al.getV (α := List Nat) ⟨hxl, hxr⟩ e2
      have s3 := s2.trans (same_new (o := .tup [.int (j : Nat), .ref rp]) hn)
      refine ⟨t, _, rfl, .of upd_same, rfl, _, _, rfl, _, _, rfl, rfl, ?_⟩
      refine ⟨_, rfl, j, rfl, by omega, by omega, ?_⟩
      refine for_it (n := ((j : Nat) : Int).toNat) walk_range (fun n σ H4 => Same H H4 ∧ (∃ z3 z4, σ = [some (.ref p), some (vn j), some (.ref rp), z3, z4]) ∧ ∀ (i : Nat) (r : List Nat) (c : Nat), i < n → rows[i]? = some r → c ∈ r → c ∉ rj) ⟨s3, ⟨_, _, rfl⟩, fun i r c h2 => absurd h2 (Nat.not_lt_zero _)⟩ (fun _ _ _ _ _ => trivial) ?_ ?_
      · rintro i x σ H4 H5 hi ⟨s4, ⟨z3, z4, rfl⟩, hno2⟩ ⟨rfl, ex⟩
        obtain rfl : x = vn i := by
          rw [ex]
          show V.int (0 + (i : Int)) = V.int (i : Int)
          rw [Int.zero_add]
        have hi : i < j := by omega
        obtain ⟨_, e3, qa, rfl, hri⟩ := Al.get (α := List Nat) ⟨hxl, hxr⟩ (getD_some (d := []) (show i < rows.length by rw [← hxl]; omega))
        have eri : rows[i]? = some (rows.getD i []) := getD_some (by rw [← hxl]; omega)
        generalize rows.getD i [] = ri at hri eri
        refine ⟨_, rfl, _, rfl, p, _, _, _, rfl, rfl, .of (s4 _ _ hp), atI_nat e3, qa, rfl, ⟨_, .of (s4 _ _ hri)⟩, ?_⟩
        refine for_list (xs := ri.map vn) (fun n σ H6 => Same H H6 ∧ (∃ z4, σ = [some (.ref p), some (vn j), some (.ref rp), some (vn i), z4]) ∧ ∀ c, c ∈ ri.take n → c ∉ rj) ⟨s4, ⟨_, rfl⟩, fun c hc => by simp at hc⟩ (fun i σ H2 _ h2 => .of (h2.1 _ _ hri)) ?_ ?_
        · rintro n x σ H6 hx ⟨s6, ⟨z4, rfl⟩, hno3⟩
          rw [List.getElem?_map] at hx
          obtain ⟨c, ec, rfl⟩ := Option.map_eq_some_iff.mp hx
          refine ⟨_, rfl, _, rfl, rp, _, rfl, .inl (.of (s6 _ _ hrj)), rfl, flat_nats, _, rfl, ?_⟩
          rw [show (if false = true then !inV (vn c) (rj.map vn) else inV (vn c) (rj.map vn)) = decide (c ∈ rj) from inV_nats]
          by_cases hc : c ∈ rj
          · rw [decide_eq_true hc]
            refine iteT ⟨_, rfl, _, rfl, _, rfl, (by show 3 ≤ sizeLine; decide), fun w' hw' => ?_⟩
            exact q _ _ (s6.trans (same_new hw')) (.inr ⟨w', i, j, c, ri, rj, rfl, upd_same, hi, eri, erj, List.mem_of_getElem? ec, hc, hno⟩)
          · rw [decide_eq_false hc]
            refine iteF ⟨s6, ⟨_, rfl⟩, fun d hd => ?_⟩
            rw [List.take_succ, ec] at hd
            rcases List.mem_append.mp hd with h | h
            · exact hno3 d h
            · have : d = c := by simpa using h
              rw [this]
              exact hc
        · rintro σ H6 ⟨s6, ⟨z4, rfl⟩, hno3⟩
          rw [List.length_map, List.take_length] at hno3
          refine ⟨s6, ⟨_, _, rfl⟩, fun i' r c h1 h2 h3 => ?_⟩
          by_cases h4 : i' < i
          · exact hno2 i' r c h4 h2 h3
          · have : i' = i := by omega
            subst this
            rw [eri] at h2
            cases h2
            exact hno3 c h3
      · rintro σ H4 ⟨s4, ⟨z3, z4, rfl⟩, hno2⟩
        refine ⟨s4, ⟨_, _, _, _, rfl⟩, fun i' j' r r' d h1 h2 h3 h4 h5 => ?_⟩
        by_cases h6 : j' < j
        · exact hno i' j' r r' d h1 h6 h3 h4 h5
        · have : j' = j := by omega
          subst this
          rw [erj] at h4
          cases h4
          exact hno2 i' r d (by omega) h3 h5
    · rintro σ H2 ⟨s2, ⟨z1, z2, z3, z4, rfl⟩, hno⟩
      refine q _ _ s2 (.inl ⟨rfl, fun i j ri rj c h1 h2 h3 h4 => ?_⟩)
      exact hno i j ri rj c h1 (by rw [hxl]; exact (List.getElem?_eq_some_iff.mp h3).1) h2 h3 h4
/-! ### look_hues_enough -/
abbrev N_look_hues_enough : List Str := ["web", "hues"]
theorem sc_look_hues_enough : FnScope N_look_hues_enough ["web", "hues"] (defScope s_look_hues_enough) := ⟨rfl, rfl, rfl, by decide +kernel, rfl, by decide +kernel, by decide +kernel⟩
def sp_look_hues_enough (K : PySem.W.Frag) : Sp := fun vs H Q _ => ∃ (v : V) (m k : Nat) (ts : List Tie), vs = [v, vn k] ∧ WebR H v m ts ∧ WebOk m ts ∧ mostAt m ts + thick ts ≤ k ∧ ∀ H', Same H H' → Q .non H'
theorem ok_look_hues_enough (T : Tx P w K mg base) : Has P w K mg base 3 ("look_hues_enough", none) ["web", "hues"] (sp_look_hues_enough K) := by
  obtain ⟨fd_most_at, G_most_at, b_most_at, k_most_at⟩ := ok_most_at (P := P) (w := w) (base := base) T
  obtain ⟨fd_thickest, G_thickest, b_thickest, k_thickest⟩ := ok_thickest (P := P) (w := w) (base := base) T
  refine mkHas T 46 (d := d_look_hues_enough) rfl sc_look_hues_enough rfl rfl (fun us hl => match us, hl with | [_, _], _ => fun _ _ _ _ _ _ => rfl) (fun vs H Q E => ?_) (fun cdv A outer s H vs Q E hr h => ?_)
  · walk_at "len"
  · have hU := hu_of hr
    refine ⟨_, PSs.nox (pss_one (ps_if (pt_cmpR op_lt (pv 1) (pe_op op_add (pe_call G_most_at (hr.mono (by decide)) rfl T.g_most_at k_most_at b_most_at .nil pass0 (pa_cons (pv 0) pa_nil)) (pe_call G_thickest (hr.mono (by decide)) rfl T.g_thickest k_thickest b_thickest .nil pass0 (pa_cons (pv 0) pa_nil))) (nomark _)) (pss_one ps_never) pss_nil)), ?_⟩
    obtain ⟨v, m, k, ts, rfl, W, O, hk, q⟩ := h
    refine ⟨_, rfl, _, rfl, v, m, ts, rfl, W, O, fun H1 s1 => ?_⟩
    refine ⟨_, rfl, v, m, ts, rfl, W.mono s1, O, fun H2 s2 => ⟨_, _, rfl, rfl, _, _, rfl, rfl, _, rfl, ?_⟩⟩
    rw [decide_eq_false (show ¬ (k : Int) < (mostAt m ts : Int) + (thick ts : Int) by omega)]
    exact iteF (q H2 (s1.trans s2))
end
end Hu
end

/-! ## HuRules3 -/
section
set_option maxHeartbeats 4000000
set_option autoImplicit true
namespace Hu
open PySem PySem.Spec PyProof.Rows L2
section
variable {X : Cx} {K : PySem.W.Frag} {pos : Pos} {o e : Expr} {es : List Expr} {to : TE} {t : TA} {name : Str} {apos cpos : Pos} {T id : String} {r : V → List V → Hp → VK → Prop}
/-- o.m(..) on a built-in, with the written part named -/
theorem pe_bmK (hK : X.K = K) (pa : PlainAttrs T) (slot : Slot T name id) (hty : typeOf (.builtin id) = pure (.type "method_descriptor")) (hm : MtR X id r) (ho : PE X o to) (ha : PA X (e :: es) t)
    (hb : attributeBase o name X.env (eval o X.env) = eval o X.env := by rfl)
    (hf : ((backTo cpos (starEach (e :: es) X.env)).all (fun x => !x.1) && (backToKw cpos (keywordEach [] X.env)).all (fun x => x.1.isSome) && decide ((e :: es).length + ([] : List Keyword).length + (if ([] : List Keyword).isEmpty then 0 else 1) < 30)) = true := by rfl)
    (hl : (apos.endLine == cpos.line) = true := by rfl) (hs : starEach (e :: es) X.env = (false, eval e X.env) :: starEach es X.env := by rfl) (hp : (backTo cpos (starEach es X.env)).any (·.1) = false := by rfl) :
    PE X (.Call (.Attribute o name apos) (e :: es) [] cpos) (tBM K T r to t) := by
  subst hK
  exact pe_bm pa slot hty hm ho ha hb hf hl hs hp
/-- tuples put together, with the written part named -/
theorem op_catAK (hK : X.K = K) : OpR X (binaryOp .Add) (rCatA K) := by
  subst hK
  exact op_catA
end
end Hu
end

/-! ## W6 -/
section
set_option maxHeartbeats 4000000
set_option autoImplicit true
namespace Hu
open PySem PySem.Spec PyProof.Rows L2
local macro_rules | `(tactic| walk_at "len") => `(tactic| (intro h; first
  | (obtain ⟨_, e, _⟩ := h; cases e; rfl)
  | (obtain ⟨_, _, e, _⟩ := h; cases e; rfl)
  | (obtain ⟨_, _, _, e, _⟩ := h; cases e; rfl)
  | (obtain ⟨_, _, _, _, e, _⟩ := h; cases e; rfl)
  | (obtain ⟨_, _, _, _, _, e, _⟩ := h; cases e; rfl)
  | (obtain ⟨_, _, _, _, _, _, e, _⟩ := h; cases e; rfl)
  | (obtain ⟨_, _, _, _, _, _, _, e, _⟩ := h; cases e; rfl)
  | (obtain ⟨_, _, _, _, _, _, _, _, e, _⟩ := h; cases e; rfl)
  | (obtain ⟨_, _, _, _, _, _, _, _, _, e, _⟩ := h; cases e; rfl)
  | (obtain ⟨_, _, _, _, _, _, _, _, _, _, e, _⟩ := h; cases e; rfl)
  | (obtain ⟨_, _, _, _, _, _, _, _, _, _, _, e, _⟩ := h; cases e; rfl)
  | (obtain ⟨_, _, _, _, _, _, _, _, _, _, _, _, e, _⟩ := h; cases e; rfl)
  | (obtain ⟨_, _, _, _, _, _, _, _, _, _, _, _, _, e, _⟩ := h; cases e; rfl)
  | (obtain ⟨_, _, _, _, _, _, _, _, _, _, _, _, _, _, e, _⟩ := h; cases e; rfl)
  | (obtain ⟨_, _, _, _, _, _, _, _, _, _, _, _, _, _, _, e, _⟩ := h; cases e; rfl)
  | (obtain ⟨_, _, _, _, _, _, _, _, _, _, _, _, _, _, _, _, e, _⟩ := h; cases e; rfl)
  | (obtain ⟨_, _, _, _, _, _, _, _, _, _, _, _, _, _, _, _, _, e, _⟩ := h; cases e; rfl)
  | (obtain ⟨_, _, _, _, _, _, _, _, _, _, _, _, _, _, _, _, _, _, e, _⟩ := h; cases e; rfl)))
section
variable {P : Program} {w : World} {K : PySem.W.Frag} {mg : Str → Option Value} {base : Heap}
/-! ### Fan.__init__ -/
abbrev N_Fan_init : List Str := ["self", "web", "hueing", "tie", "hues", "other", "back", "end"]
theorem sc_Fan_init : FnScope N_Fan_init ["self", "web", "hueing", "tie", "hues"] (defScope s_Fan_init) := ⟨rfl, rfl, rfl, by decide +kernel, rfl, by decide +kernel, by decide +kernel⟩
abbrev fanFs (v hv : V) (x : Nat) (fv ev av rv : V) : List (Str × V) := [(Str.ofString "web", v), (Str.ofString "hueing", hv), (Str.ofString "place", vn x), (Str.ofString "fan", fv), (Str.ofString "ends", ev), (Str.ofString "free", av), (Str.ofString "rows", rv)]
def FanO (K : PySem.W.Frag) (H : Hp) (self : Addr) (m : Nat) (ts : List Tie) (h : Hue) (k x : Nat) (F : FanL) : Prop := ∃ dx v hv fv ev av rv, H self = some (.ins (He.ga K "Fan") dx (fanFs v hv x fv ev av rv)) ∧ WebR H v m ts ∧ HueR H hv h ∧ LstR (FanR H) H fv F ∧
  NatR H ev ((List.range F.length).map (endF ts x F)) ∧ NatR H av (freeAt ts h x k) ∧ LstR (NatR H) H rv (rowsL ts h k x F)
theorem FanO.mono {K : PySem.W.Frag} {H H' : Hp} {self : Addr} {m : Nat} {ts : List Tie} {h : Hue} {k x : Nat} {F : FanL} (s : Same H H') (o : FanO K H self m ts h k x F) : FanO K H' self m ts h k x F := by
  obtain ⟨dx, v, hv, fv, ev, av, rv, h1, h2, h3, h4, h5, h6, h7⟩ := o
  exact ⟨dx, v, hv, fv, ev, av, rv, s _ _ h1, h2.mono s, h3.mono s, h4.mono s fun _ _ r => r.mono s, h5.mono s, h6.mono s, h7.mono s fun _ _ r => r.mono s⟩
/-- a field of an instance is set -/
structure FldTo (H H' : Hp) (a : Addr) : Prop where
  lst : ∀ p xs, H p = some (.lst xs) → H' p = some (.lst xs)
  tup : ∀ p xs, H p = some (.tup xs) → H' p = some (.tup xs)
  dk : ∀ p xs, H p = some (.dK xs) → H' p = some (.dK xs)
  same : ∀ H0, Same H0 H → H0 a = none → Same H0 H'
theorem fldTo {H : Hp} {a C : Addr} {dx : Addr} {fs : List (Str × V)} {o : HO} (i : H a = some (.ins C dx fs)) : FldTo H (upd H a o) a := by
  refine ⟨fun p xs e => ?_, fun p xs e => ?_, fun p xs e => ?_, fun H0 s n => same_mut s n⟩ <;>
  · rw [upd_ne, e]
    rintro rfl
    rw [e] at i
    cases i
section
variable {H H' : Hp} {a : Addr} {v : V}
theorem NatR.fld (i : FldTo H H' a) {ns : List Nat} (r : NatR H v ns) : NatR H' v ns := let ⟨p, x, y⟩ := r; ⟨p, x, i.lst _ _ y⟩
theorem HueR.fld (i : FldTo H H' a) {ns : Hue} (r : HueR H v ns) : HueR H' v ns := let ⟨p, x, y⟩ := r; ⟨p, x, i.lst _ _ y⟩
theorem FanR.fld (i : FldTo H H' a) {e : Nat × Option Nat} (r : FanR H v e) : FanR H' v e := let ⟨p, x, y⟩ := r; ⟨p, x, i.tup _ _ y⟩
theorem TieR.fld (i : FldTo H H' a) {e : Tie} (r : TieR H v e) : TieR H' v e := let ⟨p, x, y⟩ := r; ⟨p, x, i.tup _ _ y⟩
theorem LstR.fld {α : Type} {R S : V → α → Prop} (i : FldTo H H' a) (f : ∀ v x, R v x → S v x) {xs : List α} (r : LstR R H v xs) : LstR S H' v xs := let ⟨p, vs, x, y, z⟩ := r; ⟨p, vs, x, i.lst _ _ y, z.mono f⟩
theorem WebR.fld (i : FldTo H H' a) {m : Nat} {ts : List Tie} (r : WebR H v m ts) : WebR H' v m ts :=
  let ⟨b, q, x, y, p, vs, z1, z2, z3⟩ := r; ⟨b, q, x, i.tup _ _ y, p, vs, z1, i.tup _ _ z2, z3.mono fun _ _ w => w.fld i⟩
end
abbrev fan1 (v : V) : List (Str × V) := [(Str.ofString "web", v)]
abbrev fan2 (v hv : V) : List (Str × V) := [(Str.ofString "web", v), (Str.ofString "hueing", hv)]
abbrev fan3 (v hv : V) (x : Nat) : List (Str × V) := [(Str.ofString "web", v), (Str.ofString "hueing", hv), (Str.ofString "place", vn x)]
abbrev fan4 (v hv : V) (x : Nat) (fv : V) : List (Str × V) := [(Str.ofString "web", v), (Str.ofString "hueing", hv), (Str.ofString "place", vn x), (Str.ofString "fan", fv)]
abbrev fan5 (v hv : V) (x : Nat) (fv ev : V) : List (Str × V) := [(Str.ofString "web", v), (Str.ofString "hueing", hv), (Str.ofString "place", vn x), (Str.ofString "fan", fv), (Str.ofString "ends", ev)]
abbrev fan6 (v hv : V) (x : Nat) (fv ev av : V) : List (Str × V) := [(Str.ofString "web", v), (Str.ofString "hueing", hv), (Str.ofString "place", vn x), (Str.ofString "fan", fv), (Str.ofString "ends", ev), (Str.ofString "free", av)]
def sp_Fan_init (K : PySem.W.Frag) : Sp := fun vs H Q _ => ∃ (self dx : Addr) (v hv : V) (m t k : Nat) (ts : List Tie) (h : Hue) (H0 : Hp), vs = [.ref self, v, hv, vn t, vn k] ∧ H self = some (.ins (He.ga K "Fan") dx []) ∧ Same H0 H ∧ H0 self = none ∧ WebR H0 v m ts ∧ HueR H0 hv h ∧ WebOk m ts ∧ h.length = ts.length ∧ t < ts.length ∧ hu h t = none ∧ k ≤ 5000 ∧
  ∀ H' F, Same H0 H' → FanO K H' self m ts h k (en ts t).1 F → FanOk ts h k (en ts t).1 t F → FanMax ts h k (en ts t).1 F → Q .non H'
theorem ok_Fan_init (T : Tx P w K mg base) : Has P w K mg base 7 ("Fan", some "__init__") ["self", "web", "hueing", "tie", "hues"] (sp_Fan_init K) := by
  obtain ⟨fd_fan_of, G_fan_of, b_fan_of, k_fan_of⟩ := ok_fan_of (P := P) (w := w) (base := base) T
  obtain ⟨fd_far_end, G_far_end, b_far_end, k_far_end⟩ := ok_far_end (P := P) (w := w) (base := base) T
  obtain ⟨fd_free_at, G_free_at, b_free_at, k_free_at⟩ := ok_free_at (P := P) (w := w) (base := base) T
  refine mkHas T 40 (d := d_Fan_init) rfl sc_Fan_init rfl rfl (fun us hl => match us, hl with | [_, _, _, _, _], _ => fun _ _ _ _ _ _ => rfl) (fun vs H Q E => ?_) (fun cdv A outer s H vs Q E hr h => ?_)
  · walk_at "len"
  · have hU := hu_of hr
    refine ⟨_, PSs.nox (pss_cons (ps_fld (pv 0) (pv 1) rfl)
    (pss_cons (ps_fld (pv 0) (pv 2) rfl)
    (pss_cons (ps_fld (pv 0) (pe_ix ix_tup (pe_ix ix_tup (pe_ix ix_tup (pv 1) pe_int (fun _ _ => rfl)) (pv 3) (fun _ _ => rfl)) pe_int (fun _ _ => rfl)) rfl)
    (pss_cons (ps_fld (pv 0) (pe_call G_fan_of (hr.mono (by decide)) rfl T.g_fan_of k_fan_of b_fan_of .nil pass0 (pa_cons (pv 1) (pa_cons (pv 2) (pa_cons (pv 3) (pa_cons (pe_fld (pv 0) rfl) (pa_cons (pv 4) pa_nil)))))) rfl)
    (pss_cons (ps_fld (pv 0) (pe_lc (own := [("other", 5), ("back", 6)]) rfl sc_Fan_init.nd (pi_list (pe_fld (pv 0) rfl)) (blkOk_by (N := N_Fan_init) (sc := defScope s_Fan_init) (by decide +kernel)) (fun _ _ _ _ _ => by exact (pg_tupK (K := K) (n := 2) rfl rfl (pgs_cons (pg_name (i := 5) sc_Fan_init.nd rfl (Or.inl rfl)) (pgs_cons (pg_name (i := 6) sc_Fan_init.nd rfl (Or.inl rfl)) pgs_nil)))) (fun _ _ _ _ _ => by exact pts_nil) (fun _ _ _ _ _ => by exact (pe_call G_far_end (hr.mono (by decide)) rfl T.g_far_end k_far_end b_far_end .nil pass0 (pa_cons (pv 1) (pa_cons (pv 5) (pa_cons (pe_fldK (K := K) rfl (pv 0) rfl) pa_nil)))))) rfl)
    (pss_cons (ps_fld (pv 0) (pe_call G_free_at (hr.mono (by decide)) rfl T.g_free_at k_free_at b_free_at .nil pass0 (pa_cons (pv 1) (pa_cons (pv 2) (pa_cons (pe_fld (pv 0) rfl) (pa_cons (pv 4) pa_nil))))) rfl)
    (pss_one (ps_fld (pv 0) (pe_lc (own := [("end", 7)]) rfl sc_Fan_init.nd (pi_list (pe_fld (pv 0) rfl)) (blkOk_by (N := N_Fan_init) (sc := defScope s_Fan_init) (by decide +kernel)) (fun _ _ _ _ _ => by exact (pg_name (i := 7) sc_Fan_init.nd rfl (Or.inl rfl))) (fun _ _ _ _ _ => by exact pts_nil) (fun _ _ _ _ _ => by exact (pe_call G_free_at (hr.mono (by decide)) rfl T.g_free_at k_free_at b_free_at .nil pass0 (pa_cons (pv 1) (pa_cons (pv 2) (pa_cons (pv 7) (pa_cons (pv 4) pa_nil))))))) rfl)))))))), ?_⟩
    obtain ⟨self, dx, v, hv, m, t, k, ts, hh, H0, rfl, i0, s0, n0, W, R0, O, hl, ht, hn, hk, q⟩ := h
    have hz := O.len
    have W0 := W
    obtain ⟨aw, b, rfl, hw, b', ps, e, hts, hpl, hpr⟩ := W
    cases e
    obtain ⟨_, e1, p1, rfl, h1⟩ := Al.get (α := Tie) ⟨hpl, hpr⟩ (getD_some (d := (0, 0)) ht)
    have hx : inc (en ts t) (en ts t).1 = true := inc_iff.mpr (.inl rfl)
    have hxm := inc_lt O ht hx
    refine ⟨_, rfl, _, rfl, self, _, dx, _, rfl, i0, T.c_Fan, T.n_Fan_web, (by decide), ?_⟩
    generalize hH1 : upd H self (HO.ins (He.ga K "Fan") dx (putF (Str.ofString "web") (V.ref aw) [])) = H1
    have L1 : FldTo H H1 self := hH1 ▸ fldTo i0
    have i1 : H1 self = some (.ins (He.ga K "Fan") dx (fan1 (.ref aw))) := by rw [← hH1]; exact upd_same
    have s1 := L1.same _ s0 n0
    refine ⟨_, rfl, _, rfl, self, _, dx, _, rfl, i1, T.c_Fan, T.n_Fan_hueing, (by show 1 < 1000; decide), ?_⟩
    generalize hH2 : upd H1 self (HO.ins (He.ga K "Fan") dx (putF (Str.ofString "hueing") hv (fan1 (.ref aw)))) = H2
    have L2 : FldTo H1 H2 self := hH2 ▸ fldTo i1
    have i2 : H2 self = some (.ins (He.ga K "Fan") dx (fan2 (.ref aw) hv)) := by rw [← hH2]; exact upd_same
    have s2 := L2.same _ s1 n0
    refine ⟨_, rfl, aw, _, 1, _, rfl, rfl, .of (s2 _ _ hw), rfl, _, rfl, b, ps, _, _, rfl, rfl, .of (s2 _ _ hts), atI_nat e1, p1, _, 0, _, rfl, rfl, .of (s2 _ _ h1), rfl, ?_⟩
    refine ⟨_, rfl, self, _, dx, _, rfl, i2, T.c_Fan, T.n_Fan_place, (by show 2 < 1000; decide), ?_⟩
    generalize hH3 : upd H2 self (HO.ins (He.ga K "Fan") dx (putF (Str.ofString "place") (vn (en ts t).1) (fan2 (.ref aw) hv))) = H3
    have L3 : FldTo H2 H3 self := hH3 ▸ fldTo i2
    have i3 : H3 self = some (.ins (He.ga K "Fan") dx (fan3 (.ref aw) hv (en ts t).1)) := by rw [← hH3]; exact upd_same
    have s3 := L3.same _ s2 n0
    refine ⟨_, rfl, _, rfl, _, rfl, _, rfl, self, _, dx, _, _, rfl, i3, T.c_Fan, T.n_Fan_place, rfl, _, rfl, ?_⟩
    refine ⟨_, hv, m, t, (en ts t).1, k, ts, hh, rfl, W0.mono s3, R0.mono s3, O, hl, ht, hx, hn, hk, fun D H4 F hD s34 RF FO FM => ?_⟩
    have i4 := s34 _ _ i3
    have s4 := s3.trans s34
    refine ⟨_, rfl, self, _, dx, _, rfl, i4, T.c_Fan, T.n_Fan_fan, (by show 3 < 1000; decide), ?_⟩
    generalize hH5 : upd H4 self (HO.ins (He.ga K "Fan") dx (putF (Str.ofString "fan") (V.ref D) (fan3 (.ref aw) hv (en ts t).1))) = H5
    have L5 : FldTo H4 H5 self := hH5 ▸ fldTo i4
    have i5 : H5 self = some (.ins (He.ga K "Fan") dx (fan4 (.ref aw) hv (en ts t).1 (.ref D))) := by rw [← hH5]; exact upd_same
    have s5 := L5.same _ s4 n0
    have RF5 : LstR (FanR H5) H5 (.ref D) F := RF.fld L5 fun _ _ r => r.fld L5
    obtain ⟨D', fvs, eD, hD5, fl5⟩ := RF5
    cases eD
    have hFl := FO.len
    refine ⟨_, rfl, self, _, dx, _, _, rfl, i5, T.c_Fan, T.n_Fan_fan, rfl, D, rfl, ⟨_, .of hD5⟩, fun G hG => ?_⟩
    refine lc_val (n := fvs.length) walk_list (by rw [fl5.1]; omega) hG (fun H2 s2 => .of (s2 _ _ hD5)) (fun _ => true) (fun i => vn (endF ts (en ts t).1 F i)) ?_ ?_
    · rintro i y H6 H7 acc hi s6 g6 ⟨rfl, e⟩ Good Skip hg hs
      obtain ⟨f, ef, p, rfl, hp⟩ := fl5.getV e
      have hiF : i < F.length := by rw [← fl5.1]; exact hi
      obtain ⟨t1, t2⟩ := FO.tie i hiF
      have efk : fk F i = f.1 := by
        unfold fk
        rw [getD_of ef]
      refine ⟨p, _, rfl, .of (s6 _ _ hp), rfl, _, _, rfl, _, _, rfl, rfl, rfl, ?_⟩
      refine ⟨_, rfl, _, rfl, _, rfl, self, _, dx, _, _, rfl, s6 _ _ i5, T.c_Fan, T.n_Fan_place, rfl, _, m, f.1, (en ts t).1, ts, rfl, W0.mono (s5.trans s6), ?_, ?_, fun H8 s8 => ?_⟩
      · rw [← efk]
        exact t1
      · rw [← efk]
        exact t2
      · have := hg rfl _ s8
        unfold endF at this
        rw [efk] at this
        exact this
    intro H6 s6 g6
    rw [filter_all, fl5.1] at g6
    have e6 : (List.range F.length).map (fun i => vn (endF ts (en ts t).1 F i)) = ((List.range F.length).map (endF ts (en ts t).1 F)).map vn := by
      rw [List.map_map]
      rfl
    rw [e6] at g6
    have i6 := s6 _ _ i5
    have RF6 : LstR (FanR H6) H6 (.ref D) F := ⟨D, fvs, rfl, s6 _ _ hD5, fl5.mono fun _ _ r => r.mono s6⟩
    refine ⟨_, rfl, self, _, dx, _, rfl, i6, T.c_Fan, T.n_Fan_ends, (by show 4 < 1000; decide), ?_⟩
    generalize hH7 : upd H6 self (HO.ins (He.ga K "Fan") dx (putF (Str.ofString "ends") (V.ref G) (fan4 (.ref aw) hv (en ts t).1 (.ref D)))) = H7
    have L7 : FldTo H6 H7 self := hH7 ▸ fldTo i6
    have i7 : H7 self = some (.ins (He.ga K "Fan") dx (fan5 (.ref aw) hv (en ts t).1 (.ref D) (.ref G))) := by rw [← hH7]; exact upd_same
    have s7 := L7.same _ (s5.trans s6) n0
    have RF7 : LstR (FanR H7) H7 (.ref D) F := RF6.fld L7 fun _ _ r => r.fld L7
    have g7 := L7.lst _ _ g6
    refine ⟨_, rfl, _, rfl, _, rfl, self, _, dx, _, _, rfl, i7, T.c_Fan, T.n_Fan_place, rfl, _, rfl, ?_⟩
    refine ⟨_, hv, m, (en ts t).1, k, ts, hh, rfl, W0.mono s7, R0.mono s7, hl, hxm, hz, hk, fun A H8 hA s78 a8 => ?_⟩
    have i8 := s78 _ _ i7
    have s8 := s7.trans s78
    refine ⟨_, rfl, self, _, dx, _, rfl, i8, T.c_Fan, T.n_Fan_free, (by show 5 < 1000; decide), ?_⟩
    generalize hH9 : upd H8 self (HO.ins (He.ga K "Fan") dx (putF (Str.ofString "free") (V.ref A) (fan5 (.ref aw) hv (en ts t).1 (.ref D) (.ref G)))) = H9
    have L9 : FldTo H8 H9 self := hH9 ▸ fldTo i8
    have i9 : H9 self = some (.ins (He.ga K "Fan") dx (fan6 (.ref aw) hv (en ts t).1 (.ref D) (.ref G) (.ref A))) := by rw [← hH9]; exact upd_same
    have s9 := L9.same _ s8 n0
    have RF9 : LstR (FanR H9) H9 (.ref D) F := (RF7.mono s78 fun _ _ r => r.mono s78).fld L9 fun _ _ r => r.fld L9
    have g9 := L9.lst _ _ (s78 _ _ g7)
    have a9 := L9.lst _ _ a8
    refine ⟨_, rfl, self, _, dx, _, _, rfl, i9, T.c_Fan, T.n_Fan_ends, rfl, G, rfl, ⟨_, .of g9⟩, fun R hR => ?_⟩
    have ln : (((List.range F.length).map (endF ts (en ts t).1 F)).map vn).length = F.length := by rw [List.length_map, List.length_map, List.length_range]
    refine lc_rel (n := (((List.range F.length).map (endF ts (en ts t).1 F)).map vn).length) walk_list (by rw [ln]; omega) hR (fun H2 s2 => .of (s2 _ _ g9)) (fun _ => true) (fun i H v => NatR H v (rowsF ts hh k (en ts t).1 F i)) (fun i Ha Hb v s w => w.mono s) ?_ ?_
    · rintro i y H10 H11 acc hi s10 d10 ⟨rfl, e⟩ Good Skip hg hs
      rw [ln] at hi
      rw [List.getElem?_map, List.getElem?_map, List.getElem?_range hi] at e
      obtain rfl : vn (endF ts (en ts t).1 F i) = y := Option.some.inj e
      obtain ⟨t1, t2⟩ := FO.tie i hi
      refine ⟨rfl, _, rfl, _, rfl, _, rfl, _, rfl, _, hv, m, _, k, ts, hh, rfl, W0.mono (s9.trans s10), R0.mono (s9.trans s10), hl, inc_lt O t1 (far_inc t2), hz, hk, fun E2 H12 hE2 s12 e12 => ?_⟩
      have nER : E2 ≠ R := (ne_of_none d10 hE2).symm
      refine hg rfl _ _ s12 ⟨E2, rfl, ?_⟩
      rw [del_ne nER]
      exact e12
    intro H10 ys s10 r10 al
    rw [filter_all, ln] at al
    have i10 := s10 _ _ i9
    refine ⟨_, rfl, self, _, dx, _, rfl, i10, T.c_Fan, T.n_Fan_rows, (by show 6 < 1000; decide), ?_⟩
    generalize hH12 : upd H10 self (HO.ins (He.ga K "Fan") dx (putF (Str.ofString "rows") (V.ref R) (fan6 (.ref aw) hv (en ts t).1 (.ref D) (.ref G) (.ref A)))) = H12
    have L12 : FldTo H10 H12 self := hH12 ▸ fldTo i10
    have i12 : H12 self = some (.ins (He.ga K "Fan") dx (fanFs (.ref aw) hv (en ts t).1 (.ref D) (.ref G) (.ref A) (.ref R))) := by rw [← hH12]; exact upd_same
    have s12 := L12.same _ (s9.trans s10) n0
    refine q H12 F s12 ⟨dx, _, hv, .ref D, .ref G, .ref A, .ref R, i12, W0.mono s12, R0.mono s12, (RF9.mono s10 fun _ _ r => r.mono s10).fld L12 fun _ _ r => r.fld L12, ⟨G, rfl, L12.lst _ _ (s10 _ _ g9)⟩, ⟨A, rfl, L12.lst _ _ (s10 _ _ a9)⟩, ⟨R, ys, rfl, L12.lst _ _ r10, ?_⟩⟩ FO FM
    refine ⟨?_, fun i y r e1 e2 => ?_⟩
    · unfold rowsL
      rw [al.1, List.length_map]
    · unfold rowsL at e2
      rw [List.getElem?_map] at e2
      obtain ⟨j, ej, rfl⟩ := Option.map_eq_some_iff.mp e2
      exact (al.2 i y j e1 ej).fld L12
/-! ### Fan.end_of -/
abbrev N_Fan_end_of : List Str := ["self", "ties", "place", "tie"]
theorem sc_Fan_end_of : FnScope N_Fan_end_of ["self", "ties", "place"] (defScope s_Fan_end_of) := ⟨rfl, rfl, rfl, by decide +kernel, rfl, by decide +kernel, by decide +kernel⟩
def sp_Fan_end_of (K : PySem.W.Frag) : Sp := fun vs H Q _ => ∃ (self L : Addr) (m k x p a b n : Nat) (ts : List Tie) (h : Hue) (F : FanL), vs = [.ref self, .ref L, vn p] ∧ FanO K H self m ts h k x F ∧ H L = some (.lst ((rowL ts h a b p n).map vn)) ∧ Path ts h a b p n ∧ ∀ H', Same H H' → Q (vn (pw ts h a b p n)) H'
theorem ok_Fan_end_of (T : Tx P w K mg base) : Has P w K mg base 4 ("Fan", some "end_of") ["self", "ties", "place"] (sp_Fan_end_of K) := by
  obtain ⟨fd_far_end, G_far_end, b_far_end, k_far_end⟩ := ok_far_end (P := P) (w := w) (base := base) T
  refine mkHas T 43 (d := d_Fan_end_of) rfl sc_Fan_end_of rfl rfl (fun us hl => match us, hl with | [_, _, _], _ => fun _ _ _ _ _ _ => rfl) (fun vs H Q E => ?_) (fun cdv A outer s H vs Q E hr h => ?_)
  · walk_at "len"
  · have hU := hu_of hr
    refine ⟨_, PSs.nox (pss_cons (ps_for PassesOwn.never rfl (pi_list (pv 1)) (pg_name (i := 3) sc_Fan_end_of.nd rfl (Or.inl rfl))
      (pss_one (ps_set (i := 2) sc_Fan_end_of.nd rfl (Or.inl rfl) (pe_call G_far_end (hr.mono (by decide)) rfl T.g_far_end k_far_end b_far_end .nil pass0 (pa_cons (pe_fld (pv 0) rfl) (pa_cons (pv 3) (pa_cons (pv 2) pa_nil)))))))
    (pss_one (ps_ret (pv 2)))), ?_⟩
    obtain ⟨self, L, m, k, x, p, a, b, n, ts, hh, F, rfl, FO, hL, Pa, q⟩ := h
    obtain ⟨dx, v, hv, fv, ev, av, rv, h1, W, _⟩ := FO
    refine ⟨_, rfl, L, rfl, ⟨_, .of hL⟩, ?_⟩
    refine for_list (xs := (rowL ts hh a b p n).map vn) (fun i σ H2 => Same H H2 ∧ ∃ z, σ = [some (.ref self), some (.ref L), some (vn (pw ts hh a b p i)), z]) ⟨Same.refl _, _, rfl⟩ (fun i σ H2 _ h2 => .of (h2.1 _ _ hL)) ?_ ?_
    · rintro i y σ H2 hi ⟨s2, z, rfl⟩
      rw [List.getElem?_map] at hi
      obtain ⟨t, et, rfl⟩ := Option.map_eq_some_iff.mp hi
      unfold rowL at et
      rw [List.getElem?_map] at et
      obtain ⟨j, ej, rfl⟩ := Option.map_eq_some_iff.mp et
      obtain ⟨hj, ej⟩ := List.getElem?_eq_some_iff.mp ej
      rw [List.getElem_range] at ej
      subst ej
      rw [List.length_range] at hj
      obtain ⟨t1, t2, t3⟩ := Pa.tie hj
      refine ⟨_, rfl, self, _, dx, _, _, rfl, s2 _ _ h1, T.c_Fan, T.n_Fan_web, rfl, _, rfl, _, rfl, v, m, _, _, ts, rfl, W.mono s2, t1, t2, fun H3 s3 => ⟨s2.trans s3, some (vn (pt ts hh a b p i)), ?_⟩⟩
      rw [Pa.next hj]
      rfl
    · rintro σ H2 ⟨s2, z, rfl⟩
      refine ⟨_, rfl, ?_⟩
      have : (List.map vn (rowL ts hh a b p n)).length = n := by
        unfold rowL
        rw [List.length_map, List.length_map, List.length_range]
      rw [this]
      exact q H2 s2
/-! ### Fan.at_once -/
abbrev N_Fan_at_once : List Str := ["self", "at", "row", "hue"]
theorem sc_Fan_at_once : FnScope N_Fan_at_once ["self"] (defScope s_Fan_at_once) := ⟨rfl, rfl, rfl, by decide +kernel, rfl, by decide +kernel, by decide +kernel⟩
theorem turnS_len {c : Nat} : ∀ (r : List Nat) (u : Nat), (turnS u r c).length = r.length + 1
  | [], _ => rfl
  | v :: r, u => by
    show (turnS v r c).length + 1 = _
    rw [turnS_len r v]
    rfl
theorem chainT_ne {F : FanL} : ∀ f i, ∃ u r, chainT F f i = u :: r := by
  intro f i
  cases e : chainT F f i with
  | cons u r => exact ⟨u, r, rfl⟩
  | nil =>
    exfalso
    cases f with
    | zero => cases e
    | succ f =>
      cases q : fb F i with
      | none =>
        rw [chainT_none q] at e
        cases e
      | some j =>
        rw [chainT_some q] at e
        have := congrArg List.length e
        rw [List.length_append] at this
        simp at this
/-- what a fan's methods stand on -/
structure FanCx (m : Nat) (ts : List Tie) (h : Hue) (k x t : Nat) (F : FanL) : Prop where
  web : WebOk m ts
  pr : Proper ts h
  bl : Below h k
  tie : t < ts.length
  inc : inc (en ts t) x = true
  no : hu h t = none
  enough : mostAt m ts + thick ts ≤ k
  few : k ≤ 5000
  ok : FanOk ts h k x t F
  mx : FanMax ts h k x F
theorem rowsL_get {ts : List Tie} {h : Hue} {k x i : Nat} {F : FanL} (hi : i < F.length) : (rowsL ts h k x F)[i]? = some (rowsF ts h k x F i) := by
  unfold rowsL
  rw [List.getElem?_map, List.getElem?_range hi]
  rfl
theorem rowsL_len {ts : List Tie} {h : Hue} {k x : Nat} {F : FanL} : (rowsL ts h k x F).length = F.length := by
  unfold rowsL
  rw [List.length_map, List.length_range]
def sp_Fan_at_once (K : PySem.W.Frag) : Sp := fun vs H Q _ => ∃ (self : Addr) (m k x t : Nat) (ts : List Tie) (h : Hue) (F : FanL), vs = [.ref self] ∧ FanO K H self m ts h k x F ∧ FanCx m ts h k x t F ∧
  (∀ H', Same H H' → (∀ i, i < F.length → ∀ c, c ∈ rowsF ts h k x F i → c ∉ freeAt ts h x k) → Q .non H') ∧
  (∀ D H' ss, H D = none → Same H H' → LstR (StepR H') H' (.ref D) ss → HuedIn m ts h t k ss → ss.length ≤ 2000 → Q (.ref D) H')
theorem ok_Fan_at_once (T : Tx P w K mg base) : Has P w K mg base 3 ("Fan", some "at_once") ["self"] (sp_Fan_at_once K) := by
  obtain ⟨fd_turning, G_turning, b_turning, k_turning⟩ := ok_turning (P := P) (w := w) (base := base) T
  refine mkHas T 41 (d := d_Fan_at_once) rfl sc_Fan_at_once rfl rfl (fun us hl => match us, hl with | [_], _ => fun _ _ _ _ _ _ => rfl) (fun vs H Q E => ?_) (fun cdv A outer s H vs Q E hr h => ?_)
  · walk_at "len"
  · have hU := hu_of hr
    refine ⟨_, PSs.nox (pss_cons (ps_for PassesOwn.never rfl (pi_enum (by rfl) T.b_enumerate (pa_cons (pe_fld (pv 0) rfl) pa_nil)) (pg_tup rfl (pgs_cons (pg_name (i := 1) sc_Fan_at_once.nd rfl (Or.inl rfl)) (pgs_cons (pg_name (i := 2) sc_Fan_at_once.nd rfl (Or.inl rfl)) pgs_nil)))
      (pss_one (ps_for PassesOwn.never rfl (pi_list (pv 2)) (pg_name (i := 3) sc_Fan_at_once.nd rfl (Or.inl rfl))
        (pss_one (ps_if (pt_cmpR op_in_seq (pv 3) (pe_fld (pv 0) rfl) rfl) (pss_one (ps_ret (pe_call G_turning (hr.mono (by decide)) rfl T.g_turning k_turning b_turning .nil pass0 (pa_cons (pe_fld (pv 0) rfl) (pa_cons (pv 1) (pa_cons (pv 3) pa_nil)))))) pss_nil)))))
    (pss_one (ps_ret pe_non))), ?_⟩
    obtain ⟨self, m, k, x, t, ts, hh, F, rfl, FO, C, q0, q1⟩ := h
    obtain ⟨dx, v, hv, fv, ev, av, rv, h1, W, R0, RF, RE, RA, p, xs, rfl, hp, hxl, hxr⟩ := FO
    have hFl := C.ok.len
    have hz := C.web.len
    obtain ⟨ap, rfl, hap⟩ := RA
    refine ⟨_, rfl, self, _, dx, _, _, rfl, h1, T.c_Fan, T.n_Fan_rows, rfl, p, xs, rfl, .of hp, ?_⟩
    refine for_it (walk_enum (xs := xs)) (fun i σ H2 => Same H H2 ∧ (∃ z1 z2 z3, σ = [some (.ref self), z1, z2, z3]) ∧ ∀ j, j < i → ∀ c, c ∈ rowsF ts hh k x F j → c ∉ freeAt ts hh x k) ⟨Same.refl _, ⟨_, _, _, rfl⟩, fun j hj => absurd hj (Nat.not_lt_zero _)⟩ (fun i σ H2 _ h2 => .of (h2.1 _ _ hp)) ?_ ?_
    · rintro i y σ H2 H3 hi ⟨s2, ⟨z1, z2, z3, rfl⟩, hno⟩ ⟨tt, y, z, rfl, hn, rfl, e1, e2⟩
      cases e1
      have hiF : i < F.length := by rw [hxl, rowsL_len] at hi; exact hi
      obtain ⟨r, er, rp, rfl, hr⟩ := Al.getV (α := List Nat) ⟨hxl, hxr⟩ e2
      rw [rowsL_get hiF] at er
      obtain rfl := Option.some.inj er
      have s3 := s2.trans (same_new (o := .tup [.int (i : Nat), .ref rp]) hn)
      refine ⟨tt, _, rfl, .of upd_same, rfl, _, _, rfl, _, _, rfl, rfl, ?_⟩
      refine ⟨_, rfl, rp, rfl, ⟨_, .of (s3 _ _ hr)⟩, ?_⟩
      refine for_list (xs := (rowsF ts hh k x F i).map vn) (fun n σ H4 => Same H H4 ∧ (∃ z3, σ = [some (.ref self), some (vn i), some (.ref rp), z3]) ∧ ∀ c, c ∈ (rowsF ts hh k x F i).take n → c ∉ freeAt ts hh x k) ⟨s3, ⟨_, rfl⟩, fun c hc => by simp at hc⟩ (fun i σ H2 _ h2 => .of (h2.1 _ _ hr)) ?_ ?_
      · rintro n y σ H4 hy ⟨s4, ⟨z3, rfl⟩, hno2⟩
        rw [List.getElem?_map] at hy
        obtain ⟨c, ec, rfl⟩ := Option.map_eq_some_iff.mp hy
        refine ⟨_, rfl, _, rfl, self, _, dx, _, _, rfl, s4 _ _ h1, T.c_Fan, T.n_Fan_free, rfl, ap, _, rfl, .inl (.of (s4 _ _ hap)), rfl, flat_nats, _, rfl, ?_⟩
        rw [show (if false = true then !inV (vn c) ((freeAt ts hh x k).map vn) else inV (vn c) ((freeAt ts hh x k).map vn)) = decide (c ∈ freeAt ts hh x k) from inV_nats]
        by_cases hc : c ∈ freeAt ts hh x k
        · rw [decide_eq_true hc]
          obtain ⟨r, er, hu1⟩ := at_once_plays C.web C.pr C.bl C.no C.ok hiF (List.mem_of_getElem? ec) hc
          refine iteT ⟨_, rfl, self, _, dx, _, _, rfl, s4 _ _ h1, T.c_Fan, T.n_Fan_fan, rfl, _, rfl, _, rfl, fv, F, i, c, t, r, rfl, RF.mono s4 fun _ _ r => r.mono s4, hiF, fun i j h1 h2 => C.ok.backs h1 h2, by omega, er, fun D H5 hD s5 RS => ?_⟩
          have hrl := chainT_len (F := F) i i
          rw [er, List.length_cons] at hrl
          exact q1 D H5 _ (s4.free hD) (s4.trans s5) RS hu1 (by rw [turnS_len]; omega)
        · rw [decide_eq_false hc]
          refine iteF ⟨s4, ⟨_, rfl⟩, fun d hd => ?_⟩
          rw [List.take_succ, ec] at hd
          rcases List.mem_append.mp hd with h | h
          · exact hno2 d h
          · have : d = c := by simpa using h
            rw [this]
            exact hc
      · rintro σ H4 ⟨s4, ⟨z3, rfl⟩, hno2⟩
        rw [List.length_map, List.take_length] at hno2
        refine ⟨s4, ⟨_, _, _, rfl⟩, fun j hj c hc => ?_⟩
        by_cases h4 : j < i
        · exact hno j h4 c hc
        · have : j = i := by omega
          subst this
          exact hno2 c hc
    · rintro σ H2 ⟨s2, ⟨z1, z2, z3, rfl⟩, hno⟩
      refine q0 _ s2 fun i hi => hno i ?_
      rw [hxl, rowsL_len]
      exact hi
/-! ### Fan.unlike_rows -/
abbrev N_Fan_unlike_rows : List Str := ["self", "at", "row"]
theorem sc_Fan_unlike_rows : FnScope N_Fan_unlike_rows ["self"] (defScope s_Fan_unlike_rows) := ⟨rfl, rfl, rfl, by decide +kernel, rfl, by decide +kernel, by decide +kernel⟩
def sp_Fan_unlike_rows (K : PySem.W.Frag) : Sp := fun vs H Q _ => ∃ (self : Addr) (m k x : Nat) (ts : List Tie) (h : Hue) (F : FanL), vs = [.ref self] ∧ FanO K H self m ts h k x F ∧ F.length ≤ 1000 ∧
  ∀ D H', Same H H' → LstR (NatR H') H' (.ref D) ((List.range F.length).map (unl ts h k x F)) → Q (.ref D) H'
theorem ok_Fan_unlike_rows (T : Tx P w K mg base) : Has P w K mg base 1 ("Fan", some "unlike_rows") ["self"] (sp_Fan_unlike_rows K) := by
  refine mkHas T 42 (d := d_Fan_unlike_rows) rfl sc_Fan_unlike_rows rfl rfl (fun us hl => match us, hl with | [_], _ => fun _ _ _ _ _ _ => rfl) (fun vs H Q E => ?_) (fun cdv A outer s H vs Q E hr h => ?_)
  · walk_at "len"
  · have hU := hu_of hr
    refine ⟨_, PSs.nox (pss_one (ps_ret (pe_lc (own := [("at", 1), ("row", 2)]) rfl sc_Fan_unlike_rows.nd (pi_enum (by rfl) T.b_enumerate (pa_cons (pe_fld (pv 0) rfl) pa_nil)) (blkOk_by (N := N_Fan_unlike_rows) (sc := defScope s_Fan_unlike_rows) (by decide +kernel)) (fun _ _ _ _ _ => by exact (pg_tupK (K := K) (n := 2) rfl rfl (pgs_cons (pg_name (i := 1) sc_Fan_unlike_rows.nd rfl (Or.inl rfl)) (pgs_cons (pg_name (i := 2) sc_Fan_unlike_rows.nd rfl (Or.inl rfl)) pgs_nil)))) (fun _ _ _ _ _ => by exact pts_nil) (fun _ _ _ _ _ => by exact (pe_ifExp (pt_cmpR op_eq (pe_bmK (K := K) rfl PySem.F.plainAttrs_list PySem.F.slot_list_index PySem.F.type_list_index (mt_indexK (K := K) rfl) (pe_fldK (K := K) rfl (pv 0) rfl) (pa_cons (pe_ix (ix_listK (K := K) rfl) (pe_fldK (K := K) rfl (pv 0) rfl) (pv 1) (fun _ _ => rfl)) pa_nil)) (pv 1) (nomark _)) (pv 2) (pe_lst pa_nil)))))), ?_⟩
    obtain ⟨self, m, k, x, ts, hh, F, rfl, FO, hFl, q⟩ := h
    obtain ⟨dx, v, hv, fv, ev, av, rv, h1, W, R0, RF, ⟨ep, rfl, hep⟩, RA, p, xs, rfl, hp, hxl, hxr⟩ := FO
    refine ⟨_, rfl, self, _, dx, _, _, rfl, h1, T.c_Fan, T.n_Fan_rows, rfl, p, xs, rfl, .of hp, fun D hD => ?_⟩
    have hxF : xs.length = F.length := by rw [hxl, rowsL_len]
    refine lc_rel (walk_enum (xs := xs)) (by omega) hD (fun H2 s2 => .of (s2 _ _ hp)) (fun _ => true) (fun i H v => NatR H v (unl ts hh k x F i)) (fun i Ha Hb v s w => w.mono s) ?_ ?_
    · rintro i y H2 H3 acc hi s2 d2 ⟨tt, y, z, rfl, hn, rfl, e1, e2⟩ Good Skip hg hs
      cases e1
      have hiF : i < F.length := by rw [hxF] at hi; exact hi
      obtain ⟨r, er, rp, rfl, hr⟩ := Al.getV (α := List Nat) ⟨hxl, hxr⟩ e2
      rw [rowsL_get hiF] at er
      obtain rfl := Option.some.inj er
      have s3 : Same H2 (upd H2 tt (.tup [.int (i : Nat), .ref rp])) := same_new hn
      have s4 := s2.trans s3
      have hrD : rp ≠ D := ne_of_none hr hD
      have ge : ∀ j, j < F.length → (((List.range F.length).map (endF ts x F)).map vn)[j]? = some (vn (endF ts x F j)) := fun j hj => by
        rw [List.getElem?_map, List.getElem?_map, List.getElem?_range hj]
        rfl
      obtain ⟨f, f1, f2, f3⟩ := first_of (ts := ts) (x := x) (F := F) i
      refine ⟨tt, _, rfl, .of upd_same, rfl, _, _, rfl, _, _, rfl, rfl, rfl, ?_⟩
      refine ⟨_, rfl, self, _, dx, _, _, rfl, s4 _ _ h1, T.c_Fan, T.n_Fan_ends, rfl, ty_lst (s4 _ _ hep), _, rfl, self, _, dx, _, _, rfl, s4 _ _ h1, T.c_Fan, T.n_Fan_ends, rfl, _, rfl, ep, _, _, _, rfl, rfl, .of (s4 _ _ hep), atI_nat (ge i hiF), ?_⟩
      refine ⟨ep, _, _, f, _, rfl, rfl, .of (s4 _ _ hep), rfl, flat_nats, ge f (by omega), ?_, fun m z' hm hz' => ?_, _, rfl, rfl, _, rfl, ?_⟩
      · rw [f3]
        exact beq_self_eq_true _
      · rw [ge m (by omega)] at hz'
        obtain rfl := Option.some.inj hz'
        have := isFirst_iff.mp f2 m hm
        rw [f3] at this
        refine beq_eq_false_iff_ne.mpr fun z => this ?_
        have z2 : ((endF ts x F m : Nat) : Int) = (endF ts x F i : Nat) := z
        omega
      by_cases hfi : f = i
      · rw [decide_eq_true (show V.int (f : Int) = V.int (i : Int) by rw [hfi])]
        refine iteT ⟨_, rfl, hg rfl _ _ s3 ⟨rp, rfl, ?_⟩⟩
        rw [del_ne hrD, s4 _ _ hr]
        unfold unl
        rw [if_pos (by rw [← hfi]; exact f2)]
      · rw [decide_eq_false (show ¬ V.int (f : Int) = V.int (i : Int) from fun z => hfi (by injection z with z; omega))]
        refine iteF ⟨by decide, fun w' hw' => ?_⟩
        have hwD : w' ≠ D := (ne_of_none (s3 _ _ d2) hw').symm
        refine hg rfl _ _ (s3.trans (same_new hw')) ⟨w', rfl, ?_⟩
        rw [del_ne hwD, upd_same]
        unfold unl
        rw [if_neg fun z => isFirst_iff.mp z f (by omega) f3]
        rfl
    · intro H2 ys s2 d2 al
      rw [filter_all, hxF] at al
      refine q D H2 s2 ⟨D, ys, rfl, d2, by rw [al.1, List.length_map], fun i y r e1 e2 => ?_⟩
      rw [List.getElem?_map] at e2
      obtain ⟨j, ej, rfl⟩ := Option.map_eq_some_iff.mp e2
      exact al.2 i y j e1 ej
/-! ### Fan.by_row -/
abbrev N_Fan_by_row : List Str := ["self", "one", "other", "hue", "kept", "row"]
theorem sc_Fan_by_row : FnScope N_Fan_by_row ["self"] (defScope s_Fan_by_row) := ⟨rfl, rfl, rfl, by decide +kernel, rfl, by decide +kernel, by decide +kernel⟩
def sp_Fan_by_row (K : PySem.W.Frag) : Sp := fun vs H Q _ => ∃ (self : Addr) (m k x t : Nat) (ts : List Tie) (h : Hue) (F : FanL), vs = [.ref self] ∧ FanO K H self m ts h k x F ∧ FanCx m ts h k x t F ∧ (∀ i, i < F.length → ∀ c, c ∈ rowsF ts h k x F i → c ∉ freeAt ts h x k) ∧
  ∀ D H' ss, H D = none → Same H H' → LstR (StepR H') H' (.ref D) ss → HuedIn m ts h t k ss → ss.length ≤ 2000 → Q (.ref D) H'
theorem unlL_get {ts : List Tie} {h : Hue} {k x i : Nat} {F : FanL} {r : List Nat} (e : ((List.range F.length).map (unl ts h k x F))[i]? = some r) : i < F.length ∧ r = unl ts h k x F i := by
  rw [List.getElem?_map] at e
  obtain ⟨j, ej, rfl⟩ := Option.map_eq_some_iff.mp e
  obtain ⟨hj, ej⟩ := List.getElem?_eq_some_iff.mp ej
  rw [List.getElem_range] at ej
  subst ej
  rw [List.length_range] at hj
  exact ⟨hj, rfl⟩
theorem unlL_at {ts : List Tie} {h : Hue} {k x i : Nat} {F : FanL} (hi : i < F.length) : ((List.range F.length).map (unl ts h k x F))[i]? = some (unl ts h k x F i) := by
  rw [List.getElem?_map, List.getElem?_range hi]
  rfl
theorem cons_steps {H H' : Hp} {ys : List V} {ss : List Step} {s : Step} {p : Addr} (hp : H p = some (.tup (stepV s))) (al : Al (StepR H) ys ss) (e : Same H H') : Al (StepR H') ([.ref p] ++ ys) (s :: ss) := by
  refine ⟨by simp [al.1], fun i v x e1 e2 => ?_⟩
  cases i with
  | zero =>
    cases e1
    cases e2
    exact ⟨p, rfl, e _ _ hp⟩
  | succ i => exact (al.2 i v x e1 e2).mono e
theorem ok_Fan_by_row (T : Tx P w K mg base) : Has P w K mg base 6 ("Fan", some "by_row") ["self"] (sp_Fan_by_row K) := by
  obtain ⟨fd_shared_first, G_shared_first, b_shared_first, k_shared_first⟩ := ok_shared_first (P := P) (w := w) (base := base) T
  obtain ⟨fd_Fan_unlike_rows, G_Fan_unlike_rows, b_Fan_unlike_rows, k_Fan_unlike_rows⟩ := ok_Fan_unlike_rows (P := P) (w := w) (base := base) T
  obtain ⟨fd_row_from, G_row_from, b_row_from, k_row_from⟩ := ok_row_from (P := P) (w := w) (base := base) T
  obtain ⟨fd_Fan_end_of, G_Fan_end_of, b_Fan_end_of, k_Fan_end_of⟩ := ok_Fan_end_of (P := P) (w := w) (base := base) T
  obtain ⟨fd_turning, G_turning, b_turning, k_turning⟩ := ok_turning (P := P) (w := w) (base := base) T
  refine mkHas T 44 (d := d_Fan_by_row) rfl sc_Fan_by_row rfl rfl (fun us hl => match us, hl with | [_], _ => fun _ _ _ _ _ _ => rfl) (fun vs H Q E => ?_) (fun cdv A outer s H vs Q E hr h => ?_)
  · walk_at "len"
  · have hU := hu_of hr
    refine ⟨_, PSs.nox (pss_cons (ps_asg (pe_call G_shared_first (hr.mono (by decide)) rfl T.g_shared_first k_shared_first b_shared_first .nil pass0 (pa_cons (pe_meth0 (pv 0) T.c_Fan T.m_Fan_unlike_rows G_Fan_unlike_rows (hr.mono (by decide)) b_Fan_unlike_rows .nil pass0) pa_nil)) (pg_tup rfl (pgs_cons (pg_name (i := 1) sc_Fan_by_row.nd rfl (Or.inl rfl)) (pgs_cons (pg_name (i := 2) sc_Fan_by_row.nd rfl (Or.inl rfl)) (pgs_cons (pg_name (i := 3) sc_Fan_by_row.nd rfl (Or.inl rfl)) pgs_nil)))))
    (pss_cons (ps_set (i := 4) sc_Fan_by_row.nd rfl (Or.inl rfl) (pe_ix ix_list (pe_fld (pv 0) rfl) pe_int (fun _ _ => rfl)))
    (pss_cons (ps_set (i := 5) sc_Fan_by_row.nd rfl (Or.inl rfl) (pe_call G_row_from (hr.mono (by decide)) rfl T.g_row_from k_row_from b_row_from .nil pass0 (pa_cons (pe_fld (pv 0) rfl) (pa_cons (pe_fld (pv 0) rfl) (pa_cons (pe_fld (pv 0) rfl) (pa_cons (pv 3) (pa_cons (pv 4) pa_nil)))))))
    (pss_cons (ps_if (pt_cmpR op_ne (pe_meth (pv 0) T.c_Fan T.m_Fan_end_of G_Fan_end_of (hr.mono (by decide)) b_Fan_end_of .nil pass0 (pa_cons (pv 5) (pa_cons (pe_fld (pv 0) rfl) pa_nil))) (pe_ix ix_list (pe_fld (pv 0) rfl) (pv 1) (fun _ _ => rfl)) (nomark _)) (pss_one (ps_ret (pe_op op_cat (pe_lst (pa_cons (pe_tup (pa_cons pe_str (pa_cons (pe_fld (pv 0) rfl) (pa_cons (pv 3) (pa_cons (pv 4) pa_nil))))) pa_nil)) (pe_call G_turning (hr.mono (by decide)) rfl T.g_turning k_turning b_turning .nil pass0 (pa_cons (pe_fld (pv 0) rfl) (pa_cons (pv 1) (pa_cons (pv 3) pa_nil))))))) pss_nil)
    (pss_one (ps_ret (pe_op op_cat (pe_lst (pa_cons (pe_tup (pa_cons pe_str (pa_cons (pe_ix ix_list (pe_fld (pv 0) rfl) (pv 2) (fun _ _ => rfl)) (pa_cons (pv 4) (pa_cons (pv 3) pa_nil))))) pa_nil)) (pe_call G_turning (hr.mono (by decide)) rfl T.g_turning k_turning b_turning .nil pass0 (pa_cons (pe_fld (pv 0) rfl) (pa_cons (pv 2) (pa_cons (pv 4) pa_nil))))))))))), ?_⟩
    obtain ⟨self, m, k, x, t, ts, hh, F, rfl, FO, C, no, q⟩ := h
    have FO0 := FO
    obtain ⟨dx, v, hv, fv, ev, av, rv, h1, W, R0, RF, ⟨ep, rfl, hep⟩, ⟨ap, rfl, hap⟩, RR⟩ := FO
    have hFl := C.ok.len
    have hz := C.web.len
    have hxm := inc_lt C.web C.tie C.inc
    refine ⟨_, rfl, self, dx, _, rfl, h1, rfl, self, m, k, x, ts, hh, F, rfl, FO0, by omega, fun D1 H1 s1 RU => ?_⟩
    refine ⟨_, _, rfl, RU, by rw [List.length_map, List.length_range]; omega, fun H2 v2 s2 sv => ?_⟩
    have s12 := s1.trans s2
    rcases sv with ⟨rfl, hno⟩ | ⟨p, one, other, c, r1, r2, rfl, hp, hlt, e1, e2, c1, c2, hfst⟩
    · exfalso
      obtain ⟨i, j, c, h1, h2, h3, h4⟩ := fan_shared C.web C.enough C.ok C.mx C.no no
      exact hno i j _ _ c h1 (unlL_at (by omega)) (unlL_at h2) h3 h4
    obtain ⟨hone, rfl⟩ := unlL_get e1
    obtain ⟨hother, rfl⟩ := unlL_get e2
    have S : Shared ts hh k x F one other c := ⟨hlt, hother, c1, c2, fun i j d h1 h2 h3 h4 => hfst i j _ _ d h1 h2 (unlL_at (by omega)) (unlL_at (by omega)) h3 h4⟩
    refine ⟨p, _, rfl, .of hp, rfl, _, _, rfl, _, _, rfl, _, _, rfl, rfl, ?_⟩
    have hfr := free_gt (k := k) (h := hh) hxm C.tie C.inc C.no
    have hen := C.enough
    obtain ⟨kept, rest, hfe⟩ : ∃ kept rest, freeAt ts hh x k = kept :: rest := by
      cases e : freeAt ts hh x k with
      | nil =>
        rw [e] at hfr
        simp at hfr
        omega
      | cons a r => exact ⟨a, r, rfl⟩
    have hkept : kept ∈ freeAt ts hh x k := by rw [hfe]; exact List.mem_cons_self
    obtain ⟨f1, g1⟩ := mem_unl c1
    obtain ⟨f2, g2⟩ := mem_unl c2
    have hck : c ≠ kept := fun z => no one hone c g1 (z ▸ hkept)
    obtain ⟨n, Rw⟩ := row_exists C.web C.pr hck (mem_freeAt.mp hkept).2
    obtain ⟨n2, Rw2⟩ := row_exists C.web C.pr hck.symm (mem_freeAt.mp g2).2
    have BR := by_row_plays C.web C.pr C.bl C.no C.ok no S hkept Rw
    have backs : ∀ i j, i < F.length → fb F i = some j → j < i := fun i j h1 h2 => C.ok.backs h1 h2
    refine ⟨_, rfl, self, _, dx, _, _, rfl, s12 _ _ h1, T.c_Fan, T.n_Fan_free, rfl, ap, _, 0, vn kept, rfl, rfl, .of (s12 _ _ hap), by rw [hfe]; exact atI_nat (j := 0) rfl, ?_⟩
    refine ⟨_, rfl, self, _, dx, _, _, rfl, s12 _ _ h1, T.c_Fan, T.n_Fan_web, rfl, _, rfl, self, _, dx, _, _, rfl, s12 _ _ h1, T.c_Fan, T.n_Fan_hueing, rfl, _, rfl, self, _, dx, _, _, rfl, s12 _ _ h1, T.c_Fan, T.n_Fan_place, rfl, _, rfl, _, rfl, ?_⟩
    refine ⟨v, hv, m, x, c, kept, n, ts, hh, rfl, W.mono s12, R0.mono s12, C.web, C.pr, hxm, hck, (mem_freeAt.mp hkept).2, Rw, fun L H3 hL s3 l3 => ?_⟩
    have s13 := s12.trans s3
    refine ⟨_, rfl, self, dx, _, rfl, s13 _ _ h1, rfl, _, rfl, _, rfl, self, _, dx, _, _, rfl, s13 _ _ h1, T.c_Fan, T.n_Fan_place, rfl, ?_⟩
    refine ⟨self, L, m, k, x, x, c, kept, n, ts, hh, F, rfl, FO0.mono s13, l3, Rw.path, fun H4 s4 => ?_⟩
    have s14 := s13.trans s4
    have ge : ∀ j, j < F.length → (((List.range F.length).map (endF ts x F)).map vn)[j]? = some (vn (endF ts x F j)) := fun j hj => by
      rw [List.getElem?_map, List.getElem?_map, List.getElem?_range hj]
      rfl
    refine ⟨_, rfl, self, _, dx, _, _, rfl, s14 _ _ h1, T.c_Fan, T.n_Fan_ends, rfl, _, rfl, ep, _, _, _, rfl, rfl, .of (s14 _ _ hep), atI_nat (ge one hone), rfl, _, rfl, ?_⟩
    by_cases hw : pw ts hh c kept x n = endF ts x F one
    · obtain ⟨r, er, HI⟩ := BR.2 hw n2 Rw2
      have hrl := chainT_len (F := F) other other
      rw [er, List.length_cons] at hrl
      rw [decide_eq_true (show V.int (pw ts hh c kept x n : Int) = V.int (endF ts x F one : Int) by rw [hw])]
      refine iteF ⟨_, rfl, self, _, dx, _, _, rfl, s14 _ _ h1, T.c_Fan, T.n_Fan_ends, rfl, _, rfl, ep, _, _, _, rfl, rfl, .of (s14 _ _ hep), atI_nat (ge other hother), _, rfl, _, rfl, (by show 4 ≤ sizeLine; decide), fun p1 hp1 => ⟨by show 1 ≤ sizeLine; decide, fun l1 hl1 => ?_⟩⟩
      have s5 : Same H4 (upd H4 p1 (.tup (stepV (.row (endF ts x F other) kept c)))) := same_new hp1
      have s6 := s5.trans (same_new (o := .lst [.ref p1]) hl1)
      have s16 := s14.trans s6
      refine ⟨_, rfl, self, _, dx, _, _, rfl, s16 _ _ h1, T.c_Fan, T.n_Fan_fan, rfl, _, rfl, _, rfl, fv, F, other, kept, t, r, rfl, RF.mono s16 fun _ _ r => r.mono s16, hother, backs, by omega, er, fun D7 H7 hD7 s7 RS => ?_⟩
      obtain ⟨D7', ys, e7, h7, al7⟩ := RS
      cases e7
      refine ⟨l1, D7, _, _, rfl, rfl, s7 _ _ upd_same, h7, ?_, fun w' hw' => ?_⟩
      · rw [al7.1, turnS_len]
        exact small (by show 1 + (r.length + 1) ≤ 100000; omega)
      have s17 := s16.trans s7
      refine q w' _ _ (s17.free hw') (s17.trans (same_new hw')) ⟨w', _, rfl, upd_same, ?_⟩ HI (by rw [List.length_cons, turnS_len]; omega)
      exact cons_steps (s7 _ _ ((same_new hl1) _ _ upd_same))  al7 (same_new hw')
    · obtain ⟨r, er, HI⟩ := BR.1 hw
      have hrl := chainT_len (F := F) one one
      rw [er, List.length_cons] at hrl
      rw [decide_eq_false (show ¬ V.int (pw ts hh c kept x n : Int) = V.int (endF ts x F one : Int) from fun z => hw (by injection z with z; omega))]
      refine iteT ⟨_, rfl, self, _, dx, _, _, rfl, s14 _ _ h1, T.c_Fan, T.n_Fan_place, rfl, _, rfl, _, rfl, (by show 4 ≤ sizeLine; decide), fun p1 hp1 => ⟨by show 1 ≤ sizeLine; decide, fun l1 hl1 => ?_⟩⟩
      have s5 : Same H4 (upd H4 p1 (.tup (stepV (.row x c kept)))) := same_new hp1
      have s6 := s5.trans (same_new (o := .lst [.ref p1]) hl1)
      have s16 := s14.trans s6
      refine ⟨_, rfl, self, _, dx, _, _, rfl, s16 _ _ h1, T.c_Fan, T.n_Fan_fan, rfl, _, rfl, _, rfl, fv, F, one, c, t, r, rfl, RF.mono s16 fun _ _ r => r.mono s16, hone, backs, by omega, er, fun D7 H7 hD7 s7 RS => ?_⟩
      obtain ⟨D7', ys, e7, h7, al7⟩ := RS
      cases e7
      refine ⟨l1, D7, _, _, rfl, rfl, s7 _ _ upd_same, h7, ?_, fun w' hw' => ?_⟩
      · rw [al7.1, turnS_len]
        exact small (by show 1 + (r.length + 1) ≤ 100000; omega)
      have s17 := s16.trans s7
      refine q w' _ _ (s17.free hw') (s17.trans (same_new hw')) ⟨w', _, rfl, upd_same, ?_⟩ HI (by rw [List.length_cons, turnS_len]; omega)
      exact cons_steps (s7 _ _ ((same_new hl1) _ _ upd_same))  al7 (same_new hw')
/-! ### Fan.steps -/
abbrev N_Fan_steps : List Str := ["self", "found"]
theorem sc_Fan_steps : FnScope N_Fan_steps ["self"] (defScope s_Fan_steps) := ⟨rfl, rfl, rfl, by decide +kernel, rfl, by decide +kernel, by decide +kernel⟩
def sp_Fan_steps (K : PySem.W.Frag) : Sp := fun vs H Q _ => ∃ (self : Addr) (m k x t : Nat) (ts : List Tie) (h : Hue) (F : FanL), vs = [.ref self] ∧ FanO K H self m ts h k x F ∧ FanCx m ts h k x t F ∧
  ∀ D H' ss, H D = none → Same H H' → LstR (StepR H') H' (.ref D) ss → HuedIn m ts h t k ss → ss.length ≤ 2000 → Q (.ref D) H'
theorem ok_Fan_steps (T : Tx P w K mg base) : Has P w K mg base 7 ("Fan", some "steps") ["self"] (sp_Fan_steps K) := by
  obtain ⟨fd_Fan_at_once, G_Fan_at_once, b_Fan_at_once, k_Fan_at_once⟩ := ok_Fan_at_once (P := P) (w := w) (base := base) T
  obtain ⟨fd_Fan_by_row, G_Fan_by_row, b_Fan_by_row, k_Fan_by_row⟩ := ok_Fan_by_row (P := P) (w := w) (base := base) T
  refine mkHas T 45 (d := d_Fan_steps) rfl sc_Fan_steps rfl rfl (fun us hl => match us, hl with | [_], _ => fun _ _ _ _ _ _ => rfl) (fun vs H Q E => ?_) (fun cdv A outer s H vs Q E hr h => ?_)
  · walk_at "len"
  · have hU := hu_of hr
    refine ⟨_, PSs.nox (pss_cons (ps_set (i := 1) sc_Fan_steps.nd rfl (Or.inl rfl) (pe_meth0 (pv 0) T.c_Fan T.m_Fan_at_once G_Fan_at_once (hr.mono (by decide)) b_Fan_at_once .nil pass0))
    (pss_one (ps_ret (pe_ifExp (pt_cmpR op_isN (pv 1) pe_non (nomark _)) (pe_meth0 (pv 0) T.c_Fan T.m_Fan_by_row G_Fan_by_row (hr.mono (by decide)) b_Fan_by_row .nil pass0) (pv 1))))), ?_⟩
    obtain ⟨self, m, k, x, t, ts, hh, F, rfl, FO, C, q⟩ := h
    have FO0 := FO
    obtain ⟨dx, v, hv, fv, ev, av, rv, h1, _⟩ := FO
    refine ⟨_, rfl, self, dx, _, rfl, h1, rfl, self, m, k, x, t, ts, hh, F, rfl, FO0, C, fun H1 s1 no => ?_, fun D H1 ss hD s1 RS HI HL => ?_⟩
    · refine ⟨_, rfl, rfl, true, rfl, iteT ⟨_, rfl, self, dx, _, rfl, s1 _ _ h1, rfl, self, m, k, x, t, ts, hh, F, rfl, FO0.mono s1, C, no, fun D H2 ss hD s2 RS HI HL => ?_⟩⟩
      exact q D H2 ss (s1.free hD) (s1.trans s2) RS HI HL
    · refine ⟨_, rfl, rfl, false, rfl, iteF ⟨_, rfl, q D H1 ss hD s1 RS HI HL⟩⟩
/-! ### hued_in -/
abbrev N_hued_in : List Str := ["web", "hueing", "tie", "hues", "one", "other", "shared"]
theorem sc_hued_in : FnScope N_hued_in ["web", "hueing", "tie", "hues"] (defScope s_hued_in) := ⟨rfl, rfl, rfl, by decide +kernel, rfl, by decide +kernel, by decide +kernel⟩
def sp_hued_in (K : PySem.W.Frag) : Sp := fun vs H Q _ => ∃ (v hv : V) (m t k : Nat) (ts : List Tie) (h : Hue), vs = [v, hv, vn t, vn k] ∧ WebR H v m ts ∧ HueR H hv h ∧ WebOk m ts ∧ Proper ts h ∧ Below h k ∧ t < ts.length ∧ hu h t = none ∧ mostAt m ts + thick ts ≤ k ∧ k ≤ 5000 ∧
  ∀ D H' ss, H D = none → Same H H' → LstR (StepR H') H' (.ref D) ss → HuedIn m ts h t k ss → ss.length ≤ 2000 → Q (.ref D) H'
theorem hue_plays {m : Nat} {ts : List Tie} {h : Hue} {k t x c : Nat} (W : WebOk m ts) (Pr : Proper ts h) (B : Below h k) (ht : t < ts.length) (hn : hu h t = none) (hx : inc (en ts t) x = true) (h1 : lacks ts h x c) (h2 : lacks ts h (far ts t x) c) (hc : c < k) : HuedIn m ts h t k [.hue t c] := by
  obtain ⟨p1, p2, p3, p4⟩ := turn_plays W [] t h Pr (fun z hz => by rw [List.mem_singleton.mp hz]; exact ⟨ht, hx⟩) (by simp) hn h1 h2
  exact ⟨_, p1, p2, p4 k B hc, p3⟩
theorem ok_hued_in (T : Tx P w K mg base) : Has P w K mg base 9 ("hued_in", none) ["web", "hueing", "tie", "hues"] (sp_hued_in K) := by
  obtain ⟨fd_look_hues_enough, G_look_hues_enough, b_look_hues_enough, k_look_hues_enough⟩ := ok_look_hues_enough (P := P) (w := w) (base := base) T
  obtain ⟨fd_shared_first, G_shared_first, b_shared_first, k_shared_first⟩ := ok_shared_first (P := P) (w := w) (base := base) T
  obtain ⟨fd_free_at, G_free_at, b_free_at, k_free_at⟩ := ok_free_at (P := P) (w := w) (base := base) T
  obtain ⟨fd_Fan_steps, G_Fan_steps, b_Fan_steps, k_Fan_steps⟩ := ok_Fan_steps (P := P) (w := w) (base := base) T
  obtain ⟨fd_Fan_init, G_Fan_init, b_Fan_init, k_Fan_init⟩ := ok_Fan_init (P := P) (w := w) (base := base) T
  refine mkHas T 47 (d := d_hued_in) rfl sc_hued_in rfl rfl (fun us hl => match us, hl with | [_, _, _, _], _ => fun _ _ _ _ _ _ => rfl) (fun vs H Q E => ?_) (fun cdv A outer s H vs Q E hr h => ?_)
  · walk_at "len"
  · have hU := hu_of hr
    refine ⟨_, PSs.nox (pss_cons (ps_if (pt_not (pt_chain op_le op_lt pe_int (pv 2) (pe_callB call_len_seq (by rfl) T.b_len (by decide +kernel) (pa_cons (pe_ix ix_tup (pv 0) pe_int (fun _ _ => rfl)) pa_nil)))) (pss_one ps_never) pss_nil)
    (pss_cons (ps_expr (pe_call G_look_hues_enough (hr.mono (by decide)) rfl T.g_look_hues_enough k_look_hues_enough b_look_hues_enough .nil pass0 (pa_cons (pv 0) (pa_cons (pv 3) pa_nil))))
    (pss_cons (ps_if (pt_cmpR op_notN (pe_ix ix_list (pv 1) (pv 2) (fun _ _ => rfl)) pe_non (nomark _)) (pss_one (ps_ret (pe_lst pa_nil))) pss_nil)
    (pss_cons (ps_asg (pe_ix ix_tup (pe_ix ix_tup (pv 0) pe_int (fun _ _ => rfl)) (pv 2) (fun _ _ => rfl)) (pg_tup rfl (pgs_cons (pg_name (i := 4) sc_hued_in.nd rfl (Or.inl rfl)) (pgs_cons (pg_name (i := 5) sc_hued_in.nd rfl (Or.inl rfl)) pgs_nil))))
    (pss_cons (ps_set (i := 6) sc_hued_in.nd rfl (Or.inl rfl) (pe_call G_shared_first (hr.mono (by decide)) rfl T.g_shared_first k_shared_first b_shared_first .nil pass0 (pa_cons (pe_lst (pa_cons (pe_call G_free_at (hr.mono (by decide)) rfl T.g_free_at k_free_at b_free_at .nil pass0 (pa_cons (pv 0) (pa_cons (pv 1) (pa_cons (pv 4) (pa_cons (pv 3) pa_nil))))) (pa_cons (pe_call G_free_at (hr.mono (by decide)) rfl T.g_free_at k_free_at b_free_at .nil pass0 (pa_cons (pv 0) (pa_cons (pv 1) (pa_cons (pv 5) (pa_cons (pv 3) pa_nil))))) pa_nil))) pa_nil)))
    (pss_cons (ps_if (pt_cmpR op_notN (pv 6) pe_non (nomark _)) (pss_one (ps_ret (pe_lst (pa_cons (pe_tup (pa_cons pe_str (pa_cons (pv 2) (pa_cons (pe_ix ix_tup (pv 6) pe_int (fun _ _ => rfl)) pa_nil)))) pa_nil)))) pss_nil)
    (pss_one (ps_ret (pe_meth0 (pe_make T.mk_Fan G_Fan_init (hr.mono (by decide)) rfl T.g_Fan b_Fan_init .nil pass0 (pa_cons (pv 0) (pa_cons (pv 1) (pa_cons (pv 2) (pa_cons (pv 3) pa_nil))))) T.c_Fan T.m_Fan_steps G_Fan_steps (hr.mono (by decide)) b_Fan_steps .nil pass0))))))))), ?_⟩
    obtain ⟨v, hv, m, t, k, ts, hh, rfl, W, R0, O, Pr, B, ht, hn, hk, hf, q⟩ := h
    have hz := O.len
    have R1 := R0
    obtain ⟨ad, rfl, ha⟩ := R1
    have W0 := W
    obtain ⟨aw, b, rfl, hw, b', ps, e, hts, hpl, hpr⟩ := W
    cases e
    obtain ⟨_, e1, p1, rfl, h1⟩ := Al.get (α := Tie) ⟨hpl, hpr⟩ (getD_some (d := (0, 0)) ht)
    have gt := atI_nat (hue_get (h := hh) (i := t) (by rw [Pr.1]; exact ht))
    rw [hn] at gt
    have hx : inc (en ts t) (en ts t).1 = true := inc_iff.mpr (.inl rfl)
    have hx2 : inc (en ts t) (en ts t).2 = true := inc_iff.mpr (.inr rfl)
    have hfar : far ts t (en ts t).1 = (en ts t).2 := by
      unfold far
      rw [if_pos rfl]
    refine ⟨_, rfl, _, _, rfl, rfl, _, rfl, ?_⟩
    rw [decide_eq_true (show (0 : Int) ≤ (t : Int) by omega)]
    refine iteT ⟨_, rfl, aw, _, 1, _, rfl, rfl, .of hw, rfl, b, ps, rfl, .inr (.of hts), _, _, rfl, rfl, _, rfl, ?_⟩
    rw [decide_eq_true (show (t : Int) < ((ps.length : Nat) : Int) by omega)]
    refine iteF ⟨_, rfl, _, rfl, _, m, k, ts, rfl, W0, O, hk, fun H1 s1 => ?_⟩
    refine ⟨_, rfl, _, rfl, ad, _, _, _, rfl, rfl, .of (s1 _ _ ha), gt, rfl, false, rfl, iteF ?_⟩
    refine ⟨_, rfl, aw, _, 1, _, rfl, rfl, .of (s1 _ _ hw), rfl, _, rfl, b, ps, _, _, rfl, rfl, .of (s1 _ _ hts), atI_nat e1, p1, _, rfl, .of (s1 _ _ h1), rfl, _, _, rfl, _, _, rfl, rfl, ?_⟩
    refine ⟨_, rfl, _, rfl, _, rfl, _, rfl, _, _, m, _, k, ts, hh, rfl, W0.mono s1, R0.mono s1, Pr.1, inc_lt O ht hx, hz, hf, fun A H2 hA s2 a2 => ?_⟩
    have s12 := s1.trans s2
    refine ⟨_, rfl, _, rfl, _, rfl, _, rfl, _, _, m, _, k, ts, hh, rfl, W0.mono s12, R0.mono s12, Pr.1, inc_lt O ht hx2, hz, hf, fun B2 H3 hB s3 b3 => ⟨by show 2 ≤ sizeLine; decide, fun L hL => ?_⟩⟩
    have s13 := s12.trans s3
    have s4 : Same H3 (upd H3 L (.lst [.ref A, .ref B2])) := same_new hL
    have s14 := s13.trans s4
    have RL : LstR (NatR (upd H3 L (.lst [.ref A, .ref B2]))) (upd H3 L (.lst [.ref A, .ref B2])) (.ref L) [freeAt ts hh (en ts t).1 k, freeAt ts hh (en ts t).2 k] := by
      refine ⟨L, _, rfl, upd_same, ?_⟩
      refine Al.snoc (vs := [.ref A]) (xs := [freeAt ts hh (en ts t).1 k]) (Al.snoc Al.nil ⟨A, rfl, s4 _ _ (s3 _ _ a2)⟩) ⟨B2, rfl, s4 _ _ b3⟩
    refine ⟨_, _, rfl, RL, by show 2 ≤ 3000; decide, fun H5 v5 s5 sv => ?_⟩
    have s15 := s14.trans s5
    rcases sv with ⟨rfl, hno⟩ | ⟨p, one, other, c, r1, r2, rfl, hp, hlt, f1, f2, c1, c2, hfst⟩
    · refine ⟨_, rfl, rfl, false, rfl, iteF ?_⟩
      refine ⟨_, rfl, _, rfl, _, rfl, _, rfl, fun x dx hx0 hdx hne => ?_⟩
      have sx : Same H5 (upd (upd H5 dx (.own x)) x (.ins (He.ga K "Fan") dx [])) := by
        refine (same_new hdx).trans (same_new ?_)
        rw [upd_ne hne.symm]
        exact hx0
      refine ⟨x, dx, _, _, m, t, k, ts, hh, H5, rfl, upd_same, sx, hx0, W0.mono s15, R0.mono s15, O, Pr.1, ht, hn, hf, fun H6 F s6 FO FOk FM => ⟨rfl, ?_⟩⟩
      have hFO := FO
      obtain ⟨dx2, v2, hv2, fv, ev, av, rv, i6, _⟩ := FO
      refine ⟨x, dx2, _, rfl, i6, rfl, x, m, k, (en ts t).1, t, ts, hh, F, rfl, hFO, ⟨O, Pr, B, ht, hx, hn, hk, hf, FOk, FM⟩, fun D H7 ss hD s7 RS HI HL => ?_⟩
      exact q D H7 ss (s15.free (s6.free hD)) ((s15.trans s6).trans s7) RS HI HL
    · have key : one = 0 ∧ other = 1 := by
        have h1 := (List.getElem?_eq_some_iff.mp f2).1
        have h2 : other < 2 := h1
        omega
      obtain ⟨rfl, rfl⟩ := key
      cases f1
      cases f2
      refine ⟨_, rfl, rfl, true, rfl, iteT ?_⟩
      refine ⟨_, rfl, _, rfl, p, _, 2, _, rfl, rfl, .of hp, rfl, (by show 3 ≤ sizeLine; decide), fun w1 hw1 => ⟨by show 1 ≤ sizeLine; decide, fun w2 hw2 => ?_⟩⟩
      have s6 : Same H5 (upd H5 w1 (.tup (stepV (.hue t c)))) := same_new hw1
      refine q w2 _ [.hue t c] (s15.free (s6.free hw2)) ((s15.trans s6).trans (same_new hw2)) ⟨w2, _, rfl, upd_same, ?_⟩ ?_ (by show 1 ≤ 2000; decide)
      · exact Al.snoc Al.nil ⟨w1, rfl, (same_new hw2) _ _ upd_same⟩
      · obtain ⟨k1, l1⟩ := mem_freeAt.mp c1
        obtain ⟨k2, l2⟩ := mem_freeAt.mp c2
        exact hue_plays O Pr B ht hn hx l1 (by rw [hfar]; exact l2) k1
end
end Hu
end

/-! ## HuTied -/
section
set_option maxHeartbeats 4000000
set_option autoImplicit true
namespace Hu
open PySem PySem.Spec PyProof.Rows L2
/-! ### dicts by whole numbers -/
def dK (ns : List Nat) (vs : List V) : List (Key × V) := (ns.zip vs).map fun p => (Sum.inl (p.1 : Int), p.2)
theorem dK_cons {n : Nat} {ns : List Nat} {v : V} {vs : List V} : dK (n :: ns) (v :: vs) = (Sum.inl (n : Int), v) :: dK ns vs := rfl
theorem inl_ne {a b : Nat} (h : a ≠ b) : ¬ (Sum.inl (a : Int) : Key) = Sum.inl (b : Int) := fun z => by
  injection z with z
  omega
theorem valV_dK : ∀ {ns : List Nat} {vs : List V} {i n : Nat} {v : V}, ns.Nodup → ns[i]? = some n → vs[i]? = some v → valV (dK ns vs) (Sum.inl (n : Int)) = some v
  | [], _, i, _, _, _, h, _ => by simp at h
  | _ :: _, [], i, _, _, _, _, h => by simp at h
  | a :: ns, w :: vs, 0, n, v, nd, h1, h2 => by
    obtain rfl : a = n := Option.some.inj h1
    obtain rfl : w = v := Option.some.inj h2
    exact valV_pos rfl
  | a :: ns, w :: vs, i + 1, n, v, nd, h1, h2 => by
    obtain ⟨n1, n2⟩ := List.nodup_cons.mp nd
    have hn : n ∈ ns := List.mem_of_getElem? (show ns[i]? = some n from h1)
    rw [dK_cons, valV_neg (inl_ne (a := a) (b := n) fun z => n1 (by rw [z]; exact hn))]
    exact valV_dK n2 h1 h2
theorem valV_dK_none : ∀ {ns : List Nat} {vs : List V} {n : Nat}, n ∉ ns → valV (dK ns vs) (Sum.inl (n : Int)) = none
  | [], _, _, _ => rfl
  | _ :: _, [], _, _ => rfl
  | a :: ns, w :: vs, n, h => by
    rw [dK_cons, valV_neg (inl_ne fun z => h (by rw [z]; exact List.mem_cons_self))]
    exact valV_dK_none fun z => h (List.mem_cons_of_mem _ z)
theorem put_new {ns : List Nat} {vs : List V} {n : Nat} {v : V} (hl : ns.length = vs.length) (hn : n ∉ ns) : putK (dK ns vs) (Sum.inl (n : Int)) v = dK (ns ++ [n]) (vs ++ [v]) := by
  rw [putK_new _ (valV_dK_none hn)]
  unfold dK
  rw [List.zip_append hl, List.map_append]
  rfl
theorem putK_cons_eq {k : Key} {v w : V} {r : List (Key × V)} (h : ∀ q ∈ r, q.1 ≠ k) : putK ((k, w) :: r) k v = (k, v) :: r := by
  unfold putK
  rw [if_pos (by simp)]
  rw [List.map_cons, if_pos rfl]
  congr 1
  refine (List.map_congr_left fun q hq => ?_).trans (List.map_id _)
  rw [if_neg (h q hq)]
  rfl
theorem putK_cons_ne {k k' : Key} {v w : V} {r : List (Key × V)} (h : k' ≠ k) : putK ((k', w) :: r) k v = (k', w) :: putK r k v := by
  unfold putK
  rw [List.any_cons, decide_eq_false h, Bool.false_or]
  by_cases q : (r.any fun kv => decide (kv.1 = k)) = true
  · rw [if_pos q, if_pos q, List.map_cons, if_neg h]
  · rw [if_neg q, if_neg q]
    rfl
theorem dK_keys_mem {ns : List Nat} {vs : List V} {q : Key × V} (h : q ∈ dK ns vs) : ∃ n, n ∈ ns ∧ q.1 = Sum.inl (n : Int) := by
  unfold dK at h
  obtain ⟨p, hp, rfl⟩ := List.mem_map.mp h
  exact ⟨p.1, (List.of_mem_zip hp).1, rfl⟩
theorem put_at : ∀ {ns : List Nat} {vs : List V} {i n : Nat} {v : V}, ns.Nodup → ns.length = vs.length → ns[i]? = some n → putK (dK ns vs) (Sum.inl (n : Int)) v = dK ns (vs.set i v)
  | [], _, i, _, _, _, _, h => by simp at h
  | _ :: _, [], i, _, _, _, h, _ => by simp at h
  | a :: ns, w :: vs, 0, n, v, nd, hl, h1 => by
    obtain rfl : a = n := Option.some.inj h1
    obtain ⟨n1, n2⟩ := List.nodup_cons.mp nd
    rw [dK_cons, putK_cons_eq fun q hq => ?_]
    · rfl
    · obtain ⟨m, hm, e⟩ := dK_keys_mem hq
      rw [e]
      exact inl_ne fun z => n1 (z ▸ hm)
  | a :: ns, w :: vs, i + 1, n, v, nd, hl, h1 => by
    obtain ⟨n1, n2⟩ := List.nodup_cons.mp nd
    have hn : n ∈ ns := List.mem_of_getElem? (show ns[i]? = some n from h1)
    rw [dK_cons, putK_cons_ne (inl_ne (a := a) (b := n) fun z => n1 (by rw [z]; exact hn)), put_at n2 (by simpa using hl) h1]
    rfl
theorem drop_at : ∀ {ns : List Nat} {vs : List V} {i n : Nat}, ns.Nodup → ns.length = vs.length → ns[i]? = some n → dropK (dK ns vs) (Sum.inl (n : Int)) = dK (ns.eraseIdx i) (vs.eraseIdx i)
  | [], _, i, _, _, _, h => by simp at h
  | _ :: _, [], i, _, _, h, _ => by simp at h
  | a :: ns, w :: vs, 0, n, nd, hl, h1 => by
    obtain rfl : a = n := Option.some.inj h1
    obtain ⟨n1, n2⟩ := List.nodup_cons.mp nd
    show List.filter _ ((Sum.inl (a : Int), w) :: dK ns vs) = dK ns vs
    rw [List.filter_cons_of_neg (by simp)]
    refine List.filter_eq_self.mpr fun q hq => ?_
    obtain ⟨m, hm, e⟩ := dK_keys_mem hq
    exact decide_eq_true (by rw [e]; exact inl_ne fun z => n1 (z ▸ hm))
  | a :: ns, w :: vs, i + 1, n, nd, hl, h1 => by
    obtain ⟨n1, n2⟩ := List.nodup_cons.mp nd
    have hn : n ∈ ns := List.mem_of_getElem? (show ns[i]? = some n from h1)
    show List.filter _ ((Sum.inl (a : Int), w) :: dK ns vs) = (Sum.inl (a : Int), w) :: dK (ns.eraseIdx i) (vs.eraseIdx i)
    rw [List.filter_cons_of_pos (p := fun kv : Key × V => decide (kv.1 ≠ Sum.inl (n : Int))) (decide_eq_true (inl_ne (a := a) (b := n) fun z => n1 (by rw [z]; exact hn)))]
    congr 1
    exact drop_at n2 (by simpa using hl) h1
theorem dK_keys : ∀ {ns : List Nat} {vs : List V}, ns.length = vs.length → (dK ns vs).map (·.1) = (ns.map fun n : Nat => (n : Int)).map Sum.inl
  | [], [], _ => rfl
  | a :: ns, w :: vs, h => by
    rw [dK_cons, List.map_cons, dK_keys (by simpa using h)]
    rfl
theorem dK_len {ns : List Nat} {vs : List V} (h : ns.length = vs.length) : (dK ns vs).length = ns.length := by
  unfold dK
  rw [List.length_map, List.length_zip, ← h, Nat.min_self]
theorem sorted_is {ns : List Nat} {ys : List Int} (h1 : ys.Perm (ns.map fun n : Nat => (n : Int))) (h2 : ys.Pairwise (· ≤ ·)) (h3 : ns.Pairwise (· < ·)) : ys = ns.map fun n : Nat => (n : Int) := by
  refine List.Perm.eq_of_pairwise (le := (· ≤ ·)) (fun a b _ _ h h' => Int.le_antisymm h h') h2 ?_ h1
  refine List.pairwise_map.mpr (h3.imp fun h => ?_)
  omega
theorem asc_nodup {ns : List Nat} (h : ns.Pairwise (· < ·)) : ns.Nodup := h.imp fun h => Nat.ne_of_lt h
/-! ### one tie more -/
section
variable {m : Nat} {ts : List Tie} {t : Tie} {h : Hue}
theorem en_app {i : Nat} (hi : i < ts.length) : en (ts ++ [t]) i = en ts i := by
  show (ts ++ [t]).getD i (0, 0) = ts.getD i (0, 0)
  rw [List.getD_eq_getElem?_getD, List.getD_eq_getElem?_getD, List.getElem?_append_left hi]
theorem en_last : en (ts ++ [t]) ts.length = t := by
  show (ts ++ [t]).getD ts.length (0, 0) = t
  rw [List.getD_eq_getElem?_getD, List.getElem?_append_right (Nat.le_refl _), Nat.sub_self]
  rfl
theorem hu_app {i : Nat} (hi : i < h.length) : hu (h ++ [none]) i = hu h i := by
  unfold hu
  rw [List.getD_eq_getElem?_getD, List.getD_eq_getElem?_getD, List.getElem?_append_left hi]
theorem hu_last : hu (h ++ [none]) h.length = none := by
  unfold hu
  rw [List.getD_eq_getElem?_getD, List.getElem?_append_right (Nat.le_refl _), Nat.sub_self]
  rfl
theorem hu_app_some {i c : Nat} (e : hu (h ++ [none]) i = some c) : i < h.length ∧ hu h i = some c := by
  have h1 := hu_lt e
  rw [List.length_append, List.length_singleton] at h1
  by_cases q : i < h.length
  · rw [hu_app q] at e
    exact ⟨q, e⟩
  · have : i = h.length := by omega
    rw [this, hu_last] at e
    cases e
theorem proper_app (Pr : Proper ts h) : Proper (ts ++ [t]) (h ++ [none]) := by
  refine ⟨by rw [List.length_append, List.length_append, Pr.1]; rfl, fun i j p c hi hj hip hjp ei ej => ?_⟩
  obtain ⟨i1, i2⟩ := hu_app_some ei
  obtain ⟨j1, j2⟩ := hu_app_some ej
  rw [Pr.1] at i1 j1
  rw [en_app i1] at hip
  rw [en_app j1] at hjp
  exact Pr.2 i j p c i1 j1 hip hjp i2 j2
theorem below_app {k k' : Nat} (B : Below h k) (hk : k ≤ k') : Below (h ++ [none]) k' := fun i c e => Nat.lt_of_lt_of_le (B i c (hu_app_some e).2) hk
theorem web_app (W : WebOk m ts) (h1 : t.1 < t.2) (h2 : t.2 < m) (hl : ts.length < 1000) : WebOk m (ts ++ [t]) := by
  refine ⟨W.many, by rw [List.length_append, List.length_singleton]; omega, fun u hu1 => ?_⟩
  rcases List.mem_append.mp hu1 with q | q
  · exact W.ok u q
  · rw [List.mem_singleton.mp q]
    exact ⟨h1, h2⟩
theorem tiesAt_app {p : Nat} : (tiesAt ts p).length ≤ (tiesAt (ts ++ [t]) p).length := by
  refine List.Nodup.length_le_of_subset (List.Pairwise.filter _ List.nodup_range) fun i hi => ?_
  obtain ⟨h1, h2⟩ := mem_tiesAt.mp hi
  exact mem_tiesAt.mpr ⟨by rw [List.length_append]; omega, by rw [en_app h1]; exact h2⟩
theorem maxL_le {l : List Nat} {b : Nat} (h : ∀ y ∈ l, y ≤ b) : maxL l ≤ b := by
  by_cases q : l = []
  · rw [q]
    exact Nat.zero_le _
  · exact h _ (maxL_in q)
theorem mostAt_app : mostAt m ts ≤ mostAt m (ts ++ [t]) := by
  refine maxL_le fun y hy => ?_
  obtain ⟨p, hp, rfl⟩ := List.mem_map.mp hy
  exact Nat.le_trans tiesAt_app (le_maxL (List.mem_map.mpr ⟨p, hp, rfl⟩))
theorem thick_app : thick ts ≤ thick (ts ++ [t]) := by
  refine maxL_le fun y hy => ?_
  obtain ⟨u, hu1, rfl⟩ := List.mem_map.mp hy
  refine Nat.le_trans ?_ (le_maxL (List.mem_map.mpr ⟨u, List.mem_append_left _ hu1, rfl⟩))
  rw [List.count_append]
  exact Nat.le_add_right _ _
theorem mostAt_le : mostAt m ts ≤ ts.length := by
  refine maxL_le fun y hy => ?_
  obtain ⟨p, hp, rfl⟩ := List.mem_map.mp hy
  have := List.length_filter_le (fun i => inc (en ts i) p) (List.range ts.length)
  rw [List.length_range] at this
  exact this
theorem thick_le : thick ts ≤ ts.length := by
  refine maxL_le fun y hy => ?_
  obtain ⟨p, hp, rfl⟩ := List.mem_map.mp hy
  exact List.count_le_length
theorem full_of {h' : Hue} (Fl : Full h) (hh : ∀ i, hu h' i = none ↔ hu (h ++ [none]) i = none ∧ i ≠ h.length) (hl : h'.length = h.length + 1) : Full h' := by
  intro i hi e
  obtain ⟨e1, e2⟩ := (hh i).mp e
  have h1 : i < h.length := by omega
  rw [hu_app h1] at e1
  exact Fl i h1 e1
end
/-- numbers, ties and hues that go together -/
structure Nums (ns : List Nat) (ts : List Tie) (h : Hue) (g : Nat) : Prop where
  asc : ns.Pairwise (· < ·)
  lt : ∀ n, n ∈ ns → n < g
  l1 : ns.length = ts.length
  l2 : ns.length = h.length
  few : ns.length ≤ 60
abbrev tiedFs (m : Nat) (E U : Addr) (g b : Nat) (P : Addr) : List (Str × V) := [(Str.ofString "many", vn m), (Str.ofString "ends", .ref E), (Str.ofString "hues", .ref U), (Str.ofString "given", vn g), (Str.ofString "bound", vn b), (Str.ofString "past", .ref P)]
structure Own where
  self : Addr
  E : Addr
  U : Addr
  P : Addr
  dx : Addr
def Own.l (o : Own) : List Addr := [o.self, o.E, o.U, o.P]
structure TiedO (K : PySem.W.Frag) (H : Hp) (o : Own) (m : Nat) (ns : List Nat) (ts : List Tie) (h : Hue) (g b pl : Nat) : Prop where
  ins : H o.self = some (.ins (He.ga K "Tied") o.dx (tiedFs m o.E o.U g b o.P))
  ends : ∃ vs, H o.E = some (.dK (dK ns vs)) ∧ Al (TieR H) vs ts
  hues : H o.U = some (.dK (dK ns (h.map vo)))
  past : ∃ ys, H o.P = some (.lst ys) ∧ ys.length = pl
  ne : o.E ≠ o.U
  nums : Nums ns ts h g
theorem TiedO.mono {K : PySem.W.Frag} {H H' : Hp} {o : Own} {m : Nat} {ns : List Nat} {ts : List Tie} {h : Hue} {g b pl : Nat} (s : Same H H') (O : TiedO K H o m ns ts h g b pl) : TiedO K H' o m ns ts h g b pl :=
  ⟨s _ _ O.ins, let ⟨vs, a, c⟩ := O.ends; ⟨vs, s _ _ a, c.mono fun _ _ r => r.mono s⟩, s _ _ O.hues, let ⟨ys, a, c⟩ := O.past; ⟨ys, s _ _ a, c⟩, O.ne, O.nums⟩
/-- what is not a Tied's own stays -/
def Keeps (o : Own) (H H' : Hp) : Prop := Same (dels H o.l) H'
theorem Keeps.of {o : Own} {H H' : Hp} (s : Same H H') : Keeps o H H' := dels_same.trans s
theorem Keeps.trans {o : Own} {H H1 H' : Hp} (a : Keeps o H H1) (b : Keeps o H1 H') : Keeps o H H' := (dels_of a fun p hp => by unfold dels; rw [if_pos hp]).trans b
theorem Keeps.upd {o : Own} {H H1 : Hp} {p : Addr} {x : HO} (a : Keeps o H H1) (hp : p ∈ o.l) : Keeps o H (upd H1 p x) := same_mut a (by unfold dels; rw [if_pos hp])
theorem Keeps.base {o : Own} {H0 H H' : Hp} (k : Keeps o H H') (s : Same H0 H) (h : ∀ p ∈ o.l, H0 p = none) : Same H0 H' := (dels_of s h).trans k
theorem dels_none {H : Hp} {l : List Addr} {p : Addr} (h : p ∈ l) : dels H l p = none := by
  unfold dels
  rw [if_pos h]
section
variable {K : PySem.W.Frag} {H : Hp} {o : Own} {m : Nat} {ns : List Nat} {ts : List Tie} {h : Hue} {g b pl : Nat}
theorem TiedO.notin (O : TiedO K H o m ns ts h g b pl) {p : Addr} {xs : List V} (e : H p = some (.tup xs)) : p ∉ o.l := by
  intro hp
  obtain ⟨vs, h1, _⟩ := O.ends
  obtain ⟨ys, h2, _⟩ := O.past
  have h3 := O.ins
  have h4 := O.hues
  unfold Own.l at hp
  simp only [List.mem_cons, List.not_mem_nil, or_false] at hp
  rcases hp with rfl | rfl | rfl | rfl
  · rw [e] at h3
    cases h3
  · rw [e] at h1
    cases h1
  · rw [e] at h4
    cases h4
  · rw [e] at h2
    cases h2
theorem TiedO.free (O : TiedO K H o m ns ts h g b pl) {p : Addr} (e : H p = none) : p ∉ o.l := by
  intro hp
  obtain ⟨vs, h1, _⟩ := O.ends
  obtain ⟨ys, h2, _⟩ := O.past
  have h3 := O.ins
  have h4 := O.hues
  unfold Own.l at hp
  simp only [List.mem_cons, List.not_mem_nil, or_false] at hp
  rcases hp with rfl | rfl | rfl | rfl
  · rw [e] at h3
    cases h3
  · rw [e] at h1
    cases h1
  · rw [e] at h4
    cases h4
  · rw [e] at h2
    cases h2
end
/-- lists and tuples stay -/
structure LT (H H' : Hp) : Prop where
  lst : ∀ p xs, H p = some (.lst xs) → H' p = some (.lst xs)
  tup : ∀ p xs, H p = some (.tup xs) → H' p = some (.tup xs)
theorem LT.of {H H' : Hp} (s : Same H H') : LT H H' := ⟨fun p xs e => s _ _ e, fun p xs e => s _ _ e⟩
theorem LT.trans {H H1 H' : Hp} (a : LT H H1) (b : LT H1 H') : LT H H' := ⟨fun p xs e => b.lst _ _ (a.lst _ _ e), fun p xs e => b.tup _ _ (a.tup _ _ e)⟩
theorem LT.ins {H : Hp} {a C dx : Addr} {fs : List (Str × V)} {x : HO} (i : H a = some (.ins C dx fs)) : LT H (upd H a x) := ⟨(fldTo i).lst, (fldTo i).tup⟩
theorem LT.dk {H : Hp} {a : Addr} {kvs : List (Key × V)} {x : HO} (i : H a = some (.dK kvs)) : LT H (upd H a x) := by
  refine ⟨fun p xs e => ?_, fun p xs e => ?_⟩ <;>
  · rw [upd_ne, e]
    rintro rfl
    rw [e] at i
    cases i
section
variable {H H' : Hp} {v : V}
theorem TieR.lt (i : LT H H') {e : Tie} (r : TieR H v e) : TieR H' v e := let ⟨p, x, y⟩ := r; ⟨p, x, i.tup _ _ y⟩
theorem StepR.lt (i : LT H H') {e : Step} (r : StepR H v e) : StepR H' v e := let ⟨p, x, y⟩ := r; ⟨p, x, i.tup _ _ y⟩
theorem NatR.lt (i : LT H H') {ns : List Nat} (r : NatR H v ns) : NatR H' v ns := let ⟨p, x, y⟩ := r; ⟨p, x, i.lst _ _ y⟩
theorem HueR.lt (i : LT H H') {ns : Hue} (r : HueR H v ns) : HueR H' v ns := let ⟨p, x, y⟩ := r; ⟨p, x, i.lst _ _ y⟩
theorem LstR.lt {α : Type} {R S : V → α → Prop} (i : LT H H') (f : ∀ v x, R v x → S v x) {xs : List α} (r : LstR R H v xs) : LstR S H' v xs := let ⟨p, vs, x, y, z⟩ := r; ⟨p, vs, x, i.lst _ _ y, z.mono f⟩
theorem WebR.lt (i : LT H H') {m : Nat} {ts : List Tie} (r : WebR H v m ts) : WebR H' v m ts :=
  let ⟨b, q, x, y, p, vs, z1, z2, z3⟩ := r; ⟨b, q, x, i.tup _ _ y, p, vs, z1, i.tup _ _ z2, z3.mono fun _ _ w => w.lt i⟩
end
theorem dget_at {H : Hp} {a : Addr} {ns : List Nat} {vs : List V} {i n : Nat} {v : V} (e : H a = some (.dK (dK ns vs))) (nd : ns.Nodup) (h1 : ns[i]? = some n) (h2 : vs[i]? = some v) : DGet H a (vn n) (some v) := by
  have := DGet.k (k := Sum.inl (n : Int)) e
  rw [valV_dK nd h1 h2] at this
  exact this
theorem Al.erase {α : Type} {R : V → α → Prop} {vs : List V} {xs : List α} (h : Al R vs xs) (i : Nat) : Al R (vs.eraseIdx i) (xs.eraseIdx i) := by
  refine ⟨by rw [List.length_eraseIdx, List.length_eraseIdx, h.1], fun j v x e1 e2 => ?_⟩
  rw [List.getElem?_eraseIdx] at e1 e2
  by_cases q : j < i
  · rw [if_pos q] at e1 e2
    exact h.2 j v x e1 e2
  · rw [if_neg q] at e1 e2
    exact h.2 (j + 1) v x e1 e2
theorem Nums.erase {ns : List Nat} {ts : List Tie} {h : Hue} {g : Nat} (N : Nums ns ts h g) (i : Nat) : Nums (ns.eraseIdx i) (ts.eraseIdx i) (h.eraseIdx i) g := by
  refine ⟨N.asc.sublist (List.eraseIdx_sublist _ _), fun n hn => N.lt n (List.mem_of_mem_eraseIdx hn), ?_, ?_, ?_⟩
  · rw [List.length_eraseIdx, List.length_eraseIdx, N.l1]
  · rw [List.length_eraseIdx, List.length_eraseIdx, N.l2]
  · have := N.few
    rw [List.length_eraseIdx]
    split <;> omega
theorem Nums.app {ns : List Nat} {ts : List Tie} {h : Hue} {g : Nat} (N : Nums ns ts h g) (t : Tie) (o : Option Nat) (hf : ns.length < 60) : Nums (ns ++ [g]) (ts ++ [t]) (h ++ [o]) (g + 1) := by
  refine ⟨?_, fun n hn => ?_, ?_, ?_, ?_⟩
  · refine List.pairwise_append.mpr ⟨N.asc, List.pairwise_singleton _ _, fun a ha b hb => ?_⟩
    rw [List.mem_singleton.mp hb]
    exact N.lt a ha
  · rcases List.mem_append.mp hn with q | q
    · exact Nat.lt_succ_of_lt (N.lt n q)
    · rw [List.mem_singleton.mp q]
      exact Nat.lt_succ_self _
  · rw [List.length_append, List.length_append, N.l1]
    rfl
  · rw [List.length_append, List.length_append, N.l2]
    rfl
  · rw [List.length_append]
    exact hf
section
variable {K : PySem.W.Frag} {H : Hp} {o : Own} {m : Nat} {ns : List Nat} {ts : List Tie} {h : Hue} {g b pl : Nat}
theorem TiedO.nsE (O : TiedO K H o m ns ts h g b pl) : o.self ≠ o.E ∧ o.self ≠ o.U ∧ o.self ≠ o.P ∧ o.E ≠ o.P ∧ o.U ≠ o.P := by
  obtain ⟨vs, h1, _⟩ := O.ends
  obtain ⟨ys, h2, _⟩ := O.past
  have h3 := O.ins
  have h4 := O.hues
  refine ⟨fun z => ?_, fun z => ?_, fun z => ?_, fun z => ?_, fun z => ?_⟩
  · rw [z, h1] at h3
    cases h3
  · rw [z, h4] at h3
    cases h3
  · rw [z, h2] at h3
    cases h3
  · rw [z, h2] at h1
    cases h1
  · rw [z, h2] at h4
    cases h4
theorem Own.self_mem : o.self ∈ o.l := by unfold Own.l; simp
theorem Own.E_mem : o.E ∈ o.l := by unfold Own.l; simp
theorem Own.U_mem : o.U ∈ o.l := by unfold Own.l; simp
theorem Own.P_mem : o.P ∈ o.l := by unfold Own.l; simp
/-- a field of its own comes to be another number -/
theorem TiedO.field (O : TiedO K H o m ns ts h g b pl) {g' b' : Nat} (hg : g ≤ g') : TiedO K (upd H o.self (.ins (He.ga K "Tied") o.dx (tiedFs m o.E o.U g' b' o.P))) o m ns ts h g' b' pl := by
  obtain ⟨vs, h1, h1'⟩ := O.ends
  obtain ⟨ys, h2, h2'⟩ := O.past
  obtain ⟨n1, n2, n3, n4, n5⟩ := O.nsE
  refine ⟨upd_same, ⟨vs, by rw [upd_ne n1.symm]; exact h1, h1'.mono fun _ _ r => r.lt (.ins O.ins)⟩, by rw [upd_ne n2.symm]; exact O.hues, ⟨ys, by rw [upd_ne n3.symm]; exact h2, h2'⟩, O.ne, ⟨O.nums.asc, fun n hn => Nat.lt_of_lt_of_le (O.nums.lt n hn) hg, O.nums.l1, O.nums.l2, O.nums.few⟩⟩
theorem TiedO.put2 (O : TiedO K H o m ns ts h g b pl) {ns' : List Nat} {vs' : List V} {ts' : List Tie} {h' : Hue} (al : Al (TieR H) vs' ts') (N : Nums ns' ts' h' g) :
    TiedO K (upd (upd H o.E (.dK (dK ns' vs'))) o.U (.dK (dK ns' (h'.map vo)))) o m ns' ts' h' g b pl := by
  obtain ⟨vs, h1, h1'⟩ := O.ends
  obtain ⟨ys, h2, h2'⟩ := O.past
  obtain ⟨n1, n2, n3, n4, n5⟩ := O.nsE
  have e2 : upd H o.E (.dK (dK ns' vs')) o.U = some (.dK (dK ns (h.map vo))) := by rw [upd_ne O.ne.symm]; exact O.hues
  refine ⟨by rw [upd_ne n2, upd_ne n1]; exact O.ins, ⟨vs', by rw [upd_ne O.ne, upd_same], al.mono fun _ _ r => r.lt ((LT.dk h1).trans (.dk e2))⟩, upd_same, ⟨ys, by rw [upd_ne n5.symm, upd_ne n4.symm]; exact h2, h2'⟩, O.ne, N⟩
/-- the hues alone -/
theorem TiedO.put1 (O : TiedO K H o m ns ts h g b pl) {h' : Hue} (hl : h'.length = ns.length) : TiedO K (upd H o.U (.dK (dK ns (h'.map vo)))) o m ns ts h' g b pl := by
  obtain ⟨vs, h1, h1'⟩ := O.ends
  obtain ⟨ys, h2, h2'⟩ := O.past
  obtain ⟨n1, n2, n3, n4, n5⟩ := O.nsE
  exact ⟨by rw [upd_ne n2]; exact O.ins, ⟨vs, by rw [upd_ne O.ne]; exact h1, h1'.mono fun _ _ r => r.lt (.dk O.hues)⟩, upd_same, ⟨ys, by rw [upd_ne n5.symm]; exact h2, h2'⟩, O.ne, ⟨O.nums.asc, O.nums.lt, O.nums.l1, hl.symm, O.nums.few⟩⟩
end
/-! ### hues that come to be others, place by place -/
def mixH (h h' : Hue) (n i : Nat) : Hue := (List.range n).map fun j => if j < i then hu h' j else hu h j
theorem mixH_at {h h' : Hue} {n i j : Nat} (hj : j < n) : (mixH h h' n i)[j]? = some (if j < i then hu h' j else hu h j) := by
  unfold mixH
  rw [List.getElem?_map, List.getElem?_range hj]
  rfl
theorem mixH_len {h h' : Hue} {n i : Nat} : (mixH h h' n i).length = n := by
  unfold mixH
  rw [List.length_map, List.length_range]
theorem hue_list {h : Hue} {n : Nat} (hl : h.length = n) : (List.range n).map (hu h) = h := by
  refine List.ext_getElem? fun j => ?_
  rw [List.getElem?_map]
  by_cases q : j < n
  · rw [List.getElem?_range q]
    exact (getD_some (by omega)).symm
  · rw [List.getElem?_eq_none (by rw [List.length_range]; omega), List.getElem?_eq_none (by omega)]
    rfl
theorem mixH_0 {h h' : Hue} {n : Nat} (hl : h.length = n) : mixH h h' n 0 = h := by
  unfold mixH
  simp only [Nat.not_lt_zero, if_false]
  exact hue_list hl
theorem mixH_n {h h' : Hue} {n : Nat} (hl : h'.length = n) : mixH h h' n n = h' := by
  refine Eq.trans ?_ (hue_list hl)
  unfold mixH
  refine List.map_congr_left fun j hj => ?_
  rw [if_pos (List.mem_range.mp hj)]
theorem mixH_set {h h' : Hue} {n i : Nat} (hi : i < n) : (mixH h h' n i).set i (hu h' i) = mixH h h' n (i + 1) := by
  refine List.ext_getElem? fun j => ?_
  rw [List.getElem?_set, mixH_len]
  by_cases q : i = j
  · subst q
    rw [if_pos rfl, if_pos hi, mixH_at hi, if_pos (Nat.lt_succ_self _)]
  · rw [if_neg q]
    by_cases hj : j < n
    · rw [mixH_at hj, mixH_at hj]
      have : (j < i) = (j < i + 1) := by rw [eq_iff_iff]; omega
      simp only [this]
    · rw [List.getElem?_eq_none (by rw [mixH_len]; omega), List.getElem?_eq_none (by rw [mixH_len]; omega)]
theorem mixH_skip {h h' : Hue} {n i : Nat} (e : hu h i = hu h' i) : mixH h h' n i = mixH h h' n (i + 1) := by
  unfold mixH
  refine List.map_congr_left fun j _ => ?_
  by_cases q : j = i
  · subst q
    rw [if_neg (Nat.lt_irrefl _), if_pos (Nat.lt_succ_self _), e]
  · have : (j < i) = (j < i + 1) := by rw [eq_iff_iff]; omega
    simp only [this]
/-- the ties whose hue is another one -/
def diffs (h h' : Hue) (n : Nat) : List Nat := (List.range n).filter fun i => decide (hu h i ≠ hu h' i)
def ChgR (ns : List Nat) (h h' : Hue) (H : Hp) (v : V) (i : Nat) : Prop := ∃ p, v = .ref p ∧ H p = some (.tup [vn (ns.getD i 0), vo (hu h i), vo (hu h' i)])
def RowR (ns : List Nat) (ts : List Tie) (h : Hue) (H : Hp) (v : V) (i : Nat) : Prop := ∃ p, v = .ref p ∧ H p = some (.tup [vn (ns.getD i 0), vn (en ts i).1, vn (en ts i).2, vo (hu h i)])
theorem ChgR.mono {ns : List Nat} {h h' : Hue} {H H' : Hp} {v : V} {i : Nat} (s : Same H H') (r : ChgR ns h h' H v i) : ChgR ns h h' H' v i := let ⟨p, a, b⟩ := r; ⟨p, a, s _ _ b⟩
theorem RowR.mono {ns : List Nat} {ts : List Tie} {h : Hue} {H H' : Hp} {v : V} {i : Nat} (s : Same H H') (r : RowR ns ts h H v i) : RowR ns ts h H' v i := let ⟨p, a, b⟩ := r; ⟨p, a, s _ _ b⟩
end Hu
end

/-! ## W7 -/
section
set_option maxHeartbeats 4000000
set_option autoImplicit true
namespace Hu
open PySem PySem.Spec PyProof.Rows L2
local macro_rules | `(tactic| walk_at "len") => `(tactic| (intro h; first
  | (obtain ⟨_, e, _⟩ := h; cases e; rfl)
  | (obtain ⟨_, _, e, _⟩ := h; cases e; rfl)
  | (obtain ⟨_, _, _, e, _⟩ := h; cases e; rfl)
  | (obtain ⟨_, _, _, _, e, _⟩ := h; cases e; rfl)
  | (obtain ⟨_, _, _, _, _, e, _⟩ := h; cases e; rfl)
  | (obtain ⟨_, _, _, _, _, _, e, _⟩ := h; cases e; rfl)
  | (obtain ⟨_, _, _, _, _, _, _, e, _⟩ := h; cases e; rfl)
  | (obtain ⟨_, _, _, _, _, _, _, _, e, _⟩ := h; cases e; rfl)
  | (obtain ⟨_, _, _, _, _, _, _, _, _, e, _⟩ := h; cases e; rfl)
  | (obtain ⟨_, _, _, _, _, _, _, _, _, _, e, _⟩ := h; cases e; rfl)
  | (obtain ⟨_, _, _, _, _, _, _, _, _, _, _, e, _⟩ := h; cases e; rfl)
  | (obtain ⟨_, _, _, _, _, _, _, _, _, _, _, _, e, _⟩ := h; cases e; rfl)
  | (obtain ⟨_, _, _, _, _, _, _, _, _, _, _, _, _, e, _⟩ := h; cases e; rfl)
  | (obtain ⟨_, _, _, _, _, _, _, _, _, _, _, _, _, _, e, _⟩ := h; cases e; rfl)
  | (obtain ⟨_, _, _, _, _, _, _, _, _, _, _, _, _, _, _, e, _⟩ := h; cases e; rfl)
  | (obtain ⟨_, _, _, _, _, _, _, _, _, _, _, _, _, _, _, _, e, _⟩ := h; cases e; rfl)
  | (obtain ⟨_, _, _, _, _, _, _, _, _, _, _, _, _, _, _, _, _, e, _⟩ := h; cases e; rfl)
  | (obtain ⟨_, _, _, _, _, _, _, _, _, _, _, _, _, _, _, _, _, _, e, _⟩ := h; cases e; rfl)))
section
variable {P : Program} {w : World} {K : PySem.W.Frag} {mg : Str → Option Value} {base : Heap}
/-! ### is_place -/
abbrev N_is_place : List Str := ["thing", "many"]
theorem sc_is_place : FnScope N_is_place ["thing", "many"] (defScope s_is_place) := ⟨rfl, rfl, rfl, by decide +kernel, rfl, by decide +kernel, by decide +kernel⟩
def sp_is_place (K : PySem.W.Frag) : Sp := fun vs H Q _ => ∃ n m : Nat, vs = [vn n, vn m] ∧ n < m ∧ Q (.bl true) H
theorem ok_is_place (T : Tx P w K mg base) : Has P w K mg base 1 ("is_place", none) ["thing", "many"] (sp_is_place K) := by
  refine mkHas T 49 (d := d_is_place) rfl sc_is_place rfl rfl (fun us hl => match us, hl with | [_, _], _ => fun _ _ _ _ _ _ => rfl) (fun vs H Q E => ?_) (fun cdv A outer s H vs Q E hr h => ?_)
  · walk_at "len"
  · have hU := hu_of hr
    refine ⟨_, PSs.nox (pss_one (ps_ret (pe_and (pe_callB call_isi (by rfl) T.b_isinstance (by decide +kernel) (pa_cons (pv 0) (pa_cons (pe_bltn (v := .ty "int") rfl T.b_int (by decide +kernel) rfl) pa_nil))) (pe_and (pe_not (pe_callB call_isi (by rfl) T.b_isinstance (by decide +kernel) (pa_cons (pv 0) (pa_cons (pe_bltn (v := .ty "bool") rfl T.b_bool (by decide +kernel) rfl) pa_nil)))) (pe_one (pe_chain op_le op_lt pe_int (pv 0) (pv 1))))))), ?_⟩
    obtain ⟨n, m, rfl, hn, q⟩ := h
    refine ⟨_, rfl, _, _, _, _, true, rfl, .ty _, .base (.int _), kit_ty (by decide +kernel), true, rfl, iteT ?_⟩
    refine ⟨_, rfl, _, _, _, _, false, rfl, .ty _, .base (.int _), kit_ty (by decide +kernel), false, rfl, true, rfl, iteT ?_⟩
    refine ⟨_, rfl, _, _, rfl, rfl, _, rfl, ?_⟩
    rw [decide_eq_true (show (0 : Int) ≤ (n : Int) by omega)]
    refine iteT ⟨_, rfl, _, _, rfl, rfl, ?_⟩
    show Q (.bl (decide ((n : Int) < (m : Int)))) H
    rw [decide_eq_true (show (n : Int) < (m : Int) by omega)]
    exact q
/-! ### in_numbers -/
abbrev N_in_numbers : List Str := ["step", "numbers"]
theorem sc_in_numbers : FnScope N_in_numbers ["step", "numbers"] (defScope s_in_numbers) := ⟨rfl, rfl, rfl, by decide +kernel, rfl, by decide +kernel, by decide +kernel⟩
def StepIn (n : Nat) : Step → Prop
  | .hue t _ => t < n
  | .move t o => t < n ∧ o < n
  | .row _ _ _ => True
theorem Plays.steps {m : Nat} {ts : List Tie} : ∀ {ss : List Step} {h h' : Hue}, Plays m ts h ss h' → ∀ s, s ∈ ss → StepIn ts.length s
  | [], _, _, _, s, hs => absurd hs List.not_mem_nil
  | s0 :: ss, h, h', ⟨h1, st, p⟩, s, hs => by
    rcases List.mem_cons.mp hs with rfl | hs
    · cases s with
      | hue t c => exact st.2.1
      | move t o => exact ⟨st.2.1, st.2.2.1⟩
      | row p a b => exact trivial
    · exact Plays.steps p s hs
def sp_in_numbers (K : PySem.W.Frag) : Sp := fun vs H Q _ => ∃ (sv nv : V) (s : Step) (ns : List Nat), vs = [sv, nv] ∧ StepR H sv s ∧ NatR H nv ns ∧ StepIn ns.length s ∧ ∀ H' v, Same H H' → Q v H'
theorem ok_in_numbers (T : Tx P w K mg base) : Has P w K mg base 1 ("in_numbers", none) ["step", "numbers"] (sp_in_numbers K) := by
  refine mkHas T 50 (d := d_in_numbers) rfl sc_in_numbers rfl rfl (fun us hl => match us, hl with | [_, _], _ => fun _ _ _ _ _ _ => rfl) (fun vs H Q E => ?_) (fun cdv A outer s H vs Q E hr h => ?_)
  · walk_at "len"
  · have hU := hu_of hr
    refine ⟨_, PSs.nox (pss_cons (ps_if (pt_cmpR op_eq (pe_ix ix_tup (pv 0) pe_int (fun _ _ => rfl)) pe_str (nomark _)) (pss_one (ps_ret (pv 0))) pss_nil)
    (pss_cons (ps_if (pt_cmpR op_eq (pe_ix ix_tup (pv 0) pe_int (fun _ _ => rfl)) pe_str (nomark _)) (pss_one (ps_ret (pe_tup (pa_cons pe_str (pa_cons (pe_ix ix_list (pv 1) (pe_ix ix_tup (pv 0) pe_int (fun _ _ => rfl)) (fun _ _ => rfl)) (pa_cons (pe_ix ix_list (pv 1) (pe_ix ix_tup (pv 0) pe_int (fun _ _ => rfl)) (fun _ _ => rfl)) pa_nil)))))) pss_nil)
    (pss_one (ps_ret (pe_op op_catA (pe_tup (pa_cons (pe_ix ix_tup (pv 0) pe_int (fun _ _ => rfl)) (pa_cons (pe_ix ix_list (pv 1) (pe_ix ix_tup (pv 0) pe_int (fun _ _ => rfl)) (fun _ _ => rfl)) pa_nil))) (pe_slice sl_tupA (pv 0) (po_some pe_int) po_none)))))), ?_⟩
    obtain ⟨sv, nv, s, ns, rfl, ⟨sp, rfl, hs⟩, ⟨na, rfl, hna⟩, hin, q⟩ := h
    have gn : ∀ i : Nat, i < ns.length → atI (ns.map vn) (i : Int) = some (vn (ns.getD i 0)) := fun i hi => atI_nat (by
      rw [List.getElem?_map, getD_some (d := 0) hi]
      rfl)
    cases s with
    | row p a b =>
      refine ⟨_, rfl, sp, _, 0, _, rfl, rfl, .of hs, rfl, rfl, true, rfl, iteT ⟨_, rfl, q _ _ (Same.refl _)⟩⟩
    | move t x =>
      refine ⟨_, rfl, sp, _, 0, _, rfl, rfl, .of hs, rfl, rfl, false, rfl, iteF ?_⟩
      refine ⟨_, rfl, sp, _, 0, _, rfl, rfl, .of hs, rfl, rfl, true, rfl, iteT ?_⟩
      refine ⟨_, rfl, _, rfl, sp, _, 1, _, rfl, rfl, .of hs, rfl, na, _, _, _, rfl, rfl, .of hna, gn t hin.1, _, rfl, _, rfl, sp, _, 2, _, rfl, rfl, .of hs, rfl, na, _, _, _, rfl, rfl, .of hna, gn x hin.2, (by show 3 ≤ sizeLine; decide), fun p hp => ?_⟩
      exact q _ _ (same_new hp)
    | hue t c =>
      refine ⟨_, rfl, sp, _, 0, _, rfl, rfl, .of hs, rfl, rfl, false, rfl, iteF ?_⟩
      refine ⟨_, rfl, sp, _, 0, _, rfl, rfl, .of hs, rfl, rfl, false, rfl, iteF ?_⟩
      refine ⟨_, rfl, sp, _, 0, _, rfl, rfl, .of hs, rfl, _, rfl, _, rfl, sp, _, 1, _, rfl, rfl, .of hs, rfl, na, _, _, _, rfl, rfl, .of hna, gn t hin, (by show 2 ≤ sizeLine; decide), fun p hp => ?_⟩
      have s1 : Same H (upd H p (.tup [.str "hue", vn (ns.getD t 0)])) := same_new hp
      refine ⟨_, rfl, 2, rfl, sp, _, rfl, .of (s1 _ _ hs), fun e => ?_, fun _ p2 hp2 => ?_⟩
      · exact absurd e (show ¬(HT.sIx 3 0 (some 2) = 0 ∧ HT.sIx 3 3 none = 3) by decide)
      have s2 := s1.trans (same_new (o := .tup (cutV (stepV (.hue t c)) (some 2) none)) hp2)
      have cv : cutV (stepV (.hue t c)) (some 2) none = [vn c] := rfl
      refine ⟨p, p2, _, _, rfl, rfl, .of ((same_new hp2) _ _ upd_same), .of upd_same, ?_, fun e => ?_, fun _ e => ?_, fun _ _ p3 hp3 => ?_⟩
      · rw [cv]
        show 2 + 1 ≤ sizeLine
        decide
      · cases e
      · rw [cv] at e
        cases e
      · exact q _ _ (s2.trans (same_new hp3))
/-! ### enough_for -/
abbrev N_enough_for : List Str := ["web"]
theorem sc_enough_for : FnScope N_enough_for ["web"] (defScope s_enough_for) := ⟨rfl, rfl, rfl, by decide +kernel, rfl, by decide +kernel, by decide +kernel⟩
def sp_enough_for (K : PySem.W.Frag) : Sp := fun vs H Q _ => ∃ (v : V) (m : Nat) (ts : List Tie), vs = [v] ∧ WebR H v m ts ∧ WebOk m ts ∧ ∀ H', Same H H' → Q (vn (mostAt m ts + thick ts)) H'
theorem ok_enough_for (T : Tx P w K mg base) : Has P w K mg base 3 ("enough_for", none) ["web"] (sp_enough_for K) := by
  obtain ⟨fd_most_at, G_most_at, b_most_at, k_most_at⟩ := ok_most_at (P := P) (w := w) (base := base) T
  obtain ⟨fd_thickest, G_thickest, b_thickest, k_thickest⟩ := ok_thickest (P := P) (w := w) (base := base) T
  refine mkHas T 51 (d := d_enough_for) rfl sc_enough_for rfl rfl (fun us hl => match us, hl with | [_], _ => fun _ _ _ _ _ _ => rfl) (fun vs H Q E => ?_) (fun cdv A outer s H vs Q E hr h => ?_)
  · walk_at "len"
  · have hU := hu_of hr
    refine ⟨_, PSs.nox (pss_one (ps_ret (pe_op op_add (pe_call G_most_at (hr.mono (by decide)) rfl T.g_most_at k_most_at b_most_at .nil pass0 (pa_cons (pv 0) pa_nil)) (pe_call G_thickest (hr.mono (by decide)) rfl T.g_thickest k_thickest b_thickest .nil pass0 (pa_cons (pv 0) pa_nil))))), ?_⟩
    obtain ⟨v, m, ts, rfl, W, O, q⟩ := h
    refine ⟨_, rfl, v, m, ts, rfl, W, O, fun H1 s1 => ?_⟩
    refine ⟨_, rfl, v, m, ts, rfl, W.mono s1, O, fun H2 s2 => ⟨_, _, rfl, rfl, ?_⟩⟩
    exact q H2 (s1.trans s2)
/-! ### behind_steps -/
abbrev N_behind_steps : List Str := ["web", "hueing", "steps"]
theorem sc_behind_steps : FnScope N_behind_steps ["web", "hueing", "steps"] (defScope s_behind_steps) := ⟨rfl, rfl, rfl, by decide +kernel, rfl, by decide +kernel, by decide +kernel⟩
def sp_behind_steps (K : PySem.W.Frag) : Sp := fun vs H Q _ => ∃ (v hv sv : V) (m : Nat) (ts : List Tie) (h h' : Hue) (ss : List Step), vs = [v, hv, sv] ∧ WebR H v m ts ∧ HueR H hv h ∧ LstR (StepR H) H sv ss ∧ ss.length ≤ 3000 ∧ WebOk m ts ∧ Proper ts h ∧ Plays m ts h ss h' ∧
  ∀ H' x, Same H H' → HueR H' x h' → Q x H'
theorem ok_behind_steps (T : Tx P w K mg base) : Has P w K mg base 10 ("behind_steps", none) ["web", "hueing", "steps"] (sp_behind_steps K) := by
  obtain ⟨fd_played, G_played, b_played, k_played⟩ := ok_played (P := P) (w := w) (base := base) T
  refine mkHas T 52 (d := d_behind_steps) rfl sc_behind_steps rfl rfl (fun us hl => match us, hl with | [_, _, _], _ => fun _ _ _ _ _ _ => rfl) (fun vs H Q E => ?_) (fun cdv A outer s H vs Q E hr h => ?_)
  · walk_at "len"
  · have hU := hu_of hr
    refine ⟨_, PSs.nox (pss_one (ps_ret (pe_ix ix_list (pe_orT (pe_call G_played (hr.mono (by decide)) rfl T.g_played k_played b_played .nil pass0 (pa_cons (pv 0) (pa_cons (pv 1) (pa_cons (pv 2) pa_nil)))) (pe_one (pe_lst (pa_cons (pv 1) pa_nil)))) (pe_un un_neg pe_int) (fun _ _ => rfl)))), ?_⟩
    obtain ⟨v, hv, sv, m, ts, hh, h', ss, rfl, W, R1, R2, hz, O, Pr, pl, q⟩ := h
    refine ⟨_, rfl, _, rfl, _, rfl, v, hv, sv, m, ts, hh, h', ss, rfl, W, R1, R2, hz, O, Pr, pl, fun D H1 xs hD s1 d1 hl hx => ?_⟩
    cases ss with
    | nil =>
      obtain rfl : xs = [] := List.eq_nil_of_length_eq_zero hl
      have e : h' = hh := pl
      subst e
      refine ⟨false, .inl ⟨[], .of d1, rfl⟩, iteF ⟨_, rfl, by show 1 ≤ sizeLine; decide, fun p hp => ⟨_, rfl, p, _, _, hv, rfl, rfl, .of upd_same, rfl, ?_⟩⟩⟩
      exact q _ _ (s1.trans (same_new hp)) (R1.mono (s1.trans (same_new hp)))
    | cons s r =>
      obtain ⟨x, e, hr⟩ := hx (by simp)
      have hne : xs.length = r.length + 1 := hl
      refine ⟨true, .inl ⟨xs, .of d1, ?_⟩, iteT ⟨_, rfl, D, _, _, x, rfl, rfl, .of d1, ?_, q _ _ s1 hr⟩⟩
      · cases xs with
        | nil => simp at hne
        | cons _ _ => rfl
      · unfold atI
        have e2 : ixN xs.length (-1) = some (xs.length - 1) := by
          unfold ixN
          rw [if_neg (by omega), if_pos (by omega)]
          congr 1
          omega
        rw [e2]
        exact e
/-! ### Tied.__init__ -/
abbrev N_Tied_init : List Str := ["self", "many"]
theorem sc_Tied_init : FnScope N_Tied_init ["self", "many"] (defScope s_Tied_init) := ⟨rfl, rfl, rfl, by decide +kernel, rfl, by decide +kernel, by decide +kernel⟩
abbrev td1 (m : Nat) : List (Str × V) := [(Str.ofString "many", vn m)]
abbrev td2 (m : Nat) (E : Addr) : List (Str × V) := [(Str.ofString "many", vn m), (Str.ofString "ends", .ref E)]
abbrev td3 (m : Nat) (E U : Addr) : List (Str × V) := [(Str.ofString "many", vn m), (Str.ofString "ends", .ref E), (Str.ofString "hues", .ref U)]
abbrev td4 (m : Nat) (E U : Addr) : List (Str × V) := [(Str.ofString "many", vn m), (Str.ofString "ends", .ref E), (Str.ofString "hues", .ref U), (Str.ofString "given", vn 0)]
abbrev td5 (m : Nat) (E U : Addr) : List (Str × V) := [(Str.ofString "many", vn m), (Str.ofString "ends", .ref E), (Str.ofString "hues", .ref U), (Str.ofString "given", vn 0), (Str.ofString "bound", vn 0)]
def sp_Tied_init (K : PySem.W.Frag) : Sp := fun vs H Q _ => ∃ (self dx : Addr) (m : Nat) (H0 : Hp), vs = [.ref self, vn m] ∧ H self = some (.ins (He.ga K "Tied") dx []) ∧ Same H0 H ∧ H0 self = none ∧
  ∀ H' o, o.self = self → Same H0 H' → (∀ p ∈ o.l, H0 p = none) → TiedO K H' o m [] [] [] 0 0 0 → Q .non H'
theorem ok_Tied_init (T : Tx P w K mg base) : Has P w K mg base 1 ("Tied", some "__init__") ["self", "many"] (sp_Tied_init K) := by
  refine mkHas T 53 (d := d_Tied_init) rfl sc_Tied_init rfl rfl (fun us hl => match us, hl with | [_, _], _ => fun _ _ _ _ _ _ => rfl) (fun vs H Q E => ?_) (fun cdv A outer s H vs Q E hr h => ?_)
  · walk_at "len"
  · have hU := hu_of hr
    refine ⟨_, PSs.nox (pss_cons (ps_fld (pv 0) (pv 1) rfl)
    (pss_cons (ps_fld (pv 0) pe_dnewK rfl)
    (pss_cons (ps_fld (pv 0) pe_dnewK rfl)
    (pss_cons (ps_fld (pv 0) pe_int rfl)
    (pss_cons (ps_fld (pv 0) pe_int rfl)
    (pss_one (ps_fld (pv 0) (pe_lst pa_nil) rfl))))))), ?_⟩
    obtain ⟨self, dx, m, H0, rfl, i0, s0, n0, q⟩ := h
    refine ⟨_, rfl, _, rfl, self, _, dx, _, rfl, i0, T.c_Tied, T.n_Tied_many, (by decide), ?_⟩
    generalize hH1 : upd H self (HO.ins (He.ga K "Tied") dx (putF (Str.ofString "many") (vn m) [])) = H1
    have i1 : H1 self = some (.ins (He.ga K "Tied") dx (td1 m)) := by rw [← hH1]; exact upd_same
    have s1 : Same H0 H1 := hH1 ▸ same_mut s0 n0
    intro E hE
    have nE : E ≠ self := (ne_of_none i1 hE).symm
    have n0E := s1.free hE
    have i2 := (same_new (o := .dK []) hE) _ _ i1
    have s2 := s1.trans (same_new (o := .dK []) hE)
    refine ⟨_, rfl, self, _, dx, _, rfl, i2, T.c_Tied, T.n_Tied_ends, (by show 1 < 1000; decide), ?_⟩
    generalize hH3 : upd (upd H1 E (.dK [])) self (HO.ins (He.ga K "Tied") dx (putF (Str.ofString "ends") (V.ref E) (td1 m))) = H3
    have i3 : H3 self = some (.ins (He.ga K "Tied") dx (td2 m E)) := by rw [← hH3]; exact upd_same
    have e3 : H3 E = some (.dK []) := by rw [← hH3, upd_ne nE, upd_same]
    have s3 : Same H0 H3 := hH3 ▸ same_mut s2 n0
    intro U hU1
    have nU : U ≠ self := (ne_of_none i3 hU1).symm
    have nEU : E ≠ U := ne_of_none e3 hU1
    have n0U := s3.free hU1
    have i4 := (same_new (o := .dK []) hU1) _ _ i3
    have e4 := (same_new (o := .dK []) hU1) _ _ e3
    have s4 := s3.trans (same_new (o := .dK []) hU1)
    refine ⟨_, rfl, self, _, dx, _, rfl, i4, T.c_Tied, T.n_Tied_hues, (by show 2 < 1000; decide), ?_⟩
    generalize hH5 : upd (upd H3 U (.dK [])) self (HO.ins (He.ga K "Tied") dx (putF (Str.ofString "hues") (V.ref U) (td2 m E))) = H5
    have i5 : H5 self = some (.ins (He.ga K "Tied") dx (td3 m E U)) := by rw [← hH5]; exact upd_same
    have e5 : H5 E = some (.dK []) := by rw [← hH5, upd_ne nE]; exact e4
    have u5 : H5 U = some (.dK []) := by rw [← hH5, upd_ne nU, upd_same]
    have s5 : Same H0 H5 := hH5 ▸ same_mut s4 n0
    refine ⟨_, rfl, self, _, dx, _, rfl, i5, T.c_Tied, T.n_Tied_given, (by show 3 < 1000; decide), ?_⟩
    generalize hH6 : upd H5 self (HO.ins (He.ga K "Tied") dx (putF (Str.ofString "given") (V.int 0) (td3 m E U))) = H6
    have i6 : H6 self = some (.ins (He.ga K "Tied") dx (td4 m E U)) := by rw [← hH6]; exact upd_same
    have e6 : H6 E = some (.dK []) := by rw [← hH6, upd_ne nE]; exact e5
    have u6 : H6 U = some (.dK []) := by rw [← hH6, upd_ne nU]; exact u5
    have s6 : Same H0 H6 := hH6 ▸ same_mut s5 n0
    refine ⟨_, rfl, self, _, dx, _, rfl, i6, T.c_Tied, T.n_Tied_bound, (by show 4 < 1000; decide), ?_⟩
    generalize hH7 : upd H6 self (HO.ins (He.ga K "Tied") dx (putF (Str.ofString "bound") (V.int 0) (td4 m E U))) = H7
    have i7 : H7 self = some (.ins (He.ga K "Tied") dx (td5 m E U)) := by rw [← hH7]; exact upd_same
    have e7 : H7 E = some (.dK []) := by rw [← hH7, upd_ne nE]; exact e6
    have u7 : H7 U = some (.dK []) := by rw [← hH7, upd_ne nU]; exact u6
    have s7 : Same H0 H7 := hH7 ▸ same_mut s6 n0
    refine ⟨by decide, fun Pa hPa => ?_⟩
    have nP : Pa ≠ self := (ne_of_none i7 hPa).symm
    have nEP : E ≠ Pa := ne_of_none e7 hPa
    have nUP : U ≠ Pa := ne_of_none u7 hPa
    have n0P := s7.free hPa
    have i8 := (same_new (o := .lst []) hPa) _ _ i7
    have s8 := s7.trans (same_new (o := .lst []) hPa)
    refine ⟨_, rfl, self, _, dx, _, rfl, i8, T.c_Tied, T.n_Tied_past, (by show 5 < 1000; decide), ?_⟩
    refine q _ ⟨self, E, U, Pa, dx⟩ rfl (same_mut s8 n0) (fun p hp => ?_) ⟨upd_same, ⟨[], ?_, Al.nil⟩, ?_, ⟨[], ?_, rfl⟩, nEU, ⟨List.Pairwise.nil, fun n hn => absurd hn List.not_mem_nil, rfl, rfl, Nat.zero_le _⟩⟩
    · unfold Own.l at hp
      simp only [List.mem_cons, List.not_mem_nil, or_false] at hp
      rcases hp with rfl | rfl | rfl | rfl
      · exact n0
      · exact n0E
      · exact n0U
      · exact n0P
    · show upd (upd H7 Pa (.lst [])) self _ E = _
      rw [upd_ne nE, upd_ne nEP]
      exact e7
    · show upd (upd H7 Pa (.lst [])) self _ U = _
      rw [upd_ne nU, upd_ne nUP]
      exact u7
    · show upd (upd H7 Pa (.lst [])) self _ Pa = _
      rw [upd_ne nP]
      exact upd_same
/-! ### Tied.keep_past -/
abbrev N_Tied_keep_past : List Str := ["self"]
theorem sc_Tied_keep_past : FnScope N_Tied_keep_past ["self"] (defScope s_Tied_keep_past) := ⟨rfl, rfl, rfl, by decide +kernel, rfl, by decide +kernel, by decide +kernel⟩
def sp_Tied_keep_past (K : PySem.W.Frag) : Sp := fun vs H Q _ => ∃ (o : Own) (m g b pl : Nat) (ns : List Nat) (ts : List Tie) (h : Hue), vs = [.ref o.self] ∧ TiedO K H o m ns ts h g b pl ∧ pl ≤ 1000 ∧
  ∀ H', Keeps o H H' → TiedO K H' o m ns ts h g b (pl + 1) → Q .non H'
theorem ok_Tied_keep_past (T : Tx P w K mg base) : Has P w K mg base 1 ("Tied", some "keep_past") ["self"] (sp_Tied_keep_past K) := by
  refine mkHas T 54 (d := d_Tied_keep_past) rfl sc_Tied_keep_past rfl rfl (fun us hl => match us, hl with | [_], _ => fun _ _ _ _ _ _ => rfl) (fun vs H Q E => ?_) (fun cdv A outer s H vs Q E hr h => ?_)
  · walk_at "len"
  · have hU := hu_of hr
    refine ⟨_, PSs.nox (pss_one (ps_expr (pe_bm PySem.F.plainAttrs_list PySem.F.slot_list_append PySem.F.type_list_append mt_append (pe_fld (pv 0) rfl) (pa_cons (pe_tup (pa_cons (pe_callTy call_dictD (by rfl) T.b_dict (by decide +kernel) (pa_cons (pe_fld (pv 0) rfl) pa_nil)) (pa_cons (pe_callTy call_dictD (by rfl) T.b_dict (by decide +kernel) (pa_cons (pe_fld (pv 0) rfl) pa_nil)) (pa_cons (pe_fld (pv 0) rfl) (pa_cons (pe_fld (pv 0) rfl) pa_nil))))) pa_nil)))), ?_⟩
    obtain ⟨o, m, g, b, pl, ns, ts, hh, rfl, O, hp, q⟩ := h
    obtain ⟨vs, hE, al⟩ := O.ends
    obtain ⟨ys, hP, hy⟩ := O.past
    refine ⟨_, rfl, o.self, _, o.dx, _, _, rfl, O.ins, T.c_Tied, T.n_Tied_past, rfl, ty_lst hP, ?_⟩
    refine ⟨_, rfl, o.self, _, o.dx, _, _, rfl, O.ins, T.c_Tied, T.n_Tied_ends, rfl, o.E, _, rfl, .of hE, fun p1 hp1 => ?_⟩
    have s1 : Same H (upd H p1 (.dK (dK ns vs))) := same_new hp1
    refine ⟨_, rfl, o.self, _, o.dx, _, _, rfl, s1 _ _ O.ins, T.c_Tied, T.n_Tied_hues, rfl, o.U, _, rfl, .of (s1 _ _ O.hues), fun p2 hp2 => ?_⟩
    have s2 := s1.trans (same_new (o := .dK (dK ns (hh.map vo))) hp2)
    refine ⟨_, rfl, o.self, _, o.dx, _, _, rfl, s2 _ _ O.ins, T.c_Tied, T.n_Tied_given, rfl, _, rfl, o.self, _, o.dx, _, _, rfl, s2 _ _ O.ins, T.c_Tied, T.n_Tied_bound, rfl, (by show 4 ≤ sizeLine; decide), fun p3 hp3 => ?_⟩
    have s3 := s2.trans (same_new (o := .tup [.ref p1, .ref p2, vn g, vn b]) hp3)
    have O3 := O.mono s3
    refine ⟨o.P, ys, _, rfl, rfl, s3 _ _ hP, smalls (by omega), ?_⟩
    have hPm : o.P ∈ o.l := by unfold Own.l; simp
    refine q _ ((Keeps.of s3).upd hPm) ⟨?_, ⟨vs, ?_, ?_⟩, ?_, ⟨_, upd_same, ?_⟩, O.ne, O.nums⟩
    · rw [upd_ne fun z => ?_]
      · exact O3.ins
      · have := O.ins
        rw [z, hP] at this
        cases this
    · rw [upd_ne fun z => ?_]
      · exact s3 _ _ hE
      · rw [z, hP] at hE
        cases hE
    · refine al.mono fun _ _ r => ?_
      obtain ⟨p, e1, e2⟩ := r
      refine ⟨p, e1, ?_⟩
      rw [upd_ne fun z => ?_]
      · exact s3 _ _ e2
      · rw [z, hP] at e2
        cases e2
    · rw [upd_ne fun z => ?_]
      · exact O3.hues
      · have := O.hues
        rw [z, hP] at this
        cases this
    · rw [List.length_append, hy]
      rfl
/-! ### Tied.look_tie -/
abbrev N_Tied_look_tie : List Str := ["self", "number"]
theorem sc_Tied_look_tie : FnScope N_Tied_look_tie ["self", "number"] (defScope s_Tied_look_tie) := ⟨rfl, rfl, rfl, by decide +kernel, rfl, by decide +kernel, by decide +kernel⟩
def sp_Tied_look_tie (K : PySem.W.Frag) : Sp := fun vs H Q _ => ∃ (o : Own) (m g b pl n : Nat) (ns : List Nat) (ts : List Tie) (h : Hue), vs = [.ref o.self, vn n] ∧ TiedO K H o m ns ts h g b pl ∧ n ∈ ns ∧ Q .non H
theorem ok_Tied_look_tie (T : Tx P w K mg base) : Has P w K mg base 1 ("Tied", some "look_tie") ["self", "number"] (sp_Tied_look_tie K) := by
  refine mkHas T 55 (d := d_Tied_look_tie) rfl sc_Tied_look_tie rfl rfl (fun us hl => match us, hl with | [_, _], _ => fun _ _ _ _ _ _ => rfl) (fun vs H Q E => ?_) (fun cdv A outer s H vs Q E hr h => ?_)
  · walk_at "len"
  · have hU := hu_of hr
    refine ⟨_, PSs.nox (pss_one (ps_if (pt_cmp (pc_dnotin hU (pv 1) (pe_fld (pv 0) rfl))) (pss_one ps_never) pss_nil)), ?_⟩
    obtain ⟨o, m, g, b, pl, n, ns, ts, hh, rfl, O, hn, q⟩ := h
    obtain ⟨vs, hE, al⟩ := O.ends
    obtain ⟨i, hi, ei⟩ := List.mem_iff_getElem.mp hn
    have hvi : i < vs.length := by rw [al.1, ← O.nums.l1]; exact hi
    have D := dget_at hE (asc_nodup O.nums.asc) (show ns[i]? = some n by rw [List.getElem?_eq_getElem hi, ei]) (List.getElem?_eq_getElem hvi)
    exact ⟨_, rfl, _, rfl, o.self, _, o.dx, _, _, rfl, O.ins, T.c_Tied, T.n_Tied_ends, rfl, o.E, _, rfl, D, _, rfl, iteF q⟩
/-! ### Tied.hueing_now -/
abbrev N_Tied_hueing_now : List Str := ["self", "numbers", "number"]
theorem sc_Tied_hueing_now : FnScope N_Tied_hueing_now ["self", "numbers"] (defScope s_Tied_hueing_now) := ⟨rfl, rfl, rfl, by decide +kernel, rfl, by decide +kernel, by decide +kernel⟩
def sp_Tied_hueing_now (K : PySem.W.Frag) : Sp := fun vs H Q _ => ∃ (o : Own) (nv : V) (m g b pl : Nat) (ns : List Nat) (ts : List Tie) (h : Hue), vs = [.ref o.self, nv] ∧ TiedO K H o m ns ts h g b pl ∧ NatR H nv ns ∧
  ∀ D H', H D = none → Same H H' → H' D = some (.lst (h.map vo)) → Q (.ref D) H'
theorem ok_Tied_hueing_now (T : Tx P w K mg base) : Has P w K mg base 1 ("Tied", some "hueing_now") ["self", "numbers"] (sp_Tied_hueing_now K) := by
  refine mkHas T 56 (d := d_Tied_hueing_now) rfl sc_Tied_hueing_now rfl rfl (fun us hl => match us, hl with | [_, _], _ => fun _ _ _ _ _ _ => rfl) (fun vs H Q E => ?_) (fun cdv A outer s H vs Q E hr h => ?_)
  · walk_at "len"
  · have hU := hu_of hr
    refine ⟨_, PSs.nox (pss_one (ps_ret (pe_lc (own := [("number", 2)]) rfl sc_Tied_hueing_now.nd (pi_list (pv 1)) (blkOk_by (N := N_Tied_hueing_now) (sc := defScope s_Tied_hueing_now) (by decide +kernel)) (fun _ _ _ _ _ => by exact (pg_name (i := 2) sc_Tied_hueing_now.nd rfl (Or.inl rfl))) (fun _ _ _ _ _ => by exact pts_nil) (fun _ _ _ _ _ => by exact (pe_dget hU (pe_fldK (K := K) rfl (pv 0) rfl) (pv 2) (fun _ _ => rfl)))))), ?_⟩
    obtain ⟨o, nv, m, g, b, pl, ns, ts, hh, rfl, O, ⟨na, rfl, hna⟩, q⟩ := h
    have hf := O.nums.few
    have hl := O.nums.l2
    refine ⟨_, rfl, na, rfl, ⟨_, .of hna⟩, fun D hD => ?_⟩
    refine lc_val (n := (ns.map vn).length) walk_list (by rw [List.length_map]; omega) hD (fun H2 s2 => .of (s2 _ _ hna)) (fun _ => true) (fun i => vo (hu hh i)) ?_ ?_
    · rintro i x H2 H3 acc hi s2 d2 ⟨rfl, e⟩ Good Skip hg hs
      rw [List.getElem?_map] at e
      obtain ⟨n, en, rfl⟩ := Option.map_eq_some_iff.mp e
      have hi2 := (List.getElem?_eq_some_iff.mp en).1
      have D2 := dget_at (s2 _ _ O.hues) (asc_nodup O.nums.asc) en (hue_get (by omega))
      exact ⟨rfl, _, rfl, o.self, _, o.dx, _, _, rfl, s2 _ _ O.ins, T.c_Tied, T.n_Tied_hues, rfl, _, rfl, o.U, _, rfl, D2, hg rfl _ (Same.refl _)⟩
    · intro H2 s2 d2
      rw [filter_all, List.length_map] at d2
      refine q D H2 hD s2 ?_
      rw [d2, show (fun i => vo (hu hh i)) = vo ∘ hu hh from rfl, ← List.map_map, hue_list hl.symm]
/-! ### Tied.web_now -/
abbrev N_Tied_web_now : List Str := ["self", "numbers", "number"]
theorem sc_Tied_web_now : FnScope N_Tied_web_now ["self"] (defScope s_Tied_web_now) := ⟨rfl, rfl, rfl, by decide +kernel, rfl, by decide +kernel, by decide +kernel⟩
def sp_Tied_web_now (K : PySem.W.Frag) : Sp := fun vs H Q _ => ∃ (o : Own) (m g b pl : Nat) (ns : List Nat) (ts : List Tie) (h : Hue), vs = [.ref o.self] ∧ TiedO K H o m ns ts h g b pl ∧
  ∀ p W N H', Same H H' → H' p = some (.tup [.ref W, .ref N]) → WebR H' (.ref W) m ts → H N = none → H' N = some (.lst (ns.map vn)) → Q (.ref p) H'
theorem ok_Tied_web_now (T : Tx P w K mg base) : Has P w K mg base 1 ("Tied", some "web_now") ["self"] (sp_Tied_web_now K) := by
  refine mkHas T 64 (d := d_Tied_web_now) rfl sc_Tied_web_now rfl rfl (fun us hl => match us, hl with | [_], _ => fun _ _ _ _ _ _ => rfl) (fun vs H Q E => ?_) (fun cdv A outer s H vs Q E hr h => ?_)
  · walk_at "len"
  · have hU := hu_of hr
    refine ⟨_, PSs.nox (pss_cons (ps_set (i := 1) sc_Tied_web_now.nd rfl (Or.inl rfl) (pe_callB (call_sortedDI rfl) (by rfl) T.b_sorted (by decide +kernel) (pa_cons (pe_fld (pv 0) rfl) pa_nil)))
    (pss_one (ps_ret (pe_tup (pa_cons (pe_tup (pa_cons (pe_fld (pv 0) rfl) (pa_cons (pe_callTy call_tuple_of (by rfl) T.b_tuple (by decide +kernel) (pa_cons (pe_lc (own := [("number", 2)]) rfl sc_Tied_web_now.nd (pi_list (pv 1)) (blkOk_by (N := N_Tied_web_now) (sc := defScope s_Tied_web_now) (by decide +kernel)) (fun _ _ _ _ _ => by exact (pg_name (i := 2) sc_Tied_web_now.nd rfl (Or.inl rfl))) (fun _ _ _ _ _ => by exact pts_nil) (fun _ _ _ _ _ => by exact (pe_dget hU (pe_fldK (K := K) rfl (pv 0) rfl) (pv 2) (fun _ _ => rfl)))) pa_nil)) pa_nil))) (pa_cons (pv 1) pa_nil)))))), ?_⟩
    obtain ⟨o, m, g, b, pl, ns, ts, hh, rfl, O, q⟩ := h
    obtain ⟨vs, hE, al⟩ := O.ends
    have hf := O.nums.few
    have hl := O.nums.l1
    have hlv : ns.length = vs.length := by rw [al.1, hl]
    refine ⟨_, rfl, o.self, _, o.dx, _, _, rfl, O.ins, T.c_Tied, T.n_Tied_ends, rfl, o.E, _, _, rfl, .of hE, dK_keys hlv, by rw [List.length_map]; omega, fun ys N hp hpw hN => ?_⟩
    rw [sorted_is hp hpw O.nums.asc, ← map_vn_int]
    have s1 : Same H (upd H N (.lst (ns.map vn))) := same_new hN
    refine ⟨_, rfl, o.self, _, o.dx, _, _, rfl, s1 _ _ O.ins, T.c_Tied, T.n_Tied_many, rfl, ?_⟩
    refine ⟨_, rfl, N, rfl, ⟨_, .of upd_same⟩, fun D hD => ?_⟩
    refine lc_val (n := (ns.map vn).length) walk_list (by rw [List.length_map]; omega) hD (fun H2 s2 => .of (s2 _ _ upd_same)) (fun _ => true) (fun i => vs.getD i .non) ?_ ?_
    · rintro i x H2 H3 acc hi s2 d2 ⟨rfl, e⟩ Good Skip hg hs
      rw [List.getElem?_map] at e
      obtain ⟨n, en, rfl⟩ := Option.map_eq_some_iff.mp e
      have hi2 := (List.getElem?_eq_some_iff.mp en).1
      have D2 := dget_at (s2 _ _ (s1 _ _ hE)) (asc_nodup O.nums.asc) en (getD_some (d := .non) (show i < vs.length by omega))
      exact ⟨rfl, _, rfl, o.self, _, o.dx, _, _, rfl, s2 _ _ (s1 _ _ O.ins), T.c_Tied, T.n_Tied_ends, rfl, _, rfl, o.E, _, rfl, D2, hg rfl _ (Same.refl _)⟩
    intro H2 s2 d2
    have e1 : (List.range vs.length).map (fun i => vs.getD i .non) = vs := by
      refine List.ext_getElem? fun j => ?_
      rw [List.getElem?_map]
      by_cases qj : j < vs.length
      · rw [List.getElem?_range qj]
        exact (getD_some qj).symm
      · rw [List.getElem?_eq_none (by rw [List.length_range]; omega), List.getElem?_eq_none (by omega)]
        rfl
    rw [filter_all, List.length_map, hlv, e1] at d2
    have s12 := s1.trans s2
    refine ⟨D, vs, rfl, .inl ⟨.of d2, fun l hl2 => ?_⟩⟩
    have s3 : Same H2 (upd H2 l (.tup vs)) := same_new hl2
    refine ⟨(by show 2 ≤ sizeLine; decide), fun W hW => ⟨_, rfl, (by show 2 ≤ sizeLine; decide), fun p hp2 => ?_⟩⟩
    have s4 := s3.trans (same_new (o := .tup [vn m, .ref l]) hW)
    have s5 := s4.trans (same_new (o := .tup [.ref W, .ref N]) hp2)
    refine q p W N _ (s12.trans s5) upd_same ⟨W, l, rfl, (same_new hp2) _ _ upd_same, l, vs, rfl, (same_new hp2) _ _ ((same_new hW) _ _ upd_same), al.mono fun _ _ r => r.mono (s12.trans s5)⟩ hN (s5 _ _ (s2 _ _ upd_same))
/-! ### Tied.hue_of -/
abbrev N_Tied_hue_of : List Str := ["self", "number"]
theorem sc_Tied_hue_of : FnScope N_Tied_hue_of ["self", "number"] (defScope s_Tied_hue_of) := ⟨rfl, rfl, rfl, by decide +kernel, rfl, by decide +kernel, by decide +kernel⟩
def sp_Tied_hue_of (K : PySem.W.Frag) : Sp := fun vs H Q _ => ∃ (o : Own) (m g b pl n i : Nat) (ns : List Nat) (ts : List Tie) (h : Hue), vs = [.ref o.self, vn n] ∧ TiedO K H o m ns ts h g b pl ∧ ns[i]? = some n ∧ Q (vo (hu h i)) H
theorem ok_Tied_hue_of (T : Tx P w K mg base) : Has P w K mg base 2 ("Tied", some "hue_of") ["self", "number"] (sp_Tied_hue_of K) := by
  obtain ⟨fd_Tied_look_tie, G_Tied_look_tie, b_Tied_look_tie, k_Tied_look_tie⟩ := ok_Tied_look_tie (P := P) (w := w) (base := base) T
  refine mkHas T 60 (d := d_Tied_hue_of) rfl sc_Tied_hue_of rfl rfl (fun us hl => match us, hl with | [_, _], _ => fun _ _ _ _ _ _ => rfl) (fun vs H Q E => ?_) (fun cdv A outer s H vs Q E hr h => ?_)
  · walk_at "len"
  · have hU := hu_of hr
    refine ⟨_, PSs.nox (pss_cons (ps_expr (pe_meth (pv 0) T.c_Tied T.m_Tied_look_tie G_Tied_look_tie (hr.mono (by decide)) b_Tied_look_tie .nil pass0 (pa_cons (pv 1) pa_nil)))
    (pss_one (ps_ret (pe_dget hU (pe_fld (pv 0) rfl) (pv 1) (fun _ _ => rfl))))), ?_⟩
    obtain ⟨o, m, g, b, pl, n, i, ns, ts, hh, rfl, O, hn, q⟩ := h
    have hl := O.nums.l2
    have hi2 := (List.getElem?_eq_some_iff.mp hn).1
    have D2 := dget_at O.hues (asc_nodup O.nums.asc) hn (hue_get (by omega))
    refine ⟨_, rfl, o.self, o.dx, _, rfl, O.ins, rfl, _, rfl, o, m, g, b, pl, n, ns, ts, hh, rfl, O, List.mem_of_getElem? hn, ?_⟩
    exact ⟨_, rfl, o.self, _, o.dx, _, _, rfl, O.ins, T.c_Tied, T.n_Tied_hues, rfl, _, rfl, o.U, _, rfl, D2, q⟩
/-! ### Tied.ties -/
abbrev N_Tied_ties : List Str := ["self", "number"]
theorem sc_Tied_ties : FnScope N_Tied_ties ["self"] (defScope s_Tied_ties) := ⟨rfl, rfl, rfl, by decide +kernel, rfl, by decide +kernel, by decide +kernel⟩
def sp_Tied_ties (K : PySem.W.Frag) : Sp := fun vs H Q _ => ∃ (o : Own) (m g b pl : Nat) (ns : List Nat) (ts : List Tie) (h : Hue), vs = [.ref o.self] ∧ TiedO K H o m ns ts h g b pl ∧
  ∀ D H', H D = none → Same H H' → LstR (RowR ns ts h H') H' (.ref D) (List.range ns.length) → Q (.ref D) H'
theorem ok_Tied_ties (T : Tx P w K mg base) : Has P w K mg base 1 ("Tied", some "ties") ["self"] (sp_Tied_ties K) := by
  refine mkHas T 61 (d := d_Tied_ties) rfl sc_Tied_ties rfl rfl (fun us hl => match us, hl with | [_], _ => fun _ _ _ _ _ _ => rfl) (fun vs H Q E => ?_) (fun cdv A outer s H vs Q E hr h => ?_)
  · walk_at "len"
  · have hU := hu_of hr
    refine ⟨_, PSs.nox (pss_one (ps_ret (pe_lc (own := [("number", 1)]) rfl sc_Tied_ties.nd (pi_list (pe_callB (call_sortedDI rfl) (by rfl) T.b_sorted (by decide +kernel) (pa_cons (pe_fld (pv 0) rfl) pa_nil))) (blkOk_by (N := N_Tied_ties) (sc := defScope s_Tied_ties) (by decide +kernel)) (fun _ _ _ _ _ => by exact (pg_name (i := 1) sc_Tied_ties.nd rfl (Or.inl rfl))) (fun _ _ _ _ _ => by exact pts_nil) (fun _ _ _ _ _ => by exact (pe_op (op_catAK (K := K) rfl) (pe_op (op_catAK (K := K) rfl) (pe_tup (pa_cons (pv 1) pa_nil)) (pe_dget hU (pe_fldK (K := K) rfl (pv 0) rfl) (pv 1) (fun _ _ => rfl))) (pe_tup (pa_cons (pe_dget hU (pe_fldK (K := K) rfl (pv 0) rfl) (pv 1) (fun _ _ => rfl)) pa_nil))))))), ?_⟩
    obtain ⟨o, m, g, b, pl, ns, ts, hh, rfl, O, q⟩ := h
    obtain ⟨vs, hE, al⟩ := O.ends
    have hf := O.nums.few
    have hl := O.nums.l1
    have hl2 := O.nums.l2
    have hlv : ns.length = vs.length := by rw [al.1, hl]
    refine ⟨_, rfl, o.self, _, o.dx, _, _, rfl, O.ins, T.c_Tied, T.n_Tied_ends, rfl, o.E, _, _, rfl, .of hE, dK_keys hlv, by rw [List.length_map]; omega, fun ys N hp hpw hN => ?_⟩
    rw [sorted_is hp hpw O.nums.asc, ← map_vn_int]
    have s1 : Same H (upd H N (.lst (ns.map vn))) := same_new hN
    refine ⟨N, rfl, ⟨_, .of upd_same⟩, fun D hD => ?_⟩
    refine lc_rel (n := (ns.map vn).length) walk_list (by rw [List.length_map]; omega) hD (fun H2 s2 => .of (s2 _ _ upd_same)) (fun _ => true) (fun i H v => RowR ns ts hh H v i) (fun i Ha Hb v s w => w.mono s) ?_ ?_
    · rintro i x H2 H3 acc hi s2 d2 ⟨rfl, e⟩ Good Skip hg hs
      rw [List.getElem?_map] at e
      obtain ⟨n, en2, rfl⟩ := Option.map_eq_some_iff.mp e
      have hi2 := (List.getElem?_eq_some_iff.mp en2).1
      have s12 := s1.trans s2
      obtain ⟨_, ev, p, rfl, hpt⟩ := al.get (getD_some (d := (0, 0)) (show i < ts.length by omega))
      have D1 := dget_at (s12 _ _ hE) (asc_nodup O.nums.asc) en2 ev
      refine ⟨rfl, _, rfl, (by show 1 ≤ sizeLine; decide), fun p1 hp1 => ?_⟩
      have s3 : Same H3 (upd H3 p1 (.tup [vn n])) := same_new hp1
      refine ⟨_, rfl, o.self, _, o.dx, _, _, rfl, s3 _ _ (s12 _ _ O.ins), T.c_Tied, T.n_Tied_ends, rfl, _, rfl, o.E, _, rfl, dget_at (s3 _ _ (s12 _ _ hE)) (asc_nodup O.nums.asc) en2 ev, ?_⟩
      refine ⟨p1, p, _, _, rfl, rfl, .of upd_same, .of (s3 _ _ (s12 _ _ hpt)), (by show 1 + 2 ≤ sizeLine; decide), (fun e => nomatch e), (fun _ e => nomatch e), fun _ _ p2 hp2 => ?_⟩
      have s4 := s3.trans (same_new (o := .tup ([vn n] ++ [vn (ts.getD i (0, 0)).1, vn (ts.getD i (0, 0)).2])) hp2)
      refine ⟨_, rfl, o.self, _, o.dx, _, _, rfl, s4 _ _ (s12 _ _ O.ins), T.c_Tied, T.n_Tied_hues, rfl, _, rfl, o.U, _, rfl, dget_at (s4 _ _ (s12 _ _ O.hues)) (asc_nodup O.nums.asc) en2 (hue_get (by omega)), (by show 1 ≤ sizeLine; decide), fun p3 hp3 => ?_⟩
      have s5 := s4.trans (same_new (o := .tup [vo (hu hh i)]) hp3)
      refine ⟨p2, p3, _, _, rfl, rfl, .of ((same_new hp3) _ _ upd_same), .of upd_same, (by show 3 + 1 ≤ sizeLine; decide), (fun e => nomatch e), (fun _ e => nomatch e), fun _ _ p4 hp4 => ?_⟩
      have nD : p4 ≠ D := (ne_of_none (s5 _ _ d2) hp4).symm
      refine hg rfl _ _ (s5.trans (same_new hp4)) ⟨p4, rfl, ?_⟩
      rw [del_ne nD, upd_same, getD_of en2]
      rfl
    · intro H2 ys s2 d2 al2
      rw [filter_all, List.length_map] at al2
      exact q D H2 (s1.free hD) (s1.trans s2) ⟨D, ys, rfl, d2, al2⟩
/-! ### Tied.limit -/
abbrev N_Tied_limit : List Str := ["self"]
theorem sc_Tied_limit : FnScope N_Tied_limit ["self"] (defScope s_Tied_limit) := ⟨rfl, rfl, rfl, by decide +kernel, rfl, by decide +kernel, by decide +kernel⟩
def sp_Tied_limit (K : PySem.W.Frag) : Sp := fun vs H Q _ => ∃ (o : Own) (m g b pl : Nat) (ns : List Nat) (ts : List Tie) (h : Hue), vs = [.ref o.self] ∧ TiedO K H o m ns ts h g b pl ∧ Q (vn b) H
theorem ok_Tied_limit (T : Tx P w K mg base) : Has P w K mg base 1 ("Tied", some "limit") ["self"] (sp_Tied_limit K) := by
  refine mkHas T 62 (d := d_Tied_limit) rfl sc_Tied_limit rfl rfl (fun us hl => match us, hl with | [_], _ => fun _ _ _ _ _ _ => rfl) (fun vs H Q E => ?_) (fun cdv A outer s H vs Q E hr h => ?_)
  · walk_at "len"
  · have hU := hu_of hr
    refine ⟨_, PSs.nox (pss_one (ps_ret (pe_fld (pv 0) rfl))), ?_⟩
    obtain ⟨o, m, g, b, pl, ns, ts, hh, rfl, O, q⟩ := h
    exact ⟨_, rfl, o.self, _, o.dx, _, _, rfl, O.ins, T.c_Tied, T.n_Tied_bound, rfl, q⟩
/-! ### Tied.take_on -/
abbrev N_Tied_take_on : List Str := ["self", "numbers", "hueing", "changes", "number", "hue"]
theorem sc_Tied_take_on : FnScope N_Tied_take_on ["self", "numbers", "hueing"] (defScope s_Tied_take_on) := ⟨rfl, rfl, rfl, by decide +kernel, rfl, by decide +kernel, by decide +kernel⟩
def sp_Tied_take_on (K : PySem.W.Frag) : Sp := fun vs H Q _ => ∃ (o : Own) (nv hv : V) (m g b pl : Nat) (ns : List Nat) (ts : List Tie) (h h' : Hue), vs = [.ref o.self, nv, hv] ∧ TiedO K H o m ns ts h g b pl ∧ NatR H nv ns ∧ HueR H hv h' ∧ h'.length = ns.length ∧
  ∀ D H', Keeps o H H' → LT H H' → H D = none → TiedO K H' o m ns ts h' g b pl → LstR (ChgR ns h h' H') H' (.ref D) (diffs h h' ns.length) → Q (.ref D) H'
theorem ok_Tied_take_on (T : Tx P w K mg base) : Has P w K mg base 1 ("Tied", some "take_on") ["self", "numbers", "hueing"] (sp_Tied_take_on K) := by
  refine mkHas T 57 (d := d_Tied_take_on) rfl sc_Tied_take_on rfl rfl (fun us hl => match us, hl with | [_, _, _], _ => fun _ _ _ _ _ _ => rfl) (fun vs H Q E => ?_) (fun cdv A outer s H vs Q E hr h => ?_)
  · walk_at "len"
  · have hU := hu_of hr
    refine ⟨_, PSs.nox (pss_cons (ps_set (i := 3) sc_Tied_take_on.nd rfl (Or.inl rfl) (pe_lst pa_nil))
    (pss_cons (ps_for PassesOwn.never rfl (pi_zip (by rfl) T.b_zip (pa_cons (pv 1) (pa_cons (pv 2) pa_nil))) (pg_tup rfl (pgs_cons (pg_name (i := 4) sc_Tied_take_on.nd rfl (Or.inl rfl)) (pgs_cons (pg_name (i := 5) sc_Tied_take_on.nd rfl (Or.inl rfl)) pgs_nil)))
      (pss_one (ps_if (pt_cmpR op_ne (pe_dget hU (pe_fld (pv 0) rfl) (pv 4) (fun _ _ => rfl)) (pv 5) (nomark _)) (pss_cons (ps_expr (pe_bm PySem.F.plainAttrs_list PySem.F.slot_list_append PySem.F.type_list_append mt_append (pv 3) (pa_cons (pe_tup (pa_cons (pv 4) (pa_cons (pe_dget hU (pe_fld (pv 0) rfl) (pv 4) (fun _ _ => rfl)) (pa_cons (pv 5) pa_nil)))) pa_nil)))
        (pss_one (ps_dput hU (pe_fld (pv 0) rfl) (pv 4) (pv 5) rfl))) pss_nil)))
    (pss_one (ps_ret (pv 3))))), ?_⟩
    obtain ⟨o, nv, hv, m, g, b, pl, ns, ts, hh, h', rfl, O, ⟨na, rfl, hna⟩, ⟨ha, rfl, hha⟩, hl', q⟩ := h
    have hf := O.nums.few
    have hl2 := O.nums.l2
    have nd := asc_nodup O.nums.asc
    refine ⟨by decide, fun D hD => ?_⟩
    have hDo := O.free hD
    have nUD : o.U ≠ D := fun z => hDo (z ▸ Own.U_mem)
    have nED : o.E ≠ D := fun z => hDo (z ▸ Own.E_mem)
    have nPD : o.P ≠ D := fun z => hDo (z ▸ Own.P_mem)
    have s0 : Same H (upd H D (.lst [])) := same_new hD
    have dn : dels H o.l D = none := by rw [dels_ne hDo]; exact hD
    refine ⟨_, rfl, _, rfl, na, ha, ns.map vn, h'.map vo, rfl, .of (s0 _ _ hna), .of (s0 _ _ hha), ?_⟩
    refine for_it (n := ns.length) (walk_zip (xs := ns.map vn) (ys := h'.map vo) (by rw [List.length_map, List.length_map]; omega)) (fun i σ H2 => Keeps o H H2 ∧ LT H H2 ∧ TiedO K H2 o m ns ts (mixH hh h' ns.length i) g b pl ∧ (∃ z1 z2, σ = [some (.ref o.self), some (.ref na), some (.ref ha), some (.ref D), z1, z2]) ∧ ∃ ys, H2 D = some (.lst ys) ∧ Al (ChgR ns hh h' H2) ys ((List.range i).filter fun i => decide (hu hh i ≠ hu h' i))) ?_ (fun i σ H2 _ h2 => ⟨.of (h2.2.1.lst _ _ hna), .of (h2.2.1.lst _ _ hha)⟩) ?_ ?_
    · refine ⟨.of s0, .of s0, ?_, ⟨_, _, rfl⟩, [], upd_same, Al.nil⟩
      rw [mixH_0 hl2.symm]
      exact O.mono s0
    · rintro i x σ H2 H3 hi ⟨k2, l2, O2, ⟨z1, z2, rfl⟩, ys, d2, al⟩ ⟨t, y, z, rfl, hn, rfl, e1, e2⟩
      replace e1 : (ns.map vn)[i]? = some y := e1
      replace e2 : (h'.map vo)[i]? = some z := e2
      rw [List.getElem?_map] at e1
      obtain ⟨n, en2, rfl⟩ := Option.map_eq_some_iff.mp e1
      rw [hue_get (show i < h'.length by omega)] at e2
      obtain rfl := Option.some.inj e2
      have s3 : Same H2 (upd H2 t (.tup [vn n, vo (hu h' i)])) := same_new hn
      have O3 := O2.mono s3
      have hmi : ((mixH hh h' ns.length i).map vo)[i]? = some (vo (hu hh i)) := by
        rw [List.getElem?_map, mixH_at hi, if_neg (Nat.lt_irrefl _)]
        rfl
      have D3 := dget_at O3.hues nd en2 hmi
      have d3 := s3 _ _ d2
      refine ⟨t, _, rfl, .of upd_same, rfl, _, _, rfl, _, _, rfl, rfl, ?_⟩
      refine ⟨_, rfl, o.self, _, o.dx, _, _, rfl, O3.ins, T.c_Tied, T.n_Tied_hues, rfl, _, rfl, o.U, _, rfl, D3, _, rfl, vo_scal _ _, _, rfl, ?_⟩
      by_cases e : hu hh i = hu h' i
      · rw [decide_eq_true (show vo (hu hh i) = vo (hu h' i) by rw [e])]
        refine iteF ⟨k2.trans (.of s3), l2.trans (.of s3), ?_, ⟨_, _, rfl⟩, ys, d3, ?_⟩
        · rw [← mixH_skip e]
          exact O3
        · rw [range_filter_succ, if_neg (by simp [e]), List.append_nil]
          exact al.mono fun _ _ r => r.mono s3
      · rw [decide_eq_false (show ¬ vo (hu hh i) = vo (hu h' i) from fun z => e (vo_inj z))]
        refine iteT ?_
        have lz : ys.length < sizeLine := by
          have := List.length_filter_le (fun i => decide (hu hh i ≠ hu h' i)) (List.range i)
          rw [List.length_range] at this
          rw [al.1]
          exact smalls (by omega)
        refine ⟨_, rfl, ty_lst d3, _, rfl, _, rfl, o.self, _, o.dx, _, _, rfl, O3.ins, T.c_Tied, T.n_Tied_hues, rfl, _, rfl, o.U, _, rfl, D3, _, rfl, (by show 3 ≤ sizeLine; decide), fun p hp => ?_⟩
        have s4 : Same (upd H2 t (.tup [vn n, vo (hu h' i)])) (upd (upd H2 t (.tup [vn n, vo (hu h' i)])) p (.tup [vn n, vo (hu hh i), vo (hu h' i)])) := same_new hp
        have O4 := O3.mono s4
        have d4 := s4 _ _ d3
        have p4 : upd (upd H2 t (.tup [vn n, vo (hu h' i)])) p (.tup [vn n, vo (hu hh i), vo (hu h' i)]) p = some (.tup [vn n, vo (hu hh i), vo (hu h' i)]) := upd_same
        have l4 := l2.trans (.of (s3.trans s4))
        have k4 := k2.trans (.of (s3.trans s4))
        have s34 := s3.trans s4
        generalize upd (upd H2 t (.tup [vn n, vo (hu h' i)])) p (.tup [vn n, vo (hu hh i), vo (hu h' i)]) = H4 at *
        refine ⟨D, ys, _, rfl, rfl, d4, lz, ?_⟩
        have i5 := (show upd H4 D (.lst (ys ++ [.ref p])) o.self = H4 o.self from upd_ne fun z => hDo (z ▸ Own.self_mem)).trans O4.ins
        have u5 := (show upd H4 D (.lst (ys ++ [.ref p])) o.U = H4 o.U from upd_ne nUD).trans O4.hues
        refine ⟨_, rfl, _, rfl, o.self, _, o.dx, _, _, rfl, i5, T.c_Tied, T.n_Tied_hues, rfl, _, rfl, o.U, _, rfl, DPut.k (k := Sum.inl (n : Int)) u5 ?_, ?_⟩
        · rw [dK_len (by rw [List.length_map, mixH_len])]
          exact smalls (by omega)
        rw [put_at nd (by rw [List.length_map, mixH_len]) en2, show ((mixH hh h' ns.length i).map vo).set i (vo (hu h' i)) = (mixH hh h' ns.length (i + 1)).map vo by rw [← mixH_set hi, List.map_set]]
        -- the list, then the dict
        have ltD : LT H (upd H4 D (.lst (ys ++ [.ref p]))) := by
          refine ⟨fun a xs ea => ?_, fun a xs ea => ?_⟩
          · rw [upd_ne (ne_of_none ea hD)]
            exact l4.lst _ _ ea
          · rw [upd_ne (ne_of_none ea hD)]
            exact l4.tup _ _ ea
        have tupD : ∀ a xs, H4 a = some (.tup xs) → upd H4 D (.lst (ys ++ [.ref p])) a = some (.tup xs) := fun a xs ea => by
          rw [upd_ne, ea]
          rintro rfl
          rw [d4] at ea
          cases ea
        have O5 : TiedO K (upd H4 D (.lst (ys ++ [.ref p]))) o m ns ts (mixH hh h' ns.length i) g b pl := by
          obtain ⟨vs, w1, w2⟩ := O4.ends
          obtain ⟨zs, w3, w4⟩ := O4.past
          refine ⟨i5, ⟨vs, by rw [upd_ne nED]; exact w1, w2.mono fun _ _ r => ?_⟩, u5, ⟨zs, by rw [upd_ne nPD]; exact w3, w4⟩, O4.ne, O4.nums⟩
          obtain ⟨a, r1, r2⟩ := r
          exact ⟨a, r1, tupD _ _ r2⟩
        have ltU : LT (upd H4 D (.lst (ys ++ [.ref p]))) (upd (upd H4 D (.lst (ys ++ [.ref p]))) o.U (.dK (dK ns ((mixH hh h' ns.length (i + 1)).map vo)))) := .dk u5
        refine ⟨Keeps.upd (same_mut k4 dn) Own.U_mem, ltD.trans ltU, O5.put1 mixH_len, ⟨_, _, rfl⟩, ys ++ [.ref p], ?_, ?_⟩
        · exact ltU.lst _ _ upd_same
        · rw [range_filter_succ, if_pos (by simpa using e)]
          refine Al.snoc (al.mono fun _ _ r => ?_) ⟨p, rfl, ?_⟩
          · obtain ⟨a, r1, r2⟩ := r
            exact ⟨a, r1, ltU.tup _ _ (tupD _ _ (s34 _ _ r2))⟩
          · refine ltU.tup _ _ (tupD _ _ ?_)
            rw [p4, getD_of en2]
    · rintro σ H2 ⟨k2, l2, O2, ⟨z1, z2, rfl⟩, ys, d2, al⟩
      rw [mixH_n hl'] at O2
      exact ⟨_, rfl, q D H2 k2 l2 hD O2 ⟨D, ys, rfl, d2, al⟩⟩
/-! ### Tied.come -/
abbrev N_Tied_come : List Str := ["self", "one", "other", "number", "web", "numbers", "hueing", "steps", "changes", "step"]
theorem sc_Tied_come : FnScope N_Tied_come ["self", "one", "other"] (defScope s_Tied_come) := ⟨rfl, rfl, rfl, by decide +kernel, rfl, by decide +kernel, by decide +kernel⟩
def tieOfTwo (x y : Nat) : Tie := if y < x then (y, x) else (x, y)
def sp_Tied_come (K : PySem.W.Frag) : Sp := fun vs H Q _ => ∃ (o : Own) (m g pl x y : Nat) (ns : List Nat) (ts : List Tie) (h : Hue), vs = [.ref o.self, vn x, vn y] ∧ TiedO K H o m ns ts h g (mostAt m ts + thick ts) pl ∧ WebOk m ts ∧ Proper ts h ∧ Full h ∧ Below h (mostAt m ts + thick ts) ∧ x < m ∧ y < m ∧ x ≠ y ∧ ns.length < 60 ∧ pl ≤ 1000 ∧
  ∀ H' p St Ch h', Keeps o H H' → TiedO K H' o m (ns ++ [g]) (ts ++ [tieOfTwo x y]) h' (g + 1) (mostAt m (ts ++ [tieOfTwo x y]) + thick (ts ++ [tieOfTwo x y])) (pl + 1) → WebOk m (ts ++ [tieOfTwo x y]) → Proper (ts ++ [tieOfTwo x y]) h' → Full h' → Below h' (mostAt m (ts ++ [tieOfTwo x y]) + thick (ts ++ [tieOfTwo x y])) →
    H' p = some (.tup [vn g, St, Ch]) → LstR (ChgR (ns ++ [g]) (h ++ [none]) h' H') H' Ch (diffs (h ++ [none]) h' (ns.length + 1)) → Q (.ref p) H'
theorem tieOfTwo_ok {x y m : Nat} (h : x ≠ y) (hx : x < m) (hy : y < m) : (tieOfTwo x y).1 < (tieOfTwo x y).2 ∧ (tieOfTwo x y).2 < m := by
  unfold tieOfTwo
  split
  · exact ⟨by assumption, hx⟩
  · exact ⟨by show x < y; omega, hy⟩
theorem tieOfTwo_V {x y : Nat} : [V.int (if (y : Int) < (x : Int) then (y : Int) else (x : Int)), V.int (if (y : Int) > (x : Int) then (y : Int) else (x : Int))] = [vn (tieOfTwo x y).1, vn (tieOfTwo x y).2] := by
  unfold tieOfTwo
  by_cases h : y < x
  · rw [if_pos h, if_pos (by omega), if_neg (by omega)]
  · rw [if_neg h, if_neg (by omega)]
    by_cases h2 : x < y
    · rw [if_pos (by omega)]
    · have : x = y := by omega
      subst this
      rw [if_neg (by omega)]
theorem ok_Tied_come (T : Tx P w K mg base) : Has P w K mg base 11 ("Tied", some "come") ["self", "one", "other"] (sp_Tied_come K) := by
  obtain ⟨fd_is_place, G_is_place, b_is_place, k_is_place⟩ := ok_is_place (P := P) (w := w) (base := base) T
  obtain ⟨fd_Tied_keep_past, G_Tied_keep_past, b_Tied_keep_past, k_Tied_keep_past⟩ := ok_Tied_keep_past (P := P) (w := w) (base := base) T
  obtain ⟨fd_Tied_web_now, G_Tied_web_now, b_Tied_web_now, k_Tied_web_now⟩ := ok_Tied_web_now (P := P) (w := w) (base := base) T
  obtain ⟨fd_enough_for, G_enough_for, b_enough_for, k_enough_for⟩ := ok_enough_for (P := P) (w := w) (base := base) T
  obtain ⟨fd_Tied_hueing_now, G_Tied_hueing_now, b_Tied_hueing_now, k_Tied_hueing_now⟩ := ok_Tied_hueing_now (P := P) (w := w) (base := base) T
  obtain ⟨fd_hued_in, G_hued_in, b_hued_in, k_hued_in⟩ := ok_hued_in (P := P) (w := w) (base := base) T
  obtain ⟨fd_Tied_take_on, G_Tied_take_on, b_Tied_take_on, k_Tied_take_on⟩ := ok_Tied_take_on (P := P) (w := w) (base := base) T
  obtain ⟨fd_behind_steps, G_behind_steps, b_behind_steps, k_behind_steps⟩ := ok_behind_steps (P := P) (w := w) (base := base) T
  obtain ⟨fd_in_numbers, G_in_numbers, b_in_numbers, k_in_numbers⟩ := ok_in_numbers (P := P) (w := w) (base := base) T
  refine mkHas T 58 (d := d_Tied_come) rfl sc_Tied_come rfl rfl (fun us hl => match us, hl with | [_, _, _], _ => fun _ _ _ _ _ _ => rfl) (fun vs H Q E => ?_) (fun cdv A outer s H vs Q E hr h => ?_)
  · walk_at "len"
  · have hU := hu_of hr
    refine ⟨_, PSs.nox (pss_cons (ps_if (PW.pt (pw_or (pt_not (pt_val (pe_call G_is_place (hr.mono (by decide)) rfl T.g_is_place k_is_place b_is_place .nil pass0 (pa_cons (pv 1) (pa_cons (pe_fld (pv 0) rfl) pa_nil))))) (pw_or (pt_not (pt_val (pe_call G_is_place (hr.mono (by decide)) rfl T.g_is_place k_is_place b_is_place .nil pass0 (pa_cons (pv 2) (pa_cons (pe_fld (pv 0) rfl) pa_nil))))) (pw_or1 (pt_cmpR op_eq (pv 1) (pv 2) (nomark _)))))) (pss_one ps_never) pss_nil)
    (pss_cons (ps_expr (pe_meth0 (pv 0) T.c_Tied T.m_Tied_keep_past G_Tied_keep_past (hr.mono (by decide)) b_Tied_keep_past .nil pass0))
    (pss_cons (ps_set (i := 3) sc_Tied_come.nd rfl (Or.inl rfl) (pe_fld (pv 0) rfl))
    (pss_cons (ps_fldaug (pv 0) pe_int in_add)
    (pss_cons (ps_dput hU (pe_fld (pv 0) rfl) (pv 3) (pe_tup (pa_cons (pe_callB (call_min2 rfl) (by rfl) T.b_min (by decide +kernel) (pa_cons (pv 1) (pa_cons (pv 2) pa_nil))) (pa_cons (pe_callB (call_max2 rfl) (by rfl) T.b_max (by decide +kernel) (pa_cons (pv 1) (pa_cons (pv 2) pa_nil))) pa_nil))) rfl)
    (pss_cons (ps_dput hU (pe_fld (pv 0) rfl) (pv 3) pe_non rfl)
    (pss_cons (ps_asg (pe_meth0 (pv 0) T.c_Tied T.m_Tied_web_now G_Tied_web_now (hr.mono (by decide)) b_Tied_web_now .nil pass0) (pg_tup rfl (pgs_cons (pg_name (i := 4) sc_Tied_come.nd rfl (Or.inl rfl)) (pgs_cons (pg_name (i := 5) sc_Tied_come.nd rfl (Or.inr rfl)) pgs_nil))))
    (pss_cons (ps_fld (pv 0) (pe_callB (call_max2 rfl) (by rfl) T.b_max (by decide +kernel) (pa_cons (pe_fld (pv 0) rfl) (pa_cons (pe_call G_enough_for (hr.mono (by decide)) rfl T.g_enough_for k_enough_for b_enough_for .nil pass0 (pa_cons (pv 4) pa_nil)) pa_nil))) rfl)
    (pss_cons (ps_set (i := 6) sc_Tied_come.nd rfl (Or.inl rfl) (pe_meth (pv 0) T.c_Tied T.m_Tied_hueing_now G_Tied_hueing_now (hr.mono (by decide)) b_Tied_hueing_now .nil pass0 (pa_cons (pv 5) pa_nil)))
    (pss_cons (ps_set (i := 7) sc_Tied_come.nd rfl (Or.inl rfl) (pe_call G_hued_in (hr.mono (by decide)) rfl T.g_hued_in k_hued_in b_hued_in .nil pass0 (pa_cons (pv 4) (pa_cons (pv 6) (pa_cons (pe_op op_sub (pe_callB call_len_seq (by rfl) T.b_len (by decide +kernel) (pa_cons (pv 5) pa_nil)) pe_int) (pa_cons (pe_fld (pv 0) rfl) pa_nil))))))
    (pss_cons (ps_set (i := 8) sc_Tied_come.nd rfl (Or.inl rfl) (pe_meth (pv 0) T.c_Tied T.m_Tied_take_on G_Tied_take_on (hr.mono (by decide)) b_Tied_take_on .nil pass0 (pa_cons (pv 5) (pa_cons (pe_call G_behind_steps (hr.mono (by decide)) rfl T.g_behind_steps k_behind_steps b_behind_steps .nil pass0 (pa_cons (pv 4) (pa_cons (pv 6) (pa_cons (pv 7) pa_nil)))) pa_nil))))
    (pss_one (ps_ret (pe_tup (pa_cons (pv 3) (pa_cons (pe_lc (own := [("step", 9)]) rfl sc_Tied_come.nd (pi_list (pv 7)) (blkOk_by (N := N_Tied_come) (sc := defScope s_Tied_come) (by decide +kernel)) (fun _ _ _ _ _ => by exact (pg_name (i := 9) sc_Tied_come.nd rfl (Or.inl rfl))) (fun _ _ _ _ _ => by exact pts_nil) (fun _ _ _ _ _ => by exact (pe_call G_in_numbers (hr.mono (by decide)) rfl T.g_in_numbers k_in_numbers b_in_numbers .nil pass0 (pa_cons (pv 9) (pa_cons (pv 5) pa_nil))))) (pa_cons (pv 8) pa_nil))))))))))))))))), ?_⟩
    obtain ⟨o, m, g, pl, x, y, ns, ts, hh, rfl, O, WO, Pr, Fl, B, hx, hy, hxy, hf, hpl, q⟩ := h
    have hz : ts.length < 60 := by rw [← O.nums.l1]; exact hf
    refine ⟨_, rfl, _, rfl, o.self, _, o.dx, _, _, rfl, O.ins, T.c_Tied, T.n_Tied_many, rfl, x, m, rfl, hx, true, rfl, iteF ?_⟩
    refine ⟨_, rfl, _, rfl, o.self, _, o.dx, _, _, rfl, O.ins, T.c_Tied, T.n_Tied_many, rfl, y, m, rfl, hy, true, rfl, iteF ?_⟩
    refine ⟨_, rfl, _, rfl, rfl, _, rfl, ?_⟩
    rw [decide_eq_false (show ¬ V.int (x : Int) = V.int (y : Int) from fun z => hxy (by injection z with z; omega))]
    refine iteF ⟨_, rfl, o.self, o.dx, _, rfl, O.ins, rfl, o, m, g, _, pl, ns, ts, hh, rfl, O, hpl, fun H1 k1 O1 => ?_⟩
    refine ⟨_, rfl, o.self, _, o.dx, _, _, rfl, O1.ins, T.c_Tied, T.n_Tied_given, rfl, ?_⟩
    refine ⟨_, rfl, o.self, _, o.dx, _, _, rfl, O1.ins, T.c_Tied, T.n_Tied_given, rfl, _, _, rfl, rfl, o.dx, _, O1.ins, (by show 6 < 1000; decide), ?_⟩
    have O2 := O1.field (g' := g + 1) (b' := mostAt m ts + thick ts) (Nat.le_succ g)
    have k2 : Keeps o H (upd H1 o.self (.ins (He.ga K "Tied") o.dx (tiedFs m o.E o.U (g + 1) (mostAt m ts + thick ts) o.P))) := k1.upd Own.self_mem
    have eput : upd H1 o.self (.ins (He.ga K "Tied") o.dx (putF (Str.ofString "given") (V.int ((g : Int) + 1)) (tiedFs m o.E o.U g (mostAt m ts + thick ts) o.P))) = upd H1 o.self (.ins (He.ga K "Tied") o.dx (tiedFs m o.E o.U (g + 1) (mostAt m ts + thick ts) o.P)) := rfl
    generalize hH2 : upd H1 o.self (.ins (He.ga K "Tied") o.dx (tiedFs m o.E o.U (g + 1) (mostAt m ts + thick ts) o.P)) = H2 at O2 k2 eput
    rw [eput]
    refine ⟨_, rfl, _, rfl, (x : Int), (y : Int), rfl, _, rfl, _, rfl, (x : Int), (y : Int), rfl, (by show 2 ≤ sizeLine; decide), fun p1 hp1 => ?_⟩
    rw [tieOfTwo_V]
    have s3 : Same H2 (upd H2 p1 (.tup [vn (tieOfTwo x y).1, vn (tieOfTwo x y).2])) := same_new hp1
    have O3 := O2.mono s3
    have k3 := k2.trans (.of s3)
    have t3 : TieR (upd H2 p1 (.tup [vn (tieOfTwo x y).1, vn (tieOfTwo x y).2])) (.ref p1) (tieOfTwo x y) := ⟨p1, rfl, upd_same⟩
    generalize upd H2 p1 (.tup [vn (tieOfTwo x y).1, vn (tieOfTwo x y).2]) = H3 at *
    obtain ⟨vs, hE, al⟩ := O3.ends
    have hlv : ns.length = vs.length := by rw [al.1, O3.nums.l1]
    have gns : g ∉ ns := fun hm => Nat.lt_irrefl _ (O.nums.lt g hm)
    refine ⟨_, rfl, o.self, _, o.dx, _, _, rfl, O3.ins, T.c_Tied, T.n_Tied_ends, rfl, _, rfl, o.E, _, rfl, DPut.k (k := Sum.inl (g : Int)) hE (by rw [dK_len hlv]; exact smalls (by omega)), ?_⟩
    rw [put_new hlv gns]
    have i4 := (show upd H3 o.E (.dK (dK (ns ++ [g]) (vs ++ [.ref p1]))) o.self = H3 o.self from upd_ne O3.nsE.1).trans O3.ins
    have u4 := (show upd H3 o.E (.dK (dK (ns ++ [g]) (vs ++ [.ref p1]))) o.U = H3 o.U from upd_ne O3.ne.symm).trans O3.hues
    refine ⟨_, rfl, o.self, _, o.dx, _, _, rfl, i4, T.c_Tied, T.n_Tied_hues, rfl, _, rfl, o.U, _, rfl, DPut.k (k := Sum.inl (g : Int)) u4 (by rw [dK_len (by rw [List.length_map]; exact O3.nums.l2)]; exact smalls (by omega)), ?_⟩
    rw [put_new (by rw [List.length_map]; exact O3.nums.l2) gns]
    have N5 : Nums (ns ++ [g]) (ts ++ [tieOfTwo x y]) (hh ++ [none]) (g + 1) := O.nums.app _ _ hf
    have O5 := O3.put2 (al.snoc t3) N5
    have e5 : (hh.map vo ++ [V.non]) = (hh ++ [none]).map vo := by
      rw [List.map_append]
      rfl
    rw [e5]
    have k5 : Keeps o H (upd (upd H3 o.E (.dK (dK (ns ++ [g]) (vs ++ [.ref p1])))) o.U (.dK (dK (ns ++ [g]) ((hh ++ [none]).map vo)))) := (k3.upd Own.E_mem).upd Own.U_mem
    generalize upd (upd H3 o.E (.dK (dK (ns ++ [g]) (vs ++ [.ref p1])))) o.U (.dK (dK (ns ++ [g]) ((hh ++ [none]).map vo))) = H5 at *
    clear hH2 eput e5 hE al u4 i4 t3 s3 O3 O2 O1 k1 k2 k3
    refine ⟨_, rfl, o.self, o.dx, _, rfl, O5.ins, rfl, o, m, _, _, _, _, _, _, rfl, O5, fun p W N H6 s6 hp6 W6 hN5 hN6 => ?_⟩
    have O6 := O5.mono s6
    have k6 := k5.trans (.of s6)
    obtain ⟨w1, w2⟩ := tieOfTwo_ok hxy hx hy
    have WO6 : WebOk m (ts ++ [tieOfTwo x y]) := web_app WO w1 w2 (by omega)
    refine ⟨p, _, rfl, .of hp6, rfl, _, _, rfl, _, _, rfl, rfl, ?_⟩
    refine ⟨_, rfl, o.self, _, o.dx, _, _, rfl, O6.ins, T.c_Tied, T.n_Tied_bound, rfl, _, rfl, _, m, _, rfl, W6, WO6, fun H7 s7 => ⟨_, _, rfl, ?_⟩⟩
    have O7 := O6.mono s7
    have k7 := k6.trans (.of s7)
    have hmost : mostAt m ts ≤ mostAt m (ts ++ [tieOfTwo x y]) := mostAt_app
    have hthick : thick ts ≤ thick (ts ++ [tieOfTwo x y]) := thick_app
    have hb : (if ((mostAt m (ts ++ [tieOfTwo x y]) + thick (ts ++ [tieOfTwo x y]) : Nat) : Int) > ((mostAt m ts + thick ts : Nat) : Int) then ((mostAt m (ts ++ [tieOfTwo x y]) + thick (ts ++ [tieOfTwo x y]) : Nat) : Int) else ((mostAt m ts + thick ts : Nat) : Int)) = ((mostAt m (ts ++ [tieOfTwo x y]) + thick (ts ++ [tieOfTwo x y]) : Nat) : Int) := by
      split
      · rfl
      · omega
    rw [hb]
    refine ⟨_, rfl, o.self, _, o.dx, _, rfl, O7.ins, T.c_Tied, T.n_Tied_bound, (by show 6 < 1000; decide), ?_⟩
    have O8 := O7.field (g' := g + 1) (b' := mostAt m (ts ++ [tieOfTwo x y]) + thick (ts ++ [tieOfTwo x y])) (Nat.le_refl _)
    have k8 : Keeps o H (upd H7 o.self (.ins (He.ga K "Tied") o.dx (tiedFs m o.E o.U (g + 1) (mostAt m (ts ++ [tieOfTwo x y]) + thick (ts ++ [tieOfTwo x y])) o.P))) := k7.upd Own.self_mem
    have l8 : LT H7 (upd H7 o.self (.ins (He.ga K "Tied") o.dx (tiedFs m o.E o.U (g + 1) (mostAt m (ts ++ [tieOfTwo x y]) + thick (ts ++ [tieOfTwo x y])) o.P))) := .ins O7.ins
    have eput : upd H7 o.self (.ins (He.ga K "Tied") o.dx (putF (Str.ofString "bound") (V.int ((mostAt m (ts ++ [tieOfTwo x y]) + thick (ts ++ [tieOfTwo x y]) : Nat) : Int)) (tiedFs m o.E o.U (g + 1) (mostAt m ts + thick ts) o.P))) = upd H7 o.self (.ins (He.ga K "Tied") o.dx (tiedFs m o.E o.U (g + 1) (mostAt m (ts ++ [tieOfTwo x y]) + thick (ts ++ [tieOfTwo x y])) o.P)) := rfl
    have W8 := (W6.mono s7).lt l8
    have N8 := l8.lst _ _ (s7 _ _ hN6)
    generalize upd H7 o.self (.ins (He.ga K "Tied") o.dx (tiedFs m o.E o.U (g + 1) (mostAt m (ts ++ [tieOfTwo x y]) + thick (ts ++ [tieOfTwo x y])) o.P)) = H8 at O8 k8 eput W8 N8 l8
    rw [eput]
    refine ⟨_, rfl, o.self, o.dx, _, rfl, O8.ins, rfl, _, rfl, o, _, m, _, _, _, _, _, _, rfl, O8, ⟨N, rfl, N8⟩, fun Hu H9 hHu s9 u9 => ?_⟩
    have O9 := O8.mono s9
    have k9 := k8.trans (.of s9)
    have N9 := s9 _ _ N8
    have W9 := W8.mono s9
    have Pr9 : Proper (ts ++ [tieOfTwo x y]) (hh ++ [none]) := proper_app Pr
    have B9 : Below (hh ++ [none]) (mostAt m (ts ++ [tieOfTwo x y]) + thick (ts ++ [tieOfTwo x y])) := below_app B (by omega)
    have hnl : ns.length = hh.length := O.nums.l2
    have htl : ts.length = hh.length := Pr.1.symm
    have len1 : (((ns ++ [g]).map vn).length : Int) - 1 = (hh.length : Int) := by
      rw [List.length_map, List.length_append, List.length_singleton]
      omega
    refine ⟨_, rfl, _, rfl, _, rfl, N, _, rfl, .inl (.of N9), _, _, rfl, rfl, ?_⟩
    have hmo := mostAt_le (m := m) (ts := ts ++ [tieOfTwo x y])
    have hth := thick_le (ts := ts ++ [tieOfTwo x y])
    rw [List.length_append, List.length_singleton] at hmo hth
    refine ⟨_, rfl, o.self, _, o.dx, _, _, rfl, O9.ins, T.c_Tied, T.n_Tied_bound, rfl, _, _, m, hh.length, _, _, _, congrArg (fun z : Int => [V.ref W, V.ref Hu, V.int z, vn (mostAt m (ts ++ [tieOfTwo x y]) + thick (ts ++ [tieOfTwo x y]))]) len1, W9, ⟨Hu, rfl, u9⟩, WO6, Pr9, B9, by rw [List.length_append, List.length_singleton]; omega, hu_last, Nat.le_refl _, by omega, fun Sd H10 ss hSd s10 RS HI HL => ?_⟩
    have O10 := O9.mono s10
    have k10 := k9.trans (.of s10)
    obtain ⟨h', pl', Pr', B', hh'⟩ := HI
    have hss := pl'.steps
    refine ⟨_, rfl, o.self, o.dx, _, rfl, O10.ins, rfl, _, rfl, _, rfl, _, rfl, _, rfl, _, _, _, m, _, _, h', ss, rfl, W9.mono s10, ⟨Hu, rfl, s10 _ _ u9⟩, RS, by omega, WO6, Pr9, pl', fun H11 xv s11 R11 => ?_⟩
    have O11 := O10.mono s11
    have k11 := k10.trans (.of s11)
    have N11 := s11 _ _ (s10 _ _ N9)
    have RS11 := RS.mono s11 fun _ _ r => r.mono s11
    have hl' : h'.length = (ns ++ [g]).length := by
      rw [Pr'.1, List.length_append, List.length_append, O.nums.l1]
      rfl
    refine ⟨o, _, _, m, _, _, _, _, _, _, h', rfl, O11, ⟨N, rfl, N11⟩, R11, hl', fun Ch H12 k12 l12 hCh O12 R12 => ?_⟩
    have N12 := l12.lst _ _ N11
    obtain ⟨Sd', xs, eS, hS, alS⟩ := RS11.lt l12 fun _ _ r => r.lt l12
    cases eS
    refine ⟨_, rfl, _, rfl, Sd, rfl, ⟨_, .of hS⟩, fun G hG => ?_⟩
    refine lc_rel (n := xs.length) walk_list (by rw [alS.1]; omega) hG (fun H2 s2 => .of (s2 _ _ hS)) (fun _ => true) (fun _ _ _ => True) (fun _ _ _ _ _ _ => trivial) ?_ ?_
    · rintro i x1 H13 H14 acc hi s13 d13 ⟨rfl, e⟩ Good Skip hg hs
      obtain ⟨s, es, sr⟩ := alS.getV e
      refine ⟨rfl, _, rfl, _, rfl, _, _, s, _, rfl, sr.mono s13, ⟨N, rfl, s13 _ _ N12⟩, ?_, fun H15 v15 s15 => hg rfl _ _ s15 trivial⟩
      have := hss s (List.mem_of_getElem? es)
      rw [show (ns ++ [g]).length = (ts ++ [tieOfTwo x y]).length by rw [List.length_append, List.length_append, O.nums.l1]; rfl]
      exact this
    · intro H13 ys s13 d13 _
      refine ⟨_, rfl, (by show 3 ≤ sizeLine; decide), fun p2 hp2 => ?_⟩
      have s14 := s13.trans (same_new (o := .tup [vn g, .ref G, .ref Ch]) hp2)
      have en : (ns ++ [g]).length = ns.length + 1 := by
        rw [List.length_append]
        rfl
      rw [en] at R12
      refine q _ p2 (.ref G) (.ref Ch) h' ((k11.trans k12).trans (.of s14)) (O12.mono s14) WO6 Pr' (full_of Fl hh' (by rw [hl', en, hnl])) B' upd_same (R12.mono s14 fun _ _ r => r.mono s14)
/-! ### Tied.go -/
abbrev N_Tied_go : List Str := ["self", "number"]
theorem sc_Tied_go : FnScope N_Tied_go ["self", "number"] (defScope s_Tied_go) := ⟨rfl, rfl, rfl, by decide +kernel, rfl, by decide +kernel, by decide +kernel⟩
def sp_Tied_go (K : PySem.W.Frag) : Sp := fun vs H Q _ => ∃ (o : Own) (m g b pl n i : Nat) (ns : List Nat) (ts : List Tie) (h : Hue), vs = [.ref o.self, vn n] ∧ TiedO K H o m ns ts h g b pl ∧ ns[i]? = some n ∧ pl ≤ 1000 ∧
  ∀ H', Keeps o H H' → TiedO K H' o m (ns.eraseIdx i) (ts.eraseIdx i) (h.eraseIdx i) g b (pl + 1) → Q .non H'
theorem ok_Tied_go (T : Tx P w K mg base) : Has P w K mg base 2 ("Tied", some "go") ["self", "number"] (sp_Tied_go K) := by
  obtain ⟨fd_Tied_look_tie, G_Tied_look_tie, b_Tied_look_tie, k_Tied_look_tie⟩ := ok_Tied_look_tie (P := P) (w := w) (base := base) T
  obtain ⟨fd_Tied_keep_past, G_Tied_keep_past, b_Tied_keep_past, k_Tied_keep_past⟩ := ok_Tied_keep_past (P := P) (w := w) (base := base) T
  refine mkHas T 59 (d := d_Tied_go) rfl sc_Tied_go rfl rfl (fun us hl => match us, hl with | [_, _], _ => fun _ _ _ _ _ _ => rfl) (fun vs H Q E => ?_) (fun cdv A outer s H vs Q E hr h => ?_)
  · walk_at "len"
  · have hU := hu_of hr
    refine ⟨_, PSs.nox (pss_cons (ps_expr (pe_meth (pv 0) T.c_Tied T.m_Tied_look_tie G_Tied_look_tie (hr.mono (by decide)) b_Tied_look_tie .nil pass0 (pa_cons (pv 1) pa_nil)))
    (pss_cons (ps_expr (pe_meth0 (pv 0) T.c_Tied T.m_Tied_keep_past G_Tied_keep_past (hr.mono (by decide)) b_Tied_keep_past .nil pass0))
    (pss_cons (ps_expr (pe_dpop1 (pe_fld (pv 0) rfl) (pv 1) ⟨rfl, rfl, rfl, rfl⟩))
    (pss_one (ps_expr (pe_dpop1 (pe_fld (pv 0) rfl) (pv 1) ⟨rfl, rfl, rfl, rfl⟩)))))), ?_⟩
    obtain ⟨o, m, g, b, pl, n, i, ns, ts, hh, rfl, O, hn, hpl, q⟩ := h
    refine ⟨_, rfl, o.self, o.dx, _, rfl, O.ins, rfl, _, rfl, o, m, g, b, pl, n, ns, ts, hh, rfl, O, List.mem_of_getElem? hn, ?_⟩
    refine ⟨_, rfl, o.self, o.dx, _, rfl, O.ins, rfl, o, m, g, b, pl, ns, ts, hh, rfl, O, hpl, fun H1 k1 O1 => ?_⟩
    obtain ⟨vs, hE, al⟩ := O1.ends
    have hl := O.nums.l1
    have hl2 := O.nums.l2
    have hlv : ns.length = vs.length := by rw [al.1, hl]
    have hi2 := (List.getElem?_eq_some_iff.mp hn).1
    have nd := asc_nodup O.nums.asc
    refine ⟨_, rfl, o.self, _, o.dx, _, _, rfl, O1.ins, T.c_Tied, T.n_Tied_ends, rfl, o.E, rfl, .inl ⟨_, .of hE⟩, _, rfl, _, Sum.inl (n : Int), _, hE, rfl, valV_dK nd hn (List.getElem?_eq_getElem (show i < vs.length by omega)), ?_⟩
    rw [drop_at nd hlv hn]
    have i2 := (show upd H1 o.E (.dK (dK (ns.eraseIdx i) (vs.eraseIdx i))) o.self = H1 o.self from upd_ne O1.nsE.1).trans O1.ins
    have u2 := (show upd H1 o.E (.dK (dK (ns.eraseIdx i) (vs.eraseIdx i))) o.U = H1 o.U from upd_ne O1.ne.symm).trans O1.hues
    refine ⟨_, rfl, o.self, _, o.dx, _, _, rfl, i2, T.c_Tied, T.n_Tied_hues, rfl, o.U, rfl, .inl ⟨_, .of u2⟩, _, rfl, _, Sum.inl (n : Int), _, u2, rfl, valV_dK nd hn (hue_get (show i < hh.length by omega)), ?_⟩
    rw [drop_at nd (by rw [List.length_map]; exact hl2) hn, ← map_erase]
    exact q _ ((k1.upd Own.E_mem).upd Own.U_mem) (O1.put2 (al.erase i) (O1.nums.erase i))
/-! ### Tied.settle -/
abbrev N_Tied_settle : List Str := ["self", "web", "numbers", "hueing", "place", "hue"]
theorem sc_Tied_settle : FnScope N_Tied_settle ["self"] (defScope s_Tied_settle) := ⟨rfl, rfl, rfl, by decide +kernel, rfl, by decide +kernel, by decide +kernel⟩
def sp_Tied_settle (K : PySem.W.Frag) : Sp := fun vs H Q _ => ∃ (o : Own) (m g b pl : Nat), vs = [.ref o.self] ∧ TiedO K H o m [] [] [] g b pl ∧ m ≤ 1000 ∧ pl ≤ 1000 ∧
  ∀ D H', Keeps o H H' → TiedO K H' o m [] [] [] g 0 (pl + 1) → H' D = some (.lst []) → Q (.ref D) H'
theorem web_none {m : Nat} (h : m ≤ 1000) : WebOk m [] := ⟨h, Nat.zero_le _, fun t ht => absurd ht List.not_mem_nil⟩
theorem enough_none {m : Nat} : mostAt m [] + thick [] = 0 := by
  have h1 : mostAt m [] ≤ 0 := mostAt_le
  have h2 : thick [] ≤ 0 := thick_le
  omega
theorem ok_Tied_settle (T : Tx P w K mg base) : Has P w K mg base 11 ("Tied", some "settle") ["self"] (sp_Tied_settle K) := by
  obtain ⟨fd_Tied_keep_past, G_Tied_keep_past, b_Tied_keep_past, k_Tied_keep_past⟩ := ok_Tied_keep_past (P := P) (w := w) (base := base) T
  obtain ⟨fd_Tied_web_now, G_Tied_web_now, b_Tied_web_now, k_Tied_web_now⟩ := ok_Tied_web_now (P := P) (w := w) (base := base) T
  obtain ⟨fd_enough_for, G_enough_for, b_enough_for, k_enough_for⟩ := ok_enough_for (P := P) (w := w) (base := base) T
  obtain ⟨fd_Tied_hueing_now, G_Tied_hueing_now, b_Tied_hueing_now, k_Tied_hueing_now⟩ := ok_Tied_hueing_now (P := P) (w := w) (base := base) T
  obtain ⟨fd_behind_steps, G_behind_steps, b_behind_steps, k_behind_steps⟩ := ok_behind_steps (P := P) (w := w) (base := base) T
  obtain ⟨fd_hued_in, G_hued_in, b_hued_in, k_hued_in⟩ := ok_hued_in (P := P) (w := w) (base := base) T
  obtain ⟨fd_Tied_take_on, G_Tied_take_on, b_Tied_take_on, k_Tied_take_on⟩ := ok_Tied_take_on (P := P) (w := w) (base := base) T
  refine mkHas T 63 (d := d_Tied_settle) rfl sc_Tied_settle rfl rfl (fun us hl => match us, hl with | [_], _ => fun _ _ _ _ _ _ => rfl) (fun vs H Q E => ?_) (fun cdv A outer s H vs Q E hr h => ?_)
  · walk_at "len"
  · have hU := hu_of hr
    refine ⟨_, PSs.nox (pss_cons (ps_expr (pe_meth0 (pv 0) T.c_Tied T.m_Tied_keep_past G_Tied_keep_past (hr.mono (by decide)) b_Tied_keep_past .nil pass0))
    (pss_cons (ps_asg (pe_meth0 (pv 0) T.c_Tied T.m_Tied_web_now G_Tied_web_now (hr.mono (by decide)) b_Tied_web_now .nil pass0) (pg_tup rfl (pgs_cons (pg_name (i := 1) sc_Tied_settle.nd rfl (Or.inl rfl)) (pgs_cons (pg_name (i := 2) sc_Tied_settle.nd rfl (Or.inl rfl)) pgs_nil))))
    (pss_cons (ps_fld (pv 0) (pe_call G_enough_for (hr.mono (by decide)) rfl T.g_enough_for k_enough_for b_enough_for .nil pass0 (pa_cons (pv 1) pa_nil)) rfl)
    (pss_cons (ps_setLc (i := 3) (own := [("hue", 5)]) rfl sc_Tied_settle.nd rfl rfl (sw_true rfl rfl rfl (by decide +kernel)) (pi_list (pe_meth (pv 0) T.c_Tied T.m_Tied_hueing_now G_Tied_hueing_now (hr.mono (by decide)) b_Tied_hueing_now .nil pass0 (pa_cons (pv 2) pa_nil))) (blkOk_by (N := N_Tied_settle) (sc := defScope s_Tied_settle) (by decide +kernel)) (fun _ _ _ _ _ => by exact (pg_name (i := 5) sc_Tied_settle.nd rfl (Or.inl rfl))) (fun _ _ _ _ _ => by exact pts_nil) (fun _ _ _ _ _ => by exact (pe_ifExp (pt_cmpR op_lt (pv 5) (pe_fldK (K := K) rfl (pv 0) rfl) (nomark _)) (pv 5) pe_non)))
    (pss_cons (ps_for PassesOwn.never rfl (pi_range1 rfl T.b_range (pa_cons (pe_callB call_len_seq (by rfl) T.b_len (by decide +kernel) (pa_cons (pv 2) pa_nil)) pa_nil)) (pg_name (i := 4) sc_Tied_settle.nd rfl (Or.inl rfl))
      (pss_one (ps_set (i := 3) sc_Tied_settle.nd rfl (Or.inl rfl) (pe_call G_behind_steps (hr.mono (by decide)) rfl T.g_behind_steps k_behind_steps b_behind_steps .nil pass0 (pa_cons (pv 1) (pa_cons (pv 3) (pa_cons (pe_call G_hued_in (hr.mono (by decide)) rfl T.g_hued_in k_hued_in b_hued_in .nil pass0 (pa_cons (pv 1) (pa_cons (pv 3) (pa_cons (pv 4) (pa_cons (pe_fld (pv 0) rfl) pa_nil))))) pa_nil)))))))
    (pss_one (ps_ret (pe_meth (pv 0) T.c_Tied T.m_Tied_take_on G_Tied_take_on (hr.mono (by decide)) b_Tied_take_on .nil pass0 (pa_cons (pv 2) (pa_cons (pv 3) pa_nil)))))))))), ?_⟩
    obtain ⟨o, m, g, b, pl, rfl, O, hm, hpl, q⟩ := h
    refine ⟨_, rfl, o.self, o.dx, _, rfl, O.ins, rfl, o, m, g, b, pl, _, _, _, rfl, O, hpl, fun H1 k1 O1 => ?_⟩
    refine ⟨_, rfl, o.self, o.dx, _, rfl, O1.ins, rfl, o, m, _, _, _, _, _, _, rfl, O1, fun p W N H2 s2 hp2 W2 hN1 hN2 => ?_⟩
    have O2 := O1.mono s2
    have k2 := k1.trans (.of s2)
    refine ⟨p, _, rfl, .of hp2, rfl, _, _, rfl, _, _, rfl, rfl, ?_⟩
    refine ⟨_, rfl, _, m, _, rfl, W2, web_none hm, fun H3 s3 => ?_⟩
    rw [enough_none]
    have O3 := O2.mono s3
    have k3 := k2.trans (.of s3)
    refine ⟨_, rfl, o.self, _, o.dx, _, rfl, O3.ins, T.c_Tied, T.n_Tied_bound, (by show 6 < 1000; decide), ?_⟩
    have O4 := O3.field (g' := g) (b' := 0) (Nat.le_refl _)
    have k4 : Keeps o H (upd H3 o.self (.ins (He.ga K "Tied") o.dx (tiedFs m o.E o.U g 0 o.P))) := k3.upd Own.self_mem
    have l4 : LT H3 (upd H3 o.self (.ins (He.ga K "Tied") o.dx (tiedFs m o.E o.U g 0 o.P))) := .ins O3.ins
    have eput : upd H3 o.self (.ins (He.ga K "Tied") o.dx (putF (Str.ofString "bound") (vn 0) (tiedFs m o.E o.U g b o.P))) = upd H3 o.self (.ins (He.ga K "Tied") o.dx (tiedFs m o.E o.U g 0 o.P)) := rfl
    have N4 := l4.lst _ _ (s3 _ _ hN2)
    generalize upd H3 o.self (.ins (He.ga K "Tied") o.dx (tiedFs m o.E o.U g 0 o.P)) = H4 at O4 k4 eput N4 l4
    rw [eput]
    refine ⟨_, rfl, o.self, o.dx, _, rfl, O4.ins, rfl, _, rfl, o, _, m, _, _, _, _, _, _, rfl, O4, ⟨N, rfl, N4⟩, fun Hu H5 hHu s5 u5 => ⟨Hu, rfl, ⟨_, .of u5⟩, fun D hD => ?_⟩⟩
    refine lc_val (n := ([] : List V).length) (walk_list (xs := [])) (by show 0 < 100000; omega) hD (fun H2 s2 => .of (s2 _ _ u5)) (fun _ => true) (fun i => .non) (fun i x H2 H3 acc hi => absurd hi (Nat.not_lt_zero _)) ?_
    intro H6 s6 d6
    have O6 := (O4.mono s5).mono s6
    have N6 := s6 _ _ (s5 _ _ N4)
    have k6 := (k4.trans (.of s5)).trans (.of s6)
    refine ⟨_, rfl, N, _, rfl, .inl (.of N6), 0, rfl, by omega, by omega, ?_⟩
    refine for_it (n := 0) walk_range (fun n σ H7 => H7 = H6 ∧ ∃ z1 z2, σ = [some (.ref o.self), some (.ref W), some (.ref N), some (.ref D), z1, z2]) ⟨rfl, _, _, rfl⟩ (fun _ _ _ _ _ => trivial) (fun i x σ H2 H3 hi => absurd hi (Nat.not_lt_zero _)) ?_
    rintro σ H7 ⟨rfl, z1, z2, rfl⟩
    refine ⟨_, rfl, o.self, o.dx, _, rfl, O6.ins, rfl, _, rfl, _, rfl, o, _, _, m, _, _, _, _, _, _, [], rfl, O6, ⟨N, rfl, N6⟩, ⟨D, rfl, d6⟩, rfl, fun Ch H8 k8 l8 hCh O8 R8 => ?_⟩
    obtain ⟨Ch', xs, e8, c8, al8⟩ := R8
    cases e8
    obtain rfl : xs = [] := List.eq_nil_of_length_eq_zero (by rw [al8.1]; rfl)
    exact q Ch H8 (k6.trans k8) O8 c8
end
end Hu
end

/-! ## W8 -/
section
set_option maxHeartbeats 4000000
set_option autoImplicit true
namespace Hu
open PySem PySem.Spec PyProof.Rows L2
local macro_rules | `(tactic| walk_at "len") => `(tactic| (intro h; first
  | (obtain ⟨_, e, _⟩ := h; cases e; rfl)
  | (obtain ⟨_, _, e, _⟩ := h; cases e; rfl)
  | (obtain ⟨_, _, _, e, _⟩ := h; cases e; rfl)
  | (obtain ⟨_, _, _, _, e, _⟩ := h; cases e; rfl)
  | (obtain ⟨_, _, _, _, _, e, _⟩ := h; cases e; rfl)
  | (obtain ⟨_, _, _, _, _, _, e, _⟩ := h; cases e; rfl)
  | (obtain ⟨_, _, _, _, _, _, _, e, _⟩ := h; cases e; rfl)
  | (obtain ⟨_, _, _, _, _, _, _, _, e, _⟩ := h; cases e; rfl)
  | (obtain ⟨_, _, _, _, _, _, _, _, _, e, _⟩ := h; cases e; rfl)
  | (obtain ⟨_, _, _, _, _, _, _, _, _, _, e, _⟩ := h; cases e; rfl)
  | (obtain ⟨_, _, _, _, _, _, _, _, _, _, _, e, _⟩ := h; cases e; rfl)
  | (obtain ⟨_, _, _, _, _, _, _, _, _, _, _, _, e, _⟩ := h; cases e; rfl)
  | (obtain ⟨_, _, _, _, _, _, _, _, _, _, _, _, _, e, _⟩ := h; cases e; rfl)
  | (obtain ⟨_, _, _, _, _, _, _, _, _, _, _, _, _, _, e, _⟩ := h; cases e; rfl)
  | (obtain ⟨_, _, _, _, _, _, _, _, _, _, _, _, _, _, _, e, _⟩ := h; cases e; rfl)
  | (obtain ⟨_, _, _, _, _, _, _, _, _, _, _, _, _, _, _, _, e, _⟩ := h; cases e; rfl)
  | (obtain ⟨_, _, _, _, _, _, _, _, _, _, _, _, _, _, _, _, _, e, _⟩ := h; cases e; rfl)
  | (obtain ⟨_, _, _, _, _, _, _, _, _, _, _, _, _, _, _, _, _, _, e, _⟩ := h; cases e; rfl)))
section
variable {P : Program} {w : World} {K : PySem.W.Frag} {mg : Str → Option Value} {base : Heap}
/-! ### neighbours -/
abbrev N_neighbours : List Str := ["web", "hueing", "tie", "hues", "found", "place", "other"]
theorem sc_neighbours : FnScope N_neighbours ["web", "hueing", "tie", "hues"] (defScope s_neighbours) := ⟨rfl, rfl, rfl, by decide +kernel, rfl, by decide +kernel, by decide +kernel⟩
/-- the ties of two hues at a tie's places -/
def nbr (ts : List Tie) (h : Hue) (a b t u : Nat) : Prop := u < ts.length ∧ (∃ p, inc (en ts t) p = true ∧ inc (en ts u) p = true) ∧ (hu h u = some a ∨ hu h u = some b)
theorem inV_two {o : Option Nat} {a b : Nat} : inV (vo o) [vn a, vn b] = decide (o = some a ∨ o = some b) := by
  cases o with
  | none =>
    have : inV (vo none) [vn a, vn b] = false := rfl
    rw [this]
    simp
  | some c =>
    have e1 : inV (vo (some c)) [vn a, vn b] = inc (a, b) c := inc_in (t := (a, b)) (p := c)
    rw [e1, Bool.eq_iff_iff, inc_iff, decide_eq_true_eq]
    simp
def sp_neighbours (K : PySem.W.Frag) : Sp := fun vs H Q _ => ∃ (v hv : V) (tv : Addr) (m t a b : Nat) (ts : List Tie) (h : Hue), vs = [v, hv, vn t, .ref tv] ∧ H tv = some (.tup [vn a, vn b]) ∧ WebR H v m ts ∧ HueR H hv h ∧ WebOk m ts ∧ h.length = ts.length ∧ t < ts.length ∧
  ∀ D H' (l : List Nat), H D = none → Same H H' → H' D = some (.lst (l.map vn)) → (∀ u, u ∈ l ↔ nbr ts h a b t u) → Q (.ref D) H'
theorem ok_neighbours (T : Tx P w K mg base) : Has P w K mg base 4 ("neighbours", none) ["web", "hueing", "tie", "hues"] (sp_neighbours K) := by
  obtain ⟨fd_ties_at, G_ties_at, b_ties_at, k_ties_at⟩ := ok_ties_at (P := P) (w := w) (base := base) T
  refine mkHas T 18 (d := d_neighbours) rfl sc_neighbours rfl rfl (fun us hl => match us, hl with | [_, _, _, _], _ => fun _ _ _ _ _ _ => rfl) (fun vs H Q E => ?_) (fun cdv A outer s H vs Q E hr h => ?_)
  · walk_at "len"
  · have hU := hu_of hr
    refine ⟨_, PSs.nox (pss_cons (ps_set (i := 4) sc_neighbours.nd rfl (Or.inl rfl) (pe_lst pa_nil))
    (pss_cons (ps_for PassesOwn.never rfl (pi_tup (pe_ix ix_tup (pe_ix ix_tup (pv 0) pe_int (fun _ _ => rfl)) (pv 2) (fun _ _ => rfl))) (pg_name (i := 5) sc_neighbours.nd rfl (Or.inl rfl))
      (pss_one (ps_expr (pe_bm PySem.F.plainAttrs_list PySem.F.slot_list_extend PySem.F.type_list_extend mt_extend (pv 4) (pa_cons (pe_lc (own := [("other", 6)]) rfl sc_neighbours.nd (pi_list (pe_call G_ties_at (hr.mono (by decide)) rfl T.g_ties_at k_ties_at b_ties_at .nil pass0 (pa_cons (pv 0) (pa_cons (pv 5) pa_nil)))) (blkOk_by (N := N_neighbours) (sc := defScope s_neighbours) (by decide +kernel)) (fun _ _ _ _ _ => by exact (pg_name (i := 6) sc_neighbours.nd rfl (Or.inl rfl))) (fun _ _ _ _ _ => by exact (pts_one (pt_cmpR (op_in_seqK (K := K) rfl) (pe_ix (ix_listK (K := K) rfl) (pv 1) (pv 6) (fun _ _ => rfl)) (pv 3) rfl))) (fun _ _ _ _ _ => by exact (pv 6))) pa_nil)))))
    (pss_one (ps_ret (pv 4))))), ?_⟩
    obtain ⟨v, hv, tv, m, t, a, b, ts, hh, rfl, htv, W, R0, O, hl, ht, q⟩ := h
    have hz := O.len
    obtain ⟨ad, rfl, ha⟩ := R0
    have W0 := W
    obtain ⟨aw, bw, rfl, hw, b', ps, e, hts, hpl, hpr⟩ := W
    cases e
    obtain ⟨_, e1, p1, rfl, h1⟩ := Al.get (α := Tie) ⟨hpl, hpr⟩ (getD_some (d := (0, 0)) ht)
    obtain ⟨o1, o2⟩ := O.at ht
    refine ⟨by decide, fun F hF => ?_⟩
    have s0 : Same H (upd H F (.lst [])) := same_new hF
    refine ⟨_, rfl, aw, _, 1, _, rfl, rfl, .of (s0 _ _ hw), rfl, _, rfl, bw, ps, _, _, rfl, rfl, .of (s0 _ _ hts), atI_nat e1, p1, rfl, ⟨_, .of (s0 _ _ h1)⟩, ?_⟩
    refine for_tup (xs := [vn (en ts t).1, vn (en ts t).2]) (fun k σ H2 => Same H H2 ∧ (∃ z1 z2, σ = [some (.ref aw), some (.ref ad), some (vn t), some (.ref tv), some (.ref F), z1, z2]) ∧ ∃ l : List Nat, H2 F = some (.lst (l.map vn)) ∧ l.length ≤ 1000 * k ∧ ∀ u, u ∈ l ↔ (u < ts.length ∧ ((1 ≤ k ∧ inc (en ts u) (en ts t).1 = true) ∨ (2 ≤ k ∧ inc (en ts u) (en ts t).2 = true)) ∧ (hu hh u = some a ∨ hu hh u = some b))) ?_ (fun k σ H4 _ h4 => .of (h4.1 _ _ h1)) ?_ ?_
    · exact ⟨s0, ⟨_, _, rfl⟩, [], upd_same, Nat.le_refl _, fun u => ⟨fun z => absurd z List.not_mem_nil, fun z => by omega⟩⟩
    · rintro k x σ H2 hk2 ⟨s2, ⟨z1, z2, rfl⟩, l, f2, hll, hmem⟩
      obtain ⟨p, rfl, hpm, hpk⟩ : ∃ p : Nat, x = vn p ∧ p < m ∧ ((k = 0 ∧ p = (en ts t).1) ∨ (k = 1 ∧ p = (en ts t).2)) := by
        match k, hk2 with
        | 0, e => exact ⟨_, (Option.some.inj e).symm, by omega, .inl ⟨rfl, rfl⟩⟩
        | 1, e => exact ⟨_, (Option.some.inj e).symm, o2, .inr ⟨rfl, rfl⟩⟩
      refine ⟨_, rfl, ty_lst f2, _, rfl, _, rfl, _, m, p, ts, rfl, W0.mono s2, hpm, hz, fun D H3 hD s3 d3 => ⟨D, rfl, ⟨_, .of d3⟩, fun G hG => ?_⟩⟩
      have lt : (tiesAt ts p).length ≤ 1000 := Nat.le_trans range_filter_le hz
      have s23 := s2.trans s3
      refine lc_val (n := ((tiesAt ts p).map vn).length) walk_list (by rw [List.length_map]; omega) hG (fun H2 s2 => .of (s2 _ _ d3)) (fun i => decide (hu hh ((tiesAt ts p).getD i 0) = some a ∨ hu hh ((tiesAt ts p).getD i 0) = some b)) (fun i => vn ((tiesAt ts p).getD i 0)) ?_ ?_
      · rintro i y H4 H5 acc hi s4 g4 ⟨rfl, e⟩ Good Skip hg hs
        rw [List.getElem?_map] at e
        obtain ⟨u, eu, rfl⟩ := Option.map_eq_some_iff.mp e
        have hul : u < hh.length := by rw [hl]; exact (mem_tiesAt.mp (List.mem_of_getElem? eu)).1
        rw [getD_of eu] at hg hs
        refine ⟨rfl, _, rfl, _, rfl, ad, _, _, _, rfl, rfl, .of (s4 _ _ (s23 _ _ ha)), atI_nat (hue_get hul), _, rfl, tv, _, rfl, .inr (.of (s4 _ _ (s23 _ _ htv))), vo_flat, rfl, _, rfl, ?_⟩
        rw [show (if false = true then !inV (vo (hu hh u)) [vn a, vn b] else inV (vo (hu hh u)) [vn a, vn b]) = decide (hu hh u = some a ∨ hu hh u = some b) from inV_two]
        cases e2 : decide (hu hh u = some a ∨ hu hh u = some b) with
        | true => exact iteT ⟨_, rfl, hg e2 _ (Same.refl _)⟩
        | false => exact iteF (hs e2 _ (Same.refl _))
      · intro H4 s4 g4
        rw [List.length_map] at g4
        have e4 : ((List.range (tiesAt ts p).length).filter fun i => decide (hu hh ((tiesAt ts p).getD i 0) = some a ∨ hu hh ((tiesAt ts p).getD i 0) = some b)).map (fun i => vn ((tiesAt ts p).getD i 0)) = (((List.range (tiesAt ts p).length).filter fun i => decide (hu hh ((tiesAt ts p).getD i 0) = some a ∨ hu hh ((tiesAt ts p).getD i 0) = some b)).map fun i => (tiesAt ts p).getD i 0).map vn := by
          rw [List.map_map]
          rfl
        rw [e4] at g4
        have f4 := s4 _ _ (s3 _ _ f2)
        have hk : k ≤ 1 := by rcases hpk with h | h <;> omega
        refine ⟨F, G, _, _, rfl, rfl, f4, g4, ?_, same_mut (s23.trans s4) hF, ⟨_, _, rfl⟩, l ++ (((List.range (tiesAt ts p).length).filter fun i => decide (hu hh ((tiesAt ts p).getD i 0) = some a ∨ hu hh ((tiesAt ts p).getD i 0) = some b)).map fun i => (tiesAt ts p).getD i 0), ?_, ?_, fun u => ?_⟩
        · rw [List.length_map, List.length_map, List.length_map]
          have := range_filter_le (f := fun i => decide (hu hh ((tiesAt ts p).getD i 0) = some a ∨ hu hh ((tiesAt ts p).getD i 0) = some b)) (n := (tiesAt ts p).length)
          exact small (by omega)
        · rw [upd_same, List.map_append]
        · have := range_filter_le (f := fun i => decide (hu hh ((tiesAt ts p).getD i 0) = some a ∨ hu hh ((tiesAt ts p).getD i 0) = some b)) (n := (tiesAt ts p).length)
          rw [List.length_append, List.length_map]
          omega
        · rw [List.mem_append, hmem, List.mem_map]
          have key : (∃ i, i ∈ ((List.range (tiesAt ts p).length).filter fun i => decide (hu hh ((tiesAt ts p).getD i 0) = some a ∨ hu hh ((tiesAt ts p).getD i 0) = some b)) ∧ (tiesAt ts p).getD i 0 = u) ↔ (u < ts.length ∧ inc (en ts u) p = true ∧ (hu hh u = some a ∨ hu hh u = some b)) := by
            constructor
            · rintro ⟨i, hi, rfl⟩
              obtain ⟨q1, q2⟩ := List.mem_filter.mp hi
              obtain ⟨t1, t2⟩ := mem_tiesAt.mp (List.mem_of_getElem? (getD_some (d := 0) (List.mem_range.mp q1)))
              exact ⟨t1, t2, of_decide_eq_true q2⟩
            · rintro ⟨t1, t2, t3⟩
              obtain ⟨i, hi, e⟩ := List.mem_iff_getElem.mp (mem_tiesAt.mpr ⟨t1, t2⟩)
              have e3 : (tiesAt ts p).getD i 0 = u := getD_of (by rw [List.getElem?_eq_getElem hi, e])
              exact ⟨i, List.mem_filter.mpr ⟨List.mem_range.mpr hi, decide_eq_true (by rw [e3]; exact t3)⟩, e3⟩
          rw [key]
          rcases hpk with ⟨rfl, rfl⟩ | ⟨rfl, rfl⟩
          · constructor
            · rintro (⟨k1, k2, k3⟩ | ⟨k1, k2, k3⟩)
              · omega
              · exact ⟨k1, .inl ⟨by omega, k2⟩, k3⟩
            · rintro ⟨k1, (⟨_, k2⟩ | ⟨k2, _⟩), k3⟩
              · exact .inr ⟨k1, k2, k3⟩
              · omega
          · constructor
            · rintro (⟨k1, (⟨_, k2⟩ | ⟨k2, _⟩), k3⟩ | ⟨k1, k2, k3⟩)
              · exact ⟨k1, .inl ⟨by omega, k2⟩, k3⟩
              · omega
              · exact ⟨k1, .inr ⟨by omega, k2⟩, k3⟩
            · rintro ⟨k1, (⟨_, k2⟩ | ⟨_, k2⟩), k3⟩
              · exact .inl ⟨k1, .inl ⟨by omega, k2⟩, k3⟩
              · exact .inr ⟨k1, k2, k3⟩
    · rintro σ H2 ⟨s2, ⟨z1, z2, rfl⟩, l, f2, hll, hmem⟩
      refine ⟨_, rfl, q F H2 l hF s2 f2 fun u => ?_⟩
      rw [hmem]
      unfold nbr
      constructor
      · rintro ⟨k1, (⟨_, k2⟩ | ⟨_, k2⟩), k3⟩
        · exact ⟨k1, ⟨_, inc_iff.mpr (.inl rfl), k2⟩, k3⟩
        · exact ⟨k1, ⟨_, inc_iff.mpr (.inr rfl), k2⟩, k3⟩
      · rintro ⟨k1, ⟨p, k2, k4⟩, k3⟩
        rcases inc_iff.mp k2 with rfl | rfl
        · exact ⟨k1, .inl ⟨by show 1 ≤ 2; decide, k4⟩, k3⟩
        · exact ⟨k1, .inr ⟨by show 2 ≤ 2; decide, k4⟩, k3⟩
/-! ### row_with -/
abbrev N_row_with : List Str := ["web", "hueing", "tie", "hues", "met", "waiting", "other"]
theorem sc_row_with : FnScope N_row_with ["web", "hueing", "tie", "hues"] (defScope s_row_with) := ⟨rfl, rfl, rfl, by decide +kernel, rfl, by decide +kernel, by decide +kernel⟩
abbrev tru (n : Nat) : List V := List.replicate n (.bl true)
theorem tru_snoc {n : Nat} : tru n ++ [.bl true] = tru (n + 1) := by
  unfold tru
  rw [List.replicate_succ']
/-- a row as far as it is known -/
structure Grow (ts : List Tie) (h : Hue) (a b t : Nat) (ms : List Nat) : Prop where
  nd : ms.Nodup
  mem : t ∈ ms
  all : ∀ s, s ∈ ms → s < ts.length ∧ (hu h s = some a ∨ hu h s = some b)
  least : ∀ S, Closed ts h a b S → t ∈ S → ∀ s, s ∈ ms → s ∈ S
theorem Grow.len {ts : List Tie} {h : Hue} {a b t : Nat} {ms : List Nat} (G : Grow ts h a b t ms) : ms.length ≤ ts.length := by
  have := List.Nodup.length_le_of_subset (l₂ := List.range ts.length) G.nd fun s hs => List.mem_range.mpr (G.all s hs).1
  rw [List.length_range] at this
  exact this
theorem Grow.snoc {ts : List Tie} {h : Hue} {a b t s u : Nat} {ms : List Nat} (G : Grow ts h a b t ms) (hs : s ∈ ms) (hn : nbr ts h a b s u) (hu1 : u ∉ ms) : Grow ts h a b t (ms ++ [u]) := by
  obtain ⟨n1, ⟨p, n2, n3⟩, n4⟩ := hn
  refine ⟨nd_snoc G.nd hu1, List.mem_append_left _ G.mem, fun v hv => ?_, fun S CS ht v hv => ?_⟩
  · rcases List.mem_append.mp hv with q | q
    · exact G.all v q
    · rw [List.mem_singleton.mp q]
      exact ⟨n1, n4⟩
  · rcases List.mem_append.mp hv with q | q
    · exact G.least S CS ht v q
    · rw [List.mem_singleton.mp q]
      exact CS.cl s (G.least S CS ht s hs) u p n1 n2 n3 n4
theorem getLast_of {α : Type} {l : List α} {y : α} (h : l[l.length - 1]? = some y) : l = l.dropLast ++ [y] := by
  have hne : l ≠ [] := fun z => by
    rw [z] at h
    simp at h
  have := List.dropLast_concat_getLast hne
  rw [List.getLast_eq_getElem] at this
  obtain ⟨hl, e⟩ := List.getElem?_eq_some_iff.mp h
  rw [e] at this
  exact this.symm
def sp_row_with (K : PySem.W.Frag) : Sp := fun vs H Q _ => ∃ (v hv : V) (tv : Addr) (m t a b : Nat) (ts : List Tie) (h : Hue), vs = [v, hv, vn t, .ref tv] ∧ H tv = some (.tup [vn a, vn b]) ∧ WebR H v m ts ∧ HueR H hv h ∧ WebOk m ts ∧ h.length = ts.length ∧ t < ts.length ∧ ts.length ≤ 60 ∧ (hu h t = some a ∨ hu h t = some b) ∧
  ∀ D H' (L : List Nat), H D = none → Same H H' → H' D = some (.lst (L.map vn)) → Comp ts h a b t L → Q (.ref D) H'
theorem ok_row_with (T : Tx P w K mg base) : Has P w K mg base 5 ("row_with", none) ["web", "hueing", "tie", "hues"] (sp_row_with K) := by
  obtain ⟨fd_neighbours, G_neighbours, b_neighbours, k_neighbours⟩ := ok_neighbours (P := P) (w := w) (base := base) T
  refine mkHas T 19 (d := d_row_with) rfl sc_row_with rfl rfl (fun us hl => match us, hl with | [_, _, _, _], _ => fun _ _ _ _ _ _ => rfl) (fun vs H Q E => ?_) (fun cdv A outer s H vs Q E hr h => ?_)
  · walk_at "len"
  · have hU := hu_of hr
    refine ⟨_, PSs.nox (pss_cons (ps_set (i := 4) sc_row_with.nd rfl (Or.inl rfl) (pe_disp (pps_cons (pv 2) pe_bl pps_nil) (by rfl) (by rfl) (fun z => by cases z) (by decide)))
    (pss_cons (ps_set (i := 5) sc_row_with.nd rfl (Or.inl rfl) (pe_lst (pa_cons (pv 2) pa_nil)))
    (pss_cons (ps_while PassesOwn.never (pt_cmpR op_gt (pe_callB call_len_seq (by rfl) T.b_len (by decide +kernel) (pa_cons (pv 5) pa_nil)) pe_int (nomark _))
      (pss_one (ps_for PassesOwn.never rfl (pi_list (pe_call G_neighbours (hr.mono (by decide)) rfl T.g_neighbours k_neighbours b_neighbours .nil pass0 (pa_cons (pv 0) (pa_cons (pv 1) (pa_cons (pe_bm0 PySem.F.plainAttrs_list PySem.F.slot_list_pop PySem.F.type_list_pop mt_pop (pv 5)) (pa_cons (pv 3) pa_nil)))))) (pg_name (i := 6) sc_row_with.nd rfl (Or.inl rfl))
        (pss_one (ps_if (pt_cmp (pc_dnotin hU (pv 6) (pv 4))) (pss_cons (ps_dput hU (pv 4) (pv 6) pe_bl rfl)
          (pss_one (ps_expr (pe_bm PySem.F.plainAttrs_list PySem.F.slot_list_append PySem.F.type_list_append mt_append (pv 5) (pa_cons (pv 6) pa_nil))))) pss_nil)))))
    (pss_one (ps_ret (pe_callB (call_sortedDI rfl) (by rfl) T.b_sorted (by decide +kernel) (pa_cons (pv 4) pa_nil))))))), ?_⟩
    obtain ⟨v, hv, tv, m, t, a, b, ts, hh, rfl, htv, W, R0, O, hl, ht, hz, hta, q⟩ := h
    intro M hM0
    refine ⟨_, rfl, upd_same, [(Sum.inl (t : Int), .bl true)], rfl, by show 1 ≤ 15; decide, ?_⟩
    have sM : Same H (upd (upd H M (.dK [])) M (.dK (mergeK [] [(Sum.inl (t : Int), V.bl true)]))) := same_mut (same_new hM0) hM0
    have hM : upd (upd H M (.dK [])) M (.dK (mergeK [] [(Sum.inl (t : Int), V.bl true)])) M = some (.dK (dK [t] (tru 1))) := upd_same
    generalize upd (upd H M (.dK [])) M (.dK (mergeK [] [(Sum.inl (t : Int), V.bl true)])) = H1 at sM hM
    refine ⟨_, rfl, by show 1 ≤ sizeLine; decide, fun F hF0 => ?_⟩
    have sF := sM.trans (same_new (o := .lst [vn t]) hF0)
    have hF : H F = none := sM.free hF0
    have nMF : M ≠ F := ne_of_none hM hF0
    refine ⟨fun n σ H2 => ∃ (ms ws : List Nat), n = 2 * (ts.length - ms.length) + ws.length ∧ Same H H2 ∧ (∃ z, σ = [some v, some hv, some (vn t), some (.ref tv), some (.ref M), some (.ref F), z]) ∧ H2 M = some (.dK (dK ms (tru ms.length))) ∧ H2 F = some (.lst (ws.map vn)) ∧ Grow ts hh a b t ms ∧ (∀ w, w ∈ ws → w ∈ ms) ∧ ws.length ≤ ms.length ∧ (∀ s, s ∈ ms → s ∈ ws ∨ ∀ u, nbr ts hh a b s u → u ∈ ms),
      ⟨_, [t], [t], rfl, sF, ⟨_, rfl⟩, (same_new hF0) _ _ hM, upd_same, ⟨by simp, by simp, fun s hs => by rw [List.mem_singleton.mp hs]; exact ⟨ht, hta⟩, fun S _ h1 s hs => by rw [List.mem_singleton.mp hs]; exact h1⟩, fun _ w => w, Nat.le_refl _, fun s hs => .inl hs⟩, ?_⟩
    rintro n σ H2 ⟨ms, ws, rfl, s2, ⟨z, rfl⟩, m2, f2, G, hsub, hwl, hdone⟩
    have hml := G.len
    refine ⟨_, rfl, F, _, rfl, .inl (.of f2), _, _, rfl, rfl, _, rfl, ?_⟩
    by_cases hw : ws = []
    · subst hw
      rw [decide_eq_false (show ¬ (0 : Int) < ((([] : List Nat).map vn).length : Nat) by simp)]
      refine iteF ⟨_, rfl, M, _, _, rfl, .of m2, dK_keys (by rw [List.length_replicate]), by rw [List.length_map]; omega, fun ys D hp hpw hD => ?_⟩
      have nn : ∀ x ∈ ys, ∃ n : Nat, x = n := fun x hx => by
        obtain ⟨i, _, e⟩ := List.mem_map.mp (hp.mem_iff.mp hx)
        exact ⟨_, e.symm⟩
      have e2 : ys.map V.int = (ys.map Int.toNat).map vn := by
        rw [List.map_map]
        refine List.map_congr_left fun x hx => ?_
        obtain ⟨n, rfl⟩ := nn x hx
        rfl
      have pm : (ys.map Int.toNat).Perm ms := by
        have := hp.map Int.toNat
        rw [List.map_map] at this
        rw [show (Int.toNat ∘ fun n : Nat => (n : Int)) = id from rfl, List.map_id] at this
        exact this
      refine q D _ (ys.map Int.toNat) (s2.free hD) (s2.trans (same_new hD)) (by rw [upd_same, e2]) ⟨pm.mem_iff.mpr G.mem, ⟨fun s hs => G.all s (pm.mem_iff.mp hs), fun s hs u p h1 h2 h3 h4 => ?_⟩, fun S CS h1 s hs => G.least S CS h1 s (pm.mem_iff.mp hs), pm.nodup_iff.mpr G.nd⟩
      rcases hdone s (pm.mem_iff.mp hs) with k | k
      · cases k
      · exact pm.mem_iff.mpr (k u ⟨h1, ⟨p, h2, h3⟩, h4⟩)
    · have hwp : 0 < ws.length := List.length_pos_iff.mpr hw
      rw [decide_eq_true (show (0 : Int) < ((ws.map vn).length : Nat) by rw [List.length_map]; omega)]
      refine iteT ⟨fun σ' H' => ∃ m', m' < 2 * (ts.length - ms.length) + ws.length ∧ _, fun _ _ w => w, ?_⟩
      obtain ⟨s, hs⟩ : ∃ s, ws[ws.length - 1]? = some s := ⟨_, List.getElem?_eq_getElem (by omega)⟩
      have hsm := hsub s (List.mem_of_getElem? hs)
      have hws := getLast_of hs
      refine ⟨_, rfl, _, rfl, _, rfl, ty_lst f2, F, _, vn s, rfl, rfl, f2, by rw [List.length_map, List.getElem?_map, hs]; rfl, ?_⟩
      rw [← List.map_dropLast]
      have s3 := same_mut (o := .lst (ws.dropLast.map vn)) s2 hF
      refine ⟨_, rfl, v, hv, tv, m, s, a, b, ts, hh, rfl, s3 _ _ htv, W.mono s3, R0.mono s3, O, hl, (G.all s hsm).1, fun D H4 l hD s4 d4 hmem => ?_⟩
      have m4 : H4 M = some (.dK (dK ms (tru ms.length))) := s4 _ _ (by rw [upd_ne nMF]; exact m2)
      have f4 : H4 F = some (.lst (ws.dropLast.map vn)) := s4 _ _ upd_same
      have nFD : F ≠ D := fun z => by
        rw [← z, upd_same] at hD
        cases hD
      have s34 := s3.trans s4
      refine ⟨D, rfl, ⟨_, .of d4⟩, ?_⟩
      refine for_list (xs := l.map vn) (fun i σ H5 => Same H H5 ∧ H5 D = some (.lst (l.map vn)) ∧ (∃ z, σ = [some v, some hv, some (vn t), some (.ref tv), some (.ref M), some (.ref F), z]) ∧ ∃ (ms' ws' : List Nat), H5 M = some (.dK (dK ms' (tru ms'.length))) ∧ H5 F = some (.lst (ws'.map vn)) ∧ Grow ts hh a b t ms' ∧ (∀ w, w ∈ ws' → w ∈ ms') ∧ ws'.length + 1 ≤ ms'.length ∧ (∀ x, x ∈ ms → x ∈ ms') ∧ (∀ x, x ∈ ms' → x ∈ ws' ∨ x = s ∨ ∀ u, nbr ts hh a b x u → u ∈ ms') ∧ (∀ u, u ∈ l.take i → u ∈ ms') ∧ ms.length ≤ ms'.length ∧ ws'.length + 1 + ms.length = ws.length + ms'.length) ?_ (fun i σ H5 _ h5 => .of h5.2.1) ?_ ?_
      · have hdl : ws.dropLast.length = ws.length - 1 := List.length_dropLast
        refine ⟨s34, d4, ⟨_, rfl⟩, ms, ws.dropLast, m4, f4, G, fun w hw2 => hsub w (by rw [List.dropLast_eq_take] at hw2; exact List.mem_of_mem_take hw2), by omega, fun _ w => w, fun x hx => ?_, fun u hu1 => by simp at hu1, Nat.le_refl _, by omega⟩
        rcases hdone x hx with k | k
        · rw [hws] at k
          rcases List.mem_append.mp k with k | k
          · exact .inl k
          · exact .inr (.inl (List.mem_singleton.mp k))
        · exact .inr (.inr k)
      · rintro i x σ H5 hx ⟨s5, d5, ⟨z, rfl⟩, ms', ws', m5, f5, G', hsub', hwl', hin, hdone', htake, hlen, hbal⟩
        rw [List.getElem?_map] at hx
        obtain ⟨u, eu, rfl⟩ := Option.map_eq_some_iff.mp hx
        have hnb := (hmem u).mp (List.mem_of_getElem? eu)
        have hml' := G'.len
        have tk : ∀ (ms2 : List Nat), u ∈ ms2 → (∀ y, y ∈ ms' → y ∈ ms2) → ∀ y, y ∈ l.take (i + 1) → y ∈ ms2 := fun ms2 h1 h2 y hy => by
          rw [List.take_succ, eu] at hy
          rcases List.mem_append.mp hy with k | k
          · exact h2 y (htake y k)
          · have : y = u := by simpa using k
            rw [this]
            exact h1
        by_cases hin2 : u ∈ ms'
        · obtain ⟨j, hj, ej⟩ := List.mem_iff_getElem.mp hin2
          have DG := dget_at m5 G'.nd (show ms'[j]? = some u by rw [List.getElem?_eq_getElem hj, ej]) (show (tru ms'.length)[j]? = some (.bl true) by unfold tru; rw [List.getElem?_replicate, if_pos hj])
          refine ⟨_, rfl, _, rfl, M, _, rfl, DG, _, rfl, iteF ⟨s5, d5, ⟨_, rfl⟩, ms', ws', m5, f5, G', hsub', hwl', hin, hdone', tk ms' hin2 fun _ w => w, hlen, hbal⟩⟩
        · have DG : DGet H5 M (vn u) none := by
            have := DGet.k (k := Sum.inl (u : Int)) m5
            rw [valV_dK_none hin2] at this
            exact this
          refine ⟨_, rfl, _, rfl, M, _, rfl, DG, _, rfl, iteT ?_⟩
          refine ⟨_, rfl, _, rfl, M, _, rfl, DPut.k (k := Sum.inl (u : Int)) m5 (by rw [dK_len (by rw [List.length_replicate])]; exact smalls (by omega)), ?_⟩
          rw [put_new (by rw [List.length_replicate]) hin2, tru_snoc]
          have s6 := same_mut (o := .dK (dK (ms' ++ [u]) (tru (ms'.length + 1)))) s5 hM0
          have f6 : upd H5 M (.dK (dK (ms' ++ [u]) (tru (ms'.length + 1)))) F = some (.lst (ws'.map vn)) := by rw [upd_ne nMF.symm]; exact f5
          have nDM : D ≠ M := fun z => by
            rw [z, m5] at d5
            cases d5
          refine ⟨_, rfl, ty_lst f6, _, rfl, F, _, _, rfl, rfl, f6, by rw [List.length_map]; exact smalls (by omega), ?_⟩
          refine ⟨same_mut s6 hF, by rw [upd_ne nFD.symm, upd_ne nDM]; exact d5, ⟨_, rfl⟩, ms' ++ [u], ws' ++ [u], ?_, ?_, G'.snoc (hin s hsm) hnb hin2, ?_, ?_, fun x hx => List.mem_append_left _ (hin x hx), ?_, tk _ (List.mem_append_right _ (List.mem_singleton.mpr rfl)) fun y hy => List.mem_append_left _ hy, ?_, ?_⟩
          · rw [upd_ne nMF, upd_same, List.length_append, List.length_singleton]
          · rw [upd_same, List.map_append]
            rfl
          · intro w hw2
            rcases List.mem_append.mp hw2 with k | k
            · exact List.mem_append_left _ (hsub' w k)
            · exact List.mem_append_right _ k
          · rw [List.length_append, List.length_append, List.length_singleton]
            omega
          · intro x hx
            rcases List.mem_append.mp hx with k | k
            · rcases hdone' x k with r | r | r
              · exact .inl (List.mem_append_left _ r)
              · exact .inr (.inl r)
              · exact .inr (.inr fun y hy => List.mem_append_left _ (r y hy))
            · exact .inl (List.mem_append_right _ k)
          · rw [List.length_append, List.length_singleton]
            omega
          · rw [List.length_append, List.length_append, List.length_singleton]
            omega
      · rintro σ H5 ⟨s5, d5, ⟨z, rfl⟩, ms', ws', m5, f5, G', hsub', hwl', hin, hdone', htake, hlen, hbal⟩
        rw [List.length_map, List.take_length] at htake
        have hml' := G'.len
        refine ⟨_, ?_, ms', ws', rfl, s5, ⟨_, rfl⟩, m5, f5, G', hsub', by omega, fun x hx => ?_⟩
        · omega
        · rcases hdone' x hx with r | r | r
          · exact .inl r
          · subst r
            exact .inr fun u hu1 => htake u ((hmem u).mpr hu1)
          · exact .inr r
/-! ### word_of -/
abbrev N_word_of : List Str := ["web", "ties", "held", "tie", "place"]
theorem sc_word_of : FnScope N_word_of ["web", "ties"] (defScope s_word_of) := ⟨rfl, rfl, rfl, by decide +kernel, rfl, by decide +kernel, by decide +kernel⟩
def wordOf (ts : List Tie) (L : List Nat) : Str := if (heldOf ts L).all (fun p => (heldOf ts L).count p == 2) then Str.ofString "ring" else Str.ofString "open"
theorem held_snoc {ts : List Tie} {L : List Nat} {s : Nat} : heldOf ts (L ++ [s]) = heldOf ts L ++ [(en ts s).1, (en ts s).2] := by
  unfold heldOf
  rw [List.flatMap_append]
  rfl
theorem count_cast {l : List Nat} {p : Nat} : (l.map fun n : Nat => (n : Int)).count (p : Int) = l.count p := by
  induction l with
  | nil => rfl
  | cons a l ih =>
    rw [List.map_cons, List.count_cons, List.count_cons, ih]
    congr 1
    by_cases q : a = p
    · subst q
      simp
    · rw [if_neg (by simp; omega), if_neg (by simp; exact q)]
def sp_word_of (K : PySem.W.Frag) : Sp := fun vs H Q _ => ∃ (v : V) (La : Addr) (m : Nat) (ts : List Tie) (L : List Nat), vs = [v, .ref La] ∧ WebR H v m ts ∧ H La = some (.lst (L.map vn)) ∧ (∀ s, s ∈ L → s < ts.length) ∧ L.length ≤ 60 ∧ ∀ H', Same H H' → Q (.str (wordOf ts L)) H'
theorem ok_word_of (T : Tx P w K mg base) : Has P w K mg base 1 ("word_of", none) ["web", "ties"] (sp_word_of K) := by
  refine mkHas T 20 (d := d_word_of) rfl sc_word_of rfl rfl (fun us hl => match us, hl with | [_, _], _ => fun _ _ _ _ _ _ => rfl) (fun vs H Q E => ?_) (fun cdv A outer s H vs Q E hr h => ?_)
  · walk_at "len"
  · have hU := hu_of hr
    refine ⟨_, PSs.nox (pss_cons (ps_set (i := 2) sc_word_of.nd rfl (Or.inr rfl) (pe_lst pa_nil))
    (pss_cons (ps_for PassesOwn.never rfl (pi_list (pv 1)) (pg_name (i := 3) sc_word_of.nd rfl (Or.inl rfl))
      (pss_one (ps_expr (pe_bm PySem.F.plainAttrs_list PySem.F.slot_list_extend PySem.F.type_list_extend mt_extendT (pv 2) (pa_cons (pe_ix ix_tup (pe_ix ix_tup (pv 0) pe_int (fun _ _ => rfl)) (pv 3) (fun _ _ => rfl)) pa_nil)))))
    (pss_one (ps_ret (pe_ifExp (pt_val (pe_callB (cr_all rfl) (by rfl) T.b_all (by decide +kernel) (pa_cons (pe_lc (own := [("place", 4)]) rfl sc_word_of.nd (pi_list (pv 2)) (blkOk_by (N := N_word_of) (sc := defScope s_word_of) (by decide +kernel)) (fun _ _ _ _ _ => by exact (pg_name (i := 4) sc_word_of.nd rfl (Or.inl rfl))) (fun _ _ _ _ _ => by exact pts_nil) (fun _ _ _ _ _ => by exact (pe_cmpR op_eq (pe_bmK (K := K) rfl PySem.F.plainAttrs_list PySem.F.slot_list_count PySem.F.type_list_count (mt_lcountK (K := K) rfl) (pv 2) (pa_cons (pv 4) pa_nil)) pe_int (nomark _)))) pa_nil))) (pe_glob (v := .str "ring") rfl T.g_RING.choose_spec ⟨_, rfl⟩) (pe_glob (v := .str "open") rfl T.g_OPEN.choose_spec ⟨_, rfl⟩)))))), ?_⟩
    obtain ⟨v, La, m, ts, L, rfl, W, hLa, hL, hLl, q⟩ := h
    have W0 := W
    obtain ⟨aw, bw, rfl, hw, b', ps, e, hts, hpl, hpr⟩ := W
    cases e
    refine ⟨by decide, fun F hF => ?_⟩
    have s0 : Same H (upd H F (.lst [])) := same_new hF
    refine ⟨_, rfl, La, rfl, ⟨_, .of (s0 _ _ hLa)⟩, ?_⟩
    refine for_list (xs := L.map vn) (fun i σ H2 => Same H H2 ∧ (∃ z1 z2, σ = [some (.ref aw), some (.ref La), some (.ref F), z1, z2]) ∧ H2 F = some (.lst ((heldOf ts (L.take i)).map vn))) ⟨s0, ⟨_, _, rfl⟩, upd_same⟩ (fun i σ H2 _ h2 => .of (h2.1 _ _ hLa)) ?_ ?_
    · rintro i x σ H2 hi ⟨s2, ⟨z1, z2, rfl⟩, f2⟩
      rw [List.getElem?_map] at hi
      obtain ⟨s, es, rfl⟩ := Option.map_eq_some_iff.mp hi
      obtain ⟨_, e1, p1, rfl, h1⟩ := Al.get (α := Tie) ⟨hpl, hpr⟩ (getD_some (d := (0, 0)) (hL s (List.mem_of_getElem? es)))
      refine ⟨_, rfl, ty_lst f2, _, rfl, aw, _, 1, _, rfl, rfl, .of (s2 _ _ hw), rfl, _, rfl, bw, ps, _, _, rfl, rfl, .of (s2 _ _ hts), atI_nat e1, F, p1, _, _, rfl, rfl, f2, .of (s2 _ _ h1), ?_, same_mut s2 hF, ⟨_, _, rfl⟩, ?_⟩
      · rw [List.length_map, held_len, List.length_take]
        exact small (by show 2 * min i L.length + 2 ≤ 100000; omega)
      · rw [upd_same, List.take_succ, es]
        show some (HO.lst (List.map vn (heldOf ts (List.take i L)) ++ _)) = some (HO.lst (List.map vn (heldOf ts (List.take i L ++ [s]))))
        rw [held_snoc, List.map_append]
        rfl
    · rintro σ H2 ⟨s2, ⟨z1, z2, rfl⟩, f2⟩
      rw [List.length_map, List.take_length] at f2
      refine ⟨_, rfl, F, rfl, ⟨_, .of f2⟩, fun D hD => ?_⟩
      have hl2 : (heldOf ts L).length ≤ 120 := by rw [held_len]; omega
      refine lc_val (n := ((heldOf ts L).map vn).length) walk_list (by rw [List.length_map]; omega) hD (fun H3 s3 => .of (s3 _ _ f2)) (fun _ => true) (fun i => .bl ((heldOf ts L).count ((heldOf ts L).getD i 0) == 2)) ?_ ?_
      · rintro i x H3 H4 acc hi s3 d3 ⟨rfl, e⟩ Good Skip hg hs
        rw [List.getElem?_map] at e
        obtain ⟨p, ep, rfl⟩ := Option.map_eq_some_iff.mp e
        rw [getD_of ep] at hg
        have f3 := s3 _ _ f2
        refine ⟨rfl, _, rfl, ty_lst f3, _, rfl, F, (heldOf ts L).map fun n : Nat => (n : Int), (p : Int), rfl, rfl, .of (by rw [f3, map_vn_int]), rfl, ?_⟩
        rw [count_cast, show decide (V.int (((heldOf ts L).count p : Nat) : Int) = V.int 2) = ((heldOf ts L).count p == 2) by rw [Bool.eq_iff_iff]; simp; omega]
        exact hg rfl _ (Same.refl _)
      · intro H3 s3 d3
        rw [filter_all, List.length_map] at d3
        have e1 : (List.range (heldOf ts L).length).map (fun i => V.bl ((heldOf ts L).count ((heldOf ts L).getD i 0) == 2)) = ((heldOf ts L).map fun p => (heldOf ts L).count p == 2).map V.bl := by
          rw [List.map_map]
          refine List.ext_getElem? fun j => ?_
          rw [List.getElem?_map, List.getElem?_map]
          by_cases qj : j < (heldOf ts L).length
          · rw [List.getElem?_range qj, getD_some (d := 0) qj]
            rfl
          · rw [List.getElem?_eq_none (by rw [List.length_range]; omega), List.getElem?_eq_none (by omega)]
            rfl
        rw [e1] at d3
        have qf := q H3 (s2.trans s3)
        unfold wordOf at qf
        refine ⟨D, _, rfl, .of d3, _, rfl, ?_⟩
        rw [List.all_map]
        cases e2 : (heldOf ts L).all (id ∘ fun p => (heldOf ts L).count p == 2) with
        | true =>
          rw [if_pos (show ((heldOf ts L).all fun p => (heldOf ts L).count p == 2) = true from e2)] at qf
          exact iteT qf
        | false =>
          rw [if_neg (by rw [show ((heldOf ts L).all fun p => (heldOf ts L).count p == 2) = false from e2]; exact Bool.false_ne_true)] at qf
          exact iteF qf
/-! ### rows_of -/
abbrev N_rows_of : List Str := ["web", "hueing", "one", "other", "met", "found", "tie", "hue", "row", "further"]
theorem sc_rows_of : FnScope N_rows_of ["web", "hueing", "one", "other"] (defScope s_rows_of) := ⟨rfl, rfl, rfl, by decide +kernel, rfl, by decide +kernel, by decide +kernel⟩
def RwR (ts : List Tie) (H : Hp) (v : V) (L : List Nat) : Prop := ∃ p q, v = .ref p ∧ H p = some (.tup [.str (wordOf ts L), .ref q]) ∧ H q = some (.lst (L.map vn))
theorem RwR.mono {ts : List Tie} {H H' : Hp} {v : V} {L : List Nat} (s : Same H H') (r : RwR ts H v L) : RwR ts H' v L := let ⟨p, q, a, b, c⟩ := r; ⟨p, q, a, s _ _ b, s _ _ c⟩
def sp_rows_of (K : PySem.W.Frag) : Sp := fun vs H Q _ => ∃ (v hv : V) (m a b : Nat) (ts : List Tie) (h : Hue), vs = [v, hv, vn a, vn b] ∧ WebR H v m ts ∧ HueR H hv h ∧ WebOk m ts ∧ h.length = ts.length ∧ ts.length ≤ 60 ∧ a ≠ b ∧
  ∀ D H' (Ls : List (List Nat)), Same H H' → LstR (RwR ts H') H' (.ref D) Ls → Ls.length ≤ 60 → Rows ts h a b Ls → Q (.ref D) H'
theorem Comp.apart {ts : List Tie} {h : Hue} {a b t t' : Nat} {L L' : List Nat} (C : Comp ts h a b t L) (C' : Comp ts h a b t' L') (hn : t ∉ L') : ∀ i, i ∈ L' → i ∉ L := fun i h1 h2 => hn (C.reach C'.closed h2 h1)
theorem ok_rows_of (T : Tx P w K mg base) : Has P w K mg base 6 ("rows_of", none) ["web", "hueing", "one", "other"] (sp_rows_of K) := by
  obtain ⟨fd_look_hues, G_look_hues, b_look_hues, k_look_hues⟩ := ok_look_hues (P := P) (w := w) (base := base) T
  obtain ⟨fd_row_with, G_row_with, b_row_with, k_row_with⟩ := ok_row_with (P := P) (w := w) (base := base) T
  obtain ⟨fd_word_of, G_word_of, b_word_of, k_word_of⟩ := ok_word_of (P := P) (w := w) (base := base) T
  refine mkHas T 21 (d := d_rows_of) rfl sc_rows_of rfl rfl (fun us hl => match us, hl with | [_, _, _, _], _ => fun _ _ _ _ _ _ => rfl) (fun vs H Q E => ?_) (fun cdv A outer s H vs Q E hr h => ?_)
  · walk_at "len"
  · have hU := hu_of hr
    refine ⟨_, PSs.nox (pss_cons (ps_expr (pe_call G_look_hues (hr.mono (by decide)) rfl T.g_look_hues k_look_hues b_look_hues .nil pass0 (pa_cons (pv 2) (pa_cons (pv 3) pa_nil))))
    (pss_cons (ps_set (i := 4) sc_rows_of.nd rfl (Or.inl rfl) pe_dnewK)
    (pss_cons (ps_set (i := 5) sc_rows_of.nd rfl (Or.inl rfl) (pe_lst pa_nil))
    (pss_cons (ps_for PassesOwn.never rfl (pi_enum (by rfl) T.b_enumerate (pa_cons (pv 1) pa_nil)) (pg_tup rfl (pgs_cons (pg_name (i := 6) sc_rows_of.nd rfl (Or.inl rfl)) (pgs_cons (pg_name (i := 7) sc_rows_of.nd rfl (Or.inl rfl)) pgs_nil)))
      (pss_one (ps_if (PW.pt (pw_and (pt_cmpR op_in_seq (pv 7) (pe_tup (pa_cons (pv 2) (pa_cons (pv 3) pa_nil))) rfl) (pw_and1 (pt_cmp (pc_dnotin hU (pv 6) (pv 4)))))) (pss_cons (ps_set (i := 8) sc_rows_of.nd rfl (Or.inl rfl) (pe_call G_row_with (hr.mono (by decide)) rfl T.g_row_with k_row_with b_row_with .nil pass0 (pa_cons (pv 0) (pa_cons (pv 1) (pa_cons (pv 6) (pa_cons (pe_tup (pa_cons (pv 2) (pa_cons (pv 3) pa_nil))) pa_nil))))))
        (pss_cons (ps_for PassesOwn.never rfl (pi_list (pv 8)) (pg_name (i := 9) sc_rows_of.nd rfl (Or.inl rfl))
          (pss_one (ps_dput hU (pv 4) (pv 9) pe_bl rfl)))
        (pss_one (ps_expr (pe_bm PySem.F.plainAttrs_list PySem.F.slot_list_append PySem.F.type_list_append mt_append (pv 5) (pa_cons (pe_tup (pa_cons (pe_call G_word_of (hr.mono (by decide)) rfl T.g_word_of k_word_of b_word_of .nil pass0 (pa_cons (pv 0) (pa_cons (pv 8) pa_nil))) (pa_cons (pv 8) pa_nil))) pa_nil)))))) pss_nil)))
    (pss_one (ps_ret (pv 5))))))), ?_⟩
    obtain ⟨v, hv, m, a, b, ts, hh, rfl, W, R0, O, hl, hz, hab, q⟩ := h
    have R1 := R0
    obtain ⟨ad, rfl, ha⟩ := R0
    refine ⟨_, rfl, _, rfl, a, b, rfl, hab, fun M hM0 => ?_⟩
    have sM : Same H (upd H M (.dK [])) := same_new hM0
    refine ⟨by decide, fun F hF0 => ?_⟩
    have sF := sM.trans (same_new (o := .lst []) hF0)
    have hF : H F = none := sM.free hF0
    have nMF : M ≠ F := ne_of_none upd_same hF0
    have own2 : ∀ p ∈ [M, F], H p = none := fun p hp => by
      rcases List.mem_cons.mp hp with rfl | hp
      · exact hM0
      · rw [List.mem_singleton.mp hp]
        exact hF
    refine ⟨_, rfl, ad, _, rfl, .of (sF _ _ ha), ?_⟩
    refine for_it (walk_enum (xs := hh.map vo)) (fun i σ H2 => Same H H2 ∧ (∃ z1 z2 z3 z4, σ = [some v, some (.ref ad), some (vn a), some (vn b), some (.ref M), some (.ref F), z1, z2, z3, z4]) ∧ ∃ (ms : List Nat) (xs : List V) (Ls : List (List Nat)), H2 M = some (.dK (dK ms (tru ms.length))) ∧ H2 F = some (.lst xs) ∧ Al (RwR ts (dels H2 [M, F])) xs Ls ∧ ms.Nodup ∧ (∀ n, n ∈ ms ↔ ∃ L, L ∈ Ls ∧ n ∈ L) ∧
      (∀ L, L ∈ Ls → ∃ t, Comp ts hh a b t L) ∧ (∀ j, j < i → (hu hh j = some a ∨ hu hh j = some b) → ∃ L, L ∈ Ls ∧ j ∈ L) ∧ (Ls.Pairwise fun L L' => ∀ i, i ∈ L → i ∉ L') ∧ Ls.length ≤ i) ?_ (fun i σ H2 _ h2 => .of (h2.1 _ _ ha)) ?_ ?_
    · refine ⟨sF, ⟨_, _, _, _, rfl⟩, [], [], [], ?_, upd_same, Al.nil, List.nodup_nil, fun n => ⟨fun z => absurd z List.not_mem_nil, fun ⟨L, hL, _⟩ => absurd hL List.not_mem_nil⟩, fun L hL => absurd hL List.not_mem_nil, fun j hj => absurd hj (Nat.not_lt_zero _), List.Pairwise.nil, Nat.le_refl _⟩
      exact (same_new hF0) _ _ upd_same
    · rintro i x σ H2 H3 hi ⟨s2, ⟨z1, z2, z3, z4, rfl⟩, ms, xs, Ls, m2, f2, al, nd, hms, hcomp, hcov, hap, hLl⟩ ⟨t, y, z, rfl, hn, rfl, e1, e2⟩
      cases e1
      rw [List.length_map] at hi
      replace e2 : (hh.map vo)[i]? = some z := e2
      rw [hue_get hi] at e2
      obtain rfl := Option.some.inj e2
      have s3 : Same H2 (upd H2 t (.tup [.int (i : Nat), vo (hu hh i)])) := same_new hn
      have s23 := s2.trans s3
      have mlen : ms.length ≤ 60 := by
        have := List.Nodup.length_le_of_subset (l₂ := List.range ts.length) nd fun n hn => by
          obtain ⟨L, hL, hnL⟩ := (hms n).mp hn
          obtain ⟨t', C⟩ := hcomp L hL
          exact List.mem_range.mpr (C.closed.all n hnL).1
        rw [List.length_range] at this
        omega
      refine ⟨t, _, rfl, .of upd_same, rfl, _, _, rfl, _, _, rfl, rfl, ?_⟩
      have m3 := s3 _ _ m2
      have f3 := s3 _ _ f2
      have al3 : Al (RwR ts (dels (upd H2 t (.tup [.int (i : Nat), vo (hu hh i)])) [M, F])) xs Ls := al.mono fun _ _ r => r.mono (dels_mono s3)
      generalize upd H2 t (.tup [.int (i : Nat), vo (hu hh i)]) = H3 at *
      refine ⟨_, rfl, _, rfl, _, rfl, (by show 2 ≤ sizeLine; decide), fun u hu1 => ?_⟩
      have s4 : Same H3 (upd H3 u (.tup [vn a, vn b])) := same_new hu1
      refine ⟨u, _, rfl, .inr (.of upd_same), vo_flat, rfl, _, rfl, ?_⟩
      rw [show (if false = true then !inV (vo (hu hh i)) [vn a, vn b] else inV (vo (hu hh i)) [vn a, vn b]) = decide (hu hh i = some a ∨ hu hh i = some b) from inV_two]
      have al4 : Al (RwR ts (dels (upd H3 u (.tup [vn a, vn b])) [M, F])) xs Ls := al3.mono fun _ _ r => r.mono (dels_mono s4)
      have m4 := s4 _ _ m3
      have f4 := s4 _ _ f3
      have s24 := s23.trans s4
      generalize upd H3 u (.tup [vn a, vn b]) = H4 at *
      have skip : (¬ (hu hh i = some a ∨ hu hh i = some b) ∨ i ∈ ms) → ∀ j, j < i + 1 → (hu hh j = some a ∨ hu hh j = some b) → ∃ L, L ∈ Ls ∧ j ∈ L := fun hs j hj hc => by
        by_cases q1 : j < i
        · exact hcov j q1 hc
        · have : j = i := by omega
          subst this
          rcases hs with k | k
          · exact absurd hc k
          · exact (hms j).mp k
      by_cases hc : hu hh i = some a ∨ hu hh i = some b
      · rw [decide_eq_true hc]
        by_cases hin : i ∈ ms
        · obtain ⟨j, hj, ej⟩ := List.mem_iff_getElem.mp hin
          have DG := dget_at m4 nd (show ms[j]? = some i by rw [List.getElem?_eq_getElem hj, ej]) (show (tru ms.length)[j]? = some (.bl true) by unfold tru; rw [List.getElem?_replicate, if_pos hj])
          exact iteT ⟨_, rfl, _, rfl, M, _, rfl, DG, _, rfl, iteF ⟨s24, ⟨_, _, _, _, rfl⟩, ms, xs, Ls, m4, f4, al4, nd, hms, hcomp, skip (.inr hin), hap, by omega⟩⟩
        · have DG : DGet H4 M (vn i) none := by
            have := DGet.k (k := Sum.inl (i : Int)) m4
            rw [valV_dK_none hin] at this
            exact this
          refine iteT ⟨_, rfl, _, rfl, M, _, rfl, DG, _, rfl, iteT ?_⟩
          refine ⟨_, rfl, _, rfl, _, rfl, _, rfl, _, rfl, (by show 2 ≤ sizeLine; decide), fun tv htv => ?_⟩
          have s5 : Same H4 (upd H4 tv (.tup [vn a, vn b])) := same_new htv
          have s25 := s24.trans s5
          refine ⟨v, _, tv, m, i, a, b, ts, hh, rfl, upd_same, W.mono s25, R1.mono s25, O, hl, by omega, hz, hc, fun R H6 L hR s6 r6 C => ?_⟩
          have m6 := s6 _ _ (s5 _ _ m4)
          have f6 := s6 _ _ (s5 _ _ f4)
          have s26 := s25.trans s6
          have nMR : M ≠ R := ne_of_none (s5 _ _ m4) hR
          have nFR : F ≠ R := ne_of_none (s5 _ _ f4) hR
          have al6 : Al (RwR ts (dels H6 [M, F])) xs Ls := al4.mono fun _ _ r => r.mono (dels_mono (s5.trans s6))
          have hLt : ∀ s, s ∈ L → s < ts.length := fun s hs => (C.closed.all s hs).1
          have hLl2 : L.length ≤ 60 := by
            have := List.Nodup.length_le_of_subset (l₂ := List.range ts.length) C.nd fun s hs => List.mem_range.mpr (hLt s hs)
            rw [List.length_range] at this
            omega
          have hout : ∀ s, s ∈ L → s ∉ ms := fun s hs hm => by
            obtain ⟨L', hL', hsL'⟩ := (hms s).mp hm
            obtain ⟨t', C'⟩ := hcomp L' hL'
            exact hin ((hms i).mpr ⟨L', hL', C.reach C'.closed hs hsL'⟩)
          refine ⟨_, rfl, R, rfl, ⟨_, .of r6⟩, ?_⟩
          refine for_list (xs := L.map vn) (fun j σ H7 => Same H H7 ∧ (∃ z4, σ = [some v, some (.ref ad), some (vn a), some (vn b), some (.ref M), some (.ref F), some (vn i), some (vo (hu hh i)), some (.ref R), z4]) ∧ H7 M = some (.dK (dK (ms ++ L.take j) (tru (ms ++ L.take j).length))) ∧ H7 F = some (.lst xs) ∧ dels H7 [M, F] = dels H6 [M, F]) ?_ (fun j σ H7 _ h7 => ?_) ?_ ?_
          · refine ⟨s26, ⟨_, rfl⟩, ?_, f6, rfl⟩
            rw [List.take_zero, List.append_nil]
            exact m6
          · have : dels H7 [M, F] R = some (.lst (L.map vn)) := by
              rw [h7.2.2.2.2, dels_ne (by simp [nMR.symm, nFR.symm])]
              exact r6
            exact .of (dels_same _ _ this)
          · rintro j x σ H7 hx ⟨s7, ⟨z4, rfl⟩, m7, f7, g7⟩
            rw [List.getElem?_map] at hx
            obtain ⟨s, es, rfl⟩ := Option.map_eq_some_iff.mp hx
            have hsL := List.mem_of_getElem? es
            have hnm : s ∉ ms ++ L.take j := fun z => by
              rcases List.mem_append.mp z with k | k
              · exact hout s hsL k
              · obtain ⟨j', hj', ej'⟩ := List.mem_iff_getElem.mp k
                rw [List.length_take] at hj'
                rw [List.getElem_take] at ej'
                have := nd_ix C.nd (show L[j']? = some s by rw [List.getElem?_eq_getElem (by omega), ej']) es
                omega
            refine ⟨_, rfl, _, rfl, M, _, rfl, DPut.k (k := Sum.inl (s : Int)) m7 ?_, ?_⟩
            · rw [dK_len (by rw [List.length_replicate]), List.length_append, List.length_take]
              exact smalls (by omega)
            rw [put_new (by rw [List.length_replicate]) hnm, tru_snoc]
            have etk : ms ++ L.take (j + 1) = ms ++ L.take j ++ [s] := by
              rw [List.take_succ, es, List.append_assoc]
              rfl
            refine ⟨same_mut s7 hM0, ⟨_, rfl⟩, ?_, by rw [upd_ne nMF.symm]; exact f7, by rw [dels_upd (by simp)]; exact g7⟩
            rw [upd_same, etk, List.length_append (bs := [s]), List.length_singleton]
          · rintro σ H7 ⟨s7, ⟨z4, rfl⟩, m7, f7, g7⟩
            rw [List.length_map, List.take_length] at m7
            have r7 : H7 R = some (.lst (L.map vn)) := dels_same _ _ (show dels H7 [M, F] R = _ by
              rw [g7, dels_ne (by simp [nMR.symm, nFR.symm])]
              exact r6)
            refine ⟨_, rfl, ty_lst f7, _, rfl, _, rfl, v, R, m, ts, L, rfl, W.mono s7, r7, hLt, hLl2, fun H8 s8 => ?_⟩
            refine ⟨_, rfl, (by show 2 ≤ sizeLine; decide), fun p hp => ?_⟩
            have s9 : Same H8 (upd H8 p (.tup [.str (wordOf ts L), .ref R])) := same_new hp
            have s79 := s8.trans s9
            have f9 := s79 _ _ f7
            have npM : p ≠ M := (ne_of_none (s8 _ _ m7) hp).symm
            have npF : p ≠ F := (ne_of_none (s8 _ _ f7) hp).symm
            refine ⟨F, xs, _, rfl, rfl, f9, by rw [al.1]; exact smalls (by omega), ?_⟩
            have g9 : Same (dels H6 [M, F]) (dels (upd (upd H8 p (.tup [.str (wordOf ts L), .ref R])) F (.lst (xs ++ [.ref p]))) [M, F]) := by
              rw [dels_upd (by simp), ← g7]
              exact dels_mono s79
            refine ⟨same_mut (s7.trans s79) hF, ⟨_, _, _, _, rfl⟩, ms ++ L, xs ++ [.ref p], Ls ++ [L], ?_, upd_same, ?_, ?_, fun n => ?_, fun L' hL' => ?_, fun j hj hcj => ?_, ?_, ?_⟩
            · rw [upd_ne nMF]
              exact s79 _ _ m7
            · refine (al6.mono fun _ _ r => r.mono g9).snoc ⟨p, R, rfl, ?_, ?_⟩
              · rw [dels_ne (by simp [npM, npF]), upd_ne npF, upd_same]
              · rw [dels_ne (by simp [nMR.symm, nFR.symm]), upd_ne nFR.symm]
                exact s79 _ _ r7
            · refine List.nodup_append.mpr ⟨nd, C.nd, fun x hx y hy e => ?_⟩
              subst e
              exact hout x hy hx
            · rw [List.mem_append, hms]
              constructor
              · rintro (⟨L', h1, h2⟩ | h1)
                · exact ⟨L', List.mem_append_left _ h1, h2⟩
                · exact ⟨L, List.mem_append_right _ (List.mem_singleton.mpr rfl), h1⟩
              · rintro ⟨L', h1, h2⟩
                rcases List.mem_append.mp h1 with k | k
                · exact .inl ⟨L', k, h2⟩
                · rw [List.mem_singleton.mp k] at h2
                  exact .inr h2
            · rcases List.mem_append.mp hL' with k | k
              · exact hcomp L' k
              · rw [List.mem_singleton.mp k]
                exact ⟨i, C⟩
            · by_cases q1 : j < i
              · obtain ⟨L', k1, k2⟩ := hcov j q1 hcj
                exact ⟨L', List.mem_append_left _ k1, k2⟩
              · have : j = i := by omega
                subst this
                exact ⟨L, List.mem_append_right _ (List.mem_singleton.mpr rfl), C.mem⟩
            · refine List.pairwise_append.mpr ⟨hap, List.pairwise_singleton _ _, fun L1 h1 L2 h2 => ?_⟩
              rw [List.mem_singleton.mp h2]
              intro n hn1 hn2
              exact hout n hn2 ((hms n).mpr ⟨L1, h1, hn1⟩)
            · rw [List.length_append, List.length_singleton]
              omega
      · rw [decide_eq_false hc]
        exact iteF (iteF ⟨s24, ⟨_, _, _, _, rfl⟩, ms, xs, Ls, m4, f4, al4, nd, hms, hcomp, skip (.inl hc), hap, by omega⟩)
    · rintro σ H2 ⟨s2, ⟨z1, z2, z3, z4, rfl⟩, ms, xs, Ls, m2, f2, al, nd, hms, hcomp, hcov, hap, hLl⟩
      rw [List.length_map] at hcov hLl
      refine ⟨_, rfl, q F H2 Ls s2 ⟨F, xs, rfl, f2, al.mono fun _ _ r => r.mono dels_same⟩ (by omega) ⟨hcomp, fun i hi hc => hcov i (by omega) hc, hap⟩⟩
/-! ### end_of_hue -/
abbrev N_end_of_hue : List Str := ["web", "hueing", "ties", "hue", "held", "tie", "place"]
theorem sc_end_of_hue : FnScope N_end_of_hue ["web", "hueing", "ties", "hue"] (defScope s_end_of_hue) := ⟨rfl, rfl, rfl, by decide +kernel, rfl, by decide +kernel, by decide +kernel⟩
def sp_end_of_hue (K : PySem.W.Frag) : Sp := fun vs H Q _ => ∃ (v hv : V) (La : Addr) (m a : Nat) (ts : List Tie) (h : Hue) (L : List Nat), vs = [v, hv, .ref La, vn a] ∧ WebR H v m ts ∧ HueR H hv h ∧ h.length = ts.length ∧ H La = some (.lst (L.map vn)) ∧ (∀ s, s ∈ L → s < ts.length) ∧ L.length ≤ 60 ∧
  (∃ s p, s ∈ L ∧ hu h s = some a ∧ inc (en ts s) p = true ∧ (heldOf ts L).count p = 1) ∧ ∀ H' s p, Same H H' → s ∈ L → hu h s = some a → inc (en ts s) p = true → (heldOf ts L).count p = 1 → Q (vn p) H'
theorem ok_end_of_hue (T : Tx P w K mg base) : Has P w K mg base 1 ("end_of_hue", none) ["web", "hueing", "ties", "hue"] (sp_end_of_hue K) := by
  refine mkHas T 74 (d := d_end_of_hue) rfl sc_end_of_hue rfl rfl (fun us hl => match us, hl with | [_, _, _, _], _ => fun _ _ _ _ _ _ => rfl) (fun vs H Q E => ?_) (fun cdv A outer s H vs Q E hr h => ?_)
  · walk_at "len"
  · have hU := hu_of hr
    refine ⟨_, PSs.nox (pss_cons (ps_set (i := 4) sc_end_of_hue.nd rfl (Or.inl rfl) (pe_lst pa_nil))
    (pss_cons (ps_for PassesOwn.never rfl (pi_list (pv 2)) (pg_name (i := 5) sc_end_of_hue.nd rfl (Or.inl rfl))
      (pss_one (ps_expr (pe_bm PySem.F.plainAttrs_list PySem.F.slot_list_extend PySem.F.type_list_extend mt_extendT (pv 4) (pa_cons (pe_ix ix_tup (pe_ix ix_tup (pv 0) pe_int (fun _ _ => rfl)) (pv 5) (fun _ _ => rfl)) pa_nil)))))
    (pss_cons (ps_for PassesOwn.never rfl (pi_list (pv 2)) (pg_name (i := 5) sc_end_of_hue.nd rfl (Or.inl rfl))
      (pss_one (ps_for PassesOwn.never rfl (pi_tup (pe_ix ix_tup (pe_ix ix_tup (pv 0) pe_int (fun _ _ => rfl)) (pv 5) (fun _ _ => rfl))) (pg_name (i := 6) sc_end_of_hue.nd rfl (Or.inl rfl))
        (pss_one (ps_if (PW.pt (pw_and (pt_cmpR op_eq (pe_ix ix_list (pv 1) (pv 5) (fun _ _ => rfl)) (pv 3) (nomark _)) (pw_and1 (pt_cmpR op_eq (pe_bm PySem.F.plainAttrs_list PySem.F.slot_list_count PySem.F.type_list_count mt_lcount (pv 4) (pa_cons (pv 6) pa_nil)) pe_int (nomark _))))) (pss_one (ps_ret (pv 6))) pss_nil)))))
    (pss_one (ps_ret pe_non))))), ?_⟩
    obtain ⟨v, hv, La, m, a, ts, hh, L, rfl, W, ⟨ad, rfl, ha⟩, hl, hLa, hL, hLl, hex, q⟩ := h
    obtain ⟨aw, bw, rfl, hw, b', ps, e, hts, hpl, hpr⟩ := W
    cases e
    refine ⟨by decide, fun F hF => ?_⟩
    have s0 : Same H (upd H F (.lst [])) := same_new hF
    refine ⟨_, rfl, La, rfl, ⟨_, .of (s0 _ _ hLa)⟩, ?_⟩
    refine for_list (xs := L.map vn) (fun i σ H2 => Same H H2 ∧ (∃ z1 z2, σ = [some (.ref aw), some (.ref ad), some (.ref La), some (vn a), some (.ref F), z1, z2]) ∧ H2 F = some (.lst ((heldOf ts (L.take i)).map vn))) ⟨s0, ⟨_, _, rfl⟩, upd_same⟩ (fun i σ H2 _ h2 => .of (h2.1 _ _ hLa)) ?_ ?_
    · rintro i x σ H2 hi ⟨s2, ⟨z1, z2, rfl⟩, f2⟩
      rw [List.getElem?_map] at hi
      obtain ⟨s, es, rfl⟩ := Option.map_eq_some_iff.mp hi
      obtain ⟨_, e1, p1, rfl, h1⟩ := Al.get (α := Tie) ⟨hpl, hpr⟩ (getD_some (d := (0, 0)) (hL s (List.mem_of_getElem? es)))
      refine ⟨_, rfl, ty_lst f2, _, rfl, aw, _, 1, _, rfl, rfl, .of (s2 _ _ hw), rfl, _, rfl, bw, ps, _, _, rfl, rfl, .of (s2 _ _ hts), atI_nat e1, F, p1, _, _, rfl, rfl, f2, .of (s2 _ _ h1), ?_, same_mut s2 hF, ⟨_, _, rfl⟩, ?_⟩
      · rw [List.length_map, held_len, List.length_take]
        exact small (by show 2 * min i L.length + 2 ≤ 100000; omega)
      · rw [upd_same, List.take_succ, es]
        show some (HO.lst (List.map vn (heldOf ts (List.take i L)) ++ _)) = some (HO.lst (List.map vn (heldOf ts (List.take i L ++ [s]))))
        rw [held_snoc, List.map_append]
        rfl
    rintro σ H2 ⟨s2, ⟨z1, z2, rfl⟩, f2⟩
    rw [List.length_map, List.take_length] at f2
    refine ⟨_, rfl, La, rfl, ⟨_, .of (s2 _ _ hLa)⟩, ?_⟩
    refine for_list (xs := L.map vn) (fun i σ H3 => H3 = H2 ∧ (∃ z1 z2, σ = [some (.ref aw), some (.ref ad), some (.ref La), some (vn a), some (.ref F), z1, z2]) ∧ ∀ s p, s ∈ L.take i → hu hh s = some a → inc (en ts s) p = true → (heldOf ts L).count p ≠ 1) ⟨rfl, ⟨_, _, rfl⟩, fun s p hs => by simp at hs⟩ (fun i σ H3 _ h3 => by rw [h3.1]; exact .of (s2 _ _ hLa)) ?_ ?_
    · rintro i x σ H3 hi ⟨rfl, ⟨z1, z2, rfl⟩, hno⟩
      rw [List.getElem?_map] at hi
      obtain ⟨s, es, rfl⟩ := Option.map_eq_some_iff.mp hi
      have hsL := List.mem_of_getElem? es
      have hst := hL s hsL
      obtain ⟨_, e1, p1, rfl, h1⟩ := Al.get (α := Tie) ⟨hpl, hpr⟩ (getD_some (d := (0, 0)) hst)
      refine ⟨_, rfl, aw, _, 1, _, rfl, rfl, .of (s2 _ _ hw), rfl, _, rfl, bw, ps, _, _, rfl, rfl, .of (s2 _ _ hts), atI_nat e1, p1, rfl, ⟨_, .of (s2 _ _ h1)⟩, ?_⟩
      refine for_tup (xs := [vn (en ts s).1, vn (en ts s).2]) (fun k σ H4 => H4 = H3 ∧ (∃ z2, σ = [some (.ref aw), some (.ref ad), some (.ref La), some (vn a), some (.ref F), some (vn s), z2]) ∧ (hu hh s = some a → (1 ≤ k → (heldOf ts L).count (en ts s).1 ≠ 1) ∧ (2 ≤ k → (heldOf ts L).count (en ts s).2 ≠ 1))) ⟨rfl, ⟨_, rfl⟩, fun _ => ⟨fun z => by omega, fun z => by omega⟩⟩ (fun k σ H4 _ h4 => by rw [h4.1]; exact .of (s2 _ _ h1)) ?_ ?_
      · rintro k x σ H4 hk2 ⟨rfl, ⟨z2, rfl⟩, hno2⟩
        obtain ⟨p, rfl, hpi, hpk⟩ : ∃ p : Nat, x = vn p ∧ inc (en ts s) p = true ∧ ((k = 0 ∧ p = (en ts s).1) ∨ (k = 1 ∧ p = (en ts s).2)) := by
          match k, hk2 with
          | 0, e => exact ⟨_, (Option.some.inj e).symm, inc_iff.mpr (.inl rfl), .inl ⟨rfl, rfl⟩⟩
          | 1, e => exact ⟨_, (Option.some.inj e).symm, inc_iff.mpr (.inr rfl), .inr ⟨rfl, rfl⟩⟩
        refine ⟨_, rfl, _, rfl, ad, _, _, _, rfl, rfl, .of (s2 _ _ ha), atI_nat (hue_get (by omega)), _, rfl, vo_scal _ (some a), _, rfl, ?_⟩
        rw [vo_beq]
        by_cases hc : hu hh s = some a
        · rw [show (hu hh s == some a) = true by rw [hc]; exact beq_self_eq_true _]
          refine iteT ⟨_, rfl, ty_lst f2, _, rfl, F, (heldOf ts L).map fun n : Nat => (n : Int), (p : Int), rfl, rfl, .of (by rw [f2, map_vn_int]), rfl, _, rfl, ?_⟩
          rw [count_cast]
          by_cases h1c : (heldOf ts L).count p = 1
          · rw [decide_eq_true (show V.int (((heldOf ts L).count p : Nat) : Int) = V.int 1 by rw [h1c]; rfl)]
            exact iteT ⟨_, rfl, q _ s p s2 hsL hc hpi h1c⟩
          · rw [decide_eq_false (show ¬ V.int (((heldOf ts L).count p : Nat) : Int) = V.int 1 from fun z => h1c (by injection z with z; omega))]
            refine iteF ⟨rfl, ⟨_, rfl⟩, fun hc => ⟨fun _ => ?_, fun hk => ?_⟩⟩
            · rcases hpk with ⟨rfl, rfl⟩ | ⟨rfl, rfl⟩
              · exact h1c
              · exact (hno2 hc).1 (Nat.le_refl _)
            · rcases hpk with ⟨rfl, rfl⟩ | ⟨rfl, rfl⟩
              · omega
              · exact h1c
        · rw [show (hu hh s == some a) = false by simpa using hc]
          exact iteF (iteF ⟨rfl, ⟨_, rfl⟩, fun z => absurd z hc⟩)
      · rintro σ H4 ⟨rfl, ⟨z2, rfl⟩, hno2⟩
        refine ⟨rfl, ⟨_, _, rfl⟩, fun s' p hs' hc hp => ?_⟩
        rw [List.take_succ, es] at hs'
        rcases List.mem_append.mp hs' with k | k
        · exact hno s' p k hc hp
        · have : s' = s := by simpa using k
          subst this
          rcases inc_iff.mp hp with rfl | rfl
          · exact (hno2 hc).1 (by show 1 ≤ 2; decide)
          · exact (hno2 hc).2 (by show 2 ≤ 2; decide)
    · rintro σ H3 ⟨rfl, ⟨z1, z2, rfl⟩, hno⟩
      rw [List.length_map, List.take_length] at hno
      obtain ⟨s, p, h1, h2, h3, h4⟩ := hex
      exact absurd h4 (hno s p h1 h2 h3)
/-! ### step_between -/
abbrev N_step_between : List Str := ["web", "hueing", "most", "least", "word", "ties", "many", "tie"]
theorem sc_step_between : FnScope N_step_between ["web", "hueing", "most", "least"] (defScope s_step_between) := ⟨rfl, rfl, rfl, by decide +kernel, rfl, by decide +kernel, by decide +kernel⟩
theorem cnt_ix {L : List Nat} (f : Nat → Bool) : ((List.range L.length).filter fun i => f (L.getD i 0)).length = (L.filter f).length := by
  have e : L = (List.range L.length).map fun i => L.getD i 0 := by
    refine List.ext_getElem? fun j => ?_
    rw [List.getElem?_map]
    by_cases q : j < L.length
    · rw [List.getElem?_range q]
      exact getD_some q
    · rw [List.getElem?_eq_none (by omega), List.getElem?_eq_none (by rw [List.length_range]; omega)]
      rfl
  conv => rhs; rw [e]
  rw [List.filter_map, List.length_map]
  rfl
theorem cnt_two {h : Hue} {a b : Nat} {L : List Nat} (hab : a ≠ b) (hL : ∀ s, s ∈ L → hu h s = some a ∨ hu h s = some b) : cnt h L a + cnt h L b = L.length := by
  have e := filter_split (fun i => hu h i == some a) L
  unfold cnt
  rw [e]
  congr 2
  refine List.filter_congr fun s hs => ?_
  rcases hL s hs with k | k
  · rw [k]
    simp [hab]
  · rw [k]
    simp [Ne.symm hab]
theorem ring_open : (V.str (Str.ofString "ring") = V.str (Str.ofString "open")) ↔ False := by
  refine ⟨fun z => ?_, False.elim⟩
  injection z with z
  exact absurd z (by decide +kernel)
def sp_step_between (K : PySem.W.Frag) : Sp := fun vs H Q _ => ∃ (v hv : V) (m a b : Nat) (ts : List Tie) (h : Hue), vs = [v, hv, vn a, vn b] ∧ WebR H v m ts ∧ HueR H hv h ∧ WebOk m ts ∧ Proper ts h ∧ ts.length ≤ 60 ∧ a ≠ b ∧ (hasHue h b).length < (hasHue h a).length ∧
  ∀ H' x p, Same H H' → H' x = some (.tup (stepV (.row p a b))) → (∃ t L s, Comp ts h a b t L ∧ s ∈ L ∧ hu h s = some a ∧ inc (en ts s) p = true ∧ (heldOf ts L).count p = 1 ∧ cnt h L b < cnt h L a) → Q (.ref x) H'
theorem ok_step_between (T : Tx P w K mg base) : Has P w K mg base 7 ("step_between", none) ["web", "hueing", "most", "least"] (sp_step_between K) := by
  obtain ⟨fd_rows_of, G_rows_of, b_rows_of, k_rows_of⟩ := ok_rows_of (P := P) (w := w) (base := base) T
  obtain ⟨fd_end_of_hue, G_end_of_hue, b_end_of_hue, k_end_of_hue⟩ := ok_end_of_hue (P := P) (w := w) (base := base) T
  refine mkHas T 75 (d := d_step_between) rfl sc_step_between rfl rfl (fun us hl => match us, hl with | [_, _, _, _], _ => fun _ _ _ _ _ _ => rfl) (fun vs H Q E => ?_) (fun cdv A outer s H vs Q E hr h => ?_)
  · walk_at "len"
  · have hU := hu_of hr
    refine ⟨_, PSs.nox (pss_cons (ps_for PassesOwn.never rfl (pi_list (pe_call G_rows_of (hr.mono (by decide)) rfl T.g_rows_of k_rows_of b_rows_of .nil pass0 (pa_cons (pv 0) (pa_cons (pv 1) (pa_cons (pv 2) (pa_cons (pv 3) pa_nil)))))) (pg_tup rfl (pgs_cons (pg_name (i := 4) sc_step_between.nd rfl (Or.inl rfl)) (pgs_cons (pg_name (i := 5) sc_step_between.nd rfl (Or.inl rfl)) pgs_nil)))
      (pss_cons (ps_set (i := 6) sc_step_between.nd rfl (Or.inl rfl) (pe_callB call_len_seq (by rfl) T.b_len (by decide +kernel) (pa_cons (pe_lc (own := [("tie", 7)]) rfl sc_step_between.nd (pi_list (pv 5)) (blkOk_by (N := N_step_between) (sc := defScope s_step_between) (by decide +kernel)) (fun _ _ _ _ _ => by exact (pg_name (i := 7) sc_step_between.nd rfl (Or.inl rfl))) (fun _ _ _ _ _ => by exact (pts_one (pt_cmpR op_eq (pe_ix (ix_listK (K := K) rfl) (pv 1) (pv 7) (fun _ _ => rfl)) (pv 2) (nomark _)))) (fun _ _ _ _ _ => by exact (pv 7))) pa_nil)))
      (pss_one (ps_if (PW.pt (pw_and (pt_cmpR op_eq (pv 4) (pe_glob (v := .str "open") rfl T.g_OPEN.choose_spec ⟨_, rfl⟩) (nomark _)) (pw_and1 (pt_cmpR op_gt (pe_op op_mul pe_int (pv 6)) (pe_callB call_len_seq (by rfl) T.b_len (by decide +kernel) (pa_cons (pv 5) pa_nil)) (nomark _))))) (pss_one (ps_ret (pe_tup (pa_cons pe_str (pa_cons (pe_call G_end_of_hue (hr.mono (by decide)) rfl T.g_end_of_hue k_end_of_hue b_end_of_hue .nil pass0 (pa_cons (pv 0) (pa_cons (pv 1) (pa_cons (pv 5) (pa_cons (pv 2) pa_nil))))) (pa_cons (pv 2) (pa_cons (pv 3) pa_nil))))))) pss_nil))))
    (pss_one (ps_ret pe_non))), ?_⟩
    obtain ⟨v, hv, m, a, b, ts, hh, rfl, W, R0, O, Pr, hz, hab, hsz, q⟩ := h
    have hl := Pr.1
    have R1 := R0
    obtain ⟨ad, rfl, ha⟩ := R0
    refine ⟨_, rfl, _, rfl, _, rfl, _, rfl, v, _, m, a, b, ts, hh, rfl, W, R1, O, hl, hz, hab, fun D H1 Ls s1 RL hLs RW => ?_⟩
    obtain ⟨D', xs, e, d1, al⟩ := RL
    cases e
    refine ⟨D, rfl, ⟨_, .of d1⟩, ?_⟩
    refine for_list (xs := xs) (fun i σ H2 => Same H1 H2 ∧ (∃ z1 z2 z3 z4, σ = [some v, some (.ref ad), some (vn a), some (vn b), z1, z2, z3, z4]) ∧ ∀ j, j < i → ∀ L, Ls[j]? = some L → ¬ cnt hh L b < cnt hh L a) ⟨Same.refl _, ⟨_, _, _, _, rfl⟩, fun j hj => absurd hj (Nat.not_lt_zero _)⟩ (fun i σ H2 _ h2 => .of (h2.1 _ _ d1)) ?_ ?_
    · rintro i x σ H2 hi ⟨s2, ⟨z1, z2, z3, z4, rfl⟩, hno⟩
      obtain ⟨L, eL, p, r, rfl, hp, hr⟩ := al.getV hi
      obtain ⟨t, C⟩ := RW.comp L (List.mem_of_getElem? eL)
      have hLt : ∀ s, s ∈ L → s < ts.length := fun s hs => (C.closed.all s hs).1
      have hLl : L.length ≤ 60 := by
        have := List.Nodup.length_le_of_subset (l₂ := List.range ts.length) C.nd fun s hs => List.mem_range.mpr (hLt s hs)
        rw [List.length_range] at this
        omega
      have hcn := cnt_two hab (fun s hs => (C.closed.all s hs).2)
      have s12 := s1.trans s2
      refine ⟨p, _, rfl, .of (s2 _ _ hp), rfl, _, _, rfl, _, _, rfl, rfl, ?_⟩
      refine ⟨_, rfl, r, rfl, ⟨_, .of (s2 _ _ hr)⟩, fun G hG => ?_⟩
      refine lc_val (n := (L.map vn).length) walk_list (by rw [List.length_map]; omega) hG (fun H3 s3 => .of (s3 _ _ (s2 _ _ hr))) (fun i => hu hh (L.getD i 0) == some a) (fun i => vn (L.getD i 0)) ?_ ?_
      · rintro j y H4 H5 acc hj s4 g4 ⟨rfl, e⟩ Good Skip hg hs
        rw [List.getElem?_map] at e
        obtain ⟨u, eu, rfl⟩ := Option.map_eq_some_iff.mp e
        rw [getD_of eu] at hg hs
        have hul := hLt u (List.mem_of_getElem? eu)
        refine ⟨rfl, _, rfl, _, rfl, ad, _, _, _, rfl, rfl, .of (s4 _ _ (s12 _ _ ha)), atI_nat (hue_get (by omega)), _, rfl, vo_scal _ (some a), _, rfl, ?_⟩
        rw [vo_beq]
        cases e2 : (hu hh u == some a) with
        | true => exact iteT ⟨_, rfl, hg e2 _ (Same.refl _)⟩
        | false => exact iteF (hs e2 _ (Same.refl _))
      intro H3 s3 g3
      have eln : (((List.range (L.map vn).length).filter fun i => hu hh (L.getD i 0) == some a).map fun i => vn (L.getD i 0)).length = cnt hh L a := by
        rw [List.length_map, List.length_map]
        exact cnt_ix (L := L) (fun u => hu hh u == some a)
      have s13 := s12.trans s3
      have rr := s3 _ _ (s2 _ _ hr)
      refine ⟨G, _, rfl, .inl (.of g3), ?_⟩
      rw [eln]
      refine ⟨_, rfl, rfl, _, rfl, ?_⟩
      have nope : ¬ cnt hh L b < cnt hh L a → ∀ j, j < i + 1 → ∀ L', Ls[j]? = some L' → ¬ cnt hh L' b < cnt hh L' a := fun hn j hj L' e' => by
        by_cases q1 : j < i
        · exact hno j q1 L' e'
        · have : j = i := by omega
          subst this
          rw [eL] at e'
          cases e'
          exact hn
      cases ew : (heldOf ts L).all (fun p => (heldOf ts L).count p == 2) with
      | true =>
        have e1 : wordOf ts L = Str.ofString "ring" := by
          unfold wordOf
          rw [if_pos ew]
        rw [decide_eq_false (show ¬ V.str (wordOf ts L) = V.str (Str.ofString "open") by rw [e1]; exact fun z => ring_open.mp z)]
        refine iteF (iteF ⟨s2.trans s3, ⟨_, _, _, _, rfl⟩, nope fun hlt => ?_⟩)
        obtain ⟨s, p', h1, h2, h3, h4⟩ := row_end O Pr C.closed C.nd hlt
        have := List.all_eq_true.mp ew p' (mem_held.mpr ⟨s, h1, h3⟩)
        rw [h4] at this
        cases this
      | false =>
        have e1 : wordOf ts L = Str.ofString "open" := by
          unfold wordOf
          rw [if_neg (by rw [ew]; exact Bool.false_ne_true)]
        rw [decide_eq_true (show V.str (wordOf ts L) = V.str (Str.ofString "open") by rw [e1])]
        refine iteT ⟨_, rfl, _, _, rfl, rfl, ?_, _, rfl, r, _, rfl, .inl (.of rr), _, _, rfl, rfl, _, rfl, ?_⟩
        · exact .inl ⟨by decide, by decide⟩
        rw [List.length_map]
        by_cases hlt : cnt hh L b < cnt hh L a
        · rw [decide_eq_true (show ((L.length : Nat) : Int) < 2 * ((cnt hh L a : Nat) : Int) by omega)]
          have RE := row_end O Pr C.closed C.nd hlt
          refine iteT ⟨_, rfl, _, rfl, _, rfl, _, rfl, v, _, r, m, a, ts, hh, L, rfl, W.mono s13, R1.mono s13, hl, rr, hLt, hLl, RE, fun H4 s p' s4 h1 h2 h3 h4 => ?_⟩
          refine ⟨_, rfl, _, rfl, (by show 4 ≤ sizeLine; decide), fun w' hw' => ?_⟩
          exact q _ w' p' ((s13.trans s4).trans (same_new hw')) upd_same ⟨t, L, s, C, h1, h2, h3, h4, hlt⟩
        · rw [decide_eq_false (show ¬ ((L.length : Nat) : Int) < 2 * ((cnt hh L a : Nat) : Int) by omega)]
          exact iteF ⟨s2.trans s3, ⟨_, _, _, _, rfl⟩, nope hlt⟩
    · rintro σ H2 ⟨s2, ⟨z1, z2, z3, z4, rfl⟩, hno⟩
      obtain ⟨L, hL, hlt⟩ := RW.pick hl hsz
      obtain ⟨j, hj, e⟩ := List.mem_iff_getElem.mp hL
      exact absurd hlt (hno j (by rw [al.1]; exact hj) L (by rw [List.getElem?_eq_getElem hj, e]))
/-! ### evened -/
abbrev N_evened : List Str := ["web", "hueing", "hues", "here", "steps", "many"]
theorem sc_evened : FnScope N_evened ["web", "hueing", "hues"] (defScope s_evened) := ⟨rfl, rfl, rfl, by decide +kernel, rfl, by decide +kernel, by decide +kernel⟩
theorem atI_last {α : Type} {xs : List α} {x : α} : atI (xs ++ [x]) (-1) = some x := by
  unfold atI
  have e2 : ixN (xs ++ [x]).length (-1) = some xs.length := by
    unfold ixN
    rw [List.length_append, List.length_singleton, if_neg (by omega), if_pos (by omega)]
    congr 1
    omega
  rw [e2]
  show (xs ++ [x])[xs.length]? = some x
  rw [List.getElem?_append_right (Nat.le_refl _), Nat.sub_self]
  rfl
theorem first_ix : ∀ {S : List Nat} {x : Nat}, x ∈ S → ∃ j : Nat, S[j]? = some x ∧ ∀ i : Nat, i < j → S[i]? ≠ some x
  | [], _, h => absurd h List.not_mem_nil
  | y :: S, x, h => by
    by_cases q : y = x
    · exact ⟨0, by rw [q]; rfl, fun i hi => absurd hi (Nat.not_lt_zero _)⟩
    · obtain ⟨j, h1, h2⟩ := first_ix (S := S) (x := x) (by
        rcases List.mem_cons.mp h with k | k
        · exact absurd k.symm q
        · exact k)
      refine ⟨j + 1, h1, fun i hi => ?_⟩
      cases i with
      | zero => exact fun z => q (Option.some.inj z)
      | succ i => exact h2 i (by omega)
theorem sizes_get {h : Hue} {k j x : Nat} (e : (sizesOf h k)[j]? = some x) : j < k ∧ (hasHue h j).length = x := by
  unfold sizesOf at e
  rw [List.getElem?_map] at e
  obtain ⟨i, ei, e⟩ := Option.map_eq_some_iff.mp e
  obtain ⟨hi, ei⟩ := List.getElem?_eq_some_iff.mp ei
  rw [List.getElem_range] at ei
  subst ei
  rw [List.length_range] at hi
  exact ⟨hi, e⟩
theorem sumsq_le {f : Nat → Nat} {b : Nat} (hf : ∀ c, f c ≤ b) : ∀ k, sumsq f k ≤ k * (b * b)
  | 0 => Nat.zero_le _
  | k + 1 => by
    have := sumsq_le hf k
    rw [sumsq_succ, Nat.succ_mul]
    exact Nat.add_le_add this (Nat.mul_le_mul (hf k) (hf k))
def Even1 (h : Hue) (k : Nat) : Prop := ∀ x y, x ∈ sizesOf h k → y ∈ sizesOf h k → x ≤ y + 1
theorem ints_mem {S : List Nat} {z : Int} (h : z ∈ S.map fun n : Nat => (n : Int)) : ∃ x, x ∈ S ∧ z = (x : Int) := by
  obtain ⟨x, hx, e⟩ := List.mem_map.mp h
  exact ⟨x, hx, e.symm⟩
def sp_evened (K : PySem.W.Frag) : Sp := fun vs H Q _ => ∃ (v hv : V) (m k : Nat) (ts : List Tie) (h : Hue), vs = [v, hv, vn k] ∧ WebR H v m ts ∧ HueR H hv h ∧ WebOk m ts ∧ Proper ts h ∧ Full h ∧ Below h k ∧ ts.length ≤ 60 ∧ k ≤ 200 ∧
  ∀ H' p D S h', Same H H' → H' p = some (.tup [.ref D, .ref S]) → H' D = some (.lst (h'.map vo)) → Proper ts h' → Full h' → Below h' k → Even1 h' k → Q (.ref p) H'
theorem ok_evened (T : Tx P w K mg base) : Has P w K mg base 9 ("evened", none) ["web", "hueing", "hues"] (sp_evened K) := by
  obtain ⟨fd_sizes, G_sizes, b_sizes, k_sizes⟩ := ok_sizes (P := P) (w := w) (base := base) T
  obtain ⟨fd_step_between, G_step_between, b_step_between, k_step_between⟩ := ok_step_between (P := P) (w := w) (base := base) T
  obtain ⟨fd_done_step, G_done_step, b_done_step, k_done_step⟩ := ok_done_step (P := P) (w := w) (base := base) T
  refine mkHas T 76 (d := d_evened) rfl sc_evened rfl rfl (fun us hl => match us, hl with | [_, _, _], _ => fun _ _ _ _ _ _ => rfl) (fun vs H Q E => ?_) (fun cdv A outer s H vs Q E hr h => ?_)
  · walk_at "len"
  · have hU := hu_of hr
    refine ⟨_, PSs.nox (pss_cons (ps_set (i := 3) sc_evened.nd rfl (Or.inl rfl) (pe_callTy call_list_of (by rfl) T.b_list (by decide +kernel) (pa_cons (pv 1) pa_nil)))
    (pss_cons (ps_set (i := 4) sc_evened.nd rfl (Or.inl rfl) (pe_lst pa_nil))
    (pss_cons (ps_set (i := 5) sc_evened.nd rfl (Or.inl rfl) (pe_call G_sizes (hr.mono (by decide)) rfl T.g_sizes k_sizes b_sizes .nil pass0 (pa_cons (pv 3) (pa_cons (pv 2) pa_nil))))
    (pss_cons (ps_while PassesOwn.never (pt_cmpR op_gt (pe_op op_sub (pe_callBK (call_maxD rfl hU) (by rfl) T.b_max (by decide +kernel) (pa_cons (pv 5) pa_nil) (pk_cons pe_int pk_nil)) (pe_callBK (call_minD rfl hU) (by rfl) T.b_min (by decide +kernel) (pa_cons (pv 5) pa_nil) (pk_cons pe_int pk_nil))) pe_int (nomark _))
      (pss_cons (ps_expr (pe_bm PySem.F.plainAttrs_list PySem.F.slot_list_append PySem.F.type_list_append mt_append (pv 4) (pa_cons (pe_call G_step_between (hr.mono (by decide)) rfl T.g_step_between k_step_between b_step_between .nil pass0 (pa_cons (pv 0) (pa_cons (pv 3) (pa_cons (pe_bm PySem.F.plainAttrs_list PySem.F.slot_list_index PySem.F.type_list_index mt_index (pv 5) (pa_cons (pe_callB (cr_max rfl) (by rfl) T.b_max (by decide +kernel) (pa_cons (pv 5) pa_nil)) pa_nil)) (pa_cons (pe_bm PySem.F.plainAttrs_list PySem.F.slot_list_index PySem.F.type_list_index mt_index (pv 5) (pa_cons (pe_callB (cr_min rfl) (by rfl) T.b_min (by decide +kernel) (pa_cons (pv 5) pa_nil)) pa_nil)) pa_nil))))) pa_nil)))
      (pss_cons (ps_set (i := 3) sc_evened.nd rfl (Or.inl rfl) (pe_call G_done_step (hr.mono (by decide)) rfl T.g_done_step k_done_step b_done_step .nil pass0 (pa_cons (pv 0) (pa_cons (pv 3) (pa_cons (pe_ix ix_list (pv 4) (pe_un un_neg pe_int) (fun _ _ => rfl)) pa_nil)))))
      (pss_one (ps_set (i := 5) sc_evened.nd rfl (Or.inl rfl) (pe_call G_sizes (hr.mono (by decide)) rfl T.g_sizes k_sizes b_sizes .nil pass0 (pa_cons (pv 3) (pa_cons (pv 2) pa_nil))))))))
    (pss_one (ps_ret (pe_tup (pa_cons (pv 3) (pa_cons (pv 4) pa_nil))))))))), ?_⟩
    obtain ⟨v, hv, m, k, ts, h0, rfl, W, ⟨ad, rfl, ha⟩, O, Pr, Fl, B, hz, hk, q⟩ := h
    have hlen : ∀ (h1 : Hue), Proper ts h1 → h1.length ≤ 60 := fun h1 P1 => by rw [P1.1]; exact hz
    have hsl : ∀ (h1 : Hue), Proper ts h1 → ∀ c, (hasHue h1 c).length ≤ 60 := fun h1 P1 c => Nat.le_trans range_filter_le (hlen h1 P1)
    refine ⟨_, rfl, ad, _, rfl, .inl (.of ha), fun D hD => ?_⟩
    have s1 : Same H (upd H D (.lst (h0.map vo))) := same_new hD
    refine ⟨by decide, fun F hF0 => ?_⟩
    have s2 := s1.trans (same_new (o := .lst []) hF0)
    have hF : H F = none := s1.free hF0
    have d2 := (same_new (o := .lst []) hF0) _ _ (show upd H D (.lst (h0.map vo)) D = some (.lst (h0.map vo)) from upd_same)
    refine ⟨_, rfl, _, rfl, _, h0, k, rfl, ⟨D, rfl, d2⟩, by have := hlen h0 Pr; omega, by omega, B, Fl, fun S H3 hS s3 e3 => ?_⟩
    have f3 := s3 _ _ (show upd (upd H D (.lst (h0.map vo))) F (.lst []) F = some (.lst []) from upd_same)
    refine ⟨fun n σ H4 => ∃ (h1 : Hue) (hd md : Addr) (ys : List V), n = sumsq (fun c => (hasHue h1 c).length) k ∧ Same H H4 ∧ σ = [some v, some (.ref ad), some (vn k), some (.ref hd), some (.ref F), some (.ref md)] ∧ H4 hd = some (.lst (h1.map vo)) ∧ hd ≠ F ∧ H4 md = some (.lst ((sizesOf h1 k).map vn)) ∧ H4 F = some (.lst ys) ∧ Proper ts h1 ∧ Full h1 ∧ Below h1 k ∧ ys.length + n ≤ k * (60 * 60), ⟨_, h0, D, S, [], rfl, s2.trans s3, rfl, s3 _ _ d2, ne_of_none (show upd H D (.lst (h0.map vo)) D = some (.lst (h0.map vo)) from upd_same) hF0, e3, f3, Pr, Fl, B, ?_⟩, ?_⟩
    · rw [List.length_nil, Nat.zero_add]
      exact sumsq_le (hsl h0 Pr) k
    rintro n σ H4 ⟨h1, hd, md, ys, rfl, s4, rfl, hd4, nhF, md4, f4, P1, F1, B1, hb⟩
    have md4' : H4 md = some (.lst (((sizesOf h1 k).map fun n : Nat => (n : Int)).map V.int)) := by rw [md4, map_vn_int]
    have done : Even1 h1 k → Q (.ref F) H4 ∨ True := fun _ => .inr trivial
    have fin : Even1 h1 k → ∀ p, H4 p = none → Q (.ref p) (upd H4 p (.tup [.ref hd, .ref F])) := fun E1 p hp =>
      q _ p hd F h1 (s4.trans (same_new hp)) upd_same ((same_new hp) _ _ hd4) P1 F1 B1 E1
    cases hk0 : sizesOf h1 k with
    | nil =>
      rw [hk0] at md4'
      have E1 : Even1 h1 k := fun x y hx => by
        rw [hk0] at hx
        cases hx
      refine ⟨_, rfl, md, [], .int 0, rfl, rfl, .of md4', fun _ => ?_, fun m hm => absurd hm List.not_mem_nil⟩
      refine ⟨_, rfl, md, [], .int 0, rfl, rfl, .of md4', fun _ => ?_, fun m hm => absurd hm List.not_mem_nil⟩
      exact ⟨_, _, rfl, rfl, _, _, rfl, rfl, false, rfl, iteF ⟨_, rfl, _, rfl, (by show 2 ≤ sizeLine; decide), fun p hp => fin E1 p hp⟩⟩
    | cons s0 S1 =>
      have hne : ((sizesOf h1 k).map fun n : Nat => (n : Int)) ≠ [] := by rw [hk0]; exact fun z => nomatch z
      have hlp : 0 < ((sizesOf h1 k).map fun n : Nat => (n : Int)).length := List.length_pos_iff.mpr hne
      refine ⟨_, rfl, md, _, .int 0, rfl, rfl, .of md4', fun e => absurd e hne, fun mx hmx hmx2 => ?_⟩
      refine ⟨_, rfl, md, _, .int 0, rfl, rfl, .of md4', fun e => absurd e hne, fun mn hmn hmn2 => ?_⟩
      obtain ⟨x, hx, rfl⟩ := ints_mem hmx
      obtain ⟨y, hy, rfl⟩ := ints_mem hmn
      have hx2 : ∀ w, w ∈ sizesOf h1 k → w ≤ x := fun w hw => by
        have := hmx2 (w : Int) (List.mem_map.mpr ⟨w, hw, rfl⟩)
        omega
      have hy2 : ∀ w, w ∈ sizesOf h1 k → y ≤ w := fun w hw => by
        have := hmn2 (w : Int) (List.mem_map.mpr ⟨w, hw, rfl⟩)
        omega
      refine ⟨_, _, rfl, rfl, _, _, rfl, rfl, _, rfl, ?_⟩
      by_cases hgt : y + 1 < x
      · rw [decide_eq_true (show (1 : Int) < (x : Int) - (y : Int) by omega)]
        refine iteT ⟨fun σ' H' => ∃ m', m' < sumsq (fun c => (hasHue h1 c).length) k ∧ _, fun _ _ w => w, ?_⟩
        obtain ⟨a, ea, ea2⟩ := first_ix hx
        obtain ⟨b, eb, eb2⟩ := first_ix hy
        obtain ⟨hak, hsa⟩ := sizes_get ea
        obtain ⟨hbk, hsb⟩ := sizes_get eb
        have hab : a ≠ b := fun z => by
          rw [z, eb] at ea
          have := Option.some.inj ea
          omega
        have flat : ((sizesOf h1 k).map vn).all flatV = true := flat_nats
        have eqf : ∀ (c w : Nat), (∀ i : Nat, i < c → (sizesOf h1 k)[i]? ≠ some w) → ∀ (i : Nat) (z : V), i < c → ((sizesOf h1 k).map vn)[i]? = some z → eqV z (vn w) = false := fun c w hc i z hi e => by
          rw [List.getElem?_map] at e
          obtain ⟨u, eu, rfl⟩ := Option.map_eq_some_iff.mp e
          refine beq_eq_false_iff_ne.mpr fun z => hc i hi ?_
          have z2 : ((u : Nat) : Int) = (w : Nat) := z
          rw [eu, show u = w by omega]
        refine ⟨_, rfl, ty_lst f4, ?_⟩
        refine ⟨_, rfl, _, rfl, _, rfl, ty_lst md4, _, rfl, md, _, rfl, .of md4', hlp, fun mx' hm1 hm2 => ?_⟩
        obtain ⟨x', hx', rfl⟩ := ints_mem hm1
        obtain rfl : x' = x := by
          have h1 := hm2 (x : Int) hmx
          have h2 := hx2 x' hx'
          omega
        refine ⟨md, _, _, a, vn x', rfl, rfl, .of md4, rfl, flat, by rw [List.getElem?_map, ea]; rfl, beq_self_eq_true (x' : Int), eqf a x' ea2, ?_⟩
        refine ⟨_, rfl, ty_lst md4, _, rfl, md, _, rfl, .of md4', hlp, fun mn' hm3 hm4 => ?_⟩
        obtain ⟨y', hy', rfl⟩ := ints_mem hm3
        obtain rfl : y' = y := by
          have h1 := hm4 (y : Int) hmn
          have h2 := hy2 y' hy'
          omega
        refine ⟨md, _, _, b, vn y', rfl, rfl, .of md4, rfl, flat, by rw [List.getElem?_map, eb]; rfl, beq_self_eq_true (y' : Int), eqf b y' eb2, ?_⟩
        refine ⟨v, _, m, a, b, ts, h1, rfl, W.mono s4, ⟨hd, rfl, hd4⟩, O, P1, hz, hab, by rw [hsa, hsb]; omega, fun H5 st p s5 st5 hE => ?_⟩
        obtain ⟨t, L, s, C, hs, hsA, hsp, hc1, hlt⟩ := hE
        have f5 := s5 _ _ f4
        refine ⟨F, ys, _, rfl, rfl, f5, ?_, ?_⟩
        · have : ys.length ≤ k * (60 * 60) := by omega
          have h2 : k * (60 * 60) ≤ 200 * (60 * 60) := Nat.mul_le_mul_right _ hk
          exact Nat.lt_of_le_of_lt (Nat.le_trans this h2) (by decide)
        have s45 := s4.trans s5
        have s6 := same_mut (o := .lst (ys ++ [.ref st])) s45 hF
        have nst : st ≠ F := fun z => by
          rw [z, f5] at st5
          cases st5
        have hl2 := end_lacks O hab C.closed C.nd hs hsA hsp hc1
        obtain ⟨rn, Rw⟩ := row_exists O P1 hab hl2
        obtain ⟨E1, E2, E3, E4⟩ := even_step O P1 hab C hs hsA hsp hc1 hlt Rw hak hbk (by rw [hsa, hsb]; omega)
        have hpm : p < m := inc_lt O (C.closed.all s hs).1 hsp
        refine ⟨_, rfl, _, rfl, _, rfl, _, rfl, F, _, _, .ref st, rfl, rfl, .of upd_same, atI_last, v, _, .ref st, m, ts, h1, _, .row p a b, rfl, W.mono s6, ⟨hd, rfl, by rw [upd_ne nhF]; exact s5 _ _ hd4⟩, ⟨st, rfl, by rw [upd_ne nst]; exact st5⟩, O, P1, ⟨E1, hpm, hab, hl2, rn, Rw, rfl⟩, fun D7 H7 hD7 s7 d7 => ?_⟩
        have f7 := s7 _ _ (show upd H5 F (.lst (ys ++ [.ref st])) F = some (.lst (ys ++ [.ref st])) from upd_same)
        have nD7 : D7 ≠ F := fun z => by
          rw [z, upd_same] at hD7
          cases hD7
        refine ⟨_, rfl, _, rfl, _, _, k, rfl, ⟨D7, rfl, d7⟩, by have := hlen _ E1; omega, by omega, E2 B1, E3 F1, fun S8 H8 hS8 s8 e8 => ?_⟩
        refine ⟨_, E4, _, D7, S8, ys ++ [.ref st], rfl, (s6.trans s7).trans s8, rfl, s8 _ _ d7, nD7, e8, s8 _ _ f7, E1, E3 F1, E2 B1, ?_⟩
        rw [List.length_append, List.length_singleton]
        omega
      · rw [decide_eq_false (show ¬ (1 : Int) < (x : Int) - (y : Int) by omega)]
        have E1 : Even1 h1 k := fun u w hu1 hw1 => by
          have h1 := hx2 u hu1
          have h2 := hy2 w hw1
          omega
        exact iteF ⟨_, rfl, _, rfl, (by show 2 ≤ sizeLine; decide), fun p hp => fin E1 p hp⟩
/-! ### all_hued -/
abbrev N_all_hued : List Str := ["web", "hues", "hueing", "steps", "tie", "step"]
theorem sc_all_hued : FnScope N_all_hued ["web", "hues"] (defScope s_all_hued) := ⟨rfl, rfl, rfl, by decide +kernel, rfl, by decide +kernel, by decide +kernel⟩
def sp_all_hued (K : PySem.W.Frag) : Sp := fun vs H Q _ => ∃ (v : V) (m k : Nat) (ts : List Tie), vs = [v, vn k] ∧ WebR H v m ts ∧ WebOk m ts ∧ mostAt m ts + thick ts ≤ k ∧ k ≤ 5000 ∧ ts.length ≤ 60 ∧
  ∀ H' p hv S h', Same H H' → H' p = some (.tup [hv, .ref S]) → HueR H' hv h' → Proper ts h' → Full h' → Q (.ref p) H'
theorem rep_none {n : Nat} : (List.replicate n [V.non]).flatten = (List.replicate n (none : Option Nat)).map vo := by
  induction n with
  | zero => rfl
  | succ n ih =>
    rw [List.replicate_succ, List.replicate_succ, List.flatten_cons, ih]
    rfl
theorem hu_rep {n i : Nat} : hu (List.replicate n none) i = none := by
  unfold hu
  rw [List.getD_eq_getElem?_getD, List.getElem?_replicate]
  split <;> rfl
theorem ok_all_hued (T : Tx P w K mg base) : Has P w K mg base 10 ("all_hued", none) ["web", "hues"] (sp_all_hued K) := by
  obtain ⟨fd_look_hues_enough, G_look_hues_enough, b_look_hues_enough, k_look_hues_enough⟩ := ok_look_hues_enough (P := P) (w := w) (base := base) T
  obtain ⟨fd_hued_in, G_hued_in, b_hued_in, k_hued_in⟩ := ok_hued_in (P := P) (w := w) (base := base) T
  obtain ⟨fd_done_step, G_done_step, b_done_step, k_done_step⟩ := ok_done_step (P := P) (w := w) (base := base) T
  refine mkHas T 48 (d := d_all_hued) rfl sc_all_hued rfl rfl (fun us hl => match us, hl with | [_, _], _ => fun _ _ _ _ _ _ => rfl) (fun vs H Q E => ?_) (fun cdv A outer s H vs Q E hr h => ?_)
  · walk_at "len"
  · have hU := hu_of hr
    refine ⟨_, PSs.nox (pss_cons (ps_expr (pe_call G_look_hues_enough (hr.mono (by decide)) rfl T.g_look_hues_enough k_look_hues_enough b_look_hues_enough .nil pass0 (pa_cons (pv 0) (pa_cons (pv 1) pa_nil))))
    (pss_cons (ps_set (i := 2) sc_all_hued.nd rfl (Or.inl rfl) (pe_op op_rep (pe_lst (pa_cons pe_non pa_nil)) (pe_callB call_len_seq (by rfl) T.b_len (by decide +kernel) (pa_cons (pe_ix ix_tup (pv 0) pe_int (fun _ _ => rfl)) pa_nil))))
    (pss_cons (ps_set (i := 3) sc_all_hued.nd rfl (Or.inl rfl) (pe_lst pa_nil))
    (pss_cons (ps_for PassesOwn.never rfl (pi_range1 rfl T.b_range (pa_cons (pe_callB call_len_seq (by rfl) T.b_len (by decide +kernel) (pa_cons (pe_ix ix_tup (pv 0) pe_int (fun _ _ => rfl)) pa_nil)) pa_nil)) (pg_name (i := 4) sc_all_hued.nd rfl (Or.inl rfl))
      (pss_one (ps_for PassesOwn.never rfl (pi_list (pe_call G_hued_in (hr.mono (by decide)) rfl T.g_hued_in k_hued_in b_hued_in .nil pass0 (pa_cons (pv 0) (pa_cons (pv 2) (pa_cons (pv 4) (pa_cons (pv 1) pa_nil)))))) (pg_name (i := 5) sc_all_hued.nd rfl (Or.inl rfl))
        (pss_cons (ps_set (i := 2) sc_all_hued.nd rfl (Or.inl rfl) (pe_call G_done_step (hr.mono (by decide)) rfl T.g_done_step k_done_step b_done_step .nil pass0 (pa_cons (pv 0) (pa_cons (pv 2) (pa_cons (pv 5) pa_nil)))))
        (pss_one (ps_expr (pe_bm PySem.F.plainAttrs_list PySem.F.slot_list_append PySem.F.type_list_append mt_append (pv 3) (pa_cons (pv 5) pa_nil))))))))
    (pss_one (ps_ret (pe_tup (pa_cons (pv 2) (pa_cons (pv 3) pa_nil))))))))), ?_⟩
    obtain ⟨v, m, k, ts, rfl, W, O, hk, hf, hz, q⟩ := h
    have W0 := W
    obtain ⟨aw, b, rfl, hw, b', ps, e, hts, hpl, hpr⟩ := W
    cases e
    refine ⟨_, rfl, _, rfl, _, m, k, ts, rfl, W0, O, hk, fun H1 s1 => ?_⟩
    refine ⟨by show 1 ≤ sizeLine; decide, fun p0 hp0 => ?_⟩
    have s2 := s1.trans (same_new (o := .lst [.non]) hp0)
    refine ⟨_, rfl, aw, _, 1, _, rfl, rfl, .of (s2 _ _ hw), rfl, b, ps, rfl, .inr (.of (s2 _ _ hts)), ?_⟩
    refine ⟨p0, _, [.non], rfl, rfl, upd_same, by omega, by omega, ?_, fun D hD => ?_⟩
    · rw [Int.toNat_natCast, hpl]
      exact small (by show 1 * ts.length ≤ 100000; omega)
    rw [Int.toNat_natCast, hpl, rep_none]
    have s3 := s2.trans (same_new (o := .lst ((List.replicate ts.length (none : Option Nat)).map vo)) hD)
    refine ⟨by decide, fun F hF0 => ?_⟩
    have hF : H F = none := s3.free hF0
    have s4 := s3.trans (same_new (o := .lst []) hF0)
    have d4 := (same_new (o := .lst []) hF0) _ _ (show upd (upd H1 p0 (.lst [.non])) D (.lst ((List.replicate ts.length (none : Option Nat)).map vo)) D = some (.lst ((List.replicate ts.length (none : Option Nat)).map vo)) from upd_same)
    have nDF : D ≠ F := ne_of_none (show upd (upd H1 p0 (.lst [.non])) D (.lst ((List.replicate ts.length (none : Option Nat)).map vo)) D = some (.lst ((List.replicate ts.length (none : Option Nat)).map vo)) from upd_same) hF0
    refine ⟨_, rfl, aw, _, 1, _, rfl, rfl, .of (s4 _ _ hw), rfl, b, ps, rfl, .inr (.of (s4 _ _ hts)), _, rfl, by omega, by omega, ?_⟩
    have hpr0 : Proper ts (List.replicate ts.length none) := ⟨List.length_replicate, fun i j p c _ _ _ _ e => by
      rw [hu_rep] at e
      cases e⟩
    refine for_it (n := ((ps.length : Nat) : Int).toNat) walk_range (fun n σ H2 => Same H H2 ∧ ∃ (hd : Addr) (h1 : Hue) (ys : List V), (∃ z1 z2, σ = [some (.ref aw), some (vn k), some (.ref hd), some (.ref F), z1, z2]) ∧ H2 hd = some (.lst (h1.map vo)) ∧ hd ≠ F ∧ Proper ts h1 ∧ Below h1 k ∧ (∀ j, j < ts.length → (hu h1 j = none ↔ n ≤ j)) ∧ H2 F = some (.lst ys) ∧ ys.length ≤ 2000 * n) ?_ (fun _ _ _ _ _ => trivial) ?_ ?_
    · refine ⟨s4, D, _, [], ⟨_, _, rfl⟩, d4, nDF, hpr0, fun i c e => ?_, fun j hj => ⟨fun _ => Nat.zero_le _, fun _ => hu_rep⟩, upd_same, Nat.zero_le _⟩
      rw [hu_rep] at e
      cases e
    · rintro t x σ H2 H3 hi ⟨s2, hd, h1, ys, ⟨z1, z2, rfl⟩, hd2, nhF, P1, B1, hnone, f2, hyl⟩ ⟨rfl, ex⟩
      obtain rfl : x = vn t := by
        rw [ex]
        show V.int (0 + (t : Int)) = V.int (t : Int)
        rw [Int.zero_add]
      have ht : t < ts.length := by rw [← hpl]; omega
      refine ⟨_, rfl, _, rfl, _, rfl, _, rfl, _, _, m, t, k, ts, h1, rfl, W0.mono s2, ⟨hd, rfl, hd2⟩, O, P1, B1, ht, (hnone t ht).mpr (Nat.le_refl _), hk, hf, fun L H4 ss hL s4 RS HI HL => ?_⟩
      obtain ⟨L', xs, e, l4, al⟩ := RS
      cases e
      obtain ⟨h', pl, P', B', hh'⟩ := HI
      have s24 := s2.trans s4
      have f4 := s4 _ _ f2
      have nLF : L ≠ F := fun z => by
        rw [z, f2] at hL
        cases hL
      refine ⟨L, rfl, ⟨_, .of l4⟩, ?_⟩
      refine for_list (xs := xs) (fun j σ H5 => Same H H5 ∧ H5 L = some (.lst xs) ∧ Al (StepR H5) xs ss ∧ ∃ (hd : Addr) (hj : Hue) (zs : List V), (∃ z1 z2, σ = [some (.ref aw), some (vn k), some (.ref hd), some (.ref F), z1, z2]) ∧ H5 hd = some (.lst (hj.map vo)) ∧ hd ≠ F ∧ Proper ts hj ∧ Plays m ts hj (ss.drop j) h' ∧ H5 F = some (.lst zs) ∧ zs.length = ys.length + j) ?_ (fun j σ H5 _ h5 => .of h5.2.1) ?_ ?_
      · exact ⟨s24, l4, al, hd, h1, ys, ⟨_, _, rfl⟩, s4 _ _ hd2, nhF, P1, pl, f4, rfl⟩
      · rintro j x σ H5 hx ⟨s5, l5, al5, hd, hj, zs, ⟨z1, z2, rfl⟩, hd5, nhF, Pj, plj, f5, hzl⟩
        obtain ⟨s, es, sr⟩ := al5.getV hx
        have hid : ss.drop j = s :: ss.drop (j + 1) := by
          obtain ⟨h1, h2⟩ := List.getElem?_eq_some_iff.mp es
          rw [List.drop_eq_getElem_cons h1, h2]
        rw [hid] at plj
        obtain ⟨h2, st, pl2⟩ := plj
        have hjs : j < ss.length := (List.getElem?_eq_some_iff.mp es).1
        refine ⟨_, rfl, _, rfl, _, rfl, _, _, x, m, ts, hj, h2, s, rfl, W0.mono s5, ⟨hd, rfl, hd5⟩, sr, O, Pj, st, fun D6 H6 hD6 s6 d6 => ?_⟩
        have f6 := s6 _ _ f5
        have nD6 : D6 ≠ F := fun z => by
          rw [z, f5] at hD6
          cases hD6
        refine ⟨_, rfl, ty_lst f6, _, rfl, F, zs, _, rfl, rfl, f6, ?_, ?_⟩
        · have : zs.length ≤ 2000 * 60 + 2000 := by
            have : 2000 * t ≤ 2000 * 60 := Nat.mul_le_mul_left _ (by omega)
            omega
          exact Nat.lt_of_le_of_lt this (by decide)
        refine ⟨same_mut (s5.trans s6) hF, by rw [upd_ne nLF]; exact s6 _ _ l5, al5.mono fun _ _ r => ?_, D6, h2, zs ++ [x], ⟨_, _, rfl⟩, by rw [upd_ne nD6]; exact d6, nD6, st.1, pl2, upd_same, by rw [List.length_append, List.length_singleton]; omega⟩
        obtain ⟨p, r1, r2⟩ := r
        refine ⟨p, r1, ?_⟩
        rw [upd_ne fun z => ?_]
        · exact s6 _ _ r2
        · rw [z, f5] at r2
          cases r2
      · rintro σ H5 ⟨s5, l5, al5, hd, hj, zs, ⟨z1, z2, rfl⟩, hd5, nhF, Pj, plj, f5, hzl⟩
        rw [al.1, List.drop_length] at plj
        obtain rfl : h' = hj := plj
        refine ⟨s5, hd, h', zs, ⟨_, _, rfl⟩, hd5, nhF, P', B', fun j hj2 => ?_, f5, ?_⟩
        · rw [hh', hnone j hj2]
          omega
        · rw [al.1] at hzl
          omega
    · rintro σ H2 ⟨s2, hd, h1, ys, ⟨z1, z2, rfl⟩, hd2, nhF, P1, B1, hnone, f2, hyl⟩
      refine ⟨_, rfl, _, rfl, (by show 2 ≤ sizeLine; decide), fun p hp => ?_⟩
      refine q _ p (.ref hd) F h1 (s2.trans (same_new hp)) upd_same ⟨hd, rfl, (same_new hp) _ _ hd2⟩ P1 fun i hi e => ?_
      rw [P1.1] at hi
      have := (hnone i hi).mp e
      omega
end
end Hu
end

/-! ## M6 -/
section
set_option maxHeartbeats 4000000
set_option autoImplicit false
namespace Hu
/-! whole hueings with the fewest changes: what a way that goes on must keep -/
structure NearOk (ts : List Tie) (near : List (List Nat)) : Prop where
  len : near.length = ts.length
  mem : ∀ t, t < ts.length → ∀ u, u ∈ near.getD t [] ↔ u < ts.length ∧ u ≠ t ∧ ∃ p, inc (en ts t) p = true ∧ inc (en ts u) p = true
  sz : ∀ l, l ∈ near → l.length ≤ 60
def freeFor (near : List (List Nat)) (way : Hue) (k t : Nat) : List Nat := (List.range k).filter fun c => !decide (some c ∈ (near.getD t []).map (hu way))
def lostB (near : List (List Nat)) (old way : Hue) (k t : Nat) : Bool := match hu old t with
  | none => false
  | some o => match hu way t with
    | some c => decide (some c ≠ some o)
    | none => !decide (o ∈ freeFor near way k t)
def lostN (near : List (List Nat)) (old way : Hue) (k : Nat) : Nat := ((List.range way.length).filter fun t => lostB near old way k t).length
structure Compl (ts : List Tie) (way G : Hue) (k : Nat) : Prop where
  pr : Proper ts G
  full : Full G
  bl : Below G k
  ext : ∀ t c, hu way t = some c → hu G t = some c
/-- how many ties that had a hue have another one -/
def diffN (old G : Hue) (n : Nat) : Nat := ((List.range n).filter fun t => (hu old t).isSome && decide (hu old t ≠ hu G t)).length
section
variable {ts : List Tie} {near : List (List Nat)} {old way G : Hue} {k t : Nat}
theorem mem_freeFor {c : Nat} : c ∈ freeFor near way k t ↔ c < k ∧ ∀ u, u ∈ near.getD t [] → hu way u ≠ some c := by
  unfold freeFor
  rw [List.mem_filter, List.mem_range]
  constructor
  · rintro ⟨h1, h2⟩
    refine ⟨h1, fun u hu1 e => ?_⟩
    have : some c ∈ (near.getD t []).map (hu way) := List.mem_map.mpr ⟨u, hu1, e⟩
    rw [decide_eq_true this] at h2
    cases h2
  · rintro ⟨h1, h2⟩
    refine ⟨h1, ?_⟩
    rw [decide_eq_false]
    · rfl
    · intro hm
      obtain ⟨u, hu1, e⟩ := List.mem_map.mp hm
      exact h2 u hu1 e
theorem Compl.free (N : NearOk ts near) (C : Compl ts way G k) (ht : t < ts.length) {c : Nat} (e : hu G t = some c) : c ∈ freeFor near way k t := by
  refine mem_freeFor.mpr ⟨C.bl t c e, fun u hu1 ew => ?_⟩
  obtain ⟨u1, u2, p, u3, u4⟩ := (N.mem t ht u).mp hu1
  exact u2 (C.pr.2 u t p c u1 ht u4 u3 (C.ext u c ew) e)
theorem filter_len_le {f g : Nat → Bool} {n : Nat} (h : ∀ i, i < n → f i = true → g i = true) : ((List.range n).filter f).length ≤ ((List.range n).filter g).length := by
  refine List.Nodup.length_le_of_subset (List.Pairwise.filter _ List.nodup_range) fun i hi => ?_
  obtain ⟨h1, h2⟩ := List.mem_filter.mp hi
  exact List.mem_filter.mpr ⟨h1, h i (List.mem_range.mp h1) h2⟩
theorem Compl.lost_le (N : NearOk ts near) (C : Compl ts way G k) (hw : way.length = ts.length) : lostN near old way k ≤ diffN old G ts.length := by
  unfold lostN diffN
  rw [hw]
  refine filter_len_le fun t ht hl => ?_
  unfold lostB at hl
  cases e : hu old t with
  | none =>
    rw [e] at hl
    cases hl
  | some o =>
    rw [e] at hl
    have hl : (match hu way t with
      | some c => decide (some c ≠ some o)
      | none => !decide (o ∈ freeFor near way k t)) = true := hl
    refine Bool.and_eq_true_iff.mpr ⟨rfl, decide_eq_true fun z => ?_⟩
    cases e2 : hu way t with
    | some c =>
      rw [e2] at hl
      have h2 := C.ext t c e2
      rw [← z] at h2
      exact of_decide_eq_true hl h2.symm
    | none =>
      rw [e2] at hl
      have hf := C.free N ht z.symm
      have hl : (!decide (o ∈ freeFor near way k t)) = true := hl
      rw [decide_eq_true hf] at hl
      cases hl
theorem Compl.go (N : NearOk ts near) (C : Compl ts way G k) (hw : way.length = ts.length) (ht : t < ts.length) : ∃ c, hu G t = some c ∧ c ∈ freeFor near way k t ∧ Compl ts (way.set t (some c)) G k := by
  obtain ⟨c, e⟩ := Option.ne_none_iff_exists'.mp (C.full t (by rw [C.pr.1]; exact ht))
  refine ⟨c, e, C.free N ht e, ⟨C.pr, C.full, C.bl, fun u d hd => ?_⟩⟩
  rw [hu_set (by omega)] at hd
  by_cases q : t = u
  · rw [if_pos q] at hd
    rw [← q, ← hd]
    exact e
  · rw [if_neg q] at hd
    exact C.ext u d hd
end
/-- how many ties are not on the way -/
def unhued (way : Hue) : Nat := ((List.range way.length).filter fun t => decide (hu way t = none)).length
theorem unhued_set {way : Hue} {t c : Nat} (ht : t < way.length) (hn : hu way t = none) : unhued (way.set t (some c)) < unhued way := by
  unfold unhued
  rw [List.length_set]
  have h1 : ((List.range way.length).filter fun u => decide (hu (way.set t (some c)) u = none)).length < (t :: ((List.range way.length).filter fun u => decide (hu (way.set t (some c)) u = none))).length := Nat.lt_succ_self _
  refine Nat.lt_of_lt_of_le h1 (List.Nodup.length_le_of_subset (List.nodup_cons.mpr ⟨fun hm => ?_, List.Pairwise.filter _ List.nodup_range⟩) fun u hu1 => ?_)
  · obtain ⟨_, h2⟩ := List.mem_filter.mp hm
    have h2 := of_decide_eq_true h2
    rw [hu_set ht, if_pos rfl] at h2
    cases h2
  · rcases List.mem_cons.mp hu1 with rfl | h
    · exact List.mem_filter.mpr ⟨List.mem_range.mpr ht, decide_eq_true hn⟩
    · obtain ⟨h1, h2⟩ := List.mem_filter.mp h
      have h2 := of_decide_eq_true h2
      refine List.mem_filter.mpr ⟨h1, decide_eq_true ?_⟩
      rw [hu_set ht] at h2
      by_cases q : t = u
      · rw [if_pos q] at h2
        cases h2
      · rw [if_neg q] at h2
        exact h2
end Hu
end

/-! ## HuRules4 -/
section
set_option maxHeartbeats 4000000
set_option autoImplicit true
namespace Hu
open PySem PySem.Spec PyProof.Rows L2
/-! ### set(xs), xs a list of whole numbers -/
abbrev freshS (w : World) : Obj := { cls := .type "set", dict := none, data := .set #[] 0 (.fresh 0 0 (!w.params.followText "set-order")) }
section
variable {P : Program} {w : World} {A : Around} {E : Value → PySem.Shared → Prop} {s : PySem.Shared}
set_option maxHeartbeats 6400000 in
theorem call_set_nums {l : Addr} {xs : Array Value} (ns : List Int) {Q : Value → PySem.Shared → Prop} (hd : A.handled = none) (hl : s.heap.IsList l xs) (hi : IntsAre xs.toList ns) (room : ns.length + 1 < scanBound)
    (k : ∀ (h1 : Heap) (tk c : Nat), SetR w h1 s.heap.objs.size (fun j => decide (j ∈ ns)) c → c ≤ ns.length → (∀ b o, s.heap.get? b = some o → h1.get? b = some o) → Q (.ref s.heap.objs.size) { s with heap := h1, toks := tk }) :
    wpAny (model P w) A (call (.type "set") [.ref l]) Q E s := by
  have xsz : xs.size = ns.length := by
    have z := IntsAre.length hi
    rw [Array.length_toList] at z
    exact z
  obtain ⟨c0, t0, mro⟩ := F.called_set.mro
  have made := F.called_set.made
  have sub := F.called_set.sub
  refine wpAny_call (codeAny_of_tree ?_)
  show wpAny _ _ (callAny (.type "set") _) _ _ _
  refine wpAny_pure ⟨Code.quiet_builtin _ (by decide +kernel), codeAny_builtin F.entry_type_call ?_⟩
  rw [Around.under_plain (weight_type_call_type "set" [.ref l] []) rfl]
  have n1 := F.called_set.notType
  have n2 := F.called_set.canCreate
  have n3 := F.typeCall_set_1 (.ref l)
  repeat (any_goals (first | assumption | wp_step))
  refine codeAny_mono (code_set_led1 (.ref l) (E := E) (Q₁ := fun v s1 => v = .ref s.heap.objs.size ∧ s1 = { s with heap := s.heap.push (freshS w) }) ⟨rfl, rfl⟩) fun r s1 q1 => ?_
  cases r with
  | error e => exact q1
  | ok f1 =>
    cases f1 with
    | ret v1 =>
      obtain ⟨rfl, rfl⟩ := q1
      have atS : (s.heap.push (freshS w)).get? s.heap.objs.size = some (freshS w) := Heap.get?_push_size _ rfl
      have isS : PySem.Shared.TypeIs { s with heap := s.heap.push (freshS w) } (.ref s.heap.objs.size) "set" := ⟨_, atS, rfl⟩
      have i1 := F.called_set.init.lookup
      have i2 := F.called_set.init.bind (.ref s.heap.objs.size)
      repeat (any_goals (first | assumption | wp_step))
      refine codeAny_mono (codeAny_call_builtin (R := wants (fun v s2 => v = .none ∧ ∃ h1 tk c, s2 = { s with heap := h1, toks := tk } ∧ SetR w h1 s.heap.objs.size (fun j => decide (j ∈ ns)) c ∧ c ≤ ns.length ∧
          (∀ b o, s.heap.get? b = some o → h1.get? b = some o)) E) F.called_set.init.plain F.entry_set_init (check_set_init_1 isS ?_)) fun r2 s2 q2 => ?_
      · obtain ⟨ol, atl, cl, nl, dl⟩ := hl
        obtain ⟨oc, od, ot, os⟩ := ol
        simp only at cl dl
        subst cl; subst dl
        have atl' : (s.heap.push (freshS w)).get? l = some { cls := .type "list", dict := od, data := .seq xs nl, slots := os } := Heap.get?_push_of_some _ atl
        have m1 := F.sub_list_set
        have m2 := F.sub_list_frozenset
        have m3 : (Value.type "list" == Value.type "dict") = false := by decide
        have l1 : (s.heap.push (freshS w)).IsList l xs := ⟨_, atl', rfl, nl, rfl⟩
        unfold Builtin.«set.__init__» noKeywords Builtin.Frozenset.updateFrom
        generalize hg : pyIter = PI
        wp_walk
        subst hg
        refine wpAny_pyIter_list l1 ?_
        refine wpAny_bind (wpAny_runValue ?_)
        have ltl : l < s.heap.objs.size := Heap.lt_size atl
        have hd3 : A.in1.in1.in1.handled = none := by simp [hd]
        have neI : l ≠ (s.heap.push (freshS w)).objs.size := by
          rw [Heap.size_push]
          exact Nat.ne_of_lt (Nat.lt_succ_of_lt ltl)
        have notf : s.heap.objs.size ∉ [(s.heap.push (freshS w)).objs.size, l] := by
          rw [Heap.size_push]
          simp only [List.mem_cons, List.mem_singleton, List.not_mem_nil, or_false, not_or]
          exact ⟨Nat.ne_of_lt (Nat.lt_succ_self _), Nat.ne_of_gt ltl⟩
        have vals : ∀ (i : Nat) (v : Value), xs[i]? = some v → ∃ z t, ns[i]? = some z ∧ v = .int z t := fun i v hv => by
          have lt : i < ns.length := by
            rw [← xsz]
            exact (Array.getElem?_eq_some_iff.mp hv).1
          obtain ⟨t, e⟩ := PyProof.Rows.IntsAre.int_at hi i v (by rw [Array.getElem?_toList]; exact hv)
          refine ⟨ns[i], t, List.getElem?_eq_getElem lt, ?_⟩
          rw [e, List.getD_eq_getElem?_getD, List.getElem?_eq_getElem lt]
          rfl
        refine set_update_ints ((Walks.list hd3 _ l neI xs).toS) s.heap.objs.size notf ns xsz room vals (xs.size - 0) 0 _ (by omega) (Nat.zero_le _) ⟨⟨_, Heap.get?_push_size _ rfl, rfl, rfl⟩, (l1.push _)⟩ ?hS0 ?hR
        case hS0 =>
          have g0 : ((s.heap.push (freshS w)).push { cls := .type "list_iterator", data := .fields #[.ref l, .int 0 0] }).get? s.heap.objs.size = some (freshS w) := Heap.get?_push_of_some _ atS
          exact ⟨0, Nat.le_refl 0, setR_new_at g0⟩
        case hR =>
          intro s3 c3 mv le3 R3
          obtain ⟨h3, g3, d3, tk3, os3⟩ := s3
          have eg : g3 = s.gens := mv.gens
          have ed : d3 = s.drawn := mv.drawn
          have eo : os3 = s.os := mv.os
          subst eg; subst ed; subst eo
          show wpAny _ _ _ _ _ _
          refine wpAny_pure ?_
          show wpAny _ _ (ret Value.none) _ _ _
          rw [xsz] at le3
          refine wpAny_pure ⟨rfl, h3, tk3, c3, rfl, R3, le3, fun b o e => ?_⟩
          have ltb : b < s.heap.objs.size := Heap.lt_size e
          have nb1 : b ≠ s.heap.objs.size := Nat.ne_of_lt ltb
          have nb2 : b ≠ (s.heap.push (freshS w)).objs.size := by
            rw [Heap.size_push]
            exact Nat.ne_of_lt (Nat.lt_succ_of_lt ltb)
          refine mv.heap b o ?_ (Heap.get?_push_of_some _ (Heap.get?_push_of_some _ e))
          simp only [List.mem_cons, List.mem_singleton, List.not_mem_nil, or_false, not_or]
          exact ⟨nb1, nb2⟩
      · cases r2 with
        | error e => exact q2
        | ok f2 =>
          cases f2 with
          | ret v2 =>
            obtain ⟨rfl, h1, tk, c, rfl, R1, le1, k1⟩ := q2
            repeat (any_goals (first | assumption | wp_step))
            exact k _ _ _ R1 le1 k1
          | _ => exact q2.elim
    | _ => exact q1.elim
end
section
variable {X : Cx}
def rSetI (K : PySem.W.Frag) (w : World) : List V → Hp → VK → Prop := fun xs H Q => ∃ (a : Addr) (ns : List Int), xs = [V.ref a] ∧ SqL K H a (ns.map V.int) ∧ ns.length < 3000 ∧
  ∀ (p : Addr) (c : Nat), H p = none → c ≤ ns.length → Q (.ref p) (upd H p (SetO w p (fun j => decide (j ∈ ns)) c))
theorem call_setI (hc : X.calm = true) : CallR X (.type "set") (rSetI X.K X.w) := by
  intro pins s σ H xs us Q I r h
  obtain ⟨a, ns, rfl, hs, h64, q⟩ := h
  obtain ⟨its, rv, hl, _⟩ := I.list hs
  rw [Vals.ref1 r]
  have hn : H s.heap.objs.size = none := I.hok.fresh (Nat.le_refl _)
  refine call_set_nums ns (I.ok.hd hc) hl.isList (by simpa using rv.ints) (by unfold scanBound; omega) fun h1 tk c R le kp => ?_
  exact ⟨.ref s.heap.objs.size, _, I.laid (t' := tk) kp (Nat.le_refl _) (setO_new R), rfl, q _ c hn le⟩
end
end Hu
end

/-! ## W9 -/
section
set_option maxHeartbeats 4000000
set_option autoImplicit true
namespace Hu
open PySem PySem.Spec PyProof.Rows L2
local macro_rules | `(tactic| walk_at "len") => `(tactic| (intro h; first
  | (obtain ⟨_, e, _⟩ := h; cases e; rfl)
  | (obtain ⟨_, _, e, _⟩ := h; cases e; rfl)
  | (obtain ⟨_, _, _, e, _⟩ := h; cases e; rfl)
  | (obtain ⟨_, _, _, _, e, _⟩ := h; cases e; rfl)
  | (obtain ⟨_, _, _, _, _, e, _⟩ := h; cases e; rfl)
  | (obtain ⟨_, _, _, _, _, _, e, _⟩ := h; cases e; rfl)
  | (obtain ⟨_, _, _, _, _, _, _, e, _⟩ := h; cases e; rfl)
  | (obtain ⟨_, _, _, _, _, _, _, _, e, _⟩ := h; cases e; rfl)
  | (obtain ⟨_, _, _, _, _, _, _, _, _, e, _⟩ := h; cases e; rfl)
  | (obtain ⟨_, _, _, _, _, _, _, _, _, _, e, _⟩ := h; cases e; rfl)
  | (obtain ⟨_, _, _, _, _, _, _, _, _, _, _, e, _⟩ := h; cases e; rfl)
  | (obtain ⟨_, _, _, _, _, _, _, _, _, _, _, _, e, _⟩ := h; cases e; rfl)
  | (obtain ⟨_, _, _, _, _, _, _, _, _, _, _, _, _, e, _⟩ := h; cases e; rfl)
  | (obtain ⟨_, _, _, _, _, _, _, _, _, _, _, _, _, _, e, _⟩ := h; cases e; rfl)
  | (obtain ⟨_, _, _, _, _, _, _, _, _, _, _, _, _, _, _, e, _⟩ := h; cases e; rfl)
  | (obtain ⟨_, _, _, _, _, _, _, _, _, _, _, _, _, _, _, _, e, _⟩ := h; cases e; rfl)
  | (obtain ⟨_, _, _, _, _, _, _, _, _, _, _, _, _, _, _, _, _, e, _⟩ := h; cases e; rfl)
  | (obtain ⟨_, _, _, _, _, _, _, _, _, _, _, _, _, _, _, _, _, _, e, _⟩ := h; cases e; rfl)))
section
variable {P : Program} {w : World} {K : PySem.W.Frag} {mg : Str → Option Value} {base : Heap}
/-! ### neighbours_of -/
abbrev N_neighbours_of : List Str := ["web", "found", "tie", "pair", "near", "other"]
theorem sc_neighbours_of : FnScope N_neighbours_of ["web"] (defScope s_neighbours_of) := ⟨rfl, rfl, rfl, by decide +kernel, rfl, by decide +kernel, by decide +kernel⟩
def sp_neighbours_of (K : PySem.W.Frag) : Sp := fun vs H Q _ => ∃ (v : V) (m : Nat) (ts : List Tie), vs = [v] ∧ WebR H v m ts ∧ WebOk m ts ∧ ts.length ≤ 30 ∧ ∀ D H' near, Same H H' → LstR (NatR H') H' (.ref D) near → NearOk ts near → Q (.ref D) H'
theorem perm_int_nat {ys : List Int} {l : List Nat} (h : ∀ k : Int, k ∈ ys ↔ k ∈ l.map fun n : Nat => (n : Int)) : ∃ ns : List Nat, ys.map V.int = ns.map vn ∧ ∀ u, u ∈ ns ↔ u ∈ l := by
  have nn : ∀ x ∈ ys, ∃ n : Nat, x = n := fun x hx => by
    obtain ⟨i, _, e⟩ := List.mem_map.mp ((h x).mp hx)
    exact ⟨_, e.symm⟩
  refine ⟨ys.map Int.toNat, ?_, fun u => ?_⟩
  · rw [List.map_map]
    refine List.map_congr_left fun x hx => ?_
    obtain ⟨n, rfl⟩ := nn x hx
    rfl
  · rw [List.mem_map]
    constructor
    · rintro ⟨x, hx, e⟩
      obtain ⟨n, hn, e2⟩ := List.mem_map.mp ((h x).mp hx)
      have : n = u := by
        rw [← e, ← e2]
        rfl
      rw [← this]
      exact hn
    · intro hu1
      exact ⟨(u : Int), (h _).mpr (List.mem_map.mpr ⟨u, hu1, rfl⟩), rfl⟩
theorem ok_neighbours_of (T : Tx P w K mg base) : Has P w K mg base 4 ("neighbours_of", none) ["web"] (sp_neighbours_of K) := by
  obtain ⟨fd_ties_at, G_ties_at, b_ties_at, k_ties_at⟩ := ok_ties_at (P := P) (w := w) (base := base) T
  obtain ⟨fd_far_end, G_far_end, b_far_end, k_far_end⟩ := ok_far_end (P := P) (w := w) (base := base) T
  refine mkHas T 65 (d := d_neighbours_of) rfl sc_neighbours_of rfl rfl (fun us hl => match us, hl with | [_], _ => fun _ _ _ _ _ _ => rfl) (fun vs H Q E => ?_) (fun cdv A outer s H vs Q E hr h => ?_)
  · walk_at "len"
  · have hU := hu_of hr
    refine ⟨_, PSs.nox (pss_cons (ps_set (i := 1) sc_neighbours_of.nd rfl (Or.inl rfl) (pe_lst pa_nil))
    (pss_cons (ps_for PassesOwn.never rfl (pi_enumT (by rfl) T.b_enumerate (pa_cons (pe_ix ix_tup (pv 0) pe_int (fun _ _ => rfl)) pa_nil)) (pg_tup rfl (pgs_cons (pg_name (i := 2) sc_neighbours_of.nd rfl (Or.inr rfl)) (pgs_cons (pg_name (i := 3) sc_neighbours_of.nd rfl (Or.inl rfl)) pgs_nil)))
      (pss_cons (ps_set (i := 4) sc_neighbours_of.nd rfl (Or.inl rfl) (pe_op op_cat (pe_call G_ties_at (hr.mono (by decide)) rfl T.g_ties_at k_ties_at b_ties_at .nil pass0 (pa_cons (pv 0) (pa_cons (pe_ix ix_tup (pv 3) pe_int (fun _ _ => rfl)) pa_nil))) (pe_call G_ties_at (hr.mono (by decide)) rfl T.g_ties_at k_ties_at b_ties_at .nil pass0 (pa_cons (pv 0) (pa_cons (pe_call G_far_end (hr.mono (by decide)) rfl T.g_far_end k_far_end b_far_end .nil pass0 (pa_cons (pv 0) (pa_cons (pv 2) (pa_cons (pe_ix ix_tup (pv 3) pe_int (fun _ _ => rfl)) pa_nil)))) pa_nil)))))
      (pss_one (ps_expr (pe_bm PySem.F.plainAttrs_list PySem.F.slot_list_append PySem.F.type_list_append mt_append (pv 1) (pa_cons (pe_lc (own := [("other", 5)]) rfl sc_neighbours_of.nd (pi_list (pe_callB (cr_sortedSet rfl) (by rfl) T.b_sorted (by decide +kernel) (pa_cons (pe_callTy (call_setI rfl) (by rfl) T.b_set (by decide +kernel) (pa_cons (pv 4) pa_nil)) pa_nil))) (blkOk_by (N := N_neighbours_of) (sc := defScope s_neighbours_of) (by decide +kernel)) (fun _ _ _ _ _ => by exact (pg_name (i := 5) sc_neighbours_of.nd rfl (Or.inl rfl))) (fun _ _ _ _ _ => by exact (pts_one (pt_cmpR op_ne (pv 5) (pv 2) (nomark _)))) (fun _ _ _ _ _ => by exact (pv 5))) pa_nil))))))
    (pss_one (ps_ret (pv 1))))), ?_⟩
    obtain ⟨v, m, ts, rfl, W, O, hz, q⟩ := h
    have hz2 := O.len
    have W0 := W
    obtain ⟨aw, bw, rfl, hw, b', ps, e, hts, hpl, hpr⟩ := W
    cases e
    refine ⟨by decide, fun F hF => ?_⟩
    have s0 : Same H (upd H F (.lst [])) := same_new hF
    refine ⟨_, rfl, aw, _, 1, _, rfl, rfl, .of (s0 _ _ hw), rfl, bw, ps, rfl, .of (s0 _ _ hts), ?_⟩
    refine for_it (walk_enumT (xs := ps)) (fun i σ H2 => Same H H2 ∧ (∃ z1 z2 z3 z4, σ = [some (.ref aw), some (.ref F), z1, z2, z3, z4]) ∧ ∃ (xs : List V) (nl : List (List Nat)), H2 F = some (.lst xs) ∧ Al (NatR (dels H2 [F])) xs nl ∧ nl.length = i ∧ (∀ l, l ∈ nl → l.length ≤ 60) ∧ ∀ t, t < i → ∀ u, u ∈ nl.getD t [] ↔ u < ts.length ∧ u ≠ t ∧ ∃ p, inc (en ts t) p = true ∧ inc (en ts u) p = true) ?_ (fun i σ H2 _ h2 => .of (h2.1 _ _ hts)) ?_ ?_
    · exact ⟨s0, ⟨_, _, _, _, rfl⟩, [], [], upd_same, Al.nil, rfl, fun l hl => absurd hl List.not_mem_nil, fun t ht => absurd ht (Nat.not_lt_zero _)⟩
    · rintro i x σ H2 H3 hi ⟨s2, ⟨z1, z2, z3, z4, rfl⟩, xs, nl, f2, al, hnl, hnz, hmem⟩ ⟨tt, y, z, rfl, hn, rfl, e1, e2⟩
      cases e1
      obtain ⟨tie, et, pt, rfl, hpt⟩ := Al.getV (α := Tie) ⟨hpl, hpr⟩ e2
      have hit : i < ts.length := by rw [← hpl]; exact hi
      have ei : en ts i = tie := getD_of et
      have s3 : Same H2 (upd H2 tt (.tup [.int (i : Nat), .ref pt])) := same_new hn
      have s23 := s2.trans s3
      have hx1 : inc (en ts i) (en ts i).1 = true := inc_iff.mpr (.inl rfl)
      obtain ⟨o1, o2⟩ := O.at hit
      have hfar : far ts i (en ts i).1 = (en ts i).2 := by
        unfold far
        rw [if_pos rfl]
      have f3 := s3 _ _ f2
      have al3 : Al (NatR (dels (upd H2 tt (.tup [.int (i : Nat), .ref pt])) [F])) xs nl := al.mono fun _ _ r => r.mono (dels_mono s3)
      have hp3 := s23 _ _ hpt
      rw [← ei] at hp3
      refine ⟨tt, _, rfl, .of upd_same, rfl, _, _, rfl, _, _, rfl, rfl, ?_⟩
      generalize upd H2 tt (.tup [.int (i : Nat), .ref pt]) = H3 at *
      refine ⟨_, rfl, _, rfl, pt, _, 0, _, rfl, rfl, .of hp3, rfl, _, m, (en ts i).1, ts, rfl, W0.mono s23, by omega, hz2, fun A H4 hA s4 a4 => ?_⟩
      have s24 := s23.trans s4
      refine ⟨_, rfl, _, rfl, _, rfl, _, rfl, pt, _, 0, _, rfl, rfl, .of (s4 _ _ hp3), rfl, _, m, i, (en ts i).1, ts, rfl, W0.mono s24, hit, hx1, fun H5 s5 => ?_⟩
      have s25 := s24.trans s5
      refine ⟨_, m, far ts i (en ts i).1, ts, rfl, W0.mono s25, by rw [hfar]; exact o2, hz2, fun B H6 hB s6 b6 => ?_⟩
      rw [hfar] at b6
      have s26 := s25.trans s6
      have l1 : (tiesAt ts (en ts i).1).length ≤ 30 := Nat.le_trans range_filter_le hz
      have l2 : (tiesAt ts (en ts i).2).length ≤ 30 := Nat.le_trans range_filter_le hz
      refine ⟨A, B, _, _, rfl, rfl, s6 _ _ (s5 _ _ a4), b6, ?_, fun C hC => ?_⟩
      · rw [List.length_map, List.length_map]
        exact small (by omega)
      have s7 : Same H6 (upd H6 C (.lst ((tiesAt ts (en ts i).1).map vn ++ (tiesAt ts (en ts i).2).map vn))) := same_new hC
      have c7 : upd H6 C (.lst ((tiesAt ts (en ts i).1).map vn ++ (tiesAt ts (en ts i).2).map vn)) C = some (.lst (((tiesAt ts (en ts i).1 ++ tiesAt ts (en ts i).2).map fun n : Nat => (n : Int)).map V.int)) := by
        rw [upd_same, ← map_vn_int, List.map_append]
      have f7 := s7 _ _ (s6 _ _ (s5 _ _ (s4 _ _ f3)))
      have s37 : Same H3 (upd H6 C (.lst ((tiesAt ts (en ts i).1).map vn ++ (tiesAt ts (en ts i).2).map vn))) := ((s4.trans s5).trans s6).trans s7
      generalize upd H6 C (.lst ((tiesAt ts (en ts i).1).map vn ++ (tiesAt ts (en ts i).2).map vn)) = H7 at *
      refine ⟨_, rfl, ty_lst f7, _, rfl, C, _, rfl, .of c7, ?_, fun S c hS hc => ?_⟩
      · rw [List.length_map, List.length_append]
        omega
      have s8 := s37.trans (same_new (o := SetO w S (fun j => decide (j ∈ (tiesAt ts (en ts i).1 ++ tiesAt ts (en ts i).2).map fun n : Nat => (n : Int))) c) hS)
      refine ⟨S, _, c, rfl, upd_same, ?_, fun ys L hys hmy hlen hL => ?_⟩
      · rw [List.length_map, List.length_append] at hc
        omega
      obtain ⟨ns, ens, hns⟩ := perm_int_nat (ys := ys) (l := tiesAt ts (en ts i).1 ++ tiesAt ts (en ts i).2) fun k => by rw [hmy, decide_eq_true_eq]
      have hnlen : ns.length ≤ 60 := by
        have h1 := congrArg List.length ens
        rw [List.length_map, List.length_map] at h1
        rw [List.length_map, List.length_append] at hc
        omega
      rw [ens]
      have s9 := s8.trans (same_new (o := .lst (ns.map vn)) hL)
      refine ⟨L, rfl, ⟨_, .of upd_same⟩, fun G hG => ?_⟩
      have f9 := s9 _ _ f3
      refine lc_val (n := (ns.map vn).length) walk_list (by rw [List.length_map]; omega) hG (fun H2 s2 => .of (s2 _ _ upd_same)) (fun j => decide (ns.getD j 0 ≠ i)) (fun j => vn (ns.getD j 0)) ?_ ?_
      · rintro j y H10 H11 acc hj s10 g10 ⟨rfl, e⟩ Good Skip hg hs
        rw [List.getElem?_map] at e
        obtain ⟨u, eu, rfl⟩ := Option.map_eq_some_iff.mp e
        rw [getD_of eu] at hg hs
        refine ⟨rfl, _, rfl, _, rfl, rfl, _, rfl, ?_⟩
        by_cases hui : u = i
        · rw [decide_eq_true (show V.int (u : Int) = V.int (i : Int) by rw [hui])]
          exact iteF (hs (decide_eq_false fun z => z hui) _ (Same.refl _))
        · rw [decide_eq_false (show ¬ V.int (u : Int) = V.int (i : Int) from fun z => hui (by injection z with z; omega))]
          exact iteT ⟨_, rfl, hg (decide_eq_true hui) _ (Same.refl _)⟩
      · intro H10 s10 g10
        rw [List.length_map] at g10
        have eG : ((List.range ns.length).filter fun j => decide (ns.getD j 0 ≠ i)).map (fun j => vn (ns.getD j 0)) = (((List.range ns.length).filter fun j => decide (ns.getD j 0 ≠ i)).map fun j => ns.getD j 0).map vn := by
          rw [List.map_map]
          rfl
        rw [eG] at g10
        have f10 := s10 _ _ f9
        have s310 := s9.trans s10
        have nGF : G ≠ F := (ne_of_none f9 hG).symm
        have hxl : xs.length = i := by rw [al.1, hnl]
        refine ⟨F, xs, _, rfl, rfl, f10, smalls (by omega), ?_⟩
        have gd : Same (dels H3 [F]) (dels (upd H10 F (.lst (xs ++ [.ref G]))) [F]) := by
          rw [dels_upd (by simp)]
          exact dels_mono s310
        refine ⟨same_mut (s23.trans s310) hF, ⟨_, _, _, _, rfl⟩, xs ++ [.ref G], nl ++ [((List.range ns.length).filter fun j => decide (ns.getD j 0 ≠ i)).map fun j => ns.getD j 0], upd_same, ?_, by rw [List.length_append, hnl]; rfl, fun l hl => ?_, fun t ht u => ?_⟩
        · refine (al3.mono fun _ _ r => r.mono gd).snoc ⟨G, rfl, ?_⟩
          rw [dels_ne (by simp [nGF]), upd_ne nGF]
          exact g10
        · rcases List.mem_append.mp hl with k | k
          · exact hnz l k
          · rw [List.mem_singleton.mp k, List.length_map]
            exact Nat.le_trans range_filter_le hnlen
        · by_cases hti : t < i
          · rw [List.getD_eq_getElem?_getD, List.getElem?_append_left (by omega), ← List.getD_eq_getElem?_getD]
            exact hmem t hti u
          · obtain rfl : t = i := by omega
            rw [List.getD_eq_getElem?_getD, List.getElem?_append_right (by omega), hnl, Nat.sub_self]
            show u ∈ ((List.range ns.length).filter fun j => decide (ns.getD j 0 ≠ t)).map (fun j => ns.getD j 0) ↔ _
            rw [List.mem_map]
            constructor
            · rintro ⟨j, hj, rfl⟩
              obtain ⟨j1, j2⟩ := List.mem_filter.mp hj
              have hm := (hns _).mp (List.mem_of_getElem? (getD_some (d := 0) (List.mem_range.mp j1)))
              rcases List.mem_append.mp hm with k | k
              · obtain ⟨k1, k2⟩ := mem_tiesAt.mp k
                exact ⟨k1, of_decide_eq_true j2, _, inc_iff.mpr (.inl rfl), k2⟩
              · obtain ⟨k1, k2⟩ := mem_tiesAt.mp k
                exact ⟨k1, of_decide_eq_true j2, _, inc_iff.mpr (.inr rfl), k2⟩
            · rintro ⟨u1, u2, p, u3, u4⟩
              have hm : u ∈ ns := (hns u).mpr (by
                rcases inc_iff.mp u3 with rfl | rfl
                · exact List.mem_append_left _ (mem_tiesAt.mpr ⟨u1, u4⟩)
                · exact List.mem_append_right _ (mem_tiesAt.mpr ⟨u1, u4⟩))
              obtain ⟨j, hj, ej⟩ := List.mem_iff_getElem.mp hm
              have e3 : ns.getD j 0 = u := getD_of (by rw [List.getElem?_eq_getElem hj, ej])
              exact ⟨j, List.mem_filter.mpr ⟨List.mem_range.mpr hj, decide_eq_true (by rw [e3]; exact u2)⟩, e3⟩
    · rintro σ H2 ⟨s2, ⟨z1, z2, z3, z4, rfl⟩, xs, nl, f2, al, hnl, hnz, hmem⟩
      refine ⟨_, rfl, q F H2 nl s2 ⟨F, xs, rfl, f2, al.mono fun _ _ r => r.mono dels_same⟩ ⟨by rw [hnl, hpl], fun t ht => hmem t (by rw [hpl]; exact ht), hnz⟩⟩
/-! ### Changing.__init__ -/
abbrev N_Changing_init : List Str := ["self", "web", "hueing", "hues"]
theorem sc_Changing_init : FnScope N_Changing_init ["self", "web", "hueing", "hues"] (defScope s_Changing_init) := ⟨rfl, rfl, rfl, by decide +kernel, rfl, by decide +kernel, by decide +kernel⟩
abbrev chFs (nv ov : V) (k : Nat) (W : Addr) : List (Str × V) := [(Str.ofString "near", nv), (Str.ofString "old", ov), (Str.ofString "hues", vn k), (Str.ofString "way", .ref W)]
abbrev ch1 (nv : V) : List (Str × V) := [(Str.ofString "near", nv)]
abbrev ch2 (nv ov : V) : List (Str × V) := [(Str.ofString "near", nv), (Str.ofString "old", ov)]
abbrev ch3 (nv ov : V) (k : Nat) : List (Str × V) := [(Str.ofString "near", nv), (Str.ofString "old", ov), (Str.ofString "hues", vn k)]
structure ChO (K : PySem.W.Frag) (H : Hp) (sf W : Addr) (k : Nat) (near : List (List Nat)) (old way : Hue) : Prop where
  ins : ∃ dx nv ov, H sf = some (.ins (He.ga K "Changing") dx (chFs nv ov k W)) ∧ LstR (NatR (dels H [W])) (dels H [W]) nv near ∧ HueR (dels H [W]) ov old
  way : H W = some (.lst (way.map vo))
theorem ChO.mono {K : PySem.W.Frag} {H H' : Hp} {self W : Addr} {k : Nat} {near : List (List Nat)} {old way : Hue} (s : Same H H') (o : ChO K H self W k near old way) : ChO K H' self W k near old way := by
  obtain ⟨dx, nv, ov, h1, h2, h3⟩ := o.ins
  exact ⟨⟨dx, nv, ov, s _ _ h1, h2.mono (dels_mono s) fun _ _ r => r.mono (dels_mono s), h3.mono (dels_mono s)⟩, s _ _ o.way⟩
def sp_Changing_init (K : PySem.W.Frag) : Sp := fun vs H Q _ => ∃ (self dx : Addr) (v hv : V) (m k : Nat) (ts : List Tie) (h : Hue) (H0 : Hp), vs = [.ref self, v, hv, vn k] ∧ H self = some (.ins (He.ga K "Changing") dx []) ∧ Same H0 H ∧ H0 self = none ∧ WebR H0 v m ts ∧ HueR H0 hv h ∧ WebOk m ts ∧ ts.length ≤ 30 ∧
  ∀ H' W near, Same H0 H' → ChO K H' self W k near h (List.replicate ts.length none) → NearOk ts near → Q .non H'
theorem ok_Changing_init (T : Tx P w K mg base) : Has P w K mg base 5 ("Changing", some "__init__") ["self", "web", "hueing", "hues"] (sp_Changing_init K) := by
  obtain ⟨fd_neighbours_of, G_neighbours_of, b_neighbours_of, k_neighbours_of⟩ := ok_neighbours_of (P := P) (w := w) (base := base) T
  refine mkHas T 66 (d := d_Changing_init) rfl sc_Changing_init rfl rfl (fun us hl => match us, hl with | [_, _, _, _], _ => fun _ _ _ _ _ _ => rfl) (fun vs H Q E => ?_) (fun cdv A outer s H vs Q E hr h => ?_)
  · walk_at "len"
  · have hU := hu_of hr
    refine ⟨_, PSs.nox (pss_cons (ps_fld (pv 0) (pe_call G_neighbours_of (hr.mono (by decide)) rfl T.g_neighbours_of k_neighbours_of b_neighbours_of .nil pass0 (pa_cons (pv 1) pa_nil)) rfl)
    (pss_cons (ps_fld (pv 0) (pe_callTy call_list_of (by rfl) T.b_list (by decide +kernel) (pa_cons (pv 2) pa_nil)) rfl)
    (pss_cons (ps_fld (pv 0) (pv 3) rfl)
    (pss_one (ps_fld (pv 0) (pe_op op_rep (pe_lst (pa_cons pe_non pa_nil)) (pe_callB call_len_seq (by rfl) T.b_len (by decide +kernel) (pa_cons (pe_ix ix_tup (pv 1) pe_int (fun _ _ => rfl)) pa_nil))) rfl))))), ?_⟩
    obtain ⟨self, dx, v, hv, m, k, ts, hh, H0, rfl, i0, s0, n0, W, R0, O, hz, q⟩ := h
    have W0 := W
    obtain ⟨aw, b, rfl, hw, b', ps, e, hts, hpl, hpr⟩ := W
    cases e
    refine ⟨_, rfl, _, m, ts, rfl, W0.mono s0, O, hz, fun N H1 near s01 RN hN => ?_⟩
    have s1 := s0.trans s01
    have i1 := s01 _ _ i0
    refine ⟨_, rfl, self, _, dx, _, rfl, i1, T.c_Changing, T.n_Changing_near, (by decide), ?_⟩
    generalize hH2 : upd H1 self (HO.ins (He.ga K "Changing") dx (putF (Str.ofString "near") (V.ref N) [])) = H2
    have L2' : FldTo H1 H2 self := hH2 ▸ fldTo i1
    have i2 : H2 self = some (.ins (He.ga K "Changing") dx (ch1 (.ref N))) := by rw [← hH2]; exact upd_same
    have s2 := L2'.same _ s1 n0
    have RN2 : LstR (NatR H2) H2 (.ref N) near := RN.fld L2' fun _ _ r => r.fld L2'
    obtain ⟨ha, rfl, hha⟩ := R0
    refine ⟨_, rfl, ha, _, rfl, .inl (.of (s2 _ _ hha)), fun A hA => ?_⟩
    have s3 : Same H2 (upd H2 A (.lst (hh.map vo))) := same_new hA
    have a3 : upd H2 A (.lst (hh.map vo)) A = some (.lst (hh.map vo)) := upd_same
    have i3 := s3 _ _ i2
    have RN3 := RN2.mono s3 fun _ _ r => r.mono s3
    have s03 := s2.trans s3
    generalize upd H2 A (.lst (hh.map vo)) = H3 at *
    refine ⟨_, rfl, self, _, dx, _, rfl, i3, T.c_Changing, T.n_Changing_old, (by show 1 < 1000; decide), ?_⟩
    generalize hH4 : upd H3 self (HO.ins (He.ga K "Changing") dx (putF (Str.ofString "old") (V.ref A) (ch1 (.ref N)))) = H4
    have L4 : FldTo H3 H4 self := hH4 ▸ fldTo i3
    have i4 : H4 self = some (.ins (He.ga K "Changing") dx (ch2 (.ref N) (.ref A))) := by rw [← hH4]; exact upd_same
    have s4 := L4.same _ s03 n0
    have RN4 : LstR (NatR H4) H4 (.ref N) near := RN3.fld L4 fun _ _ r => r.fld L4
    have a4 := L4.lst _ _ a3
    refine ⟨_, rfl, _, rfl, self, _, dx, _, rfl, i4, T.c_Changing, T.n_Changing_hues, (by show 2 < 1000; decide), ?_⟩
    generalize hH5 : upd H4 self (HO.ins (He.ga K "Changing") dx (putF (Str.ofString "hues") (vn k) (ch2 (.ref N) (.ref A)))) = H5
    have L5 : FldTo H4 H5 self := hH5 ▸ fldTo i4
    have i5 : H5 self = some (.ins (He.ga K "Changing") dx (ch3 (.ref N) (.ref A) k)) := by rw [← hH5]; exact upd_same
    have s5 := L5.same _ s4 n0
    have RN5 : LstR (NatR H5) H5 (.ref N) near := RN4.fld L5 fun _ _ r => r.fld L5
    have a5 := L5.lst _ _ a4
    refine ⟨by show 1 ≤ sizeLine; decide, fun p0 hp0 => ?_⟩
    have s6 : Same H5 (upd H5 p0 (.lst [.non])) := same_new hp0
    refine ⟨_, rfl, aw, _, 1, _, rfl, rfl, .of (s6 _ _ (s5 _ _ hw)), rfl, b, ps, rfl, .inr (.of (s6 _ _ (s5 _ _ hts))), ?_⟩
    refine ⟨p0, _, [.non], rfl, rfl, upd_same, by omega, by omega, ?_, fun Wy hWy => ?_⟩
    · rw [Int.toNat_natCast, hpl]
      exact small (by show 1 * ts.length ≤ 100000; omega)
    rw [Int.toNat_natCast, hpl, rep_none]
    have s7 := s6.trans (same_new (o := .lst ((List.replicate ts.length (none : Option Nat)).map vo)) hWy)
    have w7 : upd (upd H5 p0 (.lst [.non])) Wy (.lst ((List.replicate ts.length (none : Option Nat)).map vo)) Wy = some (.lst ((List.replicate ts.length (none : Option Nat)).map vo)) := upd_same
    have nW : H5 Wy = none := s6.free hWy
    generalize upd (upd H5 p0 (.lst [.non])) Wy (.lst ((List.replicate ts.length (none : Option Nat)).map vo)) = H7 at *
    have i7 := s7 _ _ i5
    refine ⟨_, rfl, self, _, dx, _, rfl, i7, T.c_Changing, T.n_Changing_way, (by show 3 < 1000; decide), ?_⟩
    generalize hH8 : upd H7 self (HO.ins (He.ga K "Changing") dx (putF (Str.ofString "way") (V.ref Wy) (ch3 (.ref N) (.ref A) k))) = H8
    have L8 : FldTo H7 H8 self := hH8 ▸ fldTo i7
    have i8 : H8 self = some (.ins (He.ga K "Changing") dx (chFs (.ref N) (.ref A) k Wy)) := by rw [← hH8]; exact upd_same
    have s8 := L8.same _ (s5.trans s7) n0
    have keepL : ∀ p xs, H5 p = some (.lst xs) → dels H8 [Wy] p = some (.lst xs) := fun p xs e => by
      rw [dels_ne (by
        simp only [List.mem_singleton]
        rintro rfl
        rw [nW] at e
        cases e)]
      exact L8.lst _ _ (s7 _ _ e)
    have RN8 : LstR (NatR (dels H8 [Wy])) (dels H8 [Wy]) (.ref N) near := by
      obtain ⟨p, vs, e1, e2, e3⟩ := RN5
      exact ⟨p, vs, e1, keepL _ _ e2, e3.mono fun _ _ r => let ⟨p, x, y⟩ := r; ⟨p, x, keepL _ _ y⟩⟩
    exact q H8 Wy near s8 ⟨⟨dx, _, _, i8, RN8, ⟨A, rfl, keepL _ _ a5⟩⟩, L8.lst _ _ w7⟩ hN
/-! ### Changing.free_for -/
abbrev N_Changing_free_for : List Str := ["self", "tie", "taken", "other", "hue"]
theorem sc_Changing_free_for : FnScope N_Changing_free_for ["self", "tie"] (defScope s_Changing_free_for) := ⟨rfl, rfl, rfl, by decide +kernel, rfl, by decide +kernel, by decide +kernel⟩
theorem inV_hue {c : Nat} {l : Hue} : inV (vn c) (l.map vo) = decide (some c ∈ l) := by
  by_cases h : some c ∈ l
  · rw [decide_eq_true h]
    unfold inV
    rw [List.any_map, List.any_eq_true]
    exact ⟨_, h, beq_self_eq_true (c : Int)⟩
  · rw [decide_eq_false h, inV_no h]
def sp_Changing_free_for (K : PySem.W.Frag) : Sp := fun vs H Q _ => ∃ (self W : Addr) (k t : Nat) (ts : List Tie) (near : List (List Nat)) (old way : Hue), vs = [.ref self, vn t] ∧ ChO K H self W k near old way ∧ NearOk ts near ∧ way.length = ts.length ∧ ts.length ≤ 30 ∧ t < ts.length ∧ k ≤ 1000 ∧
  ∀ D H', H D = none → Same H H' → H' D = some (.lst ((freeFor near way k t).map vn)) → Q (.ref D) H'
theorem near_len {ts : List Tie} {near : List (List Nat)} (N : NearOk ts near) {t : Nat} (ht : t < near.length) : ∀ u, u ∈ near.getD t [] → u < ts.length := fun u hu1 => ((N.mem t (by rw [← N.len]; exact ht) u).mp hu1).1
theorem ok_Changing_free_for (T : Tx P w K mg base) : Has P w K mg base 1 ("Changing", some "free_for") ["self", "tie"] (sp_Changing_free_for K) := by
  refine mkHas T 67 (d := d_Changing_free_for) rfl sc_Changing_free_for rfl rfl (fun us hl => match us, hl with | [_, _], _ => fun _ _ _ _ _ _ => rfl) (fun vs H Q E => ?_) (fun cdv A outer s H vs Q E hr h => ?_)
  · walk_at "len"
  · have hU := hu_of hr
    refine ⟨_, PSs.nox (pss_cons (ps_set (i := 2) sc_Changing_free_for.nd rfl (Or.inr rfl) (pe_lc (own := [("other", 3)]) rfl sc_Changing_free_for.nd (pi_list (pe_ix ix_list (pe_fld (pv 0) rfl) (pv 1) (fun _ _ => rfl))) (blkOk_by (N := N_Changing_free_for) (sc := defScope s_Changing_free_for) (by decide +kernel)) (fun _ _ _ _ _ => by exact (pg_name (i := 3) sc_Changing_free_for.nd rfl (Or.inl rfl))) (fun _ _ _ _ _ => by exact pts_nil) (fun _ _ _ _ _ => by exact (pe_ix (ix_listK (K := K) rfl) (pe_fldK (K := K) rfl (pv 0) rfl) (pv 3) (fun _ _ => rfl)))))
    (pss_one (ps_ret (pe_lc (own := [("hue", 4)]) rfl sc_Changing_free_for.nd (pi_range1 rfl T.b_range (pa_cons (pe_fld (pv 0) rfl) pa_nil)) (blkOk_by (N := N_Changing_free_for) (sc := defScope s_Changing_free_for) (by decide +kernel)) (fun _ _ _ _ _ => by exact (pg_name (i := 4) sc_Changing_free_for.nd rfl (Or.inl rfl))) (fun _ _ _ _ _ => by exact (pts_one (pt_cmpR (op_notIn_seqK (K := K) rfl) (pv 4) (pv 2) rfl))) (fun _ _ _ _ _ => by exact (pv 4)))))), ?_⟩
    obtain ⟨self, W, k, t, ts, near, old, way, rfl, C, N, hw, hz, ht, hk, q⟩ := h
    obtain ⟨dx, nv, ov, i0, ⟨np, ns, rfl, hnp, nal⟩, RO⟩ := C.ins
    obtain ⟨_, e1, lp, rfl, hlp⟩ := nal.get (getD_some (d := []) (show t < near.length by rw [N.len]; exact ht))
    have hnp := dels_same _ _ hnp
    have hlp := dels_same _ _ hlp
    have hin : ∀ u, u ∈ near.getD t [] → u < ts.length := near_len N (by rw [N.len]; exact ht)
    have hsz : (near.getD t []).length < 100000 := by
      have := N.sz _ (List.mem_of_getElem? (getD_some (d := []) (show t < near.length by rw [N.len]; exact ht)))
      omega
    refine ⟨_, rfl, self, _, dx, _, _, rfl, i0, T.c_Changing, T.n_Changing_near, rfl, _, rfl, np, ns, _, _, rfl, rfl, .of hnp, atI_nat e1, lp, rfl, ⟨_, .of hlp⟩, fun D hD => ?_⟩
    refine lc_val (n := ((near.getD t []).map vn).length) walk_list (by rw [List.length_map]; exact hsz) hD (fun H2 s2 => .of (s2 _ _ hlp)) (fun _ => true) (fun i => vo (hu way ((near.getD t []).getD i 0))) ?_ ?_
    · rintro i x H2 H3 acc hi s2 d2 ⟨rfl, e⟩ Good Skip hg hs
      rw [List.getElem?_map] at e
      obtain ⟨u, eu, rfl⟩ := Option.map_eq_some_iff.mp e
      rw [getD_of eu] at hg
      have hul := hin u (List.mem_of_getElem? eu)
      exact ⟨rfl, _, rfl, self, _, dx, _, _, rfl, s2 _ _ i0, T.c_Changing, T.n_Changing_way, rfl, _, rfl, W, _, _, _, rfl, rfl, .of (s2 _ _ C.way), atI_nat (hue_get (by omega)), hg rfl _ (Same.refl _)⟩
    intro H2 s2 d2
    rw [filter_all, List.length_map] at d2
    have e2 : (List.range (near.getD t []).length).map (fun i => vo (hu way ((near.getD t []).getD i 0))) = ((near.getD t []).map (hu way)).map vo := by
      rw [List.map_map]
      refine List.ext_getElem? fun j => ?_
      rw [List.getElem?_map, List.getElem?_map]
      by_cases qj : j < (near.getD t []).length
      · rw [List.getElem?_range qj, getD_some (d := 0) qj]
        rfl
      · rw [List.getElem?_eq_none (by rw [List.length_range]; omega), List.getElem?_eq_none (by omega)]
        rfl
    rw [e2] at d2
    refine ⟨_, rfl, self, _, dx, _, _, rfl, s2 _ _ i0, T.c_Changing, T.n_Changing_hues, rfl, k, rfl, by omega, by omega, fun G hG => ?_⟩
    refine lc_val (n := ((k : Nat) : Int).toNat) walk_range (by omega) hG (fun _ _ => trivial) (fun c => !decide (some c ∈ (near.getD t []).map (hu way))) (fun c => vn c) ?_ ?_
    · rintro i x H3 H4 acc hi s3 d3 ⟨rfl, ex⟩ Good Skip hg hs
      obtain rfl : x = vn i := by
        rw [ex]
        show V.int (0 + (i : Int)) = V.int (i : Int)
        rw [Int.zero_add]
      refine ⟨rfl, _, rfl, _, rfl, D, _, rfl, .inl (.of (s3 _ _ d2)), rfl, flat_vos, _, rfl, ?_⟩
      rw [show (if true = true then !inV (vn i) (((near.getD t []).map (hu way)).map vo) else inV (vn i) (((near.getD t []).map (hu way)).map vo)) = !decide (some i ∈ (near.getD t []).map (hu way)) by rw [inV_hue]; rfl]
      cases e : (!decide (some i ∈ (near.getD t []).map (hu way))) with
      | true => exact iteT ⟨_, rfl, hg e _ (Same.refl _)⟩
      | false => exact iteF (hs e _ (Same.refl _))
    · intro H3 s3 d3
      refine q G H3 (s2.free hG) (s2.trans s3) ?_
      rw [d3, Int.toNat_natCast]
      rfl
/-! ### Changing.is_lost -/
abbrev N_Changing_is_lost : List Str := ["self", "tie"]
theorem sc_Changing_is_lost : FnScope N_Changing_is_lost ["self", "tie"] (defScope s_Changing_is_lost) := ⟨rfl, rfl, rfl, by decide +kernel, rfl, by decide +kernel, by decide +kernel⟩
def sp_Changing_is_lost (K : PySem.W.Frag) : Sp := fun vs H Q _ => ∃ (self W : Addr) (k t : Nat) (ts : List Tie) (near : List (List Nat)) (old way : Hue), vs = [.ref self, vn t] ∧ ChO K H self W k near old way ∧ NearOk ts near ∧ way.length = ts.length ∧ old.length = ts.length ∧ ts.length ≤ 30 ∧ t < ts.length ∧ k ≤ 1000 ∧
  ∀ H', Same H H' → Q (.bl (lostB near old way k t)) H'
theorem ok_Changing_is_lost (T : Tx P w K mg base) : Has P w K mg base 2 ("Changing", some "is_lost") ["self", "tie"] (sp_Changing_is_lost K) := by
  obtain ⟨fd_Changing_free_for, G_Changing_free_for, b_Changing_free_for, k_Changing_free_for⟩ := ok_Changing_free_for (P := P) (w := w) (base := base) T
  refine mkHas T 68 (d := d_Changing_is_lost) rfl sc_Changing_is_lost rfl rfl (fun us hl => match us, hl with | [_, _], _ => fun _ _ _ _ _ _ => rfl) (fun vs H Q E => ?_) (fun cdv A outer s H vs Q E hr h => ?_)
  · walk_at "len"
  · have hU := hu_of hr
    refine ⟨_, PSs.nox (pss_cons (ps_if (pt_cmpR op_isN (pe_ix ix_list (pe_fld (pv 0) rfl) (pv 1) (fun _ _ => rfl)) pe_non (nomark _)) (pss_one (ps_ret pe_bl)) pss_nil)
    (pss_cons (ps_if (pt_cmpR op_notN (pe_ix ix_list (pe_fld (pv 0) rfl) (pv 1) (fun _ _ => rfl)) pe_non (nomark _)) (pss_one (ps_ret (pe_cmpR op_ne (pe_ix ix_list (pe_fld (pv 0) rfl) (pv 1) (fun _ _ => rfl)) (pe_ix ix_list (pe_fld (pv 0) rfl) (pv 1) (fun _ _ => rfl)) (nomark _)))) pss_nil)
    (pss_one (ps_ret (pe_cmpR op_notIn_seq (pe_ix ix_list (pe_fld (pv 0) rfl) (pv 1) (fun _ _ => rfl)) (pe_meth (pv 0) T.c_Changing T.m_Changing_free_for G_Changing_free_for (hr.mono (by decide)) b_Changing_free_for .nil pass0 (pa_cons (pv 1) pa_nil)) rfl))))), ?_⟩
    obtain ⟨self, W, k, t, ts, near, old, way, rfl, C, N, hw, ho, hz, ht, hk, q⟩ := h
    obtain ⟨dx, nv, ov, i0, RN, op, rfl, hop⟩ := C.ins
    have hop := dels_same _ _ hop
    have go := atI_nat (hue_get (h := old) (i := t) (by omega))
    have gw := atI_nat (hue_get (h := way) (i := t) (by omega))
    unfold lostB at q
    refine ⟨_, rfl, self, _, dx, _, _, rfl, i0, T.c_Changing, T.n_Changing_old, rfl, _, rfl, op, _, _, _, rfl, rfl, .of hop, go, rfl, ?_⟩
    cases e : hu old t with
    | none =>
      rw [e] at q
      exact ⟨true, rfl, iteT (q _ (Same.refl _))⟩
    | some o =>
      rw [e] at q go
      refine ⟨false, rfl, iteF ⟨_, rfl, self, _, dx, _, _, rfl, i0, T.c_Changing, T.n_Changing_way, rfl, _, rfl, W, _, _, _, rfl, rfl, .of C.way, gw, rfl, ?_⟩⟩
      cases e2 : hu way t with
      | some c =>
        rw [e2] at q gw
        refine ⟨true, rfl, iteT ⟨_, rfl, self, _, dx, _, _, rfl, i0, T.c_Changing, T.n_Changing_way, rfl, _, rfl, W, _, _, _, rfl, rfl, .of C.way, gw, _, rfl, self, _, dx, _, _, rfl, i0, T.c_Changing, T.n_Changing_old, rfl, _, rfl, op, _, _, _, rfl, rfl, .of hop, go, rfl, ?_⟩⟩
        have := q _ (Same.refl _)
        rw [show (!decide (vo (some c) = vo (some o))) = decide (some c ≠ some o) by
          by_cases h : c = o
          · subst h
            simp
          · rw [decide_eq_false (fun z => h (Option.some.inj (vo_inj z))), decide_eq_true (show some c ≠ some o from fun z => h (Option.some.inj z))]
            rfl]
        exact this
      | none =>
        rw [e2] at q
        refine ⟨false, rfl, iteF ⟨_, rfl, self, _, dx, _, _, rfl, i0, T.c_Changing, T.n_Changing_old, rfl, _, rfl, op, _, _, _, rfl, rfl, .of hop, go, _, rfl, self, dx, _, rfl, i0, rfl, _, rfl, self, W, k, t, ts, near, old, way, rfl, C, N, hw, hz, ht, hk, fun D H1 hD s1 d1 => ?_⟩⟩
        refine ⟨D, _, rfl, .inl (.of d1), rfl, flat_nats, ?_⟩
        have := q H1 s1
        rw [show (if true = true then !inV (vo (some o)) ((freeFor near way k t).map vn) else inV (vo (some o)) ((freeFor near way k t).map vn)) = !decide (o ∈ freeFor near way k t) from congrArg (!·) inV_nats]
        exact this
/-! ### Changing.lost -/
abbrev N_Changing_lost : List Str := ["self", "tie"]
theorem sc_Changing_lost : FnScope N_Changing_lost ["self"] (defScope s_Changing_lost) := ⟨rfl, rfl, rfl, by decide +kernel, rfl, by decide +kernel, by decide +kernel⟩
def sp_Changing_lost (K : PySem.W.Frag) : Sp := fun vs H Q _ => ∃ (self W : Addr) (k : Nat) (ts : List Tie) (near : List (List Nat)) (old way : Hue), vs = [.ref self] ∧ ChO K H self W k near old way ∧ NearOk ts near ∧ way.length = ts.length ∧ old.length = ts.length ∧ ts.length ≤ 30 ∧ k ≤ 1000 ∧
  ∀ H', Same H H' → Q (vn (lostN near old way k)) H'
theorem ok_Changing_lost (T : Tx P w K mg base) : Has P w K mg base 3 ("Changing", some "lost") ["self"] (sp_Changing_lost K) := by
  obtain ⟨fd_Changing_is_lost, G_Changing_is_lost, b_Changing_is_lost, k_Changing_is_lost⟩ := ok_Changing_is_lost (P := P) (w := w) (base := base) T
  refine mkHas T 69 (d := d_Changing_lost) rfl sc_Changing_lost rfl rfl (fun us hl => match us, hl with | [_], _ => fun _ _ _ _ _ _ => rfl) (fun vs H Q E => ?_) (fun cdv A outer s H vs Q E hr h => ?_)
  · walk_at "len"
  · have hU := hu_of hr
    refine ⟨_, PSs.nox (pss_one (ps_ret (pe_callB call_len_seq (by rfl) T.b_len (by decide +kernel) (pa_cons (pe_lc (own := [("tie", 1)]) rfl sc_Changing_lost.nd (pi_range1 rfl T.b_range (pa_cons (pe_callB call_len_seq (by rfl) T.b_len (by decide +kernel) (pa_cons (pe_fld (pv 0) rfl) pa_nil)) pa_nil)) (blkOk_by (N := N_Changing_lost) (sc := defScope s_Changing_lost) (by decide +kernel)) (fun _ _ _ _ _ => by exact (pg_name (i := 1) sc_Changing_lost.nd rfl (Or.inl rfl))) (fun _ _ _ _ _ => by exact (pts_one (pt_val (pe_meth (pv 0) T.c_Changing T.m_Changing_is_lost G_Changing_is_lost (hr.mono (by decide)) b_Changing_is_lost .nil pass0 (pa_cons (pv 1) pa_nil))))) (fun _ _ _ _ _ => by exact (pv 1))) pa_nil)))), ?_⟩
    obtain ⟨self, W, k, ts, near, old, way, rfl, C, N, hw, ho, hz, hk, q⟩ := h
    obtain ⟨dx, nv, ov, i0, RN, RO⟩ := C.ins
    refine ⟨_, rfl, self, _, dx, _, _, rfl, i0, T.c_Changing, T.n_Changing_way, rfl, W, _, rfl, .inl (.of C.way), _, rfl, by rw [List.length_map]; omega, by rw [List.length_map]; omega, fun D hD => ?_⟩
    have el : (((way.map vo).length : Nat) : Int).toNat = way.length := by rw [List.length_map, Int.toNat_natCast]
    refine lc_val (n := (((way.map vo).length : Nat) : Int).toNat) walk_range (by rw [el]; omega) hD (fun _ _ => trivial) (fun t => lostB near old way k t) (fun t => vn t) ?_ ?_
    · rintro i x H3 H4 acc hi s3 d3 ⟨rfl, ex⟩ Good Skip hg hs
      obtain rfl : x = vn i := by
        rw [ex]
        show V.int (0 + (i : Int)) = V.int (i : Int)
        rw [Int.zero_add]
      rw [el] at hi
      refine ⟨rfl, _, rfl, self, dx, _, rfl, s3 _ _ i0, rfl, _, rfl, self, W, k, i, ts, near, old, way, rfl, C.mono s3, N, hw, ho, hz, by omega, hk, fun H5 s5 => ⟨_, rfl, ?_⟩⟩
      cases e : lostB near old way k i with
      | true => exact iteT ⟨_, rfl, hg e _ s5⟩
      | false => exact iteF (hs e _ s5)
    · intro H3 s3 d3
      rw [el] at d3
      refine ⟨D, _, rfl, .inl (.of d3), ?_⟩
      rw [List.length_map]
      exact q H3 s3
end
end Hu
end

/-! ## HuTab -/
section
set_option maxHeartbeats 4000000
set_option autoImplicit true
namespace Hu
open PySem PySem.Spec PyProof.Rows L2
/-! ### the table of the def that makes a lambda -/
def lamQ : Str := Str.ofString "Changing.next_tie" ++ ".<locals>." ++ "<lambda>"
def Tab (K : PySem.W.Frag) (H : Hp) : Prop := LamX.TabS H (nextC K).2 lamQ
theorem Tab.mono {K : PySem.W.Frag} {H H' : Hp} (s : Same H H') (t : Tab K H) : Tab K H' := LamX.TabS.ext t s
/-- what is no list, no dict and no instance is not a Tied's own -/
theorem TiedO.tab {K : PySem.W.Frag} {H : Hp} {o : Own} {m : Nat} {ns : List Nat} {ts : List Tie} {h : Hue} {g b pl : Nat} (O : TiedO K H o m ns ts h g b pl) (t : Tab K H) : Tab K (dels H o.l) := by
  have key : ∀ (p : Addr) (x : HO), H p = some x → (∀ C dx fs, x ≠ .ins C dx fs) → (∀ kvs, x ≠ .dK kvs) → (∀ xs, x ≠ .lst xs) → dels H o.l p = some x := fun p x e h1 h2 h3 => by
    rw [dels_ne, e]
    intro hp
    obtain ⟨vs, k1, _⟩ := O.ends
    obtain ⟨ys, k2, _⟩ := O.past
    have k3 := O.ins
    have k4 := O.hues
    unfold Own.l at hp
    simp only [List.mem_cons, List.not_mem_nil, or_false] at hp
    rcases hp with rfl | rfl | rfl | rfl
    · rw [e] at k3
      exact h1 _ _ _ (Option.some.inj k3)
    · rw [e] at k1
      exact h2 _ (Option.some.inj k1)
    · rw [e] at k4
      exact h2 _ (Option.some.inj k4)
    · rw [e] at k2
      exact h3 _ (Option.some.inj k2)
  obtain ⟨ps, h1, h2, h3⟩ := t
  refine ⟨ps, key _ _ h1 (fun _ _ _ z => nomatch z) (fun _ z => nomatch z) (fun _ z => nomatch z), h2, fun pos cv hc => ?_⟩
  obtain ⟨c, e1, e2⟩ := h3 pos cv hc
  exact ⟨c, e1, key _ _ e2 (fun _ _ _ z => nomatch (show HO.ext _ = HO.ins _ _ _ from z)) (fun _ z => nomatch (show HO.ext _ = HO.dK _ from z)) (fun _ z => nomatch (show HO.ext _ = HO.lst _ from z))⟩
abbrev ExtN (H H' : Hp) : Prop := LamX.ExtN H H'
theorem ExtN.same {H H' : Hp} (s : Same H H') : ExtN H H' := LamX.ExtN.of s
theorem ExtN.lt {H H' : Hp} (e : ExtN H H') : LT H H' := ⟨fun p xs h => e _ _ h (fun _ z => nomatch z), fun p xs h => e _ _ h (fun _ z => nomatch z)⟩
theorem TiedO.ext {K : PySem.W.Frag} {H H' : Hp} {o : Own} {m : Nat} {ns : List Nat} {ts : List Tie} {h : Hue} {g b pl : Nat} (e : ExtN H H') (O : TiedO K H o m ns ts h g b pl) : TiedO K H' o m ns ts h g b pl :=
  ⟨e _ _ O.ins (fun _ z => nomatch z), let ⟨vs, a, c⟩ := O.ends; ⟨vs, e _ _ a (fun _ z => nomatch z), c.mono fun _ _ r => r.lt e.lt⟩, e _ _ O.hues (fun _ z => nomatch z), let ⟨ys, a, c⟩ := O.past; ⟨ys, e _ _ a (fun _ z => nomatch z), c⟩, O.ne, O.nums⟩
/-! ### slices -/
theorem cutV_init {xs : List V} : cutV xs none (some (-1)) = xs.take (xs.length - 1) := by
  unfold cutV
  have e1 : HT.sIx xs.length 0 none = 0 := rfl
  have e2 : HT.sIx xs.length xs.length (some (-1)) = xs.length - 1 := by
    unfold HT.sIx
    dsimp only
    split <;> omega
  rw [e1, e2, List.drop_zero, Nat.sub_zero]
theorem cutV_last {xs : List V} : cutV xs (some (-1)) none = xs.drop (xs.length - 1) := by
  unfold cutV
  have e1 : HT.sIx xs.length 0 (some (-1)) = xs.length - 1 := by
    unfold HT.sIx
    dsimp only
    split <;> omega
  have e2 : HT.sIx xs.length xs.length none = xs.length := rfl
  rw [e1, e2, List.take_of_length_le (by rw [List.length_drop]; exact Nat.le_refl _)]
theorem cutV_three {xs : List V} : cutV xs none (some 3) = xs.take 3 := by
  unfold cutV
  have e1 : HT.sIx xs.length 0 none = 0 := rfl
  have e2 : HT.sIx xs.length xs.length (some 3) = min 3 xs.length := by
    unfold HT.sIx
    dsimp only
    split <;> omega
  rw [e1, e2, List.drop_zero, Nat.sub_zero]
  by_cases h : 3 ≤ xs.length
  · rw [Nat.min_eq_left h]
  · rw [List.take_of_length_le (by omega), List.take_of_length_le (by omega)]
/-! ### frames with tables -/
theorem ext_dels {l : List Addr} {H H1 : Hp} (a : ExtN (dels H l) H1) : ExtN (dels H l) (dels H1 l) := fun p x e n => by
  have hp : p ∉ l := fun z => by rw [dels_none z] at e; cases e
  rw [dels_ne hp]
  exact a p x e n
theorem ext_step {l : List Addr} {H H1 H' : Hp} (a : ExtN (dels H l) H1) (b : ExtN (dels H1 l) H') : ExtN (dels H l) H' := (ext_dels a).trans b
theorem ext_more {l l2 : List Addr} {H H' : Hp} (a : ExtN (dels H l) H') (h : ∀ p, p ∈ l → p ∈ l2) : ExtN (dels H l2) H' := fun p x e n => a p x (by
  have hp : p ∉ l2 := fun z => by rw [dels_none z] at e; cases e
  rw [dels_ne hp] at e
  rw [dels_ne (fun z => hp (h p z))]
  exact e) n
theorem ext_at {l : List Addr} {H H' : Hp} {p : Addr} {x : HO} (a : ExtN (dels H l) H') (hp : p ∉ l) (e : H p = some x) (n : ∀ ps, x ≠ .tbl ps) : H' p = some x := a p x (by rw [dels_ne hp]; exact e) n
/-- what a Tied and a tape hold is no table -/
theorem Tab.dels {K : PySem.W.Frag} {H : Hp} {l : List Addr} (t : Tab K H) (hl : ∀ p ∈ l, (∃ C dx fs, H p = some (.ins C dx fs)) ∨ (∃ kvs, H p = some (.dK kvs)) ∨ (∃ xs, H p = some (.lst xs))) : Tab K (dels H l) := by
  have key : ∀ (p : Addr) (x : HO), H p = some x → (∀ C dx fs, x ≠ .ins C dx fs) → (∀ kvs, x ≠ .dK kvs) → (∀ xs, x ≠ .lst xs) → Hu.dels H l p = some x := fun p x e h1 h2 h3 => by
    rw [dels_ne, e]
    intro hp
    rcases hl p hp with ⟨C, dx, fs, e2⟩ | ⟨kvs, e2⟩ | ⟨xs, e2⟩
    · rw [e] at e2
      exact h1 _ _ _ (Option.some.inj e2)
    · rw [e] at e2
      exact h2 _ (Option.some.inj e2)
    · rw [e] at e2
      exact h3 _ (Option.some.inj e2)
  obtain ⟨ps, h1, h2, h3⟩ := t
  refine ⟨ps, key _ _ h1 (fun _ _ _ z => nomatch z) (fun _ z => nomatch z) (fun _ z => nomatch z), h2, fun pos cv hc => ?_⟩
  obtain ⟨c, e1, e2⟩ := h3 pos cv hc
  exact ⟨c, e1, key _ _ e2 (fun _ _ _ z => nomatch (show HO.ext _ = HO.ins _ _ _ from z)) (fun _ z => nomatch (show HO.ext _ = HO.dK _ from z)) (fun _ z => nomatch (show HO.ext _ = HO.lst _ from z))⟩
theorem TiedO.kinds {K : PySem.W.Frag} {H : Hp} {o : Own} {m : Nat} {ns : List Nat} {ts : List Tie} {h : Hue} {g b pl : Nat} (O : TiedO K H o m ns ts h g b pl) : ∀ p ∈ o.l, (∃ C dx fs, H p = some (.ins C dx fs)) ∨ (∃ kvs, H p = some (.dK kvs)) ∨ (∃ xs, H p = some (.lst xs)) := by
  intro p hp
  obtain ⟨vs, k1, _⟩ := O.ends
  obtain ⟨ys, k2, _⟩ := O.past
  unfold Own.l at hp
  simp only [List.mem_cons, List.not_mem_nil, or_false] at hp
  rcases hp with rfl | rfl | rfl | rfl
  · exact .inl ⟨_, _, _, O.ins⟩
  · exact .inr (.inl ⟨_, k1⟩)
  · exact .inr (.inl ⟨_, O.hues⟩)
  · exact .inr (.inr ⟨_, k2⟩)
end Hu
end

/-! ## HuRules5 -/
section
set_option maxHeartbeats 4000000
set_option autoImplicit true
namespace Hu
open PySem PySem.Spec PyProof.Rows L2
/-! ### (x, y)[::-1] -/
section
variable {prog : Program} {w : World} {A : Around} {E : Value → PySem.Shared → Prop} {s : PySem.Shared}
theorem applied_rev2 {sl : Addr} {vl vu vs : Value} {Q : Int × Int × Nat → PySem.Shared → Prop} (hs : s.heap.IsSliceOf sl vl vu vs) (pl : IsPart vl none) (pu : IsPart vu none) (ps : IsPart vs (some (-1)))
    (h : Q ((1 : Int), (-1 : Int), 2) s) : wpAny (model prog w) A (Builtin.Slice.sliceApplied (.ref sl) (pure ((2 : Nat) : Int))) Q E s := by
  obtain ⟨os, e1, e2, e3⟩ := id hs
  unfold Builtin.Slice.sliceApplied Builtin.Slice.sliceFields
  refine wpAny_bind (wpAny_bind (wpAny_field e1 e3 (x := vl) rfl (wpAny_bind (wpAny_field e1 e3 (x := vu) rfl (wpAny_bind (wpAny_field e1 e3 (x := vs) rfl (wpAny_pure ?_)))))))
  refine wpAny_bind (HT.slicePart_ ps ?_)
  show wpAny _ _ (if ((-1 : Int) == 0) = true then _ else _) _ _ s
  rw [if_neg (by decide)]
  refine wpAny_bind (HT.slicePart_ pl (wpAny_bind (HT.slicePart_ pu (wpAny_bind (wpAny_pure ?_)))))
  exact wpAny_pure h
theorem getItem_rev2 {t sl : Addr} {u1 u2 : Value} {vl vu vs : Value} {Q : Value → PySem.Shared → Prop} (ht : IsTup s.heap t #[u1, u2]) (hs : s.heap.IsSliceOf sl vl vu vs) (pl : IsPart vl none) (pu : IsPart vu none) (ps : IsPart vs (some (-1)))
    (h : Q (.ref s.heap.objs.size) { s with heap := s.heap.push { cls := .type "tuple", data := .seq #[u2, u1] } }) : wpAny (model prog w) A (getItem (.ref t) (.ref sl)) Q E s := by
  have fits : sizeOk (.seq #[u2, u1]) := by
    show 2 ≤ sizeLine
    decide
  obtain ⟨os, e1, e2, e3⟩ := id hs
  have isS : s.TypeIs (.ref sl) "slice" := ⟨os, e1, e2⟩
  unfold getItem
  try with_reducible refine wpAny_holding ?_
  first | refine wpAny_bind (wpAny_pure ?_) | skip
  refine wpAny_bind (wpAny_sequenceKey ht.typeIs (by decide) ?_)
  refine wpAny_bind (wpAny_callSpecial?_slot (name := Str.ofString "__getitem__") ht.typeIs PyProof.Rows.slot_tuple_getitem ?_)
  refine wpAny_call_entry PyProof.Rows.slot_tuple_getitem ht.typeIs entry_tuple_getitem ?_ (args_tuple_getitem _ _)
  show wpAny _ _ (Builtin.Tuple.tupleItemsOf (.ref t) >>= _) _ _ s
  refine wpAny_bind (tupleItemsOf_ ht ?_)
  refine wpAny_bind (wpAny_typeOf isS ?_)
  rw [if_pos (by decide)]
  refine wpAny_bind (applied_rev2 hs pl pu ps ?_)
  show wpAny _ _ (if (((1 : Int) == 0 && (-1 : Int) == 1 && (2 : Nat) == 2) = true) then _ else _) _ _ s
  rw [if_neg (by decide)]
  have e : ((List.range 2).filterMap fun (m : Nat) => (#[u1, u2] : Array Value)[((1 : Int) + (m : Int) * (-1)).toNat]?).toArray = #[u2, u1] := rfl
  rw [e]
  first
    | exact wpAny_bind (m := Builtin.Tuple.tupleExact _) (wpAny_newObj_type (wpAny_pure ⟨_, rfl, wpAny_pure h⟩) fits)
    | exact wpAny_bind (m := Builtin.Tuple.tupleExact _) (wpAny_newObj_type (wpAny_bind (wpAny_pure (wpAny_pure ⟨_, rfl, wpAny_pure h⟩))) fits)
    | exact wpAny_bind (wpAny_bind (m := Builtin.Tuple.tupleExact _) (wpAny_newObj_type (wpAny_pure (wpAny_pure ⟨_, rfl, wpAny_pure h⟩)) fits))
    | exact wpAny_bind (wpAny_bind (m := Builtin.Tuple.tupleExact _) (wpAny_newObj_type (wpAny_pure ⟨_, rfl, wpAny_pure h⟩) fits))
end
section
variable {X : Cx}
def tRev2 (K : PySem.W.Frag) (te : TE) : TE := fun σ H Q => te σ H fun x H1 => ∃ a x1 x2, x = .ref a ∧ SqT K H1 a [x1, x2] ∧ ∀ p, H1 p = none → Q (.ref p) (upd H1 p (.tup [x2, x1]))
theorem pe_revA {K : PySem.W.Frag} {e : Expr} {te : TE} {k : Nat} {p1 p2 p3 pos : Pos} (hK : X.K = K) (he : PE X e te) : PE X (.Subscript e (.Slice none none (some (.UnaryOp .USub (.Constant (.int 1) k p1) p2)) p3) pos) (tRev2 K te) := by
  subst hK
  refine ⟨fun pins s σ H Q I h => ?_⟩
  refine Subscript_ (thn (he.run pins s σ H _ I h) fun v s1 ⟨x, H1, I1, r1, q1⟩ => ?_)
  obtain ⟨a, x1, x2, ex, hx, q⟩ := q1
  subst ex
  cases r1
  have minus : PO X (some (.UnaryOp .USub (.Constant (.int 1) k p1) p2)) (tPart (tUn (rU fun i => .int (-i)) (tC (.int 1)))) := po_some (pe_un un_neg pe_int)
  refine wpAny_Slice (thn (po_none.run pins s1 σ H1 (fun o H2 => o = none ∧ H2 = H1) I1 ⟨rfl, rfl⟩) fun vl s2 ⟨l, H2, I2, pl, el, e2⟩ => ?_)
  subst el e2
  refine thn (po_none.run pins s2 σ H2 (fun o H3 => o = none ∧ H3 = H2) I2 ⟨rfl, rfl⟩) fun vu s3 ⟨u, H3, I3, pu, eu, e3⟩ => ?_
  subst eu e3
  refine thn (minus.run pins s3 σ H3 (fun o H4 => o = some (-1) ∧ H4 = H3) I3 ⟨1, rfl, -1, rfl, rfl, rfl⟩) fun vs s4 ⟨o, H4, I4, ps, eo, e4⟩ => ?_
  subst eo e4
  have I5 : Inv X pins σ H4 { s4 with heap := s4.heap.push { cls := .type "slice", data := .fields #[vl, vu, vs] } } := I4.kept (t' := s4.toks) fun b ob q => Heap.get?_push_of_some _ q
  obtain ⟨its, r, ht, hz⟩ := I5.tuple hx
  obtain ⟨u1, u2, rfl, r1, r2⟩ := vals2 r
  show wpAny (model X.prog X.w) X.A (subscriptTail e (.Slice none none (some (.UnaryOp .USub (.Constant (.int 1) k p1) p2)) p3) (.ref a) (.ref s4.heap.objs.size)) (EP X pins σ Q) X.xe { s4 with heap := s4.heap.push { cls := .type "slice", data := .fields #[vl, vu, vs] } }
  refine tail_any (ops := [.ref a, .ref s4.heap.objs.size]) ht.typeIs (PyProof.Rows.slot_tuple_getitem.lookup) ?_ (by with_unfolding_all rfl)
  refine getItem_rev2 ht (Heap.IsSliceOf.new _ vl vu vs) pl pu ps ?_
  refine ⟨.ref _, _, I5.laid (t' := s4.toks) (o := .tup [x2, x1]) (fun b ob q => Heap.get?_push_of_some _ q) (Nat.le_refl _) ?_, rfl, q _ (I5.hok.fresh (Nat.le_refl _))⟩
  exact ⟨by show 2 ≤ sizeLine; decide, _, .cons r2 (.cons r1 .nil), IsTup.new _ _⟩
end
end Hu
end

/-! ## HuRules6 -/
section
set_option maxHeartbeats 4000000
set_option autoImplicit true
namespace Hu
open PySem PySem.Spec PyProof.Rows L2
/-! ### sorted(t), t a tuple of pairs of whole numbers -/
section
variable {prog : Program} {w : World} {A : Around} {E : Value → PySem.Shared → Prop} {s : PySem.Shared}
theorem collect_tupH {t : Addr} {us : List Value} {Q : List Value → PySem.Shared → Prop} (ht : IsTup s.heap t us.toArray)
    (k : Q us { s with heap := (s.heap.push (seqObj "list" #[] 0)).update s.heap.objs.size (Obj.mapSeq (· ++ us.toArray)) }) (fits : us.length ≤ sizeLine) : wpAny (model prog w) A (collect (.ref t)) Q E s := by
  obtain ⟨ob, at_, cl, n, dat⟩ := id ht
  unfold collect
  refine wpAny_bind (wpAny_runValue (codeAny_builtin entry_proto_collect' ?_))
  show wpAny _ _ (do again (.builtin "list.__iadd__" ⟨[← newList [], .ref t], []⟩)) _ _ s
  refine wpAny_bind (wpAny_newList (wpAny_pure ⟨Code.quiet_builtin _ (by decide +kernel), codeAny_builtin entry_list_iadd' ?_⟩))
  show wpAny _ _ (Builtin.List.listExtendWith (.ref s.heap.objs.size) (.ref t) (.ref s.heap.objs.size)) _ _ { s with heap := s.heap.push (seqObj "list" #[] 0) }
  unfold Builtin.List.listExtendWith
  have at2 : (s.heap.push (seqObj "list" #[] 0)).get? t = some ob := Heap.get?_push_of_some _ at_
  refine wpAny_bind (wpAny_typeOf (T := "tuple") ⟨ob, at2, cl⟩ ?_)
  have same : (Value.type "tuple" == Value.type "tuple") = true := by rfl
  rw [if_pos (by rw [same]; simp)]
  refine wpAny_bind (listItems_at at2 dat ?_)
  refine wpAny_bind (listItems_at (xs := #[]) (n := 0) (Heap.get?_push_size _ rfl) rfl ?_)
  rw [if_neg (by simp)]
  have small : (#[] ++ us.toArray).size ≤ sizeLine + 1 := by
    simp only [Array.size_append, List.size_toArray, List.length_nil]
    omega
  refine wpAny_bind (listUpdate_at (xs := #[]) (n := 0) (Heap.get?_push_size _ rfl) rfl ?_ (Nat.zero_le _) small)
  refine wpAny_pure ?_
  show wpAny (model prog w) A (load s.heap.objs.size >>= _) Q E _
  refine wpAny_bind (wpAny_load (get?_update_seq (Heap.get?_push_size _ rfl) _) ?_)
  show wpAny _ _ (pure ((#[] : Array Value) ++ us.toArray).toList) Q E _
  rw [show ((#[] : Array Value) ++ us.toArray).toList = us by simp]
  exact wpAny_pure k
theorem sorted_tupO {t : Addr} {us : List Value} {lt : Value → Value → Bool} {Q : Value → PySem.Shared → Prop} (O : SrtO.Swo lt) (ht : IsTup s.heap t us.toArray) (fits : us.length ≤ sizeLine)
    (can : 2 ≤ us.length → ∀ (h1 : Heap) (a : Addr), h1.get? a = some (seqObj "list" us.toArray 0) → (∀ b o, s.heap.get? b = some o → b ≠ a ∧ h1.get? b = some o) → SrtO.SortableO prog w A.in1.in1 { s with heap := h1 } a us lt)
    (k : ∀ out : List Value, SrtO.Srtd lt out → SrtO.Stb lt out us → Q (.ref (s.heap.objs.size + 1)) { s with heap := sortedAll s.heap us out.toArray }) : wpAny (model prog w) A (call (.builtin "sorted") [.ref t]) Q E s := by
  refine Calls.call_function_entry kind_sorted plain_sorted entry_sorted (args_sorted1 _) ?_
  unfold Builtin.«sorted»
  refine wpAny_bind (m := checkCount "sorted" 1 1 _) (wpAny_pure ?_)
  refine wpAny_bind (collect_tupH ht ?_ fits)
  refine wpAny_bind (wpAny_newList ?_ fits)
  have sz : ((s.heap.push (seqObj "list" #[] 0)).update s.heap.objs.size (Obj.mapSeq (· ++ us.toArray))).objs.size = s.heap.objs.size + 1 := by
    rw [Heap.size_update, size_push']
  have at1 : (((s.heap.push (seqObj "list" #[] 0)).update s.heap.objs.size (Obj.mapSeq (· ++ us.toArray))).push (seqObj "list" us.toArray 0)).get? (s.heap.objs.size + 1) = some (seqObj "list" us.toArray 0) := by
    rw [← sz]
    exact Heap.get?_push_size _ rfl
  have old : ∀ b o, s.heap.get? b = some o → b ≠ s.heap.objs.size + 1 ∧ (((s.heap.push (seqObj "list" #[] 0)).update s.heap.objs.size (Obj.mapSeq (· ++ us.toArray))).push (seqObj "list" us.toArray 0)).get? b = some o := fun b o e => by
    have lt := Heap.lt_size e
    refine ⟨Nat.ne_of_lt (Nat.lt_succ_of_lt lt), Heap.get?_push_of_some _ ?_⟩
    rw [Heap.get?_update_ne _ _ _ _ (Nat.ne_of_lt lt)]
    exact Heap.get?_push_of_some _ e
  show wpAny _ _ _ _ _ { s with heap := ((s.heap.push (seqObj "list" #[] 0)).update s.heap.objs.size (Obj.mapSeq (· ++ us.toArray))).push (seqObj "list" us.toArray 0) }
  rw [sz]
  refine wpAny_bind (wpAny_holding (wpAny_call_entry slot_list_sort ⟨_, at1, rfl⟩ entry_list_sort (SrtO.list_sort_ord O at1 fits (fun h2 => can h2 _ _ at1 old) fun out hs hb => ⟨_, rfl, ?_⟩) (args_list_sort _)))
  exact wpAny_pure ⟨_, rfl, k out hs hb⟩
end
section
variable {X : Cx}
def rSortedPT (K : PySem.W.Frag) : List V → Hp → VK → Prop := fun vs H Q => ∃ (a : Addr) (xs : List V) (k : V → Int × Int), vs = [V.ref a] ∧ SqT K H a xs ∧ (∀ x ∈ xs, ∃ t, x = V.ref t ∧ H t = some (.tup [.int (k x).1, .int (k x).2])) ∧
  ∀ ys p, SrtO.Srtd (ltP k) ys → SrtO.Stb (ltP k) ys xs → H p = none → Q (.ref p) (upd H p (.lst ys))
theorem cr_sortedPT : CallR X (.builtin "sorted") (rSortedPT X.K) := by
  intro pins s σ H vs us Q I r h
  obtain ⟨a, xs, k, rfl, hs, hx, q⟩ := h
  obtain ⟨its, rv, ht, hz⟩ := I.tuple hs
  obtain ⟨u, rfl, ru⟩ := vals1 r
  obtain rfl : u = Value.ref a := ru
  obtain ⟨e1, e2⟩ := refs_back rv fun x m => by
    obtain ⟨t, e, _⟩ := hx x m
    exact ⟨t, e⟩
  have pairs : ∀ v ∈ its, Srt.IsPair s.heap v (k (backV v)).1 (k (backV v)).2 := fun v hv => by
    obtain ⟨t, rfl⟩ := e2 v hv
    have hm : V.ref t ∈ xs := by
      rw [e1]
      exact List.mem_map.mpr ⟨_, hv, rfl⟩
    obtain ⟨t', e, ht⟩ := hx _ hm
    cases e
    obtain ⟨_, its2, r2, o, ho, hc, n, hd⟩ := I.hok _ _ ht
    obtain ⟨u1, u2, rfl, ri, rj⟩ := vals2 r2
    obtain ⟨t1, rfl⟩ := ri
    obtain ⟨t2, rfl⟩ := rj
    exact ⟨t, o, t1, t2, n, rfl, ho, hc, hd⟩
  refine sorted_tupO (SrtO.swo_lex fun u => k (backV u)) ht (by rw [← rv.length]; exact hz) (fun h2 h1 b hb kk => ?_) fun out hs hb => ?_
  · refine SrtO.pairs_sortableO (s := { s with heap := h1 }) (by omega) (fun v hm => (pairs v hm).keeps fun b o e _ => (kk b o e).2) fun o e => ?_
    have e' : some o = some (seqObj "list" its.toArray 0) := e.symm.trans hb
    cases e'
    intro c
    exact absurd (Value.type.inj c) (by decide)
  · have h3 : ∀ u ∈ out, ∃ a, u = Value.ref a := fun u hu => e2 u (hb.perm.mem_iff.mp hu)
    have hb' : SrtO.Stb (ltP k) (out.map backV) xs := by
      rw [e1]
      exact SrtO.Stb.map (ltP_swo k) backV hb
    obtain ⟨n, hn⟩ := sortedAll_at s.heap its out.toArray
    refine ⟨.ref (s.heap.objs.size + 1), upd H (s.heap.objs.size + 1) (.lst (out.map backV)), I.laid (t' := s.toks) (fun b o e => sortedAll_old e) (Nat.le_succ _) ⟨?_, out, n, vals_back h3, hn⟩, rfl, q _ _ (SrtO.srtd_map hs) hb' (I.hok.fresh (Nat.le_succ _))⟩
    rw [hb'.len]
    exact hz
/-! ### max(t), min(t), t a tuple of two whole numbers -/
def rMax2T (K : PySem.W.Frag) : List V → Hp → VK → Prop := fun vs H Q => ∃ (a : Addr) (x y : Nat), vs = [V.ref a] ∧ SqT K H a [vn x, vn y] ∧ Q (vn (max x y)) H
def rMin2T (K : PySem.W.Frag) : List V → Hp → VK → Prop := fun vs H Q => ∃ (a : Addr) (x y : Nat), vs = [V.ref a] ∧ SqT K H a [vn x, vn y] ∧ Q (vn (min x y)) H
theorem cr_maxT {K : PySem.W.Frag} (hK : X.K = K) (hc : X.calm = true) (hu : X.A.units + 1 < cLine) : CallR X (.builtin "max") (rMax2T K) := by
  subst hK
  intro pins s σ H vs us Q I r h
  obtain ⟨a, x, y, rfl, hs, q⟩ := h
  obtain ⟨its, rv, ht, _⟩ := I.tuple hs
  rw [Vals.ref1 r]
  have rv2 : Vals (([(x : Int), (y : Int)] : List Int).map V.int) its := rv
  refine PySem.W.max_tuple_data (x := .int (x : Int)) (xs := ([(y : Int)] : List Int).map PyData.int) (I.ok.hd hc) (show s.heap.IsTuple a its.toArray from ht) (ints_reads rv2.ints) (alike_ints [(x : Int), (y : Int)]) (by rw [show PyData.depthAll (PyData.int (x : Int) :: ([(y : Int)] : List Int).map PyData.int) = 0 from depth_ints [(x : Int), (y : Int)]]; exact hu) fun i v h' tk bs hv hr kp => ?_
  rw [PySem.W.maxD_ints] at hr
  cases hr with
  | int i2 t =>
    refine ⟨vn (max x y), H, I.kept kp, ⟨t, ?_⟩, q⟩
    show Value.int (max (x : Int) (y : Int)) t = Value.int ((max x y : Nat) : Int) t
    congr 1
    omega
theorem cr_minT {K : PySem.W.Frag} (hK : X.K = K) (hc : X.calm = true) (hu : X.A.units + 1 < cLine) : CallR X (.builtin "min") (rMin2T K) := by
  subst hK
  intro pins s σ H vs us Q I r h
  obtain ⟨a, x, y, rfl, hs, q⟩ := h
  obtain ⟨its, rv, ht, _⟩ := I.tuple hs
  rw [Vals.ref1 r]
  have rv2 : Vals (([(x : Int), (y : Int)] : List Int).map V.int) its := rv
  refine PySem.W.min_tuple_data (x := .int (x : Int)) (xs := ([(y : Int)] : List Int).map PyData.int) (I.ok.hd hc) (show s.heap.IsTuple a its.toArray from ht) (ints_reads rv2.ints) (alike_ints [(x : Int), (y : Int)]) (by rw [show PyData.depthAll (PyData.int (x : Int) :: ([(y : Int)] : List Int).map PyData.int) = 0 from depth_ints [(x : Int), (y : Int)]]; exact hu) fun i v h' tk bs hv hr kp => ?_
  rw [PySem.W.minD_ints] at hr
  cases hr with
  | int i2 t =>
    refine ⟨vn (min x y), H, I.kept kp, ⟨t, ?_⟩, q⟩
    show Value.int (min (x : Int) (y : Int)) t = Value.int ((min x y : Nat) : Int) t
    congr 1
    omega
end
end Hu
end

/-! ## Wx8 -/
section
set_option maxHeartbeats 4000000
set_option autoImplicit true
namespace Hu
open PySem PySem.Spec PyProof.Rows L2
local macro_rules | `(tactic| walk_at "len") => `(tactic| (intro h; first
  | (obtain ⟨_, e, _⟩ := h; cases e; rfl)
  | (obtain ⟨_, _, e, _⟩ := h; cases e; rfl)
  | (obtain ⟨_, _, _, e, _⟩ := h; cases e; rfl)
  | (obtain ⟨_, _, _, _, e, _⟩ := h; cases e; rfl)
  | (obtain ⟨_, _, _, _, _, e, _⟩ := h; cases e; rfl)
  | (obtain ⟨_, _, _, _, _, _, e, _⟩ := h; cases e; rfl)
  | (obtain ⟨_, _, _, _, _, _, _, e, _⟩ := h; cases e; rfl)
  | (obtain ⟨_, _, _, _, _, _, _, _, e, _⟩ := h; cases e; rfl)
  | (obtain ⟨_, _, _, _, _, _, _, _, _, e, _⟩ := h; cases e; rfl)
  | (obtain ⟨_, _, _, _, _, _, _, _, _, _, e, _⟩ := h; cases e; rfl)
  | (obtain ⟨_, _, _, _, _, _, _, _, _, _, _, e, _⟩ := h; cases e; rfl)
  | (obtain ⟨_, _, _, _, _, _, _, _, _, _, _, _, e, _⟩ := h; cases e; rfl)
  | (obtain ⟨_, _, _, _, _, _, _, _, _, _, _, _, _, e, _⟩ := h; cases e; rfl)
  | (obtain ⟨_, _, _, _, _, _, _, _, _, _, _, _, _, _, e, _⟩ := h; cases e; rfl)
  | (obtain ⟨_, _, _, _, _, _, _, _, _, _, _, _, _, _, _, e, _⟩ := h; cases e; rfl)
  | (obtain ⟨_, _, _, _, _, _, _, _, _, _, _, _, _, _, _, _, e, _⟩ := h; cases e; rfl)
  | (obtain ⟨_, _, _, _, _, _, _, _, _, _, _, _, _, _, _, _, _, e, _⟩ := h; cases e; rfl)
  | (obtain ⟨_, _, _, _, _, _, _, _, _, _, _, _, _, _, _, _, _, _, e, _⟩ := h; cases e; rfl)))
section
variable {P : Program} {w : World} {K : PySem.W.Frag} {mg : Str → Option Value} {base : Heap}
/-! ### Changing.next_tie -/
abbrev N_Changing_next_tie : List Str := ["self", "some", "tie"]
theorem sc_Changing_next_tie : FnScope N_Changing_next_tie ["self"] (defScope s_Changing_next_tie) := ⟨rfl, rfl, rfl, by decide +kernel, rfl, by decide +kernel, by decide +kernel⟩
theorem ChO.ext {K : PySem.W.Frag} {H H' : Hp} {self W : Addr} {k : Nat} {near : List (List Nat)} {old way way' : Hue} (o : ChO K H self W k near old way) (e : ExtN (dels H [W]) H') (w : H' W = some (.lst (way'.map vo))) : ChO K H' self W k near old way' := by
  obtain ⟨dx, nv, ov, h1, h2, h3⟩ := o.ins
  have nW : self ∉ [W] := fun z => by
    rw [List.mem_singleton.mp z, o.way] at h1
    cases h1
  have l := (ext_dels e).lt
  exact ⟨⟨dx, nv, ov, ext_at e nW h1 (fun _ z => nomatch z), h2.lt l fun _ _ r => r.lt l, h3.lt l⟩, w⟩
theorem Tab.way {K : PySem.W.Frag} {H : Hp} {W : Addr} {xs : List V} (t : Tab K H) (w : H W = some (.lst xs)) : Tab K (Hu.dels H [W]) := t.dels fun p hp => by rw [List.mem_singleton.mp hp]; exact .inr (.inr ⟨_, w⟩)
def sp_Changing_next_tie (K : PySem.W.Frag) : Sp := fun vs H Q _ => ∃ (self W : Addr) (k : Nat) (ts : List Tie) (near : List (List Nat)) (old way : Hue), vs = [.ref self] ∧ ChO K H self W k near old way ∧ NearOk ts near ∧ way.length = ts.length ∧ ts.length ≤ 30 ∧ k ≤ 1000 ∧ Tab K H ∧
  ∀ H', ExtN H H' → Tab K H' → ((∀ t, t < ts.length → hu way t ≠ none) → Q .non H') ∧ (∀ t, t < ts.length → hu way t = none → Q (vn t) H')
/-- the key of a tie: how many hues are free for it, and the tie -/
def t_key (K : PySem.W.Frag) : TE := tTup (tCons (tCB (fun xs H Q => ∃ p ys, xs = [V.ref p] ∧ (SqL K H p ys ∨ SqT K H p ys) ∧ Q (V.int (ys.length : Int)) H) (tCons (tMeth (He.ga K "Changing") "free_for" (sp_Changing_free_for K) [] E0 (tVar 1) (tCons (tVar 0) tNil)) tNil)) (tCons (tVar 0) tNil))
theorem ok_Changing_next_tie (T : Tx P w K mg base) : Has P w K mg base 4 ("Changing", some "next_tie") ["self"] (sp_Changing_next_tie K) := by
  obtain ⟨fd_Changing_free_for, G_Changing_free_for, b_Changing_free_for, k_Changing_free_for⟩ := ok_Changing_free_for (P := P) (w := w) (base := base) T
  refine mkHasC T 70 (d := d_Changing_next_tie) rfl sc_Changing_next_tie rfl rfl (fun us hl => match us, hl with | [_], _ => fun _ _ _ _ _ _ => rfl) (fun vs H Q E => ?_) (fun A outer s H vs Q E hr h => ?_)
  · walk_at "len"
  · have hU := hu_of hr
    refine ⟨_, PSs.nox (pss_cons (ps_setLc (i := 1) (own := [("tie", 2)]) rfl sc_Changing_next_tie.nd rfl rfl (sw_true rfl rfl rfl (by decide +kernel)) (pi_range1 rfl T.b_range (pa_cons (pe_callB call_len_seq (by rfl) T.b_len (by decide +kernel) (pa_cons (pe_fld (pv 0) rfl) pa_nil)) pa_nil)) (blkOk_by (N := N_Changing_next_tie) (sc := defScope s_Changing_next_tie) (by decide +kernel)) (fun _ _ _ _ _ => by exact (pg_name (i := 2) sc_Changing_next_tie.nd rfl (Or.inl rfl))) (fun _ _ _ _ _ => by exact (pts_one (pt_cmpR op_isN (pe_ix (ix_listK (K := K) rfl) (pe_fldK (K := K) rfl (pv 0) rfl) (pv 2) (fun _ _ => rfl)) pe_non (nomark _)))) (fun _ _ _ _ _ => by exact (pv 2)))
    (pss_cons (ps_if (pt_cmpR op_eq (pe_callB call_len_seq (by rfl) T.b_len (by decide +kernel) (pa_cons (pv 1) pa_nil)) pe_int (nomark _)) (pss_one (ps_ret pe_non)) pss_nil)
    (pss_one (ps_ret (pe_minKey (N := ["tie", "self"]) (fr := ["self"]) (t := "tie") (js := [0]) (k := 1) (tb := t_key K) (by rfl) T.b_min (by decide +kernel) (pa_cons (pv 1) pa_nil) T.tab rfl (NdefX.nscope_by (by decide +kernel)) (show NdefX.ndefB (defScope s_Changing_next_tie) _ ["self"] = true from by decide +kernel) rfl hr (by rfl) (fun _ _ _ _ _ => rfl)
        (fun f c' s H hr2 => pe_tup (pa_cons (pe_callB call_len_seq (by rfl) T.b_len (by decide +kernel) (pa_cons (pe_meth (pv 1) T.c_Changing T.m_Changing_free_for G_Changing_free_for hr2 b_Changing_free_for .nil pass0 (pa_cons (pv 0) pa_nil)) pa_nil)) (pa_cons (pv 0) pa_nil)))))))), ?_⟩
    obtain ⟨self, W, k, ts, near, old, way, rfl, C, N, hw, hz, hk, tb, q⟩ := h
    obtain ⟨dx, nv, ov, i0, RN, RO⟩ := id C.ins
    refine ⟨_, rfl, self, _, dx, _, _, rfl, i0, T.c_Changing, T.n_Changing_way, rfl, W, _, rfl, .inl (.of C.way), _, rfl, by rw [List.length_map]; omega, by rw [List.length_map]; omega, fun D hD => ?_⟩
    have el : (((way.map vo).length : Nat) : Int).toNat = way.length := by rw [List.length_map, Int.toNat_natCast]
    refine lc_val (n := (((way.map vo).length : Nat) : Int).toNat) walk_range (by rw [el]; omega) hD (fun _ _ => trivial) (fun t => decide (hu way t = none)) (fun t => vn t) ?_ ?_
    · rintro i x H3 H4 acc hi s3 d3 ⟨rfl, ex⟩ Good Skip hg hs
      obtain rfl : x = vn i := by
        rw [ex]
        show V.int (0 + (i : Int)) = V.int (i : Int)
        rw [Int.zero_add]
      rw [el] at hi
      refine ⟨rfl, ?_⟩
      have key : tTest (tOp (fun x y H Q => y = V.non ∧ Q (V.bl (decide (x = V.non))) H) (tOp (rIxL K) (tFld K (tVar 0) (Str.ofString "way")) (tVar 2)) (tC V.non)) ((wipe (L2.start N_Changing_next_tie [V.ref self]) (List.map (fun x => x.snd) [(Str.ofString "tie", 2)])).set 2 (some (vn i))) H4 fun b H5 => if b = true then tVar 2 ((wipe (L2.start N_Changing_next_tie [V.ref self]) (List.map (fun x => x.snd) [(Str.ofString "tie", 2)])).set 2 (some (vn i))) H5 Good else Skip H5 := by
        refine ⟨_, rfl, self, _, dx, _, _, rfl, s3 _ _ i0, T.c_Changing, T.n_Changing_way, rfl, _, rfl, W, _, _, _, rfl, rfl, .of (s3 _ _ C.way), atI_nat (hue_get (by omega)), ?_⟩
        refine ⟨rfl, ?_⟩
        cases e : hu way i with
        | none => exact ⟨true, rfl, _, rfl, hg (decide_eq_true e) _ (Same.refl _)⟩
        | some c => exact ⟨false, rfl, hs (decide_eq_false (by rw [e]; exact fun z => nomatch z)) _ (Same.refl _)⟩
      exact key
    · intro H3 s3 d3
      rw [el] at d3
      refine ⟨_, rfl, D, _, rfl, .inl (.of d3), ?_⟩
      refine ⟨rfl, _, rfl, ?_⟩
      have q3 := q H3 (ExtN.same s3) (tb.mono s3)
      by_cases hx : (List.range way.length).filter (fun t => decide (hu way t = none)) = []
      · rw [hx]
        refine iteT (q3.1 fun t ht hn => ?_)
        have : t ∈ (List.range way.length).filter (fun t => decide (hu way t = none)) := List.mem_filter.mpr ⟨List.mem_range.mpr (by omega), decide_eq_true hn⟩
        rw [hx] at this
        cases this
      have memL : ∀ t, t ∈ (List.range way.length).filter (fun t => decide (hu way t = none)) → t < ts.length ∧ hu way t = none := fun t h => by
        obtain ⟨h1, h2⟩ := List.mem_filter.mp h
        exact ⟨by have := List.mem_range.mp h1; omega, of_decide_eq_true h2⟩
      generalize (List.range way.length).filter (fun t => decide (hu way t = none)) = L at hx memL d3
      have hne : L.map vn ≠ [] := fun z => hx (List.map_eq_nil_iff.mp z)
      rw [decide_eq_false (show ¬ V.int (((L.map vn).length : Nat) : Int) = V.int 0 from fun z => hne (List.length_eq_zero_iff.mp (by
        have : (((L.map vn).length : Nat) : Int) = 0 := by injection z
        omega)))]
      refine iteF ?_
      have C3 := C.mono s3
      have body : tMinK (nextC K).2 lamQ (tCons (tVar 1) tNil) (rMinK ["tie", "self"] [0] (t_key K)) ((L2.start N_Changing_next_tie [V.ref self]).set 1 (some (V.ref D))) H3 Q := by
        refine ⟨V.ref D, rfl, tb.mono s3, fun H2 x2 tb2 => ⟨D, L.map vn, rfl, x2 D _ d3 (fun _ z => nomatch z), hne, ⟨fun i => ((((freeFor near way k (L.getD i 0)).map vn).length : Int), ((L.getD i 0 : Nat) : Int)), fun i x ex H4 s4 => ?_⟩, fun x mx H4 s4 => ?_⟩⟩
        · rw [List.getElem?_map] at ex
          obtain ⟨t, et, rfl⟩ := Option.map_eq_some_iff.mp ex
          have C4 := (C3.ext ((ExtN.same dels_same).trans x2) (x2 W _ C3.way (fun _ z => nomatch z))).mono s4
          obtain ⟨ht, hn⟩ := memL t (List.mem_of_getElem? et)
          dsimp only
          rw [getD_of et]
          refine ⟨V.ref self, rfl, self, dx, _, rfl, s4 _ _ (x2 _ _ (s3 _ _ i0) (fun _ z => nomatch z)), rfl, vn t, rfl, self, W, k, t, ts, near, old, way, rfl, C4, N, hw, hz, ht, hk, fun D2 H5 n5 s5 d5 => ⟨D2, _, rfl, .inl (.of d5), vn t, rfl, by show 2 ≤ sizeLine; decide, fun p hp => ⟨s5.trans (same_new hp), p, rfl, ?_, upd_same⟩⟩⟩
          cases e : H4 p with
          | none => rfl
          | some u =>
            have z := s5 p u e
            rw [hp] at z
            cases z
        · obtain ⟨t, mt, rfl⟩ := List.mem_map.mp mx
          obtain ⟨ht, hn⟩ := memL t mt
          exact (q H4 ((ExtN.same s3).trans (x2.trans (ExtN.same s4))) (Tab.mono s4 tb2)).2 t ht hn
      exact body
/-! ### Changing.looked -/
abbrev N_Changing_looked : List Str := ["self", "number", "tie", "trees", "hue", "whole", "tree"]
theorem sc_Changing_looked : FnScope N_Changing_looked ["self", "number"] (defScope s_Changing_looked) := ⟨rfl, rfl, rfl, by decide +kernel, rfl, by decide +kernel, by decide +kernel⟩
def sp_lookedU (u : Nat) (K : PySem.W.Frag) : Sp := fun vs H Q _ => ∃ (self W : Addr) (k number : Nat) (ts : List Tie) (near : List (List Nat)) (old way : Hue), vs = [.ref self, vn number] ∧ ChO K H self W k near old way ∧ NearOk ts near ∧ way.length = ts.length ∧ old.length = ts.length ∧ ts.length ≤ 30 ∧ k ≤ 1000 ∧ unhued way < u ∧ Tab K H ∧
  ∀ H' p a b, ExtN (dels H [W]) H' → H' W = some (.lst (way.map vo)) → Tab K H' → H' p = some (.tup [a, b]) → (a = .non ∨ ∃ r, a = .ref r) → (∀ G, Compl ts way G k → diffN old G ts.length < number → a ≠ .non) → Q (.ref p) H'
abbrev sp_Changing_looked (K : PySem.W.Frag) : Sp := sp_lookedU 31 K
theorem ext_mut {l : List Addr} {H H' : Hp} {p : Addr} {x : HO} (a : ExtN (dels H l) H') (h : p ∈ l) : ExtN (dels H l) (upd H' p x) := fun b o e n => by
  rw [upd_ne (fun z => by rw [z, dels_none h] at e; cases e)]
  exact a b o e n
theorem set_back {way : Hue} {t : Nat} {c : Option Nat} (hn : hu way t = none) (ht : t < way.length) : (((way.set t c).map vo).set t V.non) = way.map vo := by
  have e : (way.set t c).set t none = way := by
    rw [List.set_set]
    refine List.ext_getElem? fun j => ?_
    rw [List.getElem?_set]
    by_cases q : t = j
    · subst q
      rw [if_pos rfl, if_pos ht]
      have := hue_get (h := way) (i := t) ht
      have e2 := getD_some (xs := way) (d := none) ht
      rw [e2]
      exact congrArg some hn.symm
    · rw [if_neg q]
  rw [show V.non = vo none from rfl, ← List.map_set, e]
theorem ok_lookedU (T : Tx P w K mg base) : ∀ u : Nat, Has P w K mg base (u + 6) ("Changing", some "looked") ["self", "number"] (sp_lookedU u K)
  | 0 => mkHas T 71 (d := d_Changing_looked) rfl sc_Changing_looked rfl rfl (fun us hl => match us, hl with | [_, _], _ => fun _ _ _ _ _ _ => rfl) (fun vs H Q E h => by
      obtain ⟨_, _, _, _, _, _, _, _, _, _, _, _, _, _, _, hz, _⟩ := h
      exact absurd hz (Nat.not_lt_zero _)) (fun cdv A outer s H vs Q E hr h => by
      obtain ⟨_, _, _, _, _, _, _, _, _, _, _, _, _, _, _, hz, _⟩ := h
      exact absurd hz (Nat.not_lt_zero _))
  | u + 1 => by
    show Has P w K mg base ((u + 6) + 1) _ _ _
    obtain ⟨fd_Changing_lost, G_Changing_lost, b_Changing_lost, k_Changing_lost⟩ := ok_Changing_lost (P := P) (w := w) (base := base) T
    obtain ⟨fd_Changing_next_tie, G_Changing_next_tie, b_Changing_next_tie, k_Changing_next_tie⟩ := ok_Changing_next_tie (P := P) (w := w) (base := base) T
    obtain ⟨fd_Changing_free_for, G_Changing_free_for, b_Changing_free_for, k_Changing_free_for⟩ := ok_Changing_free_for (P := P) (w := w) (base := base) T
    obtain ⟨fd_Changing_looked, G_Changing_looked, b_Changing_looked, k_Changing_looked⟩ := ok_lookedU T u
    refine mkHas T 71 (d := d_Changing_looked) rfl sc_Changing_looked rfl rfl (fun us hl => match us, hl with | [_, _], _ => fun _ _ _ _ _ _ => rfl) (fun vs H Q E => ?_) (fun cdv A outer s H vs Q E hr h => ?_)
    · walk_at "len"
    · have hU := hu_of hr
      refine ⟨_, PSs.nox (pss_cons (ps_if (pt_cmpR op_ge (pe_meth0 (pv 0) T.c_Changing T.m_Changing_lost G_Changing_lost (hr.mono (by omega)) b_Changing_lost .nil pass0) (pv 1) (nomark _)) (pss_one (ps_ret (pe_tup (pa_cons pe_non (pa_cons (pe_glob (v := .ref (He.ga K "DEAR")) rfl T.g_DEAR rfl) pa_nil))))) pss_nil)
      (pss_cons (ps_set (i := 2) sc_Changing_looked.nd rfl (Or.inl rfl) (pe_meth0 (pv 0) T.c_Changing T.m_Changing_next_tie G_Changing_next_tie (hr.mono (by omega)) b_Changing_next_tie .nil pass0))
      (pss_cons (ps_if (pt_cmpR op_isN (pv 2) pe_non (nomark _)) (pss_one (ps_ret (pe_tup (pa_cons (pe_callTy call_list_of (by rfl) T.b_list (by decide +kernel) (pa_cons (pe_fld (pv 0) rfl) pa_nil)) (pa_cons pe_non pa_nil))))) pss_nil)
      (pss_cons (ps_set (i := 3) sc_Changing_looked.nd rfl (Or.inl rfl) (pe_lst pa_nil))
      (pss_cons (ps_for PassesOwn.never rfl (pi_list (pe_meth (pv 0) T.c_Changing T.m_Changing_free_for G_Changing_free_for (hr.mono (by omega)) b_Changing_free_for .nil pass0 (pa_cons (pv 2) pa_nil))) (pg_name (i := 4) sc_Changing_looked.nd rfl (Or.inl rfl))
        (pss_cons (ps_asg (pv 4) (pg_sub (pe_fld (pv 0) rfl) (pv 2) set_list))
        (pss_cons (ps_asg (pe_meth (pv 0) T.c_Changing T.m_Changing_looked G_Changing_looked (hr.mono (by omega)) b_Changing_looked .nil pass0 (pa_cons (pv 1) pa_nil)) (pg_tup rfl (pgs_cons (pg_name (i := 5) sc_Changing_looked.nd rfl (Or.inl rfl)) (pgs_cons (pg_name (i := 6) sc_Changing_looked.nd rfl (Or.inl rfl)) pgs_nil))))
        (pss_cons (ps_asg pe_non (pg_sub (pe_fld (pv 0) rfl) (pv 2) set_list))
        (pss_cons (ps_if (pt_cmpR op_notN (pv 5) pe_non (nomark _)) (pss_one (ps_ret (pe_tup (pa_cons (pv 5) (pa_cons pe_non pa_nil))))) pss_nil)
        (pss_one (ps_expr (pe_bm PySem.F.plainAttrs_list PySem.F.slot_list_append PySem.F.type_list_append mt_append (pv 3) (pa_cons (pv 6) pa_nil)))))))))
      (pss_one (ps_ret (pe_tup (pa_cons pe_non (pa_cons (pe_tup (pa_cons (pe_glob (v := .str "try") rfl T.g_TRY.choose_spec ⟨_, rfl⟩) (pa_cons (pv 2) (pa_cons (pe_callTy call_tuple_of (by rfl) T.b_tuple (by decide +kernel) (pa_cons (pv 3) pa_nil)) pa_nil)))) pa_nil)))))))))), ?_⟩
      obtain ⟨self, W, k, number, ts, near, old, way, rfl, C, N, hw, ho, hz, hk, hu1, tb, q⟩ := h
      obtain ⟨dx, nv, ov, i0, RN, RO⟩ := id C.ins
      refine ⟨_, rfl, self, dx, _, rfl, i0, rfl, self, W, k, ts, near, old, way, rfl, C, N, hw, ho, hz, hk, fun H1 s1 => ⟨_, rfl, _, _, rfl, rfl, _, rfl, ?_⟩⟩
      have tb1 := tb.mono s1
      have C1 := C.mono s1
      have i1 := s1 _ _ i0
      by_cases hl : number ≤ lostN near old way k
      · dsimp only
        rw [decide_eq_true (show ((lostN near old way k : Nat) : Int) ≥ (number : Int) by omega)]
        refine iteT ⟨by show 2 ≤ sizeLine; decide, fun p hp => ?_⟩
        exact q _ p .non _ (ExtN.same (dels_same.trans (s1.trans (same_new hp)))) ((same_new hp) _ _ (s1 _ _ C.way)) (tb1.mono (same_new hp)) upd_same (.inl rfl) fun G cG hG => absurd (Nat.lt_of_le_of_lt (cG.lost_le N hw) hG) (by omega)
      dsimp only
      rw [decide_eq_false (show ¬ ((lostN near old way k : Nat) : Int) ≥ (number : Int) by omega)]
      refine iteF ⟨_, rfl, self, dx, _, rfl, i1, rfl, self, W, k, ts, near, old, way, rfl, C1, N, hw, hz, hk, tb1, fun H2 x2 tb2 => ⟨fun hall => ?_, fun t ht hn => ?_⟩⟩
      · have i2 := x2 _ _ i1 (fun _ z => nomatch z)
        have w2 := x2 _ _ C1.way (fun _ z => nomatch z)
        refine ⟨_, rfl, rfl, _, rfl, ?_⟩
        refine iteT ⟨_, rfl, self, _, dx, _, _, rfl, i2, T.c_Changing, T.n_Changing_way, rfl, W, _, rfl, .inl (.of w2), fun l hl => ⟨by show 2 ≤ sizeLine; decide, fun p hp => ?_⟩⟩
        have s3 : Same H2 (upd H2 l (.lst (way.map vo))) := same_new hl
        have s4 := s3.trans (same_new (o := .tup [.ref l, .non]) hp)
        exact q _ p (.ref l) .non ((ExtN.same (dels_same.trans s1)).trans (x2.trans (ExtN.same s4))) (s4 _ _ w2) (tb2.mono s4) upd_same (.inr ⟨_, rfl⟩) fun _ _ _ z => nomatch z
      · have i2 := x2 _ _ i1 (fun _ z => nomatch z)
        have w2 := x2 _ _ C1.way (fun _ z => nomatch z)
        refine ⟨_, rfl, rfl, _, rfl, ?_⟩
        refine iteF ⟨by decide, fun L hL => ?_⟩
        have x02 : ExtN (dels H [W]) H2 := (ExtN.same (dels_same.trans s1)).trans x2
        have freshL : ∀ {Hx : Hp} {o : HO}, ExtN (dels H [W]) Hx → ExtN (dels H [W]) (upd Hx L o) := fun x b u e n => by
          by_cases z : b = L
          · have := x02 b u e n
            rw [z, hL] at this
            cases this
          · rw [upd_ne z]
            exact x b u e n
        have s3 : Same H2 (upd H2 L (.lst [])) := same_new hL
        have l3 : upd H2 L (.lst []) L = some (.lst []) := upd_same
        have nLW : L ≠ W := (ne_of_none w2 hL).symm
        have x3 : ExtN (dels H [W]) (upd H2 L (.lst [])) := (ExtN.same (dels_same.trans s1)).trans (x2.trans (ExtN.same s3))
        have w3 := s3 _ _ w2
        have C3 := C.ext x3 w3
        have i3 := s3 _ _ i2
        have tb3 := tb2.mono s3
        generalize upd H2 L (.lst []) = H3 at *
        refine ⟨_, rfl, self, dx, _, rfl, i3, rfl, _, rfl, self, W, k, t, ts, near, old, way, rfl, C3, N, hw, hz, ht, hk, fun D H4 hD s4 d4 => ⟨D, rfl, ⟨_, .of d4⟩, ?_⟩⟩
        have nDW : D ≠ W := (ne_of_none w3 hD).symm
        have nDL : D ≠ L := (ne_of_none l3 hD).symm
        have hfl : (freeFor near way k t).length ≤ 1000 := Nat.le_trans range_filter_le hk
        refine for_list (xs := (freeFor near way k t).map vn) (fun i σ H5 => ExtN (dels H [W]) H5 ∧ H5 W = some (.lst (way.map vo)) ∧ Tab K H5 ∧ H5 D = some (.lst ((freeFor near way k t).map vn)) ∧ (∃ z4 z5 z6, σ = [some (.ref self), some (vn number), some (vn t), some (.ref L), z4, z5, z6]) ∧ (∃ trees, H5 L = some (.lst trees) ∧ trees.length = i) ∧ ∀ j c, j < i → (freeFor near way k t)[j]? = some c → ∀ G, Compl ts (way.set t (some c)) G k → ¬ diffN old G ts.length < number) ⟨x3.trans (ExtN.same s4), s4 _ _ w3, tb3.mono s4, d4, ⟨_, _, _, rfl⟩, ⟨[], s4 _ _ l3, rfl⟩, fun j c hj => absurd hj (Nat.not_lt_zero _)⟩ (fun i σ H5 _ h5 => .of h5.2.2.2.1) ?_ ?_
        · rintro i x σ H5 hx ⟨x5, w5, tb5, d5, ⟨z4, z5, z6, rfl⟩, ⟨trees, l5, hl5⟩, no⟩
          rw [List.getElem?_map] at hx
          obtain ⟨c, hc, rfl⟩ := Option.map_eq_some_iff.mp hx
          have C5 := C.ext x5 w5
          obtain ⟨dx5, nv5, ov5, i5, _, _⟩ := id C5.ins
          refine ⟨_, rfl, _, rfl, self, _, dx5, _, _, rfl, i5, T.c_Changing, T.n_Changing_way, rfl, _, rfl, W, _, (t : Int), t, rfl, rfl, w5, ixN_at (by rw [List.length_map]; omega), ?_⟩
          have mW : W ∈ [W] := List.mem_singleton.mpr rfl
          have ew : (way.map vo).set t (vn c) = (way.set t (some c)).map vo := by
            rw [List.map_set]
            rfl
          rw [ew]
          have x6 : ExtN (dels H [W]) (upd H5 W (.lst ((way.set t (some c)).map vo))) := ext_mut x5 mW
          have C6 : ChO K (upd H5 W (.lst ((way.set t (some c)).map vo))) self W k near old (way.set t (some c)) := C.ext x6 upd_same
          have tb6 : Tab K (upd H5 W (.lst ((way.set t (some c)).map vo))) := (tb5.way w5).mono (same_mut dels_same (dels_none mW))
          have d6 : upd H5 W (.lst ((way.set t (some c)).map vo)) D = some (.lst ((freeFor near way k t).map vn)) := by rw [upd_ne nDW]; exact d5
          have l6 : upd H5 W (.lst ((way.set t (some c)).map vo)) L = some (.lst trees) := by rw [upd_ne nLW]; exact l5
          generalize upd H5 W (.lst ((way.set t (some c)).map vo)) = H6 at *
          obtain ⟨dx6, nv6, ov6, i6, _, _⟩ := id C6.ins
          have hun := unhued_set (c := c) (show t < way.length by omega) hn
          refine ⟨_, rfl, self, dx6, _, rfl, i6, rfl, _, rfl, self, W, k, number, ts, near, old, way.set t (some c), rfl, C6, N, by rw [List.length_set]; exact hw, ho, hz, hk, by omega, tb6, fun H7 p7 a b x7 w7 tb7 hp7 ha no7 => ⟨p7, _, rfl, .of hp7, rfl, _, _, rfl, _, _, rfl, rfl, ?_⟩⟩
          have x07 : ExtN (dels H [W]) H7 := ext_step x6 x7
          have d7 := ext_at x7 (fun z => nDW (List.mem_singleton.mp z)) d6 (fun _ z => nomatch z)
          have l7 := ext_at x7 (fun z => nLW (List.mem_singleton.mp z)) l6 (fun _ z => nomatch z)
          have C7 := C.ext x07 w7
          obtain ⟨dx7, nv7, ov7, i7, _, _⟩ := id C7.ins
          refine ⟨_, rfl, self, _, dx7, _, _, rfl, i7, T.c_Changing, T.n_Changing_way, rfl, _, rfl, W, _, (t : Int), t, rfl, rfl, w7, ixN_at (by rw [List.length_map, List.length_set]; omega), ?_⟩
          rw [set_back hn (show t < way.length by omega)]
          have x8 : ExtN (dels H [W]) (upd H7 W (.lst (way.map vo))) := ext_mut x07 mW
          have tb8 : Tab K (upd H7 W (.lst (way.map vo))) := (tb7.way w7).mono (same_mut dels_same (dels_none mW))
          have w8 : upd H7 W (.lst (way.map vo)) W = some (.lst (way.map vo)) := upd_same
          have d8 : upd H7 W (.lst (way.map vo)) D = some (.lst ((freeFor near way k t).map vn)) := by rw [upd_ne nDW]; exact d7
          have l8 : upd H7 W (.lst (way.map vo)) L = some (.lst trees) := by rw [upd_ne nLW]; exact l7
          generalize upd H7 W (.lst (way.map vo)) = H8 at *
          refine ⟨_, rfl, rfl, _, rfl, ?_⟩
          rcases ha with rfl | ⟨r, rfl⟩
          · have nW' : W ≠ L := nLW.symm
            refine iteF ⟨_, rfl, ty_lst l8, _, rfl, L, trees, _, rfl, rfl, l8, smalls ?_, ?_⟩
            · have := (List.getElem?_eq_some_iff.mp hc).1
              omega
            have tb9 : Tab K (upd H8 L (.lst (trees ++ [b]))) := (tb8.way l8).mono (same_mut dels_same (dels_none (List.mem_singleton.mpr rfl)))
            refine ⟨freshL x8, by rw [upd_ne nW']; exact w8, tb9, by rw [upd_ne nDL]; exact d8, ⟨_, _, _, rfl⟩, ⟨_, upd_same, by rw [List.length_append, hl5]; rfl⟩, fun j c' hj hc' G cG hd => ?_⟩
            by_cases hji : j < i
            · exact no j c' hji hc' G cG hd
            · obtain rfl : j = i := by omega
              rw [hc] at hc'
              cases hc'
              exact no7 G cG hd rfl
          · refine iteT ⟨_, rfl, by show 2 ≤ sizeLine; decide, fun p hp => ?_⟩
            have s9 : Same H8 (upd H8 p (.tup [.ref r, .non])) := same_new hp
            exact q _ p (.ref r) .non (x8.trans (ExtN.same s9)) (s9 _ _ w8) (tb8.mono s9) upd_same (.inr ⟨_, rfl⟩) fun _ _ _ z => nomatch z
        · rintro σ H5 ⟨x5, w5, tb5, d5, ⟨z4, z5, z6, rfl⟩, ⟨trees, l5, hl5⟩, no⟩
          rw [List.length_map] at no hl5
          refine ⟨_, rfl, _, rfl, L, trees, rfl, .inl ⟨.of l5, fun tp htp => ⟨by show 3 ≤ sizeLine; decide, fun p1 hp1 => ⟨by show 2 ≤ sizeLine; decide, fun p hp => ?_⟩⟩⟩⟩
          have s6 := ((same_new (o := .tup trees) htp).trans (same_new (o := .tup [.str (Str.ofString "try"), vn t, .ref tp]) hp1)).trans (same_new (o := .tup [.non, .ref p1]) hp)
          refine q _ p .non (.ref p1) (x5.trans (ExtN.same s6)) (s6 _ _ w5) (tb5.mono s6) upd_same (.inl rfl) fun G cG hG => ?_
          obtain ⟨c, ec, hcm, cG2⟩ := cG.go N hw ht
          obtain ⟨j, hj⟩ := List.getElem?_of_mem hcm
          exact absurd hG (no j c (List.getElem?_eq_some_iff.mp hj).1 hj G cG2)
theorem ok_Changing_looked (T : Tx P w K mg base) : Has P w K mg base 37 ("Changing", some "looked") ["self", "number"] (sp_lookedU 31 K) := ok_lookedU T 31
end
end Hu
end

/-! ## Wx1 -/
section
set_option maxHeartbeats 4000000
set_option autoImplicit true
namespace Hu
open PySem PySem.Spec PyProof.Rows L2
local macro_rules | `(tactic| walk_at "len") => `(tactic| (intro h; first
  | (obtain ⟨_, e, _⟩ := h; cases e; rfl)
  | (obtain ⟨_, _, e, _⟩ := h; cases e; rfl)
  | (obtain ⟨_, _, _, e, _⟩ := h; cases e; rfl)
  | (obtain ⟨_, _, _, _, e, _⟩ := h; cases e; rfl)
  | (obtain ⟨_, _, _, _, _, e, _⟩ := h; cases e; rfl)
  | (obtain ⟨_, _, _, _, _, _, e, _⟩ := h; cases e; rfl)
  | (obtain ⟨_, _, _, _, _, _, _, e, _⟩ := h; cases e; rfl)
  | (obtain ⟨_, _, _, _, _, _, _, _, e, _⟩ := h; cases e; rfl)
  | (obtain ⟨_, _, _, _, _, _, _, _, _, e, _⟩ := h; cases e; rfl)
  | (obtain ⟨_, _, _, _, _, _, _, _, _, _, e, _⟩ := h; cases e; rfl)
  | (obtain ⟨_, _, _, _, _, _, _, _, _, _, _, e, _⟩ := h; cases e; rfl)
  | (obtain ⟨_, _, _, _, _, _, _, _, _, _, _, _, e, _⟩ := h; cases e; rfl)
  | (obtain ⟨_, _, _, _, _, _, _, _, _, _, _, _, _, e, _⟩ := h; cases e; rfl)
  | (obtain ⟨_, _, _, _, _, _, _, _, _, _, _, _, _, _, e, _⟩ := h; cases e; rfl)
  | (obtain ⟨_, _, _, _, _, _, _, _, _, _, _, _, _, _, _, e, _⟩ := h; cases e; rfl)
  | (obtain ⟨_, _, _, _, _, _, _, _, _, _, _, _, _, _, _, _, e, _⟩ := h; cases e; rfl)
  | (obtain ⟨_, _, _, _, _, _, _, _, _, _, _, _, _, _, _, _, _, e, _⟩ := h; cases e; rfl)
  | (obtain ⟨_, _, _, _, _, _, _, _, _, _, _, _, _, _, _, _, _, _, e, _⟩ := h; cases e; rfl)))
section
variable {P : Program} {w : World} {K : PySem.W.Frag} {mg : Str → Option Value} {base : Heap}
/-! ### _law_tape -/
abbrev N_l_tape : List Str := ["_law_script", "_law_k", "_law_cell", "_law_digits"]
theorem sc_l_tape : FnScope N_l_tape ["_law_script", "_law_k"] (defScope s_l_tape) := ⟨rfl, rfl, rfl, by decide +kernel, rfl, by decide +kernel, by decide +kernel⟩
def sp_l_tape (K : PySem.W.Frag) : Sp := fun vs H Q _ => ∃ (Sa : Addr) (ns : List Int) (k : Nat), vs = [.ref Sa, vn k] ∧ SqL K H Sa (ns.map V.int) ∧ k ≤ 100 ∧ ∀ D d e, H D = none → 0 ≤ d → 0 ≤ e → Q (.ref D) (upd H D (.lst [.int d, .int e]))
theorem fm {a : Int} {n : Int} (hn : 0 < n) : 0 ≤ a.fmod n ∧ a.fmod n < n := by
  rw [Int.fmod_eq_emod_of_nonneg a (by omega)]
  exact ⟨Int.emod_nonneg a (by omega), Int.emod_lt_of_pos a hn⟩
theorem mul_nn {a : Int} {b : Bool} (h : 0 ≤ a) : 0 ≤ a * (if b = true then 1 else 0) := by
  cases b
  · rw [if_neg Bool.false_ne_true, Int.mul_zero]
    exact Int.le_refl _
  · rw [if_pos rfl, Int.mul_one]
    exact h
theorem b01 {b : Bool} : -(2 ^ 64) < (if b = true then (1 : Int) else 0) ∧ (if b = true then (1 : Int) else 0) < 2 ^ 64 := by
  cases b <;> decide
theorem abs_nn {c : Int} : 0 ≤ (if c < 0 then -c else c) := by
  split <;> omega
theorem ok_l_tape (T : Tx P w K mg base) : Has P w K mg base 1 ("_law_tape", none) ["_law_script", "_law_k"] (sp_l_tape K) := by
  refine mkHas T 77 (d := d_l_tape) rfl sc_l_tape rfl rfl (fun us hl => match us, hl with | [_, _], _ => fun _ _ _ _ _ _ => rfl) (fun vs H Q E => ?_) (fun cdv A outer s H vs Q E hr h => ?_)
  · walk_at "len"
  · have hU := hu_of hr
    refine ⟨_, PSs.nox (pss_cons (ps_set (i := 2) sc_l_tape.nd rfl (Or.inl rfl) pe_int)
    (pss_cons (ps_if (pt_cmpR op_lt (pv 1) (pe_callB call_len_seq (by rfl) T.b_len (by decide +kernel) (pa_cons (pv 0) pa_nil)) (nomark _)) (pss_one (ps_set (i := 2) sc_l_tape.nd rfl (Or.inl rfl) (pe_ix ix_list (pv 0) (pv 1) (fun _ _ => rfl)))) pss_nil)
    (pss_cons (ps_set (i := 3) sc_l_tape.nd rfl (Or.inl rfl) (pe_op op_mul (pe_callB call_abs (by rfl) T.b_abs (by decide +kernel) (pa_cons (pv 2) pa_nil)) (pe_callTy call_int1 (by rfl) T.b_int (by decide +kernel) (pa_cons (pe_cmpR op_ge (pe_callB call_abs (by rfl) T.b_abs (by decide +kernel) (pa_cons (pv 2) pa_nil)) (pe_op op_pow pe_int pe_int) (nomark _)) pa_nil))))
    (pss_one (ps_ret (pe_lst (pa_cons (pv 3) (pa_cons (pe_op op_modN (pe_op op_mul (pe_op op_modN (pe_op op_add (pe_op op_add (pv 2) (pe_op op_mul pe_int (pv 1))) pe_int) pe_int) pe_int) pe_int) pa_nil)))))))), ?_⟩
    obtain ⟨Sa, ns, k, rfl, hS, hk, q⟩ := h
    refine ⟨_, rfl, _, rfl, Sa, _, rfl, .inl hS, _, _, rfl, rfl, _, rfl, ?_⟩
    rw [List.length_map]
    by_cases hkn : k < ns.length
    · rw [decide_eq_true (show (k : Int) < ((ns.length : Nat) : Int) by omega)]
      refine iteT ⟨_, rfl, _, rfl, Sa, _, _, _, rfl, rfl, hS, atI_nat (show (ns.map V.int)[k]? = some (V.int (ns.getD k 0)) by rw [List.getElem?_map, getD_some (d := 0) hkn]; rfl), ?_⟩
      refine ⟨_, rfl, _, rfl, _, rfl, _, rfl, _, _, rfl, rfl, ⟨by decide, by decide, by decide⟩, _, _, rfl, rfl, .inr ⟨_, rfl, ?_⟩⟩
      refine ⟨_, _, rfl, rfl, .inr b01, ?_⟩
      refine ⟨_, rfl, _, rfl, _, rfl, _, _, rfl, rfl, .inl ⟨by decide, by decide⟩, _, _, rfl, rfl, _, _, rfl, rfl, _, _, rfl, rfl, (show (2147483647 : Int) ≠ 0 by decide), _, _, rfl, rfl, .inr ⟨by decide, by decide⟩, _, _, rfl, rfl, (show (2147483647 : Int) ≠ 0 by decide), (by show 2 ≤ sizeLine; decide), fun D hD => ?_⟩
      exact q D _ _ hD (mul_nn abs_nn) (fm (by decide)).1
    · rw [decide_eq_false (show ¬ (k : Int) < ((ns.length : Nat) : Int) by omega)]
      refine iteF ?_
      refine ⟨_, rfl, _, rfl, _, rfl, _, rfl, _, _, rfl, rfl, ⟨by decide, by decide, by decide⟩, _, _, rfl, rfl, .inr ⟨_, rfl, ?_⟩⟩
      refine ⟨_, _, rfl, rfl, .inr b01, ?_⟩
      refine ⟨_, rfl, _, rfl, _, rfl, _, _, rfl, rfl, .inl ⟨by decide, by decide⟩, _, _, rfl, rfl, _, _, rfl, rfl, _, _, rfl, rfl, (show (2147483647 : Int) ≠ 0 by decide), _, _, rfl, rfl, .inr ⟨by decide, by decide⟩, _, _, rfl, rfl, (show (2147483647 : Int) ≠ 0 by decide), (by show 2 ≤ sizeLine; decide), fun D hD => ?_⟩
      exact q D _ _ hD (mul_nn abs_nn) (fm (by decide)).1
/-! ### _law_draw -/
abbrev N_l_draw : List Str := ["_law_tape_here", "_law_many", "_law_found", "_law_once"]
theorem sc_l_draw : FnScope N_l_draw ["_law_tape_here", "_law_many"] (defScope s_l_draw) := ⟨rfl, rfl, rfl, by decide +kernel, rfl, by decide +kernel, by decide +kernel⟩
def TapeO (d e : Int) : HO := .lst [.int d, .int e]
structure TapeR (H : Hp) (Ta : Addr) : Prop where
  at_ : ∃ d e : Int, H Ta = some (TapeO d e) ∧ 0 ≤ d ∧ 0 ≤ e
theorem TapeR.mono {H H' : Hp} {Ta : Addr} (s : Same H H') (t : TapeR H Ta) : TapeR H' Ta := let ⟨d, e, a, b⟩ := t.at_; ⟨d, e, s _ _ a, b⟩
def sp_l_draw (K : PySem.W.Frag) : Sp := fun vs H Q _ => ∃ (Ta : Addr) (n : Nat), vs = [.ref Ta, vn n] ∧ TapeR H Ta ∧ 0 < n ∧ n < 1000000 ∧ ∀ (r : Nat) (d e : Int), r < n → 0 ≤ d → 0 ≤ e → Q (vn r) (upd H Ta (TapeO d e))
theorem fdiv_nn {a n : Int} (h : 0 ≤ a) (hn : 0 < n) : 0 ≤ a.fdiv n := by
  rw [Int.fdiv_eq_ediv_of_nonneg a (by omega)]
  exact Int.ediv_nonneg h (by omega)
theorem ok_l_draw (T : Tx P w K mg base) : Has P w K mg base 1 ("_law_draw", none) ["_law_tape_here", "_law_many"] (sp_l_draw K) := by
  refine mkHas T 78 (d := d_l_draw) rfl sc_l_draw rfl rfl (fun us hl => match us, hl with | [_, _], _ => fun _ _ _ _ _ _ => rfl) (fun vs H Q E => ?_) (fun cdv A outer s H vs Q E hr h => ?_)
  · walk_at "len"
  · have hU := hu_of hr
    refine ⟨_, PSs.nox (pss_cons (ps_if (pt_cmpR op_gt (pe_ix ix_list (pv 0) pe_int (fun _ _ => rfl)) pe_int (nomark _)) (pss_cons (ps_set (i := 2) sc_l_draw.nd rfl (Or.inl rfl) (pe_op op_modN (pe_ix ix_list (pv 0) pe_int (fun _ _ => rfl)) (pv 1)))
      (pss_cons (ps_asg (pe_op op_fdivN (pe_ix ix_list (pv 0) pe_int (fun _ _ => rfl)) (pv 1)) (pg_sub (pv 0) pe_int set_list))
      (pss_one (ps_ret (pv 2))))) pss_nil)
    (pss_cons (ps_asg (pe_op op_modN (pe_op op_add (pe_op op_mul (pe_ix ix_list (pv 0) pe_int (fun _ _ => rfl)) pe_int) pe_int) pe_int) (pg_sub (pv 0) pe_int set_list))
    (pss_cons (ps_set (i := 3) sc_l_draw.nd rfl (Or.inl rfl) (pe_op op_modN (pe_op op_mul (pe_ix ix_list (pv 0) pe_int (fun _ _ => rfl)) (pe_op op_add (pe_op op_modN (pe_ix ix_list (pv 0) pe_int (fun _ _ => rfl)) pe_int) pe_int)) pe_int))
    (pss_one (ps_ret (pe_op op_modN (pe_op op_modN (pe_op op_mul (pv 3) (pe_op op_add (pe_op op_modN (pv 3) pe_int) pe_int)) pe_int) (pv 1))))))), ?_⟩
    obtain ⟨Ta, n, rfl, tp, hn, hn2, q⟩ := h
    obtain ⟨d, e, hT, hd, he⟩ := tp.at_
    have hn' : (0 : Int) < (n : Int) := by omega
    refine ⟨_, rfl, Ta, _, 0, _, rfl, rfl, .of hT, rfl, _, _, rfl, rfl, _, rfl, ?_⟩
    by_cases hd0 : 0 < d
    · rw [decide_eq_true hd0]
      refine iteT ⟨_, rfl, Ta, _, 0, _, rfl, rfl, .of hT, rfl, _, rfl, _, _, rfl, rfl, (show (n : Int) ≠ 0 by omega), ?_⟩
      refine ⟨_, rfl, Ta, _, 0, _, rfl, rfl, .of hT, rfl, _, rfl, _, _, rfl, rfl, ⟨(show (n : Int) ≠ 0 by omega), (show (n : Int).natAbs < 1073741824 by omega)⟩, ?_⟩
      refine ⟨_, rfl, Ta, _, 0, 0, rfl, rfl, hT, rfl, ?_⟩
      obtain ⟨f1, f2⟩ := fm (a := d) hn'
      have er : d.fmod (n : Int) = ((d.fmod (n : Int)).toNat : Int) := by omega
      have := q (d.fmod (n : Int)).toNat (d.fdiv (n : Int)) e (by omega) (fdiv_nn hd hn') he
      rw [show vn (d.fmod (n : Int)).toNat = V.int (d.fmod (n : Int)) from congrArg V.int er.symm] at this
      exact ⟨_, rfl, this⟩
    · rw [decide_eq_false hd0]
      refine iteF ?_
      refine ⟨_, rfl, Ta, _, 1, _, rfl, rfl, .of hT, rfl, _, _, rfl, rfl, .inr ⟨by decide, by decide⟩, _, _, rfl, rfl, _, _, rfl, rfl, (show (2147483647 : Int) ≠ 0 by decide), ?_⟩
      refine ⟨_, rfl, Ta, _, 1, 1, rfl, rfl, hT, rfl, ?_⟩
      obtain ⟨g1, g2⟩ := fm (a := e * 48271 + 12345) (n := 2147483647) (by decide)
      generalize hx : (e * 48271 + 12345).fmod 2147483647 = x at g1 g2
      have hT2 : upd H Ta (.lst (([V.int d, V.int e] : List V).set 1 (V.int ((e * 48271 + 12345).fmod 2147483647)))) Ta = some (TapeO d x) := by
        rw [upd_same, ← hx]
        rfl
      obtain ⟨k1, k2⟩ := fm (a := x) (n := 1009) (by decide)
      refine ⟨_, rfl, Ta, _, 1, _, rfl, rfl, .of hT2, rfl, _, rfl, Ta, _, 1, _, rfl, rfl, .of hT2, rfl, _, _, rfl, rfl, (show (1009 : Int) ≠ 0 by decide), _, _, rfl, rfl, _, _, rfl, rfl, .inr ⟨?_, ?_⟩, _, _, rfl, rfl, (show (2147483629 : Int) ≠ 0 by decide), ?_⟩
      · show -(2 ^ 64) < x.fmod 1009 + 3
        omega
      · show x.fmod 1009 + 3 < 2 ^ 64
        omega
      generalize ho : (x * (x.fmod 1009 + 3)).fmod 2147483629 = y
      obtain ⟨m1, m2⟩ := fm (a := (x * (x.fmod 1009 + 3)).fmod 2147483629) (n := 997) (by decide)
      refine ⟨_, rfl, _, rfl, _, _, rfl, rfl, (show (997 : Int) ≠ 0 by decide), _, _, rfl, rfl, _, _, rfl, rfl, .inr ⟨?_, ?_⟩, _, _, rfl, rfl, (show (998244353 : Int) ≠ 0 by decide), _, rfl, _, _, rfl, rfl, (show (n : Int) ≠ 0 by omega), ?_⟩
      · show -(2 ^ 64) < ((x * (x.fmod 1009 + 3)).fmod 2147483629).fmod 997 + 5
        omega
      · show ((x * (x.fmod 1009 + 3)).fmod 2147483629).fmod 997 + 5 < 2 ^ 64
        omega
      obtain ⟨f1, f2⟩ := fm (a := (((x * (x.fmod 1009 + 3)).fmod 2147483629) * (((x * (x.fmod 1009 + 3)).fmod 2147483629).fmod 997 + 5)).fmod 998244353) hn'
      generalize hz : (((x * (x.fmod 1009 + 3)).fmod 2147483629) * (((x * (x.fmod 1009 + 3)).fmod 2147483629).fmod 997 + 5)).fmod 998244353 = z at f1 f2
      have er : z.fmod (n : Int) = ((z.fmod (n : Int)).toNat : Int) := by omega
      have := q (z.fmod (n : Int)).toNat d x (by omega) hd g1
      rw [show vn (z.fmod (n : Int)).toNat = V.int (z.fmod (n : Int)) from congrArg V.int er.symm, ← hx] at this
      exact this
/-! ### _law_mixed -/
abbrev N_l_mixed : List Str := ["_law_tape_here", "_law_things", "_law_found", "_law_thing"]
theorem sc_l_mixed : FnScope N_l_mixed ["_law_tape_here", "_law_things"] (defScope s_l_mixed) := ⟨rfl, rfl, rfl, by decide +kernel, rfl, by decide +kernel, by decide +kernel⟩
theorem TapeR.upd {H : Hp} {Ta : Addr} {d e : Int} (h1 : 0 ≤ d) (h2 : 0 ≤ e) : TapeR (upd H Ta (TapeO d e)) Ta := ⟨d, e, upd_same, h1, h2⟩
/-- all but the tape stays -/
def KeepT (Ta : Addr) (H H' : Hp) : Prop := Same (dels H [Ta]) H'
theorem KeepT.of {Ta : Addr} {H H' : Hp} (s : Same H H') : KeepT Ta H H' := dels_same.trans s
theorem KeepT.trans {Ta : Addr} {H H1 H' : Hp} (a : KeepT Ta H H1) (b : KeepT Ta H1 H') : KeepT Ta H H' := (dels_of a fun p hp => dels_none hp).trans b
theorem KeepT.tape {Ta : Addr} {H H' : Hp} {o : HO} (a : KeepT Ta H H') : KeepT Ta H (upd H' Ta o) := same_mut a (dels_none (List.mem_singleton.mpr rfl))
theorem KeepT.at {Ta p : Addr} {H H' : Hp} {o : HO} (a : KeepT Ta H H') (hp : p ≠ Ta) (e : H p = some o) : H' p = some o := a _ _ (by rw [dels_ne (by simpa using hp)]; exact e)
theorem KeepT.mut {Ta p : Addr} {H H' : Hp} {o : HO} (a : KeepT Ta H H') (hp : H p = none) : KeepT Ta H (upd H' p o) := same_mut a (by
  unfold dels
  split
  · rfl
  · exact hp)
theorem ins_perm {α : Type} {x : α} {l : List α} {r : Nat} : (l.take r ++ [x] ++ l.drop r).Perm (x :: l) := by
  have e : l.take r ++ [x] ++ l.drop r = l.take r ++ x :: l.drop r := by simp
  rw [e]
  exact List.perm_middle.trans (by rw [List.take_append_drop])
def sp_l_mixed (K : PySem.W.Frag) : Sp := fun vs H Q _ => ∃ (Ta La : Addr) (xs : List V), vs = [.ref Ta, .ref La] ∧ TapeR H Ta ∧ H La = some (.lst xs) ∧ La ≠ Ta ∧ xs.length ≤ 1000 ∧
  ∀ D H' ys, H D = none → KeepT Ta H H' → TapeR H' Ta → H' D = some (.lst ys) → ys.Perm xs → Q (.ref D) H'
theorem ok_l_mixed (T : Tx P w K mg base) : Has P w K mg base 2 ("_law_mixed", none) ["_law_tape_here", "_law_things"] (sp_l_mixed K) := by
  obtain ⟨fd_l_draw, G_l_draw, b_l_draw, k_l_draw⟩ := ok_l_draw (P := P) (w := w) (base := base) T
  refine mkHas T 82 (d := d_l_mixed) rfl sc_l_mixed rfl rfl (fun us hl => match us, hl with | [_, _], _ => fun _ _ _ _ _ _ => rfl) (fun vs H Q E => ?_) (fun cdv A outer s H vs Q E hr h => ?_)
  · walk_at "len"
  · have hU := hu_of hr
    refine ⟨_, PSs.nox (pss_cons (ps_set (i := 2) sc_l_mixed.nd rfl (Or.inl rfl) (pe_lst pa_nil))
    (pss_cons (ps_for PassesOwn.never rfl (pi_list (pv 1)) (pg_name (i := 3) sc_l_mixed.nd rfl (Or.inl rfl))
      (pss_one (ps_expr (pe_bm PySem.F.plainAttrs_list PySem.F.slot_list_insert PySem.F.type_list_insert mt_insert (pv 2) (pa_cons (pe_call G_l_draw (hr.mono (by decide)) rfl T.g_l_draw k_l_draw b_l_draw .nil pass0 (pa_cons (pv 0) (pa_cons (pe_op op_add (pe_callB call_len_seq (by rfl) T.b_len (by decide +kernel) (pa_cons (pv 2) pa_nil)) pe_int) pa_nil))) (pa_cons (pv 3) pa_nil))))))
    (pss_one (ps_ret (pv 2))))), ?_⟩
    obtain ⟨Ta, La, xs, rfl, tp, hLa, nLT, hz, q⟩ := h
    obtain ⟨d0, e0, hT0, _⟩ := tp.at_
    refine ⟨by decide, fun F hF => ?_⟩
    have s0 : Same H (upd H F (.lst [])) := same_new hF
    have nFT : F ≠ Ta := (ne_of_none hT0 hF).symm
    have nFL : F ≠ La := (ne_of_none hLa hF).symm
    refine ⟨_, rfl, La, rfl, ⟨_, .of (s0 _ _ hLa)⟩, ?_⟩
    refine for_list (xs := xs) (fun i σ H2 => KeepT Ta H H2 ∧ TapeR H2 Ta ∧ (∃ z, σ = [some (.ref Ta), some (.ref La), some (.ref F), z]) ∧ ∃ ys, H2 F = some (.lst ys) ∧ ys.Perm (xs.take i)) ⟨.of s0, tp.mono s0, ⟨_, rfl⟩, [], upd_same, by rw [List.take_zero]⟩ (fun i σ H2 _ h2 => .of (h2.1.at nLT hLa)) ?_ ?_
    · rintro i x σ H2 hx ⟨k2, t2, ⟨z, rfl⟩, ys, f2, pm⟩
      have hyl : ys.length = i := by
        rw [pm.length_eq, List.length_take]
        have := (List.getElem?_eq_some_iff.mp hx).1
        omega
      have hil := (List.getElem?_eq_some_iff.mp hx).1
      refine ⟨_, rfl, ty_lst f2, _, rfl, _, rfl, F, _, rfl, .inl (.of f2), _, _, rfl, rfl, Ta, ys.length + 1, rfl, t2, Nat.succ_pos _, by omega, fun r d e hr hd he => ?_⟩
      have f3 : upd H2 Ta (TapeO d e) F = some (.lst ys) := by rw [upd_ne nFT]; exact f2
      refine ⟨_, rfl, F, ys, (r : Int), x, rfl, rfl, f3, smalls (by omega), by omega, by omega, ?_⟩
      refine ⟨k2.tape.mut hF, ?_, ⟨_, rfl⟩, _, upd_same, ?_⟩
      · obtain ⟨d', e', a', b'⟩ := (TapeR.upd (H := H2) (Ta := Ta) hd he).at_
        exact ⟨d', e', by rw [upd_ne nFT.symm]; exact a', b'⟩
      · rw [Int.toNat_natCast, List.take_succ, hx]
        refine ins_perm.trans ?_
        refine (List.Perm.cons x pm).trans ?_
        exact (List.perm_append_singleton x _).symm
    · rintro σ H2 ⟨k2, t2, ⟨z, rfl⟩, ys, f2, pm⟩
      rw [List.take_length] at pm
      exact ⟨_, rfl, q F H2 ys hF k2 t2 f2 pm⟩
/-! ### _law_hues -/
abbrev N_l_hues : List Str := ["_law_held", "_law_row"]
theorem sc_l_hues : FnScope N_l_hues ["_law_held"] (defScope s_l_hues) := ⟨rfl, rfl, rfl, by decide +kernel, rfl, by decide +kernel, by decide +kernel⟩
def sp_l_hues (K : PySem.W.Frag) : Sp := fun vs H Q _ => ∃ (o : Own) (m g b pl : Nat) (ns : List Nat) (ts : List Tie) (h : Hue), vs = [.ref o.self] ∧ TiedO K H o m ns ts h g b pl ∧ ∀ D H', H D = none → Same H H' → H' D = some (.lst (h.map vo)) → Q (.ref D) H'
theorem ok_l_hues (T : Tx P w K mg base) : Has P w K mg base 2 ("_law_hues", none) ["_law_held"] (sp_l_hues K) := by
  obtain ⟨fd_Tied_ties, G_Tied_ties, b_Tied_ties, k_Tied_ties⟩ := ok_Tied_ties (P := P) (w := w) (base := base) T
  refine mkHas T 83 (d := d_l_hues) rfl sc_l_hues rfl rfl (fun us hl => match us, hl with | [_], _ => fun _ _ _ _ _ _ => rfl) (fun vs H Q E => ?_) (fun cdv A outer s H vs Q E hr h => ?_)
  · walk_at "len"
  · have hU := hu_of hr
    refine ⟨_, PSs.nox (pss_one (ps_ret (pe_lc (own := [("_law_row", 1)]) rfl sc_l_hues.nd (pi_list (pe_meth0 (pv 0) T.c_Tied T.m_Tied_ties G_Tied_ties (hr.mono (by decide)) b_Tied_ties .nil pass0)) (blkOk_by (N := N_l_hues) (sc := defScope s_l_hues) (by decide +kernel)) (fun _ _ _ _ _ => by exact (pg_name (i := 1) sc_l_hues.nd rfl (Or.inl rfl))) (fun _ _ _ _ _ => by exact pts_nil) (fun _ _ _ _ _ => by exact (pe_ix (ix_tupK (K := K) rfl) (pv 1) pe_int (fun _ _ => rfl)))))), ?_⟩
    obtain ⟨o, m, g, b, pl, ns, ts, hh, rfl, O, q⟩ := h
    have hf := O.nums.few
    have hl2 := O.nums.l2
    refine ⟨_, rfl, o.self, o.dx, _, rfl, O.ins, rfl, o, m, g, b, pl, ns, ts, hh, rfl, O, fun D H1 hD s1 RL => ?_⟩
    obtain ⟨D', xs, e, d1, al⟩ := RL
    cases e
    have hxl : xs.length = ns.length := by rw [al.1, List.length_range]
    refine ⟨D, rfl, ⟨_, .of d1⟩, fun G hG => ?_⟩
    refine lc_val (n := xs.length) walk_list (by omega) hG (fun H2 s2 => .of (s2 _ _ d1)) (fun _ => true) (fun i => vo (hu hh i)) ?_ ?_
    · rintro i x H2 H3 acc hi s2 d2 ⟨rfl, e⟩ Good Skip hg hs
      obtain ⟨j, ej, p, rfl, hp⟩ := al.getV e
      rw [List.getElem?_range (by omega)] at ej
      obtain rfl := Option.some.inj ej
      exact ⟨rfl, _, rfl, p, _, 3, _, rfl, rfl, .of (s2 _ _ hp), rfl, hg rfl _ (Same.refl _)⟩
    · intro H2 s2 d2
      rw [filter_all, hxl] at d2
      refine q G H2 (s1.free hG) (s1.trans s2) ?_
      rw [d2, show (fun i => vo (hu hh i)) = vo ∘ hu hh from rfl, ← List.map_map, hue_list hl2.symm]
end
end Hu
end

/-! ## Wx2 -/
section
set_option maxHeartbeats 4000000
set_option autoImplicit true
namespace Hu
open PySem PySem.Spec PyProof.Rows L2
local macro_rules | `(tactic| walk_at "len") => `(tactic| (intro h; first
  | (obtain ⟨_, e, _⟩ := h; cases e; rfl)
  | (obtain ⟨_, _, e, _⟩ := h; cases e; rfl)
  | (obtain ⟨_, _, _, e, _⟩ := h; cases e; rfl)
  | (obtain ⟨_, _, _, _, e, _⟩ := h; cases e; rfl)
  | (obtain ⟨_, _, _, _, _, e, _⟩ := h; cases e; rfl)
  | (obtain ⟨_, _, _, _, _, _, e, _⟩ := h; cases e; rfl)
  | (obtain ⟨_, _, _, _, _, _, _, e, _⟩ := h; cases e; rfl)
  | (obtain ⟨_, _, _, _, _, _, _, _, e, _⟩ := h; cases e; rfl)
  | (obtain ⟨_, _, _, _, _, _, _, _, _, e, _⟩ := h; cases e; rfl)
  | (obtain ⟨_, _, _, _, _, _, _, _, _, _, e, _⟩ := h; cases e; rfl)
  | (obtain ⟨_, _, _, _, _, _, _, _, _, _, _, e, _⟩ := h; cases e; rfl)
  | (obtain ⟨_, _, _, _, _, _, _, _, _, _, _, _, e, _⟩ := h; cases e; rfl)
  | (obtain ⟨_, _, _, _, _, _, _, _, _, _, _, _, _, e, _⟩ := h; cases e; rfl)
  | (obtain ⟨_, _, _, _, _, _, _, _, _, _, _, _, _, _, e, _⟩ := h; cases e; rfl)
  | (obtain ⟨_, _, _, _, _, _, _, _, _, _, _, _, _, _, _, e, _⟩ := h; cases e; rfl)
  | (obtain ⟨_, _, _, _, _, _, _, _, _, _, _, _, _, _, _, _, e, _⟩ := h; cases e; rfl)
  | (obtain ⟨_, _, _, _, _, _, _, _, _, _, _, _, _, _, _, _, _, e, _⟩ := h; cases e; rfl)
  | (obtain ⟨_, _, _, _, _, _, _, _, _, _, _, _, _, _, _, _, _, _, e, _⟩ := h; cases e; rfl)))
section
variable {P : Program} {w : World} {K : PySem.W.Frag} {mg : Str → Option Value} {base : Heap}
/-! ### _law_pairs_by -/
abbrev N_l_pairs_by : List Str := ["_law_tape_here", "_law_great", "_law_way", "_law_many", "_law_found", "_law_turn", "_law_one", "_law_k", "_law_sides", "_law_j"]
theorem sc_l_pairs_by : FnScope N_l_pairs_by ["_law_tape_here", "_law_great"] (defScope s_l_pairs_by) := ⟨rfl, rfl, rfl, by decide +kernel, rfl, by decide +kernel, by decide +kernel⟩
theorem seq_by {t u : TS} {D : Ends} {σ : L2.St} {H : Hp} (J : L2.St → Hp → Prop) (h1 : ∀ N : L2.St → Hp → Prop, (∀ σ H, J σ H → N σ H) → t { D with nx := N } σ H) (h2 : ∀ σ H, J σ H → u D σ H) : tSeq t u D σ H := h1 (u D) h2
theorem gseq {i : Nat} {x : V} {σ : L2.St} {H : Hp} {t u : TS} {D : Ends} (h : tSeq t u D (σ.set i (some x)) H) : gName i x σ H (tSeq t u D) := h
/-- a list of pairs that grows, the tape beside it -/
structure PO (Ta : Addr) (H H' : Hp) (L : Addr) (ps : List Tie) : Prop where
  keep : KeepT Ta H H'
  tape : TapeR H' Ta
  new : H L = none
  lst : ∃ xs, H' L = some (.lst xs) ∧ Al (TieR H') xs ps
theorem Al.app {α : Type} {R : V → α → Prop} {vs ws : List V} {xs ys : List α} (h : Al R vs xs) (k : Al R ws ys) : Al R (vs ++ ws) (xs ++ ys) := by
  refine ⟨by rw [List.length_append, List.length_append, h.1, k.1], fun i v x e1 e2 => ?_⟩
  by_cases q : i < vs.length
  · rw [List.getElem?_append_left q] at e1
    rw [List.getElem?_append_left (by rw [← h.1]; exact q)] at e2
    exact h.2 i v x e1 e2
  · rw [List.getElem?_append_right (by omega)] at e1
    rw [List.getElem?_append_right (by rw [← h.1]; omega), ← h.1] at e2
    exact k.2 _ v x e1 e2
section
variable {Ta L : Addr} {H H' : Hp} {ps : List Tie}
theorem TapeR.some (t : TapeR H Ta) : ∃ o, H Ta = some o := let ⟨d, e, a, _⟩ := t.at_; ⟨_, a⟩
theorem KeepT.free {p : Addr} (k : KeepT Ta H H') (hp : H' p = none) (n : p ≠ Ta) : H p = none := by
  cases e : H p with
  | none => rfl
  | some o =>
    have := k.at n e
    rw [hp] at this
    cases this
theorem TapeR.ne (t : TapeR H Ta) {p : Addr} (hp : H p = none) : p ≠ Ta := by
  obtain ⟨o, e⟩ := t.some
  exact (ne_of_none e hp).symm
theorem tup_of_lst {H : Hp} {a : Addr} {xs : List V} {o : HO} (h : H a = some (.lst xs)) {p : Addr} {ys : List V} (e : H p = some (.tup ys)) : upd H a o p = some (.tup ys) := by
  rw [upd_ne, e]
  rintro rfl
  rw [e] at h
  cases h
theorem TieR.lst {H : Hp} {a : Addr} {xs : List V} {o : HO} (h : H a = some (.lst xs)) {v : V} {t : Tie} (r : TieR H v t) : TieR (upd H a o) v t := let ⟨p, x, y⟩ := r; ⟨p, x, tup_of_lst h y⟩
theorem TieR.tape (tp : TapeR H Ta) {o : HO} {v : V} {t : Tie} (r : TieR H v t) : TieR (upd H Ta o) v t := let ⟨_, _, a, _⟩ := tp.at_; r.lst a
theorem PO.ne (O : PO Ta H H' L ps) (t0 : TapeR H Ta) : L ≠ Ta := t0.ne O.new
theorem PO.same {H2 : Hp} (O : PO Ta H H' L ps) (s : Same H' H2) : PO Ta H H2 L ps := ⟨O.keep.trans (.of s), O.tape.mono s, O.new, let ⟨xs, a, b⟩ := O.lst; ⟨xs, s _ _ a, b.mono fun _ _ r => r.mono s⟩⟩
theorem PO.draw {d e : Int} (O : PO Ta H H' L ps) (t0 : TapeR H Ta) (hd : 0 ≤ d) (he : 0 ≤ e) : PO Ta H (upd H' Ta (TapeO d e)) L ps :=
  ⟨O.keep.tape, .upd hd he, O.new, let ⟨xs, a, b⟩ := O.lst; ⟨xs, by rw [upd_ne (O.ne t0)]; exact a, b.mono fun _ _ r => r.tape O.tape⟩⟩
theorem PO.more {xs ys : List V} {qs : List Tie} (O : PO Ta H H' L ps) (t0 : TapeR H Ta) (hL : H' L = some (.lst xs)) (al : Al (TieR H') ys qs) : PO Ta H (upd H' L (.lst (xs ++ ys))) L (ps ++ qs) := by
  obtain ⟨xs', a, b⟩ := O.lst
  rw [hL] at a
  cases a
  refine ⟨O.keep.mut O.new, ?_, O.new, xs ++ ys, upd_same, (b.app al).mono fun _ _ r => r.lst hL⟩
  obtain ⟨d, e, a, c⟩ := O.tape.at_
  exact ⟨d, e, by rw [upd_ne (O.ne t0).symm]; exact a, c⟩
theorem PO.fresh {xs : List V} {p : Addr} {qs : List Tie} (k : KeepT Ta H H') (tp : TapeR H' Ta) (hp : H' p = none) (al : Al (TieR H') xs qs) : PO Ta H (upd H' p (.lst xs)) p qs :=
  ⟨k.trans (.of (same_new hp)), tp.mono (same_new hp), k.free hp (tp.ne hp), xs, upd_same, al.mono fun _ _ r => r.mono (same_new hp)⟩
end
def GoodP (m : Nat) (ps : List Tie) : Prop := ∀ t, t ∈ ps → t.1 < m ∧ t.2 < m ∧ t.1 ≠ t.2
theorem GoodP.app {m : Nat} {ps qs : List Tie} (a : GoodP m ps) (b : GoodP m qs) : GoodP m (ps ++ qs) := fun t ht => (List.mem_append.mp ht).elim (a t) (b t)
theorem GoodP.nil {m : Nat} : GoodP m [] := fun t ht => absurd ht List.not_mem_nil
theorem GoodP.one {m x y : Nat} (h1 : x < m) (h2 : y < m) (h3 : x ≠ y) : GoodP m [(x, y)] := fun t ht => by
  rw [List.mem_singleton.mp ht]
  exact ⟨h1, h2, h3⟩
theorem fmod_nat {a n : Nat} : ((a : Int)).fmod (n : Int) = ((a % n : Nat) : Int) := by
  rw [Int.fmod_eq_emod_of_nonneg _ (by omega)]
  rfl
theorem mod_off {x r m : Nat} (hx : x < m) (hr : r < m - 1) : (x + 1 + r) % m < m ∧ x ≠ (x + 1 + r) % m := by
  refine ⟨Nat.mod_lt _ (by omega), fun e => ?_⟩
  by_cases h : x + 1 + r < m
  · rw [Nat.mod_eq_of_lt h] at e
    omega
  · have h2 : (x + 1 + r) % m = x + 1 + r - m := by
      rw [Nat.mod_eq_sub_mod (by omega), Nat.mod_eq_of_lt (by omega)]
    omega
def sp_l_pairs_by (K : PySem.W.Frag) : Sp := fun vs H Q _ => ∃ (Ta : Addr) (gb : Bool), vs = [.ref Ta, .bl gb] ∧ TapeR H Ta ∧
  ∀ H' p L many ps, PO Ta H H' L ps → H' p = some (.tup [vn many, .ref L]) → GoodP many ps → ps.length ≤ 35 → many ≤ 12 → Q (.ref p) H'
def PJ (Ta : Addr) (gb : Bool) (H : Hp) (way s : Nat) (σ : L2.St) (H' : Hp) : Prop := ∃ (L : Addr) (many : Nat) (ps : List Tie) (z5 z6 z7 z8 z9 : Option V), σ = [some (.ref Ta), some (.bl gb), some (vn way), some (vn many), some (.ref L), z5, z6, z7, z8, z9] ∧ PO Ta H H' L ps ∧ GoodP many ps ∧ ps.length ≤ 35 ∧ (s ≤ way → ps = []) ∧ many ≤ 12
theorem PJ.up {Ta : Addr} {gb : Bool} {H H' : Hp} {way s : Nat} {σ : L2.St} (j : PJ Ta gb H way s σ H') : PJ Ta gb H way (s + 1) σ H' := by
  obtain ⟨L, many, ps, z5, z6, z7, z8, z9, e, a, b, c, d, f⟩ := j
  exact ⟨L, many, ps, z5, z6, z7, z8, z9, e, a, b, c, fun h => d (by omega), f⟩
theorem rgN {i : Nat} {x : V} (ex : x = V.int (0 + (i : Int))) : x = vn i := by
  rw [ex]
  show V.int (0 + (i : Int)) = V.int (i : Int)
  rw [Int.zero_add]
theorem dec_eqN {a b : Nat} : decide (V.int (a : Int) = V.int (b : Int)) = decide (a = b) := by
  by_cases h : a = b
  · rw [decide_eq_true h, decide_eq_true (by rw [h])]
  · rw [decide_eq_false h, decide_eq_false fun z => h (by injection z with z; omega)]
theorem ok_l_pairs_by (T : Tx P w K mg base) : Has P w K mg base 2 ("_law_pairs_by", none) ["_law_tape_here", "_law_great"] (sp_l_pairs_by K) := by
  obtain ⟨fd_l_draw, G_l_draw, b_l_draw, k_l_draw⟩ := ok_l_draw (P := P) (w := w) (base := base) T
  refine mkHas T 79 (d := d_l_pairs_by) rfl sc_l_pairs_by rfl rfl (fun us hl => match us, hl with | [_, _], _ => fun _ _ _ _ _ _ => rfl) (fun vs H Q E => ?_) (fun cdv A outer s H vs Q E hr h => ?_)
  · walk_at "len"
  · have hU := hu_of hr
    refine ⟨_, PSs.nox (pss_cons (ps_set (i := 2) sc_l_pairs_by.nd rfl (Or.inl rfl) (pe_call G_l_draw (hr.mono (by decide)) rfl T.g_l_draw k_l_draw b_l_draw .nil pass0 (pa_cons (pv 0) (pa_cons pe_int pa_nil))))
    (pss_cons (ps_set (i := 3) sc_l_pairs_by.nd rfl (Or.inr rfl) (pe_ix ix_list (pe_lst (pa_cons (pe_call G_l_draw (hr.mono (by decide)) rfl T.g_l_draw k_l_draw b_l_draw .nil pass0 (pa_cons (pv 0) (pa_cons pe_int pa_nil))) (pa_cons (pe_op op_add pe_int (pe_call G_l_draw (hr.mono (by decide)) rfl T.g_l_draw k_l_draw b_l_draw .nil pass0 (pa_cons (pv 0) (pa_cons pe_int pa_nil)))) pa_nil))) (pe_callTy call_int1 (by rfl) T.b_int (by decide +kernel) (pa_cons (pv 1) pa_nil)) (fun _ _ => rfl)))
    (pss_cons (ps_set (i := 4) sc_l_pairs_by.nd rfl (Or.inl rfl) (pe_lst pa_nil))
    (pss_cons (ps_if (PW.pt (pw_and (pt_cmpR op_lt (pv 2) pe_int (nomark _)) (pw_and1 (pt_cmpR op_gt (pv 3) pe_int (nomark _))))) (pss_one (ps_for PassesOwn.never rfl (pi_range1 rfl T.b_range (pa_cons (pe_call G_l_draw (hr.mono (by decide)) rfl T.g_l_draw k_l_draw b_l_draw .nil pass0 (pa_cons (pv 0) (pa_cons (pe_op op_add (pe_op op_mul pe_int (pv 3)) pe_int) pa_nil))) pa_nil)) (pg_name (i := 5) sc_l_pairs_by.nd rfl (Or.inl rfl))
        (pss_cons (ps_set (i := 6) sc_l_pairs_by.nd rfl (Or.inl rfl) (pe_call G_l_draw (hr.mono (by decide)) rfl T.g_l_draw k_l_draw b_l_draw .nil pass0 (pa_cons (pv 0) (pa_cons (pv 3) pa_nil))))
        (pss_one (ps_expr (pe_bm PySem.F.plainAttrs_list PySem.F.slot_list_append PySem.F.type_list_append mt_append (pv 4) (pa_cons (pe_tup (pa_cons (pv 6) (pa_cons (pe_op op_modN (pe_op op_add (pe_op op_add (pv 6) pe_int) (pe_call G_l_draw (hr.mono (by decide)) rfl T.g_l_draw k_l_draw b_l_draw .nil pass0 (pa_cons (pv 0) (pa_cons (pe_op op_sub (pv 3) pe_int) pa_nil)))) (pv 3)) pa_nil))) pa_nil))))))) pss_nil)
    (pss_cons (ps_if (PW.pt (pw_and (pt_cmpR op_eq (pv 2) pe_int (nomark _)) (pw_and1 (pt_cmpR op_gt (pv 3) pe_int (nomark _))))) (pss_one (ps_set (i := 4) sc_l_pairs_by.nd rfl (Or.inl rfl) (pe_op op_cat (pe_lc (own := [("_law_k", 7)]) rfl sc_l_pairs_by.nd (pi_range1 rfl T.b_range (pa_cons (pv 3) pa_nil)) (blkOk_by (N := N_l_pairs_by) (sc := defScope s_l_pairs_by) (by decide +kernel)) (fun _ _ _ _ _ => by exact (pg_name (i := 7) sc_l_pairs_by.nd rfl (Or.inl rfl))) (fun _ _ _ _ _ => by exact pts_nil) (fun _ _ _ _ _ => by exact (pe_tup (pa_cons (pv 7) (pa_cons (pe_op op_modN (pe_op op_add (pv 7) pe_int) (pv 3)) pa_nil))))) (pe_lst (pa_cons (pe_tup (pa_cons pe_int (pa_cons (pe_op op_add (pe_call G_l_draw (hr.mono (by decide)) rfl T.g_l_draw k_l_draw b_l_draw .nil pass0 (pa_cons (pv 0) (pa_cons (pe_op op_sub (pv 3) pe_int) pa_nil))) pe_int) pa_nil))) pa_nil))))) pss_nil)
    (pss_cons (ps_if (PW.pt (pw_and (pt_cmpR op_eq (pv 2) pe_int (nomark _)) (pw_and1 (pt_cmpR op_gt (pv 3) pe_int (nomark _))))) (pss_one (ps_setLc (i := 4) (own := [("_law_k", 7)]) rfl sc_l_pairs_by.nd rfl rfl (sw_true rfl rfl rfl (by decide +kernel)) (pi_range2 rfl T.b_range (pa_cons pe_int (pa_cons (pv 3) pa_nil))) (blkOk_by (N := N_l_pairs_by) (sc := defScope s_l_pairs_by) (by decide +kernel)) (fun _ _ _ _ _ => by exact (pg_name (i := 7) sc_l_pairs_by.nd rfl (Or.inl rfl))) (fun _ _ _ _ _ => by exact pts_nil) (fun _ _ _ _ _ => by exact (pe_tup (pa_cons pe_int (pa_cons (pv 7) pa_nil)))))) pss_nil)
    (pss_cons (ps_if (pt_cmpR op_eq (pv 2) pe_int (nomark _)) (pss_cons (ps_set (i := 3) sc_l_pairs_by.nd rfl (Or.inr rfl) (pe_callB (call_min2 rfl) (by rfl) T.b_min (by decide +kernel) (pa_cons (pv 3) (pa_cons (pe_op op_add pe_int (pe_callTy call_int1 (by rfl) T.b_int (by decide +kernel) (pa_cons (pv 1) pa_nil))) pa_nil))))
      (pss_one (ps_for PassesOwn.never rfl (pi_range1 rfl T.b_range (pa_cons (pv 3) pa_nil)) (pg_name (i := 7) sc_l_pairs_by.nd rfl (Or.inr rfl))
        (pss_one (ps_expr (pe_bm PySem.F.plainAttrs_list PySem.F.slot_list_extend PySem.F.type_list_extend mt_extend (pv 4) (pa_cons (pe_lc (own := [("_law_j", 9)]) rfl sc_l_pairs_by.nd (pi_range1 rfl T.b_range (pa_cons (pv 7) pa_nil)) (blkOk_by (N := N_l_pairs_by) (sc := defScope s_l_pairs_by) (by decide +kernel)) (fun _ _ _ _ _ => by exact (pg_name (i := 9) sc_l_pairs_by.nd rfl (Or.inl rfl))) (fun _ _ _ _ _ => by exact pts_nil) (fun _ _ _ _ _ => by exact (pe_tup (pa_cons (pv 9) (pa_cons (pv 7) pa_nil))))) pa_nil))))))) pss_nil)
    (pss_cons (ps_if (pt_cmpR op_eq (pv 2) pe_int (nomark _)) (pss_cons (ps_set (i := 8) sc_l_pairs_by.nd rfl (Or.inl rfl) (pe_op op_add pe_int (pe_op op_fdivN (pv 3) pe_int)))
      (pss_one (ps_for PassesOwn.never rfl (pi_range1 rfl T.b_range (pa_cons (pv 8) pa_nil)) (pg_name (i := 7) sc_l_pairs_by.nd rfl (Or.inr rfl))
        (pss_one (ps_expr (pe_bm PySem.F.plainAttrs_list PySem.F.slot_list_extend PySem.F.type_list_extend mt_extend (pv 4) (pa_cons (pe_lc (own := [("_law_j", 9)]) rfl sc_l_pairs_by.nd (pi_range2 rfl T.b_range (pa_cons (pv 8) (pa_cons (pv 3) pa_nil))) (blkOk_by (N := N_l_pairs_by) (sc := defScope s_l_pairs_by) (by decide +kernel)) (fun _ _ _ _ _ => by exact (pg_name (i := 9) sc_l_pairs_by.nd rfl (Or.inl rfl))) (fun _ _ _ _ _ => by exact (pts_one (pt_cmpR op_gt (pe_call G_l_draw (hr.mono (by decide)) rfl T.g_l_draw k_l_draw b_l_draw .nil pass0 (pa_cons (pv 0) (pa_cons pe_int pa_nil))) pe_int (nomark _)))) (fun _ _ _ _ _ => by exact (pe_tup (pa_cons (pv 7) (pa_cons (pv 9) pa_nil))))) pa_nil))))))) pss_nil)
    (pss_cons (ps_if (pt_cmpR op_eq (pv 2) pe_int (nomark _)) (pss_cons (ps_set (i := 3) sc_l_pairs_by.nd rfl (Or.inr rfl) (pe_op op_add pe_int (pe_op op_fdivN (pv 3) pe_int)))
      (pss_one (ps_for PassesOwn.never rfl (pi_range1 rfl T.b_range (pa_cons pe_int pa_nil)) (pg_name (i := 7) sc_l_pairs_by.nd rfl (Or.inr rfl))
        (pss_one (ps_expr (pe_bm PySem.F.plainAttrs_list PySem.F.slot_list_extend PySem.F.type_list_extend mt_extend (pv 4) (pa_cons (pe_op op_rep (pe_lst (pa_cons (pe_tup (pa_cons (pv 7) (pa_cons (pe_op op_modN (pe_op op_add (pv 7) pe_int) pe_int) pa_nil))) pa_nil)) (pe_op op_add pe_int (pe_call G_l_draw (hr.mono (by decide)) rfl T.g_l_draw k_l_draw b_l_draw .nil pass0 (pa_cons (pv 0) (pa_cons pe_int pa_nil))))) pa_nil))))))) pss_nil)
    (pss_one (ps_ret (pe_tup (pa_cons (pv 3) (pa_cons (pv 4) pa_nil)))))))))))))), ?_⟩
    obtain ⟨Ta, gb, rfl, t0, q⟩ := h
    obtain ⟨oT, hT0⟩ := t0.some
    refine ⟨_, rfl, Ta, 8, rfl, t0, by decide, by decide, fun way d e hway hd he => ?_⟩
    have t1 : TapeR (upd H Ta (TapeO d e)) Ta := .upd hd he
    have k1 : KeepT Ta H (upd H Ta (TapeO d e)) := (KeepT.of (Same.refl _)).tape
    generalize upd H Ta (TapeO d e) = H1 at t1 k1
    refine ⟨_, rfl, Ta, 7, rfl, t1, by decide, by decide, fun ma d e hma hd he => ?_⟩
    have t2 : TapeR (upd H1 Ta (TapeO d e)) Ta := .upd hd he
    have k2 := k1.tape (o := TapeO d e)
    generalize upd H1 Ta (TapeO d e) = H2 at t2 k2
    refine ⟨_, rfl, Ta, 6, rfl, t2, by decide, by decide, fun mb d e hmb hd he => ⟨_, _, rfl, rfl, by show 2 ≤ sizeLine; decide, fun p1 hp1 => ?_⟩⟩
    have t3 : TapeR (upd H2 Ta (TapeO d e)) Ta := .upd hd he
    have k3 := k2.tape (o := TapeO d e)
    generalize upd H2 Ta (TapeO d e) = H3 at t3 k3 hp1
    have s4 : Same H3 (upd H3 p1 (.lst [vn ma, V.int (7 + (mb : Int))])) := same_new hp1
    have t4 := t3.mono s4
    have k4 := k3.trans (.of s4)
    refine ⟨_, rfl, .inr ⟨gb, rfl, ?_⟩⟩
    obtain ⟨many, hmany, eat⟩ : ∃ many : Nat, many ≤ 12 ∧ atI [vn ma, V.int (7 + (mb : Int))] (if gb = true then 1 else 0) = some (vn many) := by
      cases gb
      · exact ⟨ma, by omega, rfl⟩
      · exact ⟨7 + mb, by omega, rfl⟩
    refine ⟨p1, _, _, _, rfl, rfl, .of upd_same, eat, ?_⟩
    refine ⟨by decide, fun L hL => ?_⟩
    have O5 := PO.fresh (xs := []) k4 t4 hL Al.nil
    have j0 : PJ Ta gb H way 0 [some (.ref Ta), some (.bl gb), some (vn way), some (vn many), some (.ref L), none, none, none, none, none] (upd (upd H3 p1 (.lst [vn ma, V.int (7 + (mb : Int))])) L (.lst [])) := ⟨L, many, [], _, _, _, _, _, rfl, O5, GoodP.nil, Nat.zero_le _, fun _ => rfl, hmany⟩
    revert j0
    generalize (upd (upd H3 p1 (.lst [vn ma, V.int (7 + (mb : Int))])) L (.lst [])) = H5
    intro j0
    clear O5 hL eat hmany s4 t4 k4 hp1 t3 k3 t2 k2 t1 k1
    dsimp only
    refine gseq ?_
    -- way < 3
    refine seq_by (PJ Ta gb H way 3) (fun N hN => ?_) ?_
    · obtain ⟨L, many, ps, z5, z6, z7, z8, z9, e, O, G, hlen, hps, hm⟩ := j0
      cases e
      refine ⟨_, rfl, _, _, rfl, rfl, _, rfl, ?_⟩
      by_cases hw : way < 3
      · rw [decide_eq_true (show (way : Int) < 3 by omega)]
        refine iteT ⟨_, rfl, _, _, rfl, rfl, _, rfl, ?_⟩
        by_cases h1 : 1 < many
        · rw [decide_eq_true (show (1 : Int) < (many : Int) by omega)]
          refine iteT ⟨_, rfl, _, rfl, _, _, rfl, rfl, .inl ⟨by decide, by decide⟩, _, _, rfl, rfl, Ta, 2 * many + 1, rfl, O.tape, Nat.succ_pos _, by omega, fun r d e hr hd he => ⟨r, rfl, by omega, by omega, ?_⟩⟩
          refine for_it (n := ((r : Nat) : Int).toNat) walk_range (fun i σ H6 => ∃ ps' z5 z6, σ = [some (.ref Ta), some (.bl gb), some (vn way), some (vn many), some (.ref L), z5, z6, none, none, none] ∧ PO Ta H H6 L ps' ∧ GoodP many ps' ∧ ps'.length ≤ i) ⟨ps, _, _, rfl, O.draw t0 hd he, G, by rw [hps (Nat.zero_le _)]; exact Nat.le_refl _⟩ (fun _ _ _ _ _ => trivial) ?_ ?_
          · rintro i x σ H6 H7 hi ⟨ps', z5, z6, rfl, O6, G6, hl6⟩ ⟨rfl, ex⟩
            obtain rfl := rgN ex
            refine ⟨_, rfl, _, rfl, Ta, many, rfl, O6.tape, by omega, by omega, fun x1 d e hx1 hd he => ?_⟩
            have O8 := O6.draw t0 hd he
            revert O8
            generalize upd H7 Ta (TapeO d e) = H8
            intro O8
            obtain ⟨xs, hx, al⟩ := O8.lst
            refine ⟨_, rfl, ty_lst hx, _, rfl, _, rfl, _, _, rfl, rfl, _, rfl, _, rfl, _, _, rfl, rfl, Ta, many - 1, congrArg (fun z : Int => [V.ref Ta, V.int z]) (show (many : Int) - 1 = ((many - 1 : Nat) : Int) by omega), O8.tape, by omega, by omega, fun r2 d e hr2 hd he => ?_⟩
            have O9 := O8.draw t0 hd he
            have hx9 : upd H8 Ta (TapeO d e) L = some (.lst xs) := by rw [upd_ne (O8.ne t0)]; exact hx
            revert O9 hx9
            generalize upd H8 Ta (TapeO d e) = H9
            intro O9 hx9
            refine ⟨_, _, rfl, rfl, _, rfl, _, _, rfl, rfl, (show (many : Int) ≠ 0 by omega), (by show 2 ≤ sizeLine; decide), fun p hp => ?_⟩
            obtain ⟨g1, g2⟩ := mod_off hx1 hr2
            have ev : V.int (((x1 : Int) + 1 + (r2 : Int)).fmod (many : Int)) = vn ((x1 + 1 + r2) % many) := congrArg V.int (fmod_nat (a := x1 + 1 + r2))
            have s10 : Same H9 (upd H9 p (.tup [vn x1, V.int (((x1 : Int) + 1 + (r2 : Int)).fmod (many : Int))])) := same_new hp
            have O10 := O9.same s10
            refine ⟨L, xs, _, rfl, rfl, s10 _ _ hx9, ?_, ?_⟩
            · have := al.1
              exact smalls (by omega)
            refine ⟨ps' ++ [(x1, (x1 + 1 + r2) % many)], _, _, rfl, O10.more t0 (s10 _ _ hx9) (Al.snoc Al.nil ⟨p, rfl, ?_⟩), G6.app (GoodP.one hx1 g1 g2), ?_⟩
            · rw [upd_same, ev]
            · rw [List.length_append, List.length_singleton]
              omega
          · rintro σ H6 ⟨ps', z5, z6, rfl, O6, G6, hl6⟩
            exact hN _ _ ⟨L, many, ps', _, _, _, _, _, rfl, O6, G6, by omega, fun h => by omega, hm⟩
        · rw [decide_eq_false (show ¬ (1 : Int) < (many : Int) by omega)]
          exact iteF (hN _ _ ⟨L, many, ps, _, _, _, _, _, rfl, O, G, hlen, fun h => by omega, hm⟩)
      · rw [decide_eq_false (show ¬ (way : Int) < 3 by omega)]
        exact iteF (iteF (hN _ _ ⟨L, many, ps, _, _, _, _, _, rfl, O, G, hlen, fun h => hps (Nat.zero_le _), hm⟩))
    clear j0
    rintro σ H' j
    -- way == 3
    refine seq_by (PJ Ta gb H way 4) (fun N hN => ?_) ?_
    · obtain ⟨L, many, ps, z5, z6, z7, z8, z9, rfl, O, G, hlen, hps, hm⟩ := j
      have jj : PJ Ta gb H way 3 [some (.ref Ta), some (.bl gb), some (vn way), some (vn many), some (.ref L), z5, z6, z7, z8, z9] H' := ⟨L, many, ps, _, _, _, _, _, rfl, O, G, hlen, hps, hm⟩
      refine ⟨_, rfl, rfl, _, rfl, ?_⟩
      rw [show decide (V.int (way : Int) = V.int 3) = decide (way = 3) from dec_eqN]
      by_cases hw : way = 3
      · rw [decide_eq_true hw]
        refine iteT ⟨_, rfl, _, _, rfl, rfl, _, rfl, ?_⟩
        by_cases h1 : 2 < many
        · rw [decide_eq_true (show (2 : Int) < (many : Int) by omega)]
          refine iteT ⟨_, rfl, many, rfl, by omega, by omega, fun D hD => ?_⟩
          refine lc_rel (n := ((many : Nat) : Int).toNat) walk_range (by omega) hD (fun _ _ => trivial) (fun _ => true) (fun i H v => TieR H v (i, (i + 1) % many)) (fun i Ha Hb v s w => w.mono s) ?_ ?_
          · rintro i x H6 H7 acc hi s6 d6 ⟨rfl, ex⟩ Good Skip hg hs
            obtain rfl := rgN ex
            refine ⟨rfl, _, rfl, _, rfl, _, _, rfl, rfl, _, rfl, _, _, rfl, rfl, (show (many : Int) ≠ 0 by omega), (by show 2 ≤ sizeLine; decide), fun p hp => hg rfl _ _ (same_new hp) ⟨p, rfl, ?_⟩⟩
            have npD : p ≠ D := (ne_of_none d6 hp).symm
            rw [del_ne npD, upd_same]
            exact congrArg (fun z => some (HO.tup [vn i, V.int z])) (fmod_nat (a := i + 1))
          · intro H6 ys s6 d6 al
            rw [filter_all, Int.toNat_natCast] at al
            have O6 := O.same s6
            refine ⟨_, rfl, _, rfl, _, _, rfl, rfl, Ta, many - 1, congrArg (fun z : Int => [V.ref Ta, V.int z]) (show (many : Int) - 1 = ((many - 1 : Nat) : Int) by omega), O6.tape, by omega, by omega, fun r d e hr hd he => ?_⟩
            have t7 : TapeR (upd H6 Ta (TapeO d e)) Ta := .upd hd he
            have k7 : KeepT Ta H (upd H6 Ta (TapeO d e)) := O6.keep.tape
            have nDT : D ≠ Ta := O.tape.ne hD
            have d7 : upd H6 Ta (TapeO d e) D = some (.lst ys) := by rw [upd_ne nDT]; exact d6
            have al7 : Al (fun v i => TieR (upd H6 Ta (TapeO d e)) v (i, (i + 1) % many)) ys (List.range many) := al.mono fun v i r => r.tape O6.tape
            generalize upd H6 Ta (TapeO d e) = H7 at t7 k7 d7 al7
            refine ⟨_, _, rfl, rfl, (by show 2 ≤ sizeLine; decide), fun p hp => ⟨by show 1 ≤ sizeLine; decide, fun l hl => ?_⟩⟩
            have s8 : Same H7 (upd H7 p (.tup [V.int 0, V.int ((r : Int) + 1)])) := same_new hp
            have s9 := s8.trans (same_new (o := .lst [.ref p]) hl)
            refine ⟨D, l, _, _, rfl, rfl, s9 _ _ d7, upd_same, ?_, fun w' hw' => hN _ _ ?_⟩
            · rw [al7.1, List.length_range]
              exact small (by show many + 1 ≤ 100000; omega)
            have al9 : Al (TieR (upd (upd H7 p (.tup [V.int 0, V.int ((r : Int) + 1)])) l (.lst [.ref p]))) (ys ++ [.ref p]) ((List.range many).map (fun i => (i, (i + 1) % many)) ++ [(0, r + 1)]) := by
              refine Al.snoc ⟨by rw [al7.1, List.length_map], fun i v x e1 e2 => ?_⟩ ⟨p, rfl, (same_new hl) _ _ upd_same⟩
              rw [List.getElem?_map] at e2
              obtain ⟨j, ej, rfl⟩ := Option.map_eq_some_iff.mp e2
              exact (al7.2 i v j e1 ej).mono s9
            refine ⟨w', many, _, z5, z6, _, z8, z9, rfl, PO.fresh (k7.trans (.of s9)) (t7.mono s9) hw' al9, ?_, ?_, fun h => by omega, hm⟩
            · refine GoodP.app (fun t ht => ?_) (GoodP.one (by omega) (by omega) (by omega))
              obtain ⟨i, hi, rfl⟩ := List.mem_map.mp ht
              have hi := List.mem_range.mp hi
              obtain ⟨g1, g2⟩ := mod_off (r := 0) hi (by omega)
              exact ⟨hi, g1, g2⟩
            · rw [List.length_append, List.length_map, List.length_range, List.length_singleton]
              omega
        · rw [decide_eq_false (show ¬ (2 : Int) < (many : Int) by omega)]
          exact iteF (hN _ _ jj.up)
      · rw [decide_eq_false hw]
        exact iteF (iteF (hN _ _ jj.up))
    clear j
    rintro σ H' j
    -- way == 4
    refine seq_by (PJ Ta gb H way 5) (fun N hN => ?_) ?_
    · obtain ⟨L, many, ps, z5, z6, z7, z8, z9, rfl, O, G, hlen, hps, hm⟩ := j
      have jj : PJ Ta gb H way 4 [some (.ref Ta), some (.bl gb), some (vn way), some (vn many), some (.ref L), z5, z6, z7, z8, z9] H' := ⟨L, many, ps, _, _, _, _, _, rfl, O, G, hlen, hps, hm⟩
      refine ⟨_, rfl, rfl, _, rfl, ?_⟩
      rw [show decide (V.int (way : Int) = V.int 4) = decide (way = 4) from dec_eqN]
      by_cases hw : way = 4
      · rw [decide_eq_true hw]
        refine iteT ⟨_, rfl, _, _, rfl, rfl, _, rfl, ?_⟩
        by_cases h1 : 1 < many
        · rw [decide_eq_true (show (1 : Int) < (many : Int) by omega)]
          refine iteT ⟨_, rfl, 1, many, rfl, ⟨by decide, by decide, by omega, by omega⟩, fun D hD => ?_⟩
          refine lc_rel (n := ((many : Nat) - 1 : Int).toNat) walk_range (by omega) hD (fun _ _ => trivial) (fun _ => true) (fun i H v => TieR H v (0, i + 1)) (fun i Ha Hb v s w => w.mono s) ?_ ?_
          · rintro i x H6 H7 acc hi s6 d6 ⟨rfl, ex⟩ Good Skip hg hs
            obtain rfl : x = vn (i + 1) := by
              rw [ex]
              exact congrArg V.int (show (1 : Int) + (i : Int) = ((i + 1 : Nat) : Int) by omega)
            refine ⟨rfl, _, rfl, (by show 2 ≤ sizeLine; decide), fun p hp => hg rfl _ _ (same_new hp) ⟨p, rfl, ?_⟩⟩
            have npD : p ≠ D := (ne_of_none d6 hp).symm
            rw [del_ne npD, upd_same]
            rfl
          · intro H6 ys s6 d6 al
            rw [filter_all] at al
            have O6 := O.same s6
            have hl : ((many : Nat) - 1 : Int).toNat = many - 1 := by omega
            rw [hl] at al
            refine hN _ _ ⟨D, many, (List.range (many - 1)).map fun i => (0, i + 1), z5, z6, _, z8, z9, rfl, ⟨O6.keep, O6.tape, O.keep.free hD (O.tape.ne hD), ys, d6, ⟨by rw [al.1, List.length_map], fun i v x e1 e2 => ?_⟩⟩, fun t ht => ?_, ?_, fun h => by omega, hm⟩
            · rw [List.getElem?_map] at e2
              obtain ⟨j, ej, rfl⟩ := Option.map_eq_some_iff.mp e2
              exact al.2 i v j e1 ej
            · obtain ⟨i, hi, rfl⟩ := List.mem_map.mp ht
              have hi := List.mem_range.mp hi
              exact ⟨by show 0 < many; omega, by show i + 1 < many; omega, by show 0 ≠ i + 1; omega⟩
            · rw [List.length_map, List.length_range]
              omega
        · rw [decide_eq_false (show ¬ (1 : Int) < (many : Int) by omega)]
          exact iteF (hN _ _ jj.up)
      · rw [decide_eq_false hw]
        exact iteF (iteF (hN _ _ jj.up))
    clear j
    rintro σ H' j
    -- way == 5
    refine seq_by (PJ Ta gb H way 6) (fun N hN => ?_) ?_
    · obtain ⟨L, many, ps, z5, z6, z7, z8, z9, rfl, O, G, hlen, hps, hm⟩ := j
      have jj : PJ Ta gb H way 5 [some (.ref Ta), some (.bl gb), some (vn way), some (vn many), some (.ref L), z5, z6, z7, z8, z9] H' := ⟨L, many, ps, _, _, _, _, _, rfl, O, G, hlen, hps, hm⟩
      refine ⟨_, rfl, rfl, _, rfl, ?_⟩
      rw [show decide (V.int (way : Int) = V.int 5) = decide (way = 5) from dec_eqN]
      by_cases hw : way = 5
      · rw [decide_eq_true hw]
        refine iteT ⟨_, rfl, _, rfl, .inr ⟨gb, rfl, _, _, rfl, rfl, _, _, rfl, ?_⟩⟩
        obtain ⟨m5, hm5, em5⟩ : ∃ m5 : Nat, m5 ≤ 6 ∧ (if (5 + (if gb = true then 1 else 0) : Int) < (many : Int) then (5 + (if gb = true then 1 else 0) : Int) else (many : Int)) = (m5 : Int) := by
          cases gb
          · by_cases h : (5 + 0 : Int) < (many : Int)
            · exact ⟨5, by omega, by rw [if_neg Bool.false_ne_true, if_pos h]; rfl⟩
            · exact ⟨many, by omega, by rw [if_neg Bool.false_ne_true, if_neg h]⟩
          · by_cases h : (5 + 1 : Int) < (many : Int)
            · exact ⟨6, by omega, by rw [if_pos rfl, if_pos h]; rfl⟩
            · exact ⟨many, by omega, by rw [if_pos rfl, if_neg h]⟩
        rw [em5]
        refine ⟨_, rfl, m5, rfl, by omega, by omega, ?_⟩
        refine for_it (n := ((m5 : Nat) : Int).toNat) walk_range (fun i σ H6 => ∃ ps' z7 z9, σ = [some (.ref Ta), some (.bl gb), some (vn way), some (vn m5), some (.ref L), z5, z6, z7, z8, z9] ∧ PO Ta H H6 L ps' ∧ GoodP m5 ps' ∧ ps'.length ≤ 5 * i) ⟨ps, _, _, rfl, O, by rw [hps (by omega)]; exact GoodP.nil, by rw [hps (by omega)]; exact Nat.le_refl _⟩ (fun _ _ _ _ _ => trivial) ?_ ?_
        · rintro i x σ H6 H7 hi ⟨ps', z7, z9, rfl, O6, G6, hl6⟩ ⟨rfl, ex⟩
          obtain rfl := rgN ex
          obtain ⟨xs, hx, al⟩ := O6.lst
          have hi5 : i < m5 := by omega
          refine ⟨_, rfl, ty_lst hx, _, rfl, i, rfl, by omega, by omega, fun D hD => ?_⟩
          refine lc_rel (n := ((i : Nat) : Int).toNat) walk_range (by omega) hD (fun _ _ => trivial) (fun _ => true) (fun j H v => TieR H v (j, i)) (fun j Ha Hb v s w => w.mono s) ?_ ?_
          · rintro j x H8 H9 acc hj s8 d8 ⟨rfl, ex⟩ Good Skip hg hs
            obtain rfl := rgN ex
            refine ⟨rfl, _, rfl, _, rfl, (by show 2 ≤ sizeLine; decide), fun p hp => hg rfl _ _ (same_new hp) ⟨p, rfl, ?_⟩⟩
            have npD : p ≠ D := (ne_of_none d8 hp).symm
            rw [del_ne npD, upd_same]
          · intro H8 ys s8 d8 al8
            rw [filter_all, Int.toNat_natCast] at al8
            have O8 := O6.same s8
            have al9 : Al (TieR H8) ys ((List.range i).map fun j => (j, i)) := ⟨by rw [al8.1, List.length_map], fun a v x e1 e2 => by
              rw [List.getElem?_map] at e2
              obtain ⟨j, ej, rfl⟩ := Option.map_eq_some_iff.mp e2
              exact al8.2 a v j e1 ej⟩
            refine ⟨L, D, xs, ys, rfl, rfl, s8 _ _ hx, d8, ?_, ?_⟩
            · rw [al.1, al8.1, List.length_range]
              exact small (by omega)
            refine ⟨ps' ++ (List.range i).map fun j => (j, i), _, _, rfl, O8.more t0 (s8 _ _ hx) al9, G6.app fun t ht => ?_, ?_⟩
            · obtain ⟨j, hj, rfl⟩ := List.mem_map.mp ht
              have hj := List.mem_range.mp hj
              exact ⟨by show j < m5; omega, by show i < m5; omega, by show j ≠ i; omega⟩
            · rw [List.length_append, List.length_map, List.length_range]
              omega
        · rintro σ H6 ⟨ps', z7, z9, rfl, O6, G6, hl6⟩
          exact hN _ _ ⟨L, m5, ps', _, _, _, _, _, rfl, O6, G6, by omega, fun h => by omega, by omega⟩
      · rw [decide_eq_false hw]
        exact iteF (hN _ _ jj.up)
    clear j
    rintro σ H' j
    -- way == 6
    refine seq_by (PJ Ta gb H way 7) (fun N hN => ?_) ?_
    · obtain ⟨L, many, ps, z5, z6, z7, z8, z9, rfl, O, G, hlen, hps, hm⟩ := j
      have jj : PJ Ta gb H way 6 [some (.ref Ta), some (.bl gb), some (vn way), some (vn many), some (.ref L), z5, z6, z7, z8, z9] H' := ⟨L, many, ps, _, _, _, _, _, rfl, O, G, hlen, hps, hm⟩
      refine ⟨_, rfl, rfl, _, rfl, ?_⟩
      rw [show decide (V.int (way : Int) = V.int 6) = decide (way = 6) from dec_eqN]
      by_cases hw : way = 6
      · rw [decide_eq_true hw]
        refine iteT ⟨_, rfl, _, _, rfl, rfl, ⟨by decide, by decide⟩, _, _, rfl, rfl, ?_⟩
        have esd : (1 + (many : Int).fdiv 2) = ((1 + many / 2 : Nat) : Int) := by
          rw [Int.fdiv_eq_ediv_of_nonneg _ (by decide)]
          omega
        refine ⟨_, rfl, ((1 + many / 2 : Nat) : Int), congrArg (fun z : Int => [V.int z]) esd, by omega, by omega, ?_⟩
        have esv : V.int (1 + (many : Int).fdiv 2) = vn (1 + many / 2) := congrArg V.int esd
        have hsd : 1 + many / 2 ≤ 7 := by omega
        have hms : many - (1 + many / 2) ≤ 5 := by omega
        generalize 1 + many / 2 = sd at esv hsd esd hms
        refine for_it (n := ((sd : Nat) : Int).toNat) walk_range (fun i σ H6 => ∃ ps' z7 z9, σ = [some (.ref Ta), some (.bl gb), some (vn way), some (vn many), some (.ref L), z5, z6, z7, some (vn sd), z9] ∧ PO Ta H H6 L ps' ∧ GoodP many ps' ∧ ps'.length ≤ 5 * i) ⟨ps, z7, z9, ?_, O, G, by rw [hps (by omega)]; exact Nat.le_refl _⟩ (fun _ _ _ _ _ => trivial) ?_ ?_
        · rw [← esv]
          rfl
        · rintro i x σ H6 H7 hi ⟨ps', z7, z9, rfl, O6, G6, hl6⟩ ⟨rfl, ex⟩
          obtain rfl := rgN ex
          obtain ⟨xs, hx, al⟩ := O6.lst
          have his : i < sd := by omega
          have nLT := O6.ne t0
          refine ⟨_, rfl, ty_lst hx, _, rfl, _, rfl, sd, many, rfl, ⟨by omega, by omega, by omega, by omega⟩, fun D hD => ?_⟩
          have nDT := O6.tape.ne hD
          have nDL : L ≠ D := ne_of_none hx hD
          refine lc_it (n := ((many : Int) - (sd : Int)).toNat) walk_range (fun j H8 => PO Ta H H8 L ps' ∧ H8 L = some (.lst xs) ∧ ∃ ys qs, H8 D = some (.lst ys) ∧ Al (TieR H8) ys qs ∧ qs.length ≤ j ∧ GoodP many qs) ⟨O6.same (same_new hD), (same_new hD) _ _ hx, [], [], upd_same, Al.nil, Nat.le_refl _, GoodP.nil⟩ (fun _ _ _ _ => trivial) ?_ ?_
          · rintro j x H8 H9 hj ⟨O8, hx8, ys, qs, d8, al8, hq8, G8⟩ ⟨rfl, ex⟩
            obtain rfl : x = vn (sd + j) := by
              rw [ex]
              exact congrArg V.int (show (sd : Int) + (j : Int) = ((sd + j : Nat) : Int) by omega)
            refine ⟨rfl, _, rfl, Ta, 3, rfl, O8.tape, by decide, by decide, fun r d e hr hd he => ?_⟩
            have O9 := O8.draw t0 hd he
            have hx9 : upd H9 Ta (TapeO d e) L = some (.lst xs) := by rw [upd_ne nLT]; exact hx8
            have d9 : upd H9 Ta (TapeO d e) D = some (.lst ys) := by rw [upd_ne nDT]; exact d8
            have al9 : Al (TieR (upd H9 Ta (TapeO d e))) ys qs := al8.mono fun _ _ r => r.tape O8.tape
            generalize upd H9 Ta (TapeO d e) = H10 at O9 hx9 d9 al9
            refine ⟨_, _, rfl, rfl, _, rfl, ?_⟩
            by_cases hr0 : 0 < r
            · rw [decide_eq_true (show (0 : Int) < (r : Int) by omega)]
              refine iteT ⟨_, rfl, _, rfl, (by show 2 ≤ sizeLine; decide), fun p hp => ?_⟩
              have s11 : Same H10 (upd H10 p (.tup [vn i, vn (sd + j)])) := same_new hp
              have hq := al9.1
              refine ⟨ys, s11 _ _ d9, smalls (by omega), ?_⟩
              have O11 := O9.same s11
              have nHD : H D = none := O6.keep.free hD nDT
              refine ⟨⟨O11.keep.mut nHD, ?_, O11.new, xs, by rw [upd_ne nDL]; exact s11 _ _ hx9, ?_⟩, by rw [upd_ne nDL]; exact s11 _ _ hx9, ys ++ [.ref p], qs ++ [(i, sd + j)], upd_same, ?_, by rw [List.length_append, List.length_singleton]; omega, G8.app (GoodP.one (by omega) (by omega) (by omega))⟩
              · obtain ⟨d', e', a', b'⟩ := O11.tape.at_
                exact ⟨d', e', by rw [upd_ne nDT.symm]; exact a', b'⟩
              · obtain ⟨xs', a', b'⟩ := O11.lst
                rw [s11 _ _ hx9] at a'
                cases a'
                exact b'.mono fun _ _ r => r.lst (s11 _ _ d9)
              · exact ((al9.mono fun _ _ r => r.mono s11).snoc ⟨p, rfl, upd_same⟩).mono fun _ _ r => r.lst (s11 _ _ d9)
            · rw [decide_eq_false (show ¬ (0 : Int) < (r : Int) by omega)]
              exact iteF ⟨O9, hx9, ys, qs, d9, al9, by omega, G8⟩
          · rintro H8 ⟨O8, hx8, ys, qs, d8, al8, hq8, G8⟩
            refine ⟨L, D, xs, ys, rfl, rfl, hx8, d8, ?_, ?_⟩
            · have h1 := al.1
              have h2 := al8.1
              exact small (by omega)
            refine ⟨ps' ++ qs, _, _, rfl, O8.more t0 hx8 al8, G6.app G8, ?_⟩
            rw [List.length_append]
            omega
        · rintro σ H6 ⟨ps', z7, z9, rfl, O6, G6, hl6⟩
          exact hN _ _ ⟨L, many, ps', _, _, _, _, _, rfl, O6, G6, by omega, fun h => by omega, hm⟩
      · rw [decide_eq_false hw]
        exact iteF (hN _ _ jj.up)
    clear j
    rintro σ H' j
    -- way == 7
    refine seq_by (PJ Ta gb H way 8) (fun N hN => ?_) ?_
    · obtain ⟨L, many, ps, z5, z6, z7, z8, z9, rfl, O, G, hlen, hps, hm⟩ := j
      have jj : PJ Ta gb H way 7 [some (.ref Ta), some (.bl gb), some (vn way), some (vn many), some (.ref L), z5, z6, z7, z8, z9] H' := ⟨L, many, ps, _, _, _, _, _, rfl, O, G, hlen, hps, hm⟩
      refine ⟨_, rfl, rfl, _, rfl, ?_⟩
      rw [show decide (V.int (way : Int) = V.int 7) = decide (way = 7) from dec_eqN]
      by_cases hw : way = 7
      · rw [decide_eq_true hw]
        refine iteT ⟨_, rfl, _, _, rfl, rfl, ⟨by decide, by decide⟩, _, _, rfl, rfl, ?_⟩
        have esd : (3 + (many : Int).fdiv 3) = ((3 + many / 3 : Nat) : Int) := by
          rw [Int.fdiv_eq_ediv_of_nonneg _ (by decide)]
          omega
        have esv : V.int (3 + (many : Int).fdiv 3) = vn (3 + many / 3) := congrArg V.int esd
        have h3 : 3 ≤ 3 + many / 3 ∧ 3 + many / 3 ≤ 12 := by omega
        generalize 3 + many / 3 = m7 at esv h3 esd
        refine ⟨3, rfl, by decide, by decide, ?_⟩
        refine for_it (n := (3 : Int).toNat) walk_range (fun i σ H6 => ∃ ps' z7, σ = [some (.ref Ta), some (.bl gb), some (vn way), some (vn m7), some (.ref L), z5, z6, z7, z8, z9] ∧ PO Ta H H6 L ps' ∧ GoodP m7 ps' ∧ ps'.length ≤ 3 * i) ⟨ps, z7, ?_, O, by rw [hps (by omega)]; exact GoodP.nil, by rw [hps (by omega)]; exact Nat.le_refl _⟩ (fun _ _ _ _ _ => trivial) ?_ ?_
        · rw [← esv]
          rfl
        · rintro i x σ H6 H7 hi ⟨ps', z7, rfl, O6, G6, hl6⟩ ⟨rfl, ex⟩
          obtain rfl := rgN ex
          obtain ⟨xs, hx, al⟩ := O6.lst
          have hi3 : i < 3 := hi
          refine ⟨_, rfl, ty_lst hx, _, rfl, _, rfl, _, _, rfl, rfl, _, _, rfl, rfl, (show (3 : Int) ≠ 0 by decide), (by show 2 ≤ sizeLine; decide), fun p hp => ⟨by show 1 ≤ sizeLine; decide, fun l hl => ?_⟩⟩
          have s8 : Same H7 (upd H7 p (.tup [vn i, V.int (((i : Int) + 1).fmod 3)])) := same_new hp
          have s9 := s8.trans (same_new (o := .lst [.ref p]) hl)
          have O9 := O6.same s9
          have p9 : TieR (upd (upd H7 p (.tup [vn i, V.int (((i : Int) + 1).fmod 3)])) l (.lst [.ref p])) (.ref p) (i, (i + 1) % 3) := ⟨p, rfl, by
            rw [(same_new hl) _ _ upd_same]
            exact congrArg (fun z => some (HO.tup [vn i, V.int z])) (fmod_nat (a := i + 1) (n := 3))⟩
          have l9 : upd (upd H7 p (.tup [vn i, V.int (((i : Int) + 1).fmod 3)])) l (.lst [.ref p]) l = some (.lst [.ref p]) := upd_same
          have hx9 := s9 _ _ hx
          have nlT : l ≠ Ta := (O6.same s8).tape.ne hl
          generalize upd (upd H7 p (.tup [vn i, V.int (((i : Int) + 1).fmod 3)])) l (.lst [.ref p]) = H9 at O9 p9 l9 hx9
          refine ⟨_, rfl, Ta, 3, rfl, O9.tape, by decide, by decide, fun r d e hr hd he => ⟨_, _, rfl, rfl, ?_⟩⟩
          have O10 := O9.draw t0 hd he
          have hx10 : upd H9 Ta (TapeO d e) L = some (.lst xs) := by rw [upd_ne (O9.ne t0)]; exact hx9
          have l10 : upd H9 Ta (TapeO d e) l = some (.lst [.ref p]) := by rw [upd_ne nlT]; exact l9
          have p10 := p9.tape O9.tape (o := TapeO d e)
          generalize upd H9 Ta (TapeO d e) = H10 at O10 hx10 l10 p10
          have e1r : (1 + (r : Int)).toNat = 1 + r := by omega
          refine ⟨l, _, [.ref p], rfl, rfl, l10, by omega, by omega, ?_, fun w' hw' => ?_⟩
          · rw [e1r]
            exact small (by show 1 * (1 + r) ≤ 100000; omega)
          rw [e1r]
          have s11 : Same H10 (upd H10 w' (.lst (List.replicate (1 + r) [V.ref p]).flatten)) := same_new hw'
          have O11 := O10.same s11
          have hfl : (List.replicate (1 + r) [V.ref p]).flatten = List.replicate (1 + r) (V.ref p) := by
            clear O11 s11 hw'
            induction (1 + r) with
            | zero => rfl
            | succ n ih =>
              rw [List.replicate_succ, List.flatten_cons, ih, List.replicate_succ]
              rfl
          refine ⟨L, w', xs, _, rfl, rfl, s11 _ _ hx10, upd_same, ?_, ?_⟩
          · rw [hfl, List.length_replicate, al.1]
            exact small (by omega)
          have al11 : Al (TieR (upd H10 w' (.lst (List.replicate (1 + r) [V.ref p]).flatten))) (List.replicate (1 + r) [V.ref p]).flatten (List.replicate (1 + r) (i, (i + 1) % 3)) := by
            rw [hfl]
            refine ⟨by rw [List.length_replicate, List.length_replicate], fun a v x e1 e2 => ?_⟩
            rw [List.getElem?_replicate] at e1 e2
            split at e1
            · rw [if_pos (by assumption)] at e2
              cases e1
              cases e2
              rw [← hfl]
              exact p10.mono s11
            · cases e1
          refine ⟨ps' ++ List.replicate (1 + r) (i, (i + 1) % 3), _, rfl, O11.more t0 (s11 _ _ hx10) al11, G6.app fun t ht => ?_, ?_⟩
          · rw [List.eq_of_mem_replicate ht]
            exact ⟨by show i < m7; omega, by show (i + 1) % 3 < m7; omega, by show i ≠ (i + 1) % 3; omega⟩
          · rw [List.length_append, List.length_replicate]
            omega
        · rintro σ H6 ⟨ps', z7, rfl, O6, G6, hl6⟩
          have hl9 : ps'.length ≤ 3 * 3 := hl6
          exact hN _ _ ⟨L, m7, ps', _, _, _, _, _, rfl, O6, G6, by omega, fun h => by omega, h3.2⟩
      · rw [decide_eq_false hw]
        exact iteF (hN _ _ jj.up)
    clear j
    rintro σ H' ⟨L, many, ps, z5, z6, z7, z8, z9, rfl, O, G, hlen, hps, hm⟩
    refine ⟨_, rfl, _, rfl, (by show 2 ≤ sizeLine; decide), fun p hp => ?_⟩
    exact q _ p L many ps (O.same (same_new hp)) upd_same G hlen hm
end
end Hu
end

/-! ## Wx9 -/
section
set_option maxHeartbeats 4000000
set_option autoImplicit true
namespace Hu
open PySem PySem.Spec PyProof.Rows L2
local macro_rules | `(tactic| walk_at "len") => `(tactic| (intro h; first
  | (obtain ⟨_, e, _⟩ := h; cases e; rfl)
  | (obtain ⟨_, _, e, _⟩ := h; cases e; rfl)
  | (obtain ⟨_, _, _, e, _⟩ := h; cases e; rfl)
  | (obtain ⟨_, _, _, _, e, _⟩ := h; cases e; rfl)
  | (obtain ⟨_, _, _, _, _, e, _⟩ := h; cases e; rfl)
  | (obtain ⟨_, _, _, _, _, _, e, _⟩ := h; cases e; rfl)
  | (obtain ⟨_, _, _, _, _, _, _, e, _⟩ := h; cases e; rfl)
  | (obtain ⟨_, _, _, _, _, _, _, _, e, _⟩ := h; cases e; rfl)
  | (obtain ⟨_, _, _, _, _, _, _, _, _, e, _⟩ := h; cases e; rfl)
  | (obtain ⟨_, _, _, _, _, _, _, _, _, _, e, _⟩ := h; cases e; rfl)
  | (obtain ⟨_, _, _, _, _, _, _, _, _, _, _, e, _⟩ := h; cases e; rfl)
  | (obtain ⟨_, _, _, _, _, _, _, _, _, _, _, _, e, _⟩ := h; cases e; rfl)
  | (obtain ⟨_, _, _, _, _, _, _, _, _, _, _, _, _, e, _⟩ := h; cases e; rfl)
  | (obtain ⟨_, _, _, _, _, _, _, _, _, _, _, _, _, _, e, _⟩ := h; cases e; rfl)
  | (obtain ⟨_, _, _, _, _, _, _, _, _, _, _, _, _, _, _, e, _⟩ := h; cases e; rfl)
  | (obtain ⟨_, _, _, _, _, _, _, _, _, _, _, _, _, _, _, _, e, _⟩ := h; cases e; rfl)
  | (obtain ⟨_, _, _, _, _, _, _, _, _, _, _, _, _, _, _, _, _, e, _⟩ := h; cases e; rfl)
  | (obtain ⟨_, _, _, _, _, _, _, _, _, _, _, _, _, _, _, _, _, _, e, _⟩ := h; cases e; rfl)))
section
variable {P : Program} {w : World} {K : PySem.W.Frag} {mg : Str → Option Value} {base : Heap}
/-! ### least_changed -/
abbrev N_least_changed : List Str := ["web", "hueing", "hues", "changing", "many", "tree", "number", "whole", "further", "hue"]
theorem sc_least_changed : FnScope N_least_changed ["web", "hueing", "hues"] (defScope s_least_changed) := ⟨rfl, rfl, rfl, by decide +kernel, rfl, by decide +kernel, by decide +kernel⟩
def sp_least_changed (K : PySem.W.Frag) : Sp := fun vs H Q _ => ∃ (v hv : V) (m k : Nat) (ts : List Tie) (h G : Hue), vs = [v, hv, vn k] ∧ WebR H v m ts ∧ HueR H hv h ∧ WebOk m ts ∧ h.length = ts.length ∧ ts.length ≤ 30 ∧ k ≤ 1000 ∧ Proper ts G ∧ Full G ∧ Below G k ∧ Tab K H ∧
  ∀ H' p n w t, ExtN H H' → Tab K H' → H' p = some (.tup [.str "least", vn n, w, t]) → n ≤ diffN h G ts.length → Q (.ref p) H'
theorem diff_le {h G : Hue} {n : Nat} : diffN h G n ≤ ((List.range n).filter fun i => (hu h i).isSome).length := by
  unfold diffN
  refine filter_len_le fun i _ e => ?_
  exact (Bool.and_eq_true_iff.mp e).1
theorem hu_repN {n t : Nat} : hu (List.replicate n none) t = none := by
  unfold hu
  rw [List.getD_eq_getElem?_getD, List.getElem?_replicate]
  split <;> rfl
theorem rgB {a : Addr} {i : Nat} : [V.ref a, V.int ((0 : Int) + (i : Int) + 1)] = [V.ref a, vn (i + 1)] := by
  rw [Int.zero_add]
  rfl
theorem rgC {i : Nat} : V.int ((0 : Int) + (i : Int)) = vn i := by rw [Int.zero_add]
theorem ok_least_changed (T : Tx P w K mg base) : Has P w K mg base 106 ("least_changed", none) ["web", "hueing", "hues"] (sp_least_changed K) := by
  obtain ⟨fd_Changing_init, G_Changing_init, b_Changing_init, k_Changing_init⟩ := ok_Changing_init (P := P) (w := w) (base := base) T
  obtain ⟨fd_Changing_looked, G_Changing_looked, b_Changing_looked, k_Changing_looked⟩ := ok_Changing_looked (P := P) (w := w) (base := base) T
  refine mkHas T 72 (d := d_least_changed) rfl sc_least_changed rfl rfl (fun us hl => match us, hl with | [_, _, _], _ => fun _ _ _ _ _ _ => rfl) (fun vs H Q E => ?_) (fun cdv A outer s H vs Q E hr h => ?_)
  · walk_at "len"
  · have hU := hu_of hr
    refine ⟨_, PSs.nox (pss_cons (ps_set (i := 3) sc_least_changed.nd rfl (Or.inl rfl) (pe_make T.mk_Changing G_Changing_init (hr.mono (by decide)) rfl T.g_Changing b_Changing_init .nil pass0 (pa_cons (pv 0) (pa_cons (pv 1) (pa_cons (pv 2) pa_nil)))))
    (pss_cons (ps_set (i := 4) sc_least_changed.nd rfl (Or.inl rfl) (pe_callB call_len_seq (by rfl) T.b_len (by decide +kernel) (pa_cons (pe_lc (own := [("hue", 9)]) rfl sc_least_changed.nd (pi_list (pv 1)) (blkOk_by (N := N_least_changed) (sc := defScope s_least_changed) (by decide +kernel)) (fun _ _ _ _ _ => by exact (pg_name (i := 9) sc_least_changed.nd rfl (Or.inl rfl))) (fun _ _ _ _ _ => by exact (pts_one (pt_cmpR op_notN (pv 9) pe_non (nomark _)))) (fun _ _ _ _ _ => by exact (pv 9))) pa_nil)))
    (pss_cons (ps_set (i := 5) sc_least_changed.nd rfl (Or.inl rfl) (pe_glob (v := .ref (He.ga K "DEAR")) rfl T.g_DEAR rfl))
    (pss_cons (ps_for PassesOwn.never rfl (pi_range1 rfl T.b_range (pa_cons (pe_op op_add (pv 4) pe_int) pa_nil)) (pg_name (i := 6) sc_least_changed.nd rfl (Or.inl rfl))
      (pss_cons (ps_asg (pe_meth (pv 3) T.c_Changing T.m_Changing_looked G_Changing_looked (hr.mono (by decide)) b_Changing_looked .nil pass0 (pa_cons (pe_op op_add (pv 6) pe_int) pa_nil)) (pg_tup rfl (pgs_cons (pg_name (i := 7) sc_least_changed.nd rfl (Or.inl rfl)) (pgs_cons (pg_name (i := 8) sc_least_changed.nd rfl (Or.inl rfl)) pgs_nil))))
      (pss_cons (ps_if (pt_cmpR op_notN (pv 7) pe_non (nomark _)) (pss_one (ps_ret (pe_tup (pa_cons pe_str (pa_cons (pv 6) (pa_cons (pv 7) (pa_cons (pv 5) pa_nil))))))) pss_nil)
      (pss_one (ps_set (i := 5) sc_least_changed.nd rfl (Or.inl rfl) (pv 8))))))
    (pss_one (ps_ret (pe_tup (pa_cons pe_str (pa_cons (pv 5) pa_nil))))))))), ?_⟩
    obtain ⟨v, hv, m, k, ts, hh, G, rfl, WR, HR, WO, hl, hz, hk, Pr, Fl, Bl, tb, q⟩ := h
    refine ⟨_, rfl, _, rfl, _, rfl, fun x dx hx hdx hne => ?_⟩
    have sA : Same H (upd (upd H dx (.own x)) x (.ins (He.ga K "Changing") dx [])) := (same_new hdx).trans (same_new (by rw [upd_ne hne.symm]; exact hx))
    refine ⟨x, dx, v, hv, m, k, ts, hh, H, rfl, upd_same, sA, hx, WR, HR, WO, hz, fun H1 W near s1 C1 N => ⟨rfl, ?_⟩⟩
    obtain ⟨hp, rfl, hhp⟩ := HR.mono s1
    refine ⟨_, rfl, hp, rfl, ⟨_, .of hhp⟩, fun D hD => ?_⟩
    refine lc_val (n := (hh.map vo).length) walk_list (by rw [List.length_map]; omega) hD (fun H2 s2 => .of (s2 _ _ hhp)) (fun i => (hu hh i).isSome) (fun i => vo (hu hh i)) ?_ ?_
    · rintro i y H2 H3 acc hi s2 d2 ⟨rfl, e⟩ Good Skip hg hs
      rw [List.length_map] at hi
      have ey : y = vo (hu hh i) := by
        have := hue_get (h := hh) (i := i) hi
        rw [this] at e
        exact (Option.some.inj e).symm
      subst ey
      refine ⟨rfl, _, rfl, rfl, _, rfl, ?_⟩
      cases e2 : hu hh i with
      | none =>
        rw [e2] at hs
        exact iteF (hs rfl _ (Same.refl _))
      | some c =>
        rw [e2] at hg
        exact iteT ⟨_, rfl, hg rfl _ (Same.refl _)⟩
    intro H2 s2 d2
    rw [List.length_map] at d2
    refine ⟨D, _, rfl, .inl (.of d2), ?_⟩
    rw [List.length_map]
    have hdl := diff_le (h := hh) (G := G) (n := ts.length)
    rw [← hl] at hdl
    have hml : ((List.range hh.length).filter fun i => (hu hh i).isSome).length ≤ hh.length := range_filter_le
    generalize ((List.range hh.length).filter fun i => (hu hh i).isSome).length = many at *
    refine ⟨_, rfl, _, _, rfl, rfl, (many : Int) + 1, rfl, by omega, by omega, ?_⟩
    have C2 := C1.mono s2
    have s12 := s1.trans s2
    have hrl : (List.replicate ts.length (none : Option Nat)).length = ts.length := List.length_replicate
    have hun : unhued (List.replicate ts.length none) < 31 := by
      refine Nat.lt_of_le_of_lt range_filter_le ?_
      rw [hrl]
      omega
    have cG : Compl ts (List.replicate ts.length none) G k := ⟨Pr, Fl, Bl, fun t c e => by rw [hu_repN] at e; cases e⟩
    have ej : ((many : Int) + 1 - 0).toNat = many + 1 := by omega
    refine for_range (fun i σ H3 => ExtN H2 H3 ∧ Tab K H3 ∧ i ≤ diffN hh G ts.length ∧ ∃ (z5 : V) (z6 z7 z8 z9 : Option V), σ = [some v, some (.ref hp), some (vn k), some (.ref x), some (vn many), some z5, z6, z7, z8, z9]) ⟨LamX.ExtN.refl _, tb.mono s12, Nat.zero_le _, _, _, _, _, _, rfl⟩ ?_ ?_
    · rintro i σ H3 hi ⟨x3, tb3, hid, z5, z6, z7, z8, z9, rfl⟩
      have w3 := x3 _ _ C2.way (fun _ z => nomatch z)
      have C3 := C2.ext (way' := List.replicate ts.length none) ((ExtN.same dels_same).trans x3) w3
      obtain ⟨dx3, nv3, ov3, i3, _, _⟩ := id C3.ins
      refine ⟨_, rfl, x, dx3, _, rfl, i3, rfl, _, rfl, _, _, rfl, rfl, x, W, k, i + 1, ts, near, hh, List.replicate ts.length none, rgB, C3, N, hrl, hl, hz, hk, hun, tb3, fun H4 p a b x4 w4 tb4 hp4 ha no => ⟨p, _, rfl, .of hp4, rfl, _, _, rfl, _, _, rfl, rfl, ?_⟩⟩
      have x34 : ExtN H3 H4 := fun c o e n => by
        by_cases z : c = W
        · rw [z, w3] at e
          cases e
          rw [z]
          exact w4
        · exact ext_at x4 (fun y => z (List.mem_singleton.mp y)) e n
      refine ⟨_, rfl, rfl, _, rfl, ?_⟩
      rcases ha with rfl | ⟨r, rfl⟩
      · refine iteF ⟨_, rfl, x3.trans x34, tb4, ?_, _, _, _, _, _, rfl⟩
        by_cases y : diffN hh G ts.length < i + 1
        · exact absurd rfl (no G cG y)
        · omega
      · refine iteT ⟨_, rfl, _, rfl, _, rfl, by show 4 ≤ sizeLine; decide, fun p9 hp9 => ?_⟩
        have s9 := same_new (o := .tup [.str (Str.ofString "least"), V.int ((0 : Int) + (i : Int)), .ref r, z5]) hp9
        refine q _ p9 i (.ref r) z5 ((ExtN.same s12).trans ((x3.trans x34).trans (ExtN.same s9))) (tb4.mono s9) ?_ hid
        rw [upd_same, rgC]
    · rintro σ H3 ⟨x3, tb3, hid, z5, z6, z7, z8, z9, rfl⟩
      exfalso
      rw [hl] at hdl
      omega
end
end Hu
end

/-! ## Wx4 -/
section
set_option maxHeartbeats 4000000
set_option autoImplicit true
namespace Hu
open PySem PySem.Spec PyProof.Rows L2
local macro_rules | `(tactic| walk_at "len") => `(tactic| (intro h; first
  | (obtain ⟨_, e, _⟩ := h; cases e; rfl)
  | (obtain ⟨_, _, e, _⟩ := h; cases e; rfl)
  | (obtain ⟨_, _, _, e, _⟩ := h; cases e; rfl)
  | (obtain ⟨_, _, _, _, e, _⟩ := h; cases e; rfl)
  | (obtain ⟨_, _, _, _, _, e, _⟩ := h; cases e; rfl)
  | (obtain ⟨_, _, _, _, _, _, e, _⟩ := h; cases e; rfl)
  | (obtain ⟨_, _, _, _, _, _, _, e, _⟩ := h; cases e; rfl)
  | (obtain ⟨_, _, _, _, _, _, _, _, e, _⟩ := h; cases e; rfl)
  | (obtain ⟨_, _, _, _, _, _, _, _, _, e, _⟩ := h; cases e; rfl)
  | (obtain ⟨_, _, _, _, _, _, _, _, _, _, e, _⟩ := h; cases e; rfl)
  | (obtain ⟨_, _, _, _, _, _, _, _, _, _, _, e, _⟩ := h; cases e; rfl)
  | (obtain ⟨_, _, _, _, _, _, _, _, _, _, _, _, e, _⟩ := h; cases e; rfl)
  | (obtain ⟨_, _, _, _, _, _, _, _, _, _, _, _, _, e, _⟩ := h; cases e; rfl)
  | (obtain ⟨_, _, _, _, _, _, _, _, _, _, _, _, _, _, e, _⟩ := h; cases e; rfl)
  | (obtain ⟨_, _, _, _, _, _, _, _, _, _, _, _, _, _, _, e, _⟩ := h; cases e; rfl)
  | (obtain ⟨_, _, _, _, _, _, _, _, _, _, _, _, _, _, _, _, e, _⟩ := h; cases e; rfl)
  | (obtain ⟨_, _, _, _, _, _, _, _, _, _, _, _, _, _, _, _, _, e, _⟩ := h; cases e; rfl)
  | (obtain ⟨_, _, _, _, _, _, _, _, _, _, _, _, _, _, _, _, _, _, e, _⟩ := h; cases e; rfl)))
section
variable {P : Program} {w : World} {K : PySem.W.Frag} {mg : Str → Option Value} {base : Heap}
/-! ### _law_come_right -/
abbrev N_l_come_right : List Str := ["_law_held", "_law_pairs", "_law_pair", "_law_ahead", "_law_changes", "_law_web_here", "_law_numbers", "_law_paper", "_law_row"]
theorem sc_l_come_right : FnScope N_l_come_right ["_law_held", "_law_pairs"] (defScope s_l_come_right) := ⟨rfl, rfl, rfl, by decide +kernel, rfl, by decide +kernel, by decide +kernel⟩
abbrev tieP (t : Tie) : Tie := tieOfTwo t.1 t.2
structure CameT (K : PySem.W.Frag) (H : Hp) (o : Own) (m : Nat) (ps : List Tie) (h : Hue) : Prop where
  obj : TiedO K H o m (List.range ps.length) (ps.map tieP) h ps.length (mostAt m (ps.map tieP) + thick (ps.map tieP)) ps.length
  web : WebOk m (ps.map tieP)
  pr : Proper (ps.map tieP) h
  fl : Full h
  bl : Below h (mostAt m (ps.map tieP) + thick (ps.map tieP))
def sp_l_come_right (K : PySem.W.Frag) : Sp := fun vs H Q _ => ∃ (o : Own) (La : Addr) (m : Nat) (ps : List Tie) (xs : List V), vs = [.ref o.self, .ref La] ∧ TiedO K H o m [] [] [] 0 0 0 ∧ H La = some (.lst xs) ∧ La ∉ o.l ∧ Al (TieR H) xs ps ∧ GoodP m ps ∧ ps.length ≤ 38 ∧ m ≤ 12 ∧ Tab K H ∧
  ∀ H' h', ExtN (dels H o.l) H' → Tab K H' → CameT K H' o m ps h' → Q (.bl true) H'
theorem Keeps.at {o : Own} {H H' : Hp} {p : Addr} {x : HO} (k : Keeps o H H') (hp : p ∉ o.l) (e : H p = some x) : H' p = some x := k _ _ (by rw [dels_ne hp]; exact e)
theorem TieR.keeps {K : PySem.W.Frag} {H H' : Hp} {o : Own} {m : Nat} {ns : List Nat} {ts : List Tie} {h : Hue} {g b pl : Nat} (O : TiedO K H o m ns ts h g b pl) (k : Keeps o H H') {v : V} {t : Tie} (r : TieR H v t) : TieR H' v t := let ⟨p, x, y⟩ := r; ⟨p, x, k.at (O.notin y) y⟩
theorem CameT.start {K : PySem.W.Frag} {H : Hp} {o : Own} {m : Nat} (O : TiedO K H o m [] [] [] 0 0 0) (hm : m ≤ 1000) : CameT K H o m [] [] := by
  have e : mostAt m (([] : List Tie).map tieP) + thick (([] : List Tie).map tieP) = 0 := enough_none
  exact ⟨by rw [e]; exact O, web_none hm, ⟨rfl, fun i j p c hi => absurd hi (Nat.not_lt_zero _)⟩, fun i hi => absurd hi (Nat.not_lt_zero _), fun i c e => absurd (hu_lt e) (Nat.not_lt_zero _)⟩
theorem CameT.more {K : PySem.W.Frag} {H H' : Hp} {o : Own} {m : Nat} {ps : List Tie} {h h' : Hue} {t : Tie} (C : CameT K H o m ps h)
    (O : TiedO K H' o m (List.range ps.length ++ [ps.length]) (ps.map tieP ++ [tieOfTwo t.1 t.2]) h' (ps.length + 1) (mostAt m (ps.map tieP ++ [tieOfTwo t.1 t.2]) + thick (ps.map tieP ++ [tieOfTwo t.1 t.2])) (ps.length + 1))
    (W : WebOk m (ps.map tieP ++ [tieOfTwo t.1 t.2])) (P : Proper (ps.map tieP ++ [tieOfTwo t.1 t.2]) h') (F : Full h') (B : Below h' (mostAt m (ps.map tieP ++ [tieOfTwo t.1 t.2]) + thick (ps.map tieP ++ [tieOfTwo t.1 t.2]))) : CameT K H' o m (ps ++ [t]) h' := by
  have e1 : (ps ++ [t]).map tieP = ps.map tieP ++ [tieOfTwo t.1 t.2] := by
    rw [List.map_append]
    rfl
  have e2 : (ps ++ [t]).length = ps.length + 1 := by
    rw [List.length_append]
    rfl
  refine ⟨?_, by rw [e1]; exact W, by rw [e1]; exact P, F, by rw [e1]; exact B⟩
  rw [e1, e2, List.range_succ]
  exact O
theorem Al.takeL {α : Type} {R : V → α → Prop} {vs : List V} {xs : List α} (h : Al R vs xs) (i : Nat) : Al R (vs.take i) (xs.take i) := by
  refine ⟨by rw [List.length_take, List.length_take, h.1], fun j v x e1 e2 => ?_⟩
  rw [List.getElem?_take] at e1 e2
  split at e1
  · rw [if_pos (by assumption)] at e2
    exact h.2 j v x e1 e2
  · cases e1
theorem ok_l_come_right (T : Tx P w K mg base) : Has P w K mg base 107 ("_law_come_right", none) ["_law_held", "_law_pairs"] (sp_l_come_right K) := by
  obtain ⟨fd_Tied_come, G_Tied_come, b_Tied_come, k_Tied_come⟩ := ok_Tied_come (P := P) (w := w) (base := base) T
  obtain ⟨fd_l_hues, G_l_hues, b_l_hues, k_l_hues⟩ := ok_l_hues (P := P) (w := w) (base := base) T
  obtain ⟨fd_Tied_web_now, G_Tied_web_now, b_Tied_web_now, k_Tied_web_now⟩ := ok_Tied_web_now (P := P) (w := w) (base := base) T
  obtain ⟨fd_Tied_limit, G_Tied_limit, b_Tied_limit, k_Tied_limit⟩ := ok_Tied_limit (P := P) (w := w) (base := base) T
  obtain ⟨fd_least_changed, G_least_changed, b_least_changed, k_least_changed⟩ := ok_least_changed (P := P) (w := w) (base := base) T
  refine mkHas T 84 (d := d_l_come_right) rfl sc_l_come_right rfl rfl (fun us hl => match us, hl with | [_, _], _ => fun _ _ _ _ _ _ => rfl) (fun vs H Q E => ?_) (fun cdv A outer s H vs Q E hr h => ?_)
  · walk_at "len"
  · have hU := hu_of hr
    refine ⟨_, PSs.nox (pss_cons (ps_for PassesOwn.never rfl (pi_list (pe_slice sl_list (pv 1) po_none (po_some (pe_un un_neg pe_int)))) (pg_name (i := 2) sc_l_come_right.nd rfl (Or.inl rfl))
      (pss_one (ps_expr (pe_meth (pv 0) T.c_Tied T.m_Tied_come G_Tied_come (hr.mono (by decide)) b_Tied_come .nil pass0 (pa_cons (pe_ix ix_tup (pv 2) pe_int (fun _ _ => rfl)) (pa_cons (pe_ix ix_tup (pv 2) pe_int (fun _ _ => rfl)) pa_nil))))))
    (pss_cons (ps_set (i := 3) sc_l_come_right.nd rfl (Or.inl rfl) (pe_call G_l_hues (hr.mono (by decide)) rfl T.g_l_hues k_l_hues b_l_hues .nil pass0 (pa_cons (pv 0) pa_nil)))
    (pss_cons (ps_for PassesOwn.never rfl (pi_list (pe_slice sl_list (pv 1) (po_some (pe_un un_neg pe_int)) po_none)) (pg_name (i := 2) sc_l_come_right.nd rfl (Or.inl rfl))
      (pss_cons (ps_set (i := 4) sc_l_come_right.nd rfl (Or.inl rfl) (pe_ix ix_tup (pe_meth (pv 0) T.c_Tied T.m_Tied_come G_Tied_come (hr.mono (by decide)) b_Tied_come .nil pass0 (pa_cons (pe_ix ix_tup (pv 2) pe_int (fun _ _ => rfl)) (pa_cons (pe_ix ix_tup (pv 2) pe_int (fun _ _ => rfl)) pa_nil))) pe_int (fun _ _ => rfl)))
      (pss_cons (ps_asg (pe_meth0 (pv 0) T.c_Tied T.m_Tied_web_now G_Tied_web_now (hr.mono (by decide)) b_Tied_web_now .nil pass0) (pg_tup rfl (pgs_cons (pg_name (i := 5) sc_l_come_right.nd rfl (Or.inl rfl)) (pgs_cons (pg_name (i := 6) sc_l_come_right.nd rfl (Or.inl rfl)) pgs_nil))))
      (pss_one (ps_if (PW.pt (pw_and (pt_cmpR op_lt (pe_callB call_len_seq (by rfl) T.b_len (by decide +kernel) (pa_cons (pv 1) pa_nil)) pe_int (nomark _)) (pw_and1 (pt_cmpR op_lt (pe_meth0 (pv 0) T.c_Tied T.m_Tied_limit G_Tied_limit (hr.mono (by decide)) b_Tied_limit .nil pass0) pe_int (nomark _))))) (pss_cons (ps_set (i := 7) sc_l_come_right.nd rfl (Or.inl rfl) (pe_call G_least_changed (hr.mono (by decide)) rfl T.g_least_changed k_least_changed b_least_changed .nil pass0 (pa_cons (pv 5) (pa_cons (pe_op op_cat (pv 3) (pe_lst (pa_cons pe_non pa_nil))) (pa_cons (pe_meth0 (pv 0) T.c_Tied T.m_Tied_limit G_Tied_limit (hr.mono (by decide)) b_Tied_limit .nil pass0) pa_nil)))))
        (pss_one (ps_if (PW.pt (pw_or (pt_cmpR op_ne (pe_ix ix_tup (pv 7) pe_int (fun _ _ => rfl)) pe_str (nomark _)) (pw_or1 (pt_cmpR op_gt (pe_ix ix_tup (pv 7) pe_int (fun _ _ => rfl)) (pe_callB call_len_seq (by rfl) T.b_len (by decide +kernel) (pa_cons (pe_lc (own := [("_law_row", 8)]) rfl sc_l_come_right.nd (pi_list (pv 4)) (blkOk_by (N := N_l_come_right) (sc := defScope s_l_come_right) (by decide +kernel)) (fun _ _ _ _ _ => by exact (pg_name (i := 8) sc_l_come_right.nd rfl (Or.inl rfl))) (fun _ _ _ _ _ => by exact (pts_one (pt_cmpR op_notN (pe_ix (ix_tupK (K := K) rfl) (pv 8) pe_int (fun _ _ => rfl)) pe_non (nomark _)))) (fun _ _ _ _ _ => by exact (pv 8))) pa_nil)) (nomark _))))) (pss_one (ps_ret pe_bl)) pss_nil))) pss_nil)))))
    (pss_one (ps_ret pe_bl))))), ?_⟩
    obtain ⟨o, La, m, ps, xs, rfl, O, hLa, nLa, al, G, hlen, hm, tb, q⟩ := h
    have hxl := al.1
    have tb0 := O.tab tb
    have alD : Al (TieR (dels H o.l)) xs ps := al.mono fun _ _ r => let ⟨p, x, y⟩ := r; ⟨p, x, by rw [dels_ne (O.notin y)]; exact y⟩
    refine ⟨_, rfl, 1, rfl, _, rfl, La, xs, rfl, .of hLa, fun A hA => ?_⟩
    rw [cutV_init]
    have s0 : Same H (upd H A (.lst (xs.take (xs.length - 1)))) := same_new hA
    have nA := O.free hA
    refine ⟨A, rfl, ⟨_, .of upd_same⟩, ?_⟩
    have hAl : (xs.take (xs.length - 1)).length = xs.length - 1 := by rw [List.length_take]; omega
    refine for_list (xs := xs.take (xs.length - 1)) (fun i σ H2 => Keeps o H H2 ∧ H2 A = some (.lst (xs.take (xs.length - 1))) ∧ (∃ z, σ = [some (.ref o.self), some (.ref La), z, none, none, none, none, none, none]) ∧ ∃ h', CameT K H2 o m (ps.take i) h') ⟨.of s0, upd_same, ⟨_, rfl⟩, [], by rw [List.take_zero]; exact CameT.start (O.mono s0) (by omega)⟩ (fun i σ H2 _ h2 => .of h2.2.1) ?_ ?_
    · rintro i x σ H2 hx ⟨k2, a2, ⟨z, rfl⟩, h', C⟩
      have hil := (List.getElem?_eq_some_iff.mp hx).1
      rw [hAl] at hil
      have hx' : xs[i]? = some x := (List.getElem?_take_of_lt (show i < xs.length - 1 from hil)).symm.trans hx
      obtain ⟨t, et, p, rfl, hp⟩ := alD.getV hx'
      have hp2 := k2 _ _ hp
      obtain ⟨g1, g2, g3⟩ := G t (List.mem_of_getElem? et)
      have htl : (ps.take i).length = i := by rw [List.length_take]; omega
      refine ⟨_, rfl, o.self, o.dx, _, rfl, C.obj.ins, rfl, _, rfl, p, _, 0, _, rfl, rfl, .of hp2, rfl, _, rfl, p, _, 1, _, rfl, rfl, .of hp2, rfl, o, m, _, _, t.1, t.2, _, _, h', rfl, C.obj, C.web, C.pr, C.fl, C.bl, g1, g2, g3, by rw [List.length_range, htl]; omega, by rw [htl]; omega, fun H3 p3 St Ch h3 k3 O3 W3 P3 F3 B3 hp3 R3 => ?_⟩
      refine ⟨k2.trans k3, k3.at nA a2, ⟨_, rfl⟩, h3, ?_⟩
      rw [List.take_succ, et]
      exact C.more O3 W3 P3 F3 B3
    rintro σ H2 ⟨k2, a2, ⟨z, rfl⟩, h2, C⟩
    rw [hAl] at C
    refine ⟨_, rfl, o, m, _, _, _, _, _, h2, rfl, C.obj, fun Hd H3 hHd s3 e3 => ?_⟩
    have C3 : CameT K H3 o m (ps.take (xs.length - 1)) h2 := ⟨C.obj.mono s3, C.web, C.pr, C.fl, C.bl⟩
    have k3 := k2.trans (.of s3)
    have nHd := C.obj.free hHd
    have hLa3 := k3.at nLa hLa
    refine ⟨_, rfl, 1, rfl, _, rfl, La, xs, rfl, .of hLa3, fun B hB => ?_⟩
    rw [cutV_last]
    have s4 : Same H3 (upd H3 B (.lst (xs.drop (xs.length - 1)))) := same_new hB
    have C4 : CameT K (upd H3 B (.lst (xs.drop (xs.length - 1)))) o m (ps.take (xs.length - 1)) h2 := ⟨C3.obj.mono s4, C3.web, C3.pr, C3.fl, C3.bl⟩
    have k4 := k3.trans (.of s4)
    have e4 := s4 _ _ e3
    have b4 : upd H3 B (.lst (xs.drop (xs.length - 1))) B = some (.lst (xs.drop (xs.length - 1))) := upd_same
    have nB := C3.obj.free hB
    generalize upd H3 B (.lst (xs.drop (xs.length - 1))) = H4 at C4 k4 e4 b4
    refine ⟨B, rfl, ⟨_, .of b4⟩, ?_⟩
    cases hps : xs.length with
    | zero =>
      obtain rfl : xs = [] := List.eq_nil_of_length_eq_zero hps
      obtain rfl : ps = [] := List.eq_nil_of_length_eq_zero hxl.symm
      refine for_list (xs := ([] : List V)) (fun i σ H5 => H5 = H4 ∧ ∃ z, σ = [some (.ref o.self), some (.ref La), z, some (.ref Hd), none, none, none, none, none]) ⟨rfl, _, rfl⟩ (fun i σ H5 _ h5 => by rw [h5.1]; exact .of b4) (fun i x σ H5 hx => by simp at hx) ?_
      rintro σ H5 ⟨rfl, z, rfl⟩
      exact q _ h2 (.same k4) (tb0.mono k4) C4
    | succ n =>
      rw [hps] at C4 b4
      have hn1 : n + 1 - 1 = n := rfl
      rw [hn1] at C4 b4
      have hd1 : xs.drop n = [xs[n]'(by omega)] := by
        rw [List.drop_eq_getElem_cons (by omega), List.drop_of_length_le (by omega)]
      have hxn : xs[n]? = some (xs[n]'(by omega)) := List.getElem?_eq_getElem _
      generalize xs[n]'(by omega) = xv at hd1 hxn
      obtain ⟨t, et, p, rfl, hp⟩ := alD.getV hxn
      obtain ⟨g1, g2, g3⟩ := G t (List.mem_of_getElem? et)
      have htl : (ps.take n).length = n := by rw [List.length_take]; omega
      have eps : ps = ps.take n ++ [t] := by
        have := List.take_succ (l := ps) (i := n)
        rw [et, List.take_of_length_le (show ps.length ≤ n + 1 by omega)] at this
        exact this
      rw [hd1] at b4
      refine for_list (xs := [V.ref p]) (fun i σ H5 => ∃ z2 z4 z5 z6 z7 z8, σ = [some (.ref o.self), some (.ref La), z2, some (.ref Hd), z4, z5, z6, z7, z8] ∧ (i = 0 → H5 = H4) ∧ (i ≠ 0 → ∃ h', ExtN (dels H o.l) H5 ∧ Tab K H5 ∧ CameT K H5 o m ps h') ∧ H5 B = some (.lst [V.ref p])) ⟨_, _, _, _, _, _, rfl, fun _ => rfl, fun z => absurd rfl z, b4⟩ (fun i σ H5 _ h5 => ?_) ?_ ?_
      · obtain ⟨_, _, _, _, _, _, _, _, _, hb⟩ := h5
        exact .of hb
      · rintro i x σ H5 hx ⟨z2, z4, z5, z6, z7, z8, rfl, hz, _, hb5⟩
        have hi0 : i = 0 := by
          have := (List.getElem?_eq_some_iff.mp hx).1
          have h1 : i < 1 := this
          omega
        subst hi0
        obtain rfl : V.ref p = x := Option.some.inj hx
        obtain rfl := hz rfl
        have hp4 := k4 _ _ hp
        refine ⟨_, rfl, o.self, o.dx, _, rfl, C4.obj.ins, rfl, _, rfl, p, _, 0, _, rfl, rfl, .of hp4, rfl, _, rfl, p, _, 1, _, rfl, rfl, .of hp4, rfl, o, m, _, _, t.1, t.2, _, _, h2, rfl, C4.obj, C4.web, C4.pr, C4.fl, C4.bl, g1, g2, g3, by rw [List.length_range, htl]; omega, by rw [htl]; omega, fun H6 p6 St Ch h6 k6 O6 W6 P6 F6 B6 hp6 R6 => ?_⟩
        have C6 : CameT K H6 o m ps h6 := by
          have := C4.more O6 W6 P6 F6 B6
          rw [← eps] at this
          exact this
        have k06 := k4.trans k6
        have e6 := k6.at nHd e4
        have hb6 := k6.at nB hb5
        have hLa6 := k06.at nLa hLa
        have ets : (ps.take n).map tieP ++ [tieOfTwo t.1 t.2] = ps.map tieP := by
          conv => rhs; rw [eps]
          rw [List.map_append]
          rfl
        have hrl : (List.range (ps.take n).length).length = n := by rw [List.length_range, htl]
        rw [hrl] at R6
        refine ⟨p6, _, 2, _, rfl, rfl, .of hp6, rfl, ?_⟩
        refine ⟨_, rfl, o.self, o.dx, _, rfl, C6.obj.ins, rfl, o, m, _, _, _, _, _, _, rfl, C6.obj, fun p7 Wb N H7 s7 hp7 W7 hN7 hN7' => ⟨p7, _, rfl, .of hp7, rfl, _, _, rfl, _, _, rfl, rfl, ?_⟩⟩
        have C7 : CameT K H7 o m ps h6 := ⟨C6.obj.mono s7, C6.web, C6.pr, C6.fl, C6.bl⟩
        have k07 := k06.trans (.of s7)
        have R7 := R6.mono s7 fun _ _ r => r.mono s7
        refine ⟨_, rfl, La, xs, rfl, .inl (.of (s7 _ _ hLa6)), _, _, rfl, rfl, _, rfl, ?_⟩
        have fin : ∀ (σ' : L2.St) (H8 : Hp), (∃ z2 z4 z5 z6 z7 z8, σ' = [some (.ref o.self), some (.ref La), z2, some (.ref Hd), z4, z5, z6, z7, z8]) → ExtN H7 H8 → Tab K H8 → (∃ z2 z4 z5 z6 z7 z8, σ' = [some (.ref o.self), some (.ref La), z2, some (.ref Hd), z4, z5, z6, z7, z8] ∧ (0 + 1 = 0 → H8 = H5) ∧ (0 + 1 ≠ 0 → ∃ h', ExtN (dels H o.l) H8 ∧ Tab K H8 ∧ CameT K H8 o m ps h') ∧ H8 B = some (.lst [V.ref p])) := fun σ' H8 ⟨a2, a4, a5, a6, a7, a8, e⟩ hE hT =>
          ⟨a2, a4, a5, a6, a7, a8, e, fun z => absurd z (by decide), fun _ => ⟨h6, (ExtN.same k07).trans hE, hT, ⟨C7.obj.ext hE, C7.web, C7.pr, C7.fl, C7.bl⟩⟩, hE _ _ (s7 _ _ hb6) fun _ z => nomatch z⟩
        by_cases h10 : xs.length < 10
        · rw [decide_eq_true (show ((xs.length : Nat) : Int) < 10 by omega)]
          refine iteT ⟨_, rfl, o.self, o.dx, _, rfl, C7.obj.ins, rfl, o, m, _, _, _, _, _, _, rfl, C7.obj, _, _, rfl, rfl, _, rfl, ?_⟩
          by_cases h6l : mostAt m (ps.map tieP) + thick (ps.map tieP) < 6
          · rw [decide_eq_true (show ((mostAt m (ps.map tieP) + thick (ps.map tieP) : Nat) : Int) < 6 by omega)]
            refine iteT ?_
            refine ⟨_, rfl, _, rfl, by show 1 ≤ sizeLine; decide, fun l1 hl1 => ?_⟩
            have s8 : Same H7 (upd H7 l1 (.lst [.non])) := same_new hl1
            have hh2 : h2.length = n := by rw [C4.pr.1, List.length_map, htl]
            refine ⟨Hd, l1, _, _, rfl, rfl, s8 _ _ (s7 _ _ e6), upd_same, ?_, fun l2 hl2 => ?_⟩
            · rw [List.length_map]
              exact small (by show h2.length + 1 ≤ 100000; omega)
            have s9 := s8.trans (same_new (o := .lst (h2.map vo ++ [.non])) hl2)
            have l9 : upd (upd H7 l1 (.lst [.non])) l2 (.lst (h2.map vo ++ [.non])) l2 = some (.lst ((h2 ++ [none]).map vo)) := by
              rw [upd_same, List.map_append]
              rfl
            generalize upd (upd H7 l1 (.lst [.non])) l2 (.lst (h2.map vo ++ [.non])) = H9 at s9 l9
            have O9 := C7.obj.mono s9
            have tb9 : Tab K H9 := (tb0.mono k07).mono s9
            refine ⟨_, rfl, o.self, o.dx, _, rfl, O9.ins, rfl, o, m, _, _, _, _, _, _, rfl, O9, ?_⟩
            have htl2 : (ps.map tieP).length = n + 1 := by rw [List.length_map]; omega
            refine ⟨_, _, m, _, _, h2 ++ [none], h6, rfl, W7.mono s9, ⟨l2, rfl, l9⟩, C7.web, by rw [htl2, List.length_append, hh2]; rfl, by rw [htl2]; omega, by omega, C7.pr, C7.fl, C7.bl, tb9, fun H10 pp nn ww tt eN tb10 hpp hnn => ?_⟩
            have E710 : ExtN H7 H10 := (ExtN.same s9).trans eN
            refine ⟨_, rfl, pp, _, 0, _, rfl, rfl, .of hpp, rfl, rfl, _, rfl, ?_⟩
            refine iteF ?_
            obtain ⟨Ch', cs, eC, hC, alC⟩ := R7
            cases eC
            have hC10 := E710 _ _ hC fun _ z => nomatch z
            have alC10 := alC.mono fun v i (r : ChgR _ _ _ H7 v i) => (show ChgR _ _ _ H10 v i from let ⟨p, a, b⟩ := r; ⟨p, a, E710 _ _ b fun _ z => nomatch z⟩)
            have hdl : (diffs (h2 ++ [none]) h6 (n + 1)).length ≤ n + 1 := range_filter_le
            refine ⟨_, rfl, pp, _, 1, _, rfl, rfl, .of hpp, rfl, _, rfl, Ch', rfl, ⟨_, .of hC10⟩, fun Gd hGd => ?_⟩
            refine lc_val (n := cs.length) walk_list (by rw [alC10.1]; omega) hGd (fun H2 s2 => .of (s2 _ _ hC10)) (fun i => (hu (h2 ++ [none]) ((diffs (h2 ++ [none]) h6 (n + 1)).getD i 0)).isSome) (fun i => cs.getD i .non) ?_ ?_
            · rintro j y H11 H12 acc hj s11 g11 ⟨rfl, e⟩ Good Skip hg hs
              obtain ⟨dj, edj, pc, rfl, hpc⟩ := alC10.getV e
              rw [getD_of edj, getD_of e] at hg
              rw [getD_of edj] at hs
              refine ⟨rfl, _, rfl, pc, _, 1, _, rfl, rfl, .of (s11 _ _ hpc), rfl, rfl, _, rfl, ?_⟩
              cases e2 : hu (h2 ++ [none]) dj with
              | none =>
                rw [e2] at hs
                exact iteF (hs rfl _ (Same.refl _))
              | some c =>
                rw [e2] at hg
                exact iteT ⟨_, rfl, hg rfl _ (Same.refl _)⟩
            · intro H11 s11 g11
              refine ⟨Gd, _, rfl, .inl (.of g11), _, _, rfl, rfl, _, rfl, ?_⟩
              have ecnt : (((List.range cs.length).filter fun i => (hu (h2 ++ [none]) ((diffs (h2 ++ [none]) h6 (n + 1)).getD i 0)).isSome).map fun i => cs.getD i V.non).length = diffN (h2 ++ [none]) h6 (n + 1) := by
                rw [List.length_map, alC10.1, cnt_ix (L := diffs (h2 ++ [none]) h6 (n + 1)) (fun u => (hu (h2 ++ [none]) u).isSome)]
                unfold diffs diffN
                rw [List.filter_filter]
              rw [ecnt]
              rw [htl2] at hnn
              rw [decide_eq_false (show ¬ ((diffN (h2 ++ [none]) h6 (n + 1) : Nat) : Int) < (nn : Int) by omega)]
              exact iteF (fin _ _ ⟨_, _, _, _, _, _, rfl⟩ (E710.trans (ExtN.same s11)) (tb10.mono s11))
          · rw [decide_eq_false (show ¬ ((mostAt m (ps.map tieP) + thick (ps.map tieP) : Nat) : Int) < 6 by omega)]
            exact iteF (fin _ _ ⟨_, _, _, _, _, _, rfl⟩ (LamX.ExtN.refl _) (tb0.mono k07))
        · rw [decide_eq_false (show ¬ ((xs.length : Nat) : Int) < 10 by omega)]
          exact iteF (iteF (fin _ _ ⟨_, _, _, _, _, _, rfl⟩ (LamX.ExtN.refl _) (tb0.mono k07)))
      · rintro σ H5 ⟨z2, z4, z5, z6, z7, z8, rfl, _, hz, hb5⟩
        obtain ⟨h', hE, hT, hC⟩ := hz (by show 1 ≠ 0; decide)
        exact q H5 h' hE hT hC
end
end Hu
end

/-! ## Wx3 -/
section
set_option maxHeartbeats 4000000
set_option autoImplicit true
namespace Hu
open PySem PySem.Spec PyProof.Rows L2
local macro_rules | `(tactic| walk_at "len") => `(tactic| (intro h; first
  | (obtain ⟨_, e, _⟩ := h; cases e; rfl)
  | (obtain ⟨_, _, e, _⟩ := h; cases e; rfl)
  | (obtain ⟨_, _, _, e, _⟩ := h; cases e; rfl)
  | (obtain ⟨_, _, _, _, e, _⟩ := h; cases e; rfl)
  | (obtain ⟨_, _, _, _, _, e, _⟩ := h; cases e; rfl)
  | (obtain ⟨_, _, _, _, _, _, e, _⟩ := h; cases e; rfl)
  | (obtain ⟨_, _, _, _, _, _, _, e, _⟩ := h; cases e; rfl)
  | (obtain ⟨_, _, _, _, _, _, _, _, e, _⟩ := h; cases e; rfl)
  | (obtain ⟨_, _, _, _, _, _, _, _, _, e, _⟩ := h; cases e; rfl)
  | (obtain ⟨_, _, _, _, _, _, _, _, _, _, e, _⟩ := h; cases e; rfl)
  | (obtain ⟨_, _, _, _, _, _, _, _, _, _, _, e, _⟩ := h; cases e; rfl)
  | (obtain ⟨_, _, _, _, _, _, _, _, _, _, _, _, e, _⟩ := h; cases e; rfl)
  | (obtain ⟨_, _, _, _, _, _, _, _, _, _, _, _, _, e, _⟩ := h; cases e; rfl)
  | (obtain ⟨_, _, _, _, _, _, _, _, _, _, _, _, _, _, e, _⟩ := h; cases e; rfl)
  | (obtain ⟨_, _, _, _, _, _, _, _, _, _, _, _, _, _, _, e, _⟩ := h; cases e; rfl)
  | (obtain ⟨_, _, _, _, _, _, _, _, _, _, _, _, _, _, _, _, e, _⟩ := h; cases e; rfl)
  | (obtain ⟨_, _, _, _, _, _, _, _, _, _, _, _, _, _, _, _, _, e, _⟩ := h; cases e; rfl)
  | (obtain ⟨_, _, _, _, _, _, _, _, _, _, _, _, _, _, _, _, _, _, e, _⟩ := h; cases e; rfl)))
section
variable {P : Program} {w : World} {K : PySem.W.Frag} {mg : Str → Option Value} {base : Heap}
/-! ### _law_web -/
abbrev N_l_web : List Str := ["_law_tape_here", "_law_great", "_law_many", "_law_pairs", "_law_ties", "_law_one", "_law_other", "_law_turn"]
theorem sc_l_web : FnScope N_l_web ["_law_tape_here", "_law_great"] (defScope s_l_web) := ⟨rfl, rfl, rfl, by decide +kernel, rfl, by decide +kernel, by decide +kernel⟩
theorem dp_pairs {K : PySem.W.Frag} {H : Hp} {xs : List V} {ps : List Tie} (al : Al (TieR H) xs ps) : DpAll K H xs (ps.map fun t => .tuple [.int (t.1 : Int), .int (t.2 : Int)]) := by
  obtain ⟨hl, hr⟩ := al
  induction xs generalizing ps with
  | nil =>
    obtain rfl : ps = [] := List.eq_nil_of_length_eq_zero hl.symm
    exact .nil
  | cons v xs ih =>
    cases ps with
    | nil => cases hl
    | cons t ps =>
      obtain ⟨p, rfl, hp⟩ := hr 0 v t rfl rfl
      exact .cons (.tup (.of hp) (.cons (.int _) (.cons (.int _) .nil))) (ih (by simpa using hl) fun i v x e1 e2 => hr (i + 1) v x e1 e2)
theorem canLay_pairs : ∀ (ps : List Tie), PyData.canLayAll0 (ps.map fun t => PyData.tuple [.int (t.1 : Int), .int (t.2 : Int)]) = true
  | [] => rfl
  | t :: ps => by
    have := canLay_pairs ps
    simp [PyData.canLayAll0, PyData.canLay0] at this ⊢
    exact this
theorem depth_pairs : ∀ (ps : List Tie), PyData.depthAll (ps.map fun t => PyData.tuple [.int (t.1 : Int), .int (t.2 : Int)]) ≤ 2
  | [] => by decide
  | t :: ps => by
    have := depth_pairs ps
    simp [PyData.depthAll, PyData.depth] at this ⊢
    omega
theorem shaped_pairs {ps : List Tie} : SeqAt.shaped (.list (ps.map fun t => PyData.tuple [.int (t.1 : Int), .int (t.2 : Int)])) = true := by
  unfold SeqAt.shaped
  refine Bool.and_eq_true_iff.mpr ⟨canLay_pairs ps, decide_eq_true ?_⟩
  have := depth_pairs ps
  simp [PyData.depth]
  omega
theorem eqv_nil {ps : List Tie} : PyData.eqv (.list (ps.map fun t => PyData.tuple [.int (t.1 : Int), .int (t.2 : Int)])) (.list []) = decide (ps = []) := by
  cases ps with
  | nil => rfl
  | cons t ps => rfl
def sp_l_web (K : PySem.W.Frag) : Sp := fun vs H Q _ => ∃ (Ta : Addr) (gb : Bool), vs = [.ref Ta, .bl gb] ∧ TapeR H Ta ∧
  ∀ H' p q many ts xs, KeepT Ta H H' → TapeR H' Ta → H' p = some (.tup [vn many, .ref q]) → H' q = some (.tup xs) → Al (TieR H') xs ts → (∀ t, t ∈ ts → t.1 < t.2 ∧ t.2 < many) → ts.length ≤ 38 → many ≤ 12 → Q (.ref p) H'
def WJ (Ta : Addr) (gb : Bool) (H : Hp) (n : Nat) (σ : L2.St) (H' : Hp) : Prop := ∃ (L : Addr) (many : Nat) (ps : List Tie), σ = [some (.ref Ta), some (.bl gb), some (vn many), some (.ref L), none, none, none, none] ∧ PO Ta H H' L ps ∧ GoodP many ps ∧ ps.length ≤ n ∧ many ≤ 12
theorem ok_l_web (T : Tx P w K mg base) : Has P w K mg base 3 ("_law_web", none) ["_law_tape_here", "_law_great"] (sp_l_web K) := by
  obtain ⟨fd_l_pairs_by, G_l_pairs_by, b_l_pairs_by, k_l_pairs_by⟩ := ok_l_pairs_by (P := P) (w := w) (base := base) T
  obtain ⟨fd_l_draw, G_l_draw, b_l_draw, k_l_draw⟩ := ok_l_draw (P := P) (w := w) (base := base) T
  refine mkHas T 80 (d := d_l_web) rfl sc_l_web rfl rfl (fun us hl => match us, hl with | [_, _], _ => fun _ _ _ _ _ _ => rfl) (fun vs H Q E => ?_) (fun cdv A outer s H vs Q E hr h => ?_)
  · walk_at "len"
  · have hU := hu_of hr
    refine ⟨_, PSs.nox (pss_cons (ps_asg (pe_call G_l_pairs_by (hr.mono (by decide)) rfl T.g_l_pairs_by k_l_pairs_by b_l_pairs_by .nil pass0 (pa_cons (pv 0) (pa_cons (pv 1) pa_nil))) (pg_tup rfl (pgs_cons (pg_name (i := 2) sc_l_web.nd rfl (Or.inl rfl)) (pgs_cons (pg_name (i := 3) sc_l_web.nd rfl (Or.inr rfl)) pgs_nil))))
    (pss_cons (ps_if (pt_cmpR (op_eqD hr.units) (pv 3) (pe_lst pa_nil) (nomark _)) (pss_one (ps_asg (pe_call G_l_pairs_by (hr.mono (by decide)) rfl T.g_l_pairs_by k_l_pairs_by b_l_pairs_by .nil pass0 (pa_cons (pv 0) (pa_cons (pv 1) pa_nil))) (pg_tup rfl (pgs_cons (pg_name (i := 2) sc_l_web.nd rfl (Or.inl rfl)) (pgs_cons (pg_name (i := 3) sc_l_web.nd rfl (Or.inr rfl)) pgs_nil))))) pss_nil)
    (pss_cons (ps_if (PW.pt (pw_and (pt_cmpR (op_neD hr.units) (pv 3) (pe_lst pa_nil) (nomark _)) (pw_and1 (pt_cmpR op_eq (pe_call G_l_draw (hr.mono (by decide)) rfl T.g_l_draw k_l_draw b_l_draw .nil pass0 (pa_cons (pv 0) (pa_cons pe_int pa_nil))) pe_int (nomark _))))) (pss_one (ps_set (i := 3) sc_l_web.nd rfl (Or.inr rfl) (pe_op op_cat (pv 3) (pe_lc (own := [("_law_turn", 7)]) rfl sc_l_web.nd (pi_range1 rfl T.b_range (pa_cons (pe_op op_add pe_int (pe_call G_l_draw (hr.mono (by decide)) rfl T.g_l_draw k_l_draw b_l_draw .nil pass0 (pa_cons (pv 0) (pa_cons pe_int pa_nil)))) pa_nil)) (blkOk_by (N := N_l_web) (sc := defScope s_l_web) (by decide +kernel)) (fun _ _ _ _ _ => by exact (pg_name (i := 7) sc_l_web.nd rfl (Or.inl rfl))) (fun _ _ _ _ _ => by exact pts_nil) (fun _ _ _ _ _ => by exact (pe_ix (ix_listK (K := K) rfl) (pv 3) (pe_call G_l_draw (hr.mono (by decide)) rfl T.g_l_draw k_l_draw b_l_draw .nil pass0 (pa_cons (pv 0) (pa_cons (pe_callB (call_len_seqK (K := K) rfl) (by rfl) T.b_len (by decide +kernel) (pa_cons (pv 3) pa_nil)) pa_nil))) (fun _ _ => rfl))))))) pss_nil)
    (pss_cons (ps_set (i := 4) sc_l_web.nd rfl (Or.inl rfl) (pe_lst pa_nil))
    (pss_cons (ps_for PassesOwn.never rfl (pi_list (pv 3)) (pg_tup rfl (pgs_cons (pg_name (i := 5) sc_l_web.nd rfl (Or.inl rfl)) (pgs_cons (pg_name (i := 6) sc_l_web.nd rfl (Or.inl rfl)) pgs_nil)))
      (pss_one (ps_expr (pe_bm PySem.F.plainAttrs_list PySem.F.slot_list_insert PySem.F.type_list_insert mt_insert (pv 4) (pa_cons (pe_call G_l_draw (hr.mono (by decide)) rfl T.g_l_draw k_l_draw b_l_draw .nil pass0 (pa_cons (pv 0) (pa_cons (pe_op op_add (pe_callB call_len_seq (by rfl) T.b_len (by decide +kernel) (pa_cons (pv 4) pa_nil)) pe_int) pa_nil))) (pa_cons (pe_tup (pa_cons (pe_callB (call_min2 rfl) (by rfl) T.b_min (by decide +kernel) (pa_cons (pv 5) (pa_cons (pv 6) pa_nil))) (pa_cons (pe_callB (call_max2 rfl) (by rfl) T.b_max (by decide +kernel) (pa_cons (pv 5) (pa_cons (pv 6) pa_nil))) pa_nil))) pa_nil))))))
    (pss_one (ps_ret (pe_tup (pa_cons (pv 2) (pa_cons (pe_callTy call_tuple_of (by rfl) T.b_tuple (by decide +kernel) (pa_cons (pv 4) pa_nil)) pa_nil)))))))))), ?_⟩
    obtain ⟨Ta, gb, rfl, t0, q⟩ := h
    refine ⟨_, rfl, _, rfl, Ta, gb, rfl, t0, fun H1 p L many ps O hp G hlen hm => ⟨p, _, rfl, .of hp, rfl, _, _, rfl, _, _, rfl, rfl, ?_⟩⟩
    have j0 : WJ Ta gb H 35 [some (.ref Ta), some (.bl gb), some (vn many), some (.ref L), none, none, none, none] H1 := ⟨L, many, ps, rfl, O, G, hlen, hm⟩
    clear O hp G hlen hm
    dsimp only
    refine seq_by (WJ Ta gb H 35) (fun N hN => ?_) ?_
    · obtain ⟨L', many', ps', e, O, G, hlen, hm⟩ := j0
      cases e
      obtain ⟨xs, hx, al⟩ := O.lst
      refine ⟨_, rfl, by decide, fun l hl => ?_⟩
      have s1 : Same H1 (upd H1 l (.lst [])) := same_new hl
      have O1 := O.same s1
      refine ⟨_, _, .lst (.of (s1 _ _ hx)) (dp_pairs (al.mono fun _ _ r => r.mono s1)), .lst (.of upd_same) .nil, shaped_pairs, by decide, _, rfl, ?_⟩
      rw [eqv_nil]
      by_cases hps : ps' = []
      · rw [decide_eq_true hps]
        refine iteT ⟨_, rfl, _, rfl, Ta, gb, rfl, O1.tape, fun H2 p2 L2 many2 ps2 O2 hp2 G2 hlen2 hm2 => ⟨p2, _, rfl, .of hp2, rfl, _, _, rfl, _, _, rfl, rfl, hN _ _ ?_⟩⟩
        exact ⟨L2, many2, ps2, rfl, ⟨O1.keep.trans O2.keep, O2.tape, O1.keep.free O2.new (O1.tape.ne O2.new), O2.lst⟩, G2, hlen2, hm2⟩
      · rw [decide_eq_false hps]
        exact iteF (hN _ _ ⟨L, many, ps', rfl, O1, G, hlen, hm⟩)
    clear j0
    rintro σ H2 j
    refine seq_by (WJ Ta gb H 38) (fun N hN => ?_) ?_
    · obtain ⟨L, many, ps, rfl, O, G, hlen, hm⟩ := j
      obtain ⟨xs, hx, al⟩ := O.lst
      refine ⟨_, rfl, by decide, fun l hl => ?_⟩
      have s1 : Same H2 (upd H2 l (.lst [])) := same_new hl
      have O1 := O.same s1
      refine ⟨_, _, .lst (.of (s1 _ _ hx)) (dp_pairs (al.mono fun _ _ r => r.mono s1)), .lst (.of upd_same) .nil, shaped_pairs, by decide, _, rfl, ?_⟩
      rw [eqv_nil]
      have hx1 := s1 _ _ hx
      have al1 : Al (TieR (upd H2 l (.lst []))) xs ps := al.mono fun _ _ r => r.mono s1
      generalize upd H2 l (.lst []) = H3 at O1 hx1 al1
      by_cases hps : ps = []
      · rw [decide_eq_true hps]
        exact iteF (iteF (hN _ _ ⟨L, many, ps, rfl, O1, G, by omega, hm⟩))
      · rw [decide_eq_false hps]
        have hpl : 0 < ps.length := List.length_pos_iff.mpr hps
        have nLT := O.ne t0
        refine iteT ⟨_, rfl, Ta, 4, rfl, O1.tape, by decide, by decide, fun r d e hr hd he => ⟨rfl, _, rfl, ?_⟩⟩
        have O2 := O1.draw t0 hd he
        have hx2 : upd H3 Ta (TapeO d e) L = some (.lst xs) := by rw [upd_ne nLT]; exact hx1
        have al2 : Al (TieR (upd H3 Ta (TapeO d e))) xs ps := al1.mono fun _ _ r => r.tape O1.tape
        generalize upd H3 Ta (TapeO d e) = H4 at O2 hx2 al2
        rw [show decide (V.int (r : Int) = V.int 0) = decide (r = 0) from dec_eqN]
        by_cases hr0 : r = 0
        · rw [decide_eq_true hr0]
          refine iteT ⟨_, rfl, _, rfl, Ta, 3, rfl, O2.tape, by decide, by decide, fun r2 d e hr2 hd he => ⟨_, _, rfl, rfl, ((1 + r2 : Nat) : Int), congrArg (fun z : Int => [V.int z]) (show (1 : Int) + (r2 : Int) = ((1 + r2 : Nat) : Int) by omega), by omega, by omega, fun D hD => ?_⟩⟩
          have O3 := O2.draw t0 hd he
          have hx3 : upd H4 Ta (TapeO d e) L = some (.lst xs) := by rw [upd_ne nLT]; exact hx2
          have al3 : Al (TieR (upd H4 Ta (TapeO d e))) xs ps := al2.mono fun _ _ r => r.tape O2.tape
          generalize upd H4 Ta (TapeO d e) = H5 at O3 hx3 al3 hD
          have nDT := O3.tape.ne hD
          have nDL : L ≠ D := ne_of_none hx3 hD
          have nHD : H D = none := O3.keep.free hD nDT
          have s5 : Same H5 (upd H5 D (.lst [])) := same_new hD
          refine lc_it (n := (((1 + r2 : Nat) : Int)).toNat) walk_range (fun j H8 => PO Ta H H8 L ps ∧ H8 L = some (.lst xs) ∧ Al (TieR H8) xs ps ∧ ∃ ys qs, H8 D = some (.lst ys) ∧ Al (TieR H8) ys qs ∧ qs.length = j ∧ GoodP many qs) ⟨O3.same s5, s5 _ _ hx3, al3.mono fun _ _ r => r.mono s5, [], [], upd_same, Al.nil, rfl, GoodP.nil⟩ (fun _ _ _ _ => trivial) ?_ ?_
          · rintro j x H8 H9 hj ⟨O8, hx8, al8, ys, qs, d8, alq, hq8, G8⟩ ⟨rfl, ex⟩
            have hxl := al8.1
            refine ⟨rfl, _, rfl, _, rfl, _, rfl, L, xs, rfl, .inl (.of hx8), Ta, ps.length, congrArg (fun n : Nat => [V.ref Ta, V.int (n : Int)]) hxl, O8.tape, hpl, by omega, fun r3 d e hr3 hd he => ?_⟩
            have O9 := O8.draw t0 hd he
            have hx9 : upd H9 Ta (TapeO d e) L = some (.lst xs) := by rw [upd_ne nLT]; exact hx8
            have d9 : upd H9 Ta (TapeO d e) D = some (.lst ys) := by rw [upd_ne nDT]; exact d8
            have al9 : Al (TieR (upd H9 Ta (TapeO d e))) xs ps := al8.mono fun _ _ r => r.tape O8.tape
            have alq9 : Al (TieR (upd H9 Ta (TapeO d e))) ys qs := alq.mono fun _ _ r => r.tape O8.tape
            generalize upd H9 Ta (TapeO d e) = H10 at O9 hx9 d9 al9 alq9
            obtain ⟨v3, ev3, rv3⟩ := al9.get (getD_some (d := (0, 0)) hr3)
            refine ⟨L, xs, _, v3, rfl, rfl, .of hx9, atI_nat ev3, ys, d9, ?_, ?_⟩
            · have := alq9.1
              exact smalls (by omega)
            refine ⟨⟨O9.keep.mut nHD, ?_, O9.new, xs, by rw [upd_ne nDL]; exact hx9, al9.mono fun _ _ r => r.lst d9⟩, by rw [upd_ne nDL]; exact hx9, al9.mono fun _ _ r => r.lst d9, ys ++ [v3], qs ++ [ps.getD r3 (0, 0)], upd_same, (alq9.snoc rv3).mono fun _ _ r => r.lst d9, by rw [List.length_append, hq8]; rfl, G8.app fun t ht => ?_⟩
            · obtain ⟨d', e', a', b'⟩ := O9.tape.at_
              exact ⟨d', e', by rw [upd_ne nDT.symm]; exact a', b'⟩
            · rw [List.mem_singleton.mp ht]
              exact G _ (List.mem_of_getElem? (getD_some hr3))
          · rintro H8 ⟨O8, hx8, al8, ys, qs, d8, alq, hq8, G8⟩
            refine ⟨L, D, xs, ys, rfl, rfl, hx8, d8, ?_, fun w' hw' => hN _ _ ?_⟩
            · have h1 := al8.1
              have h2 := alq.1
              exact small (by omega)
            refine ⟨w', many, ps ++ qs, rfl, PO.fresh O8.keep O8.tape hw' (al8.app alq), G.app G8, ?_, hm⟩
            rw [List.length_append]
            omega
        · rw [decide_eq_false hr0]
          exact iteF (hN _ _ ⟨L, many, ps, rfl, O2, G, by omega, hm⟩)
    clear j
    rintro σ H3 ⟨L, many, ps, rfl, O, G, hlen, hm⟩
    obtain ⟨xs, hx, al⟩ := O.lst
    have nLT := O.ne t0
    refine ⟨by decide, fun F hF => ?_⟩
    have s1 : Same H3 (upd H3 F (.lst [])) := same_new hF
    have O1 := O.same s1
    have nFT := O.tape.ne hF
    have nLF : L ≠ F := ne_of_none hx hF
    have nHF : H F = none := O.keep.free hF nFT
    refine ⟨_, rfl, L, rfl, ⟨_, .of (s1 _ _ hx)⟩, ?_⟩
    refine for_list (xs := xs) (fun i σ H4 => KeepT Ta H H4 ∧ TapeR H4 Ta ∧ (∃ z5 z6, σ = [some (.ref Ta), some (.bl gb), some (vn many), some (.ref L), some (.ref F), z5, z6, none]) ∧ H4 L = some (.lst xs) ∧ Al (TieR H4) xs ps ∧ ∃ ys ts, H4 F = some (.lst ys) ∧ Al (TieR H4) ys ts ∧ ts.length = i ∧ ∀ t, t ∈ ts → t.1 < t.2 ∧ t.2 < many) ⟨O1.keep, O1.tape, ⟨_, _, rfl⟩, s1 _ _ hx, al.mono fun _ _ r => r.mono s1, [], [], upd_same, Al.nil, rfl, fun t ht => absurd ht List.not_mem_nil⟩ (fun i σ H4 _ h4 => .of h4.2.2.2.1) ?_ ?_
    · rintro i x σ H4 hxi ⟨k4, t4, ⟨z5, z6, rfl⟩, hx4, al4, ys, ts, f4, alt, htl, hts⟩
      obtain ⟨t, et, p, rfl, hp⟩ := al4.getV hxi
      obtain ⟨g1, g2, g3⟩ := G t (List.mem_of_getElem? et)
      obtain ⟨w1, w2⟩ := tieOfTwo_ok g3 g1 g2
      have hyl := alt.1
      have hil : i < ps.length := by
        rw [← al4.1]
        exact (List.getElem?_eq_some_iff.mp hxi).1
      refine ⟨p, _, rfl, .of hp, rfl, _, _, rfl, _, _, rfl, rfl, ?_⟩
      refine ⟨_, rfl, ty_lst f4, _, rfl, _, rfl, F, ys, rfl, .inl (.of f4), _, _, rfl, rfl, Ta, ys.length + 1, rfl, t4, Nat.succ_pos _, by omega, fun r d e hr hd he => ?_⟩
      have t5 : TapeR (upd H4 Ta (TapeO d e)) Ta := .upd hd he
      have k5 : KeepT Ta H (upd H4 Ta (TapeO d e)) := k4.tape
      have hx5 : upd H4 Ta (TapeO d e) L = some (.lst xs) := by rw [upd_ne nLT]; exact hx4
      have f5 : upd H4 Ta (TapeO d e) F = some (.lst ys) := by rw [upd_ne nFT]; exact f4
      have al5 : Al (TieR (upd H4 Ta (TapeO d e))) xs ps := al4.mono fun _ _ r => r.tape t4
      have alt5 : Al (TieR (upd H4 Ta (TapeO d e))) ys ts := alt.mono fun _ _ r => r.tape t4
      generalize upd H4 Ta (TapeO d e) = H5 at t5 k5 hx5 f5 al5 alt5
      refine ⟨_, rfl, _, rfl, (t.1 : Int), (t.2 : Int), rfl, _, rfl, _, rfl, (t.1 : Int), (t.2 : Int), rfl, (by show 2 ≤ sizeLine; decide), fun p2 hp2 => ?_⟩
      rw [tieOfTwo_V]
      have s6 : Same H5 (upd H5 p2 (.tup [vn (tieOfTwo t.1 t.2).1, vn (tieOfTwo t.1 t.2).2])) := same_new hp2
      have p6 : TieR (upd H5 p2 (.tup [vn (tieOfTwo t.1 t.2).1, vn (tieOfTwo t.1 t.2).2])) (.ref p2) (tieOfTwo t.1 t.2) := ⟨p2, rfl, upd_same⟩
      have f6 := s6 _ _ f5
      have t6 := t5.mono s6
      refine ⟨F, ys, (r : Int), .ref p2, rfl, rfl, f6, smalls (by omega), by omega, by omega, ?_⟩
      rw [Int.toNat_natCast]
      have alt6 := alt5.mono fun v x (r : TieR H5 v x) => r.mono s6
      have hins : Al (TieR (upd H5 p2 (.tup [vn (tieOfTwo t.1 t.2).1, vn (tieOfTwo t.1 t.2).2]))) (ys.take r ++ [.ref p2] ++ ys.drop r) (ts.take r ++ [tieOfTwo t.1 t.2] ++ ts.drop r) := by
        refine Al.app (Al.app ⟨by rw [List.length_take, List.length_take, alt6.1], fun i v x e1 e2 => ?_⟩ (Al.snoc Al.nil p6)) ⟨by rw [List.length_drop, List.length_drop, alt6.1], fun i v x e1 e2 => ?_⟩
        · rw [List.getElem?_take] at e1 e2
          split at e1
          · rw [if_pos (by assumption)] at e2
            exact alt6.2 i v x e1 e2
          · cases e1
        · rw [List.getElem?_drop] at e1 e2
          exact alt6.2 _ v x e1 e2
      refine ⟨(k5.trans (.of s6)).mut nHF, ?_, ⟨_, _, rfl⟩, by rw [upd_ne nLF]; exact s6 _ _ hx5, (al5.mono fun _ _ r => r.mono s6).mono fun _ _ r => r.lst f6, _, _, upd_same, hins.mono fun _ _ r => r.lst f6, ?_, fun u hu1 => ?_⟩
      · obtain ⟨d', e', a', b'⟩ := t6.at_
        exact ⟨d', e', by rw [upd_ne nFT.symm]; exact a', b'⟩
      · rw [ins_perm.length_eq, List.length_cons, htl]
      · rcases List.mem_cons.mp (ins_perm.mem_iff.mp hu1) with rfl | h
        · exact ⟨w1, w2⟩
        · exact hts u h
    · rintro σ H4 ⟨k4, t4, ⟨z5, z6, rfl⟩, hx4, al4, ys, ts, f4, alt, htl, hts⟩
      refine ⟨_, rfl, _, rfl, F, ys, rfl, .inl ⟨.of f4, fun l hl => ⟨by show 2 ≤ sizeLine; decide, fun p hp => ?_⟩⟩⟩
      have s5 : Same H4 (upd H4 l (.tup ys)) := same_new hl
      have s6 := s5.trans (same_new (o := .tup [vn many, .ref l]) hp)
      refine q _ p l many ts ys (k4.trans (.of s6)) (t4.mono s6) upd_same ((same_new hp) _ _ upd_same) (alt.mono fun _ _ r => r.mono s6) hts ?_ hm
      rw [htl, al4.1]
      exact hlen
/-! ### _law_comings -/
abbrev N_l_comings : List Str := ["_law_tape_here", "_law_great", "_law_many", "_law_ties", "_law_pair"]
theorem sc_l_comings : FnScope N_l_comings ["_law_tape_here", "_law_great"] (defScope s_l_comings) := ⟨rfl, rfl, rfl, by decide +kernel, rfl, by decide +kernel, by decide +kernel⟩
def sp_l_comings (K : PySem.W.Frag) : Sp := fun vs H Q _ => ∃ (Ta : Addr) (gb : Bool), vs = [.ref Ta, .bl gb] ∧ TapeR H Ta ∧
  ∀ H' p L many ps xs, KeepT Ta H H' → TapeR H' Ta → H' p = some (.tup [vn many, .ref L]) → L ≠ Ta → H' L = some (.lst xs) → Al (TieR H') xs ps → GoodP many ps → ps.length ≤ 38 → many ≤ 12 → Q (.ref p) H'
theorem ok_l_comings (T : Tx P w K mg base) : Has P w K mg base 4 ("_law_comings", none) ["_law_tape_here", "_law_great"] (sp_l_comings K) := by
  obtain ⟨fd_l_web, G_l_web, b_l_web, k_l_web⟩ := ok_l_web (P := P) (w := w) (base := base) T
  obtain ⟨fd_l_draw, G_l_draw, b_l_draw, k_l_draw⟩ := ok_l_draw (P := P) (w := w) (base := base) T
  refine mkHas T 81 (d := d_l_comings) rfl sc_l_comings rfl rfl (fun us hl => match us, hl with | [_, _], _ => fun _ _ _ _ _ _ => rfl) (fun vs H Q E => ?_) (fun cdv A outer s H vs Q E hr h => ?_)
  · walk_at "len"
  · have hU := hu_of hr
    refine ⟨_, PSs.nox (pss_cons (ps_asg (pe_call G_l_web (hr.mono (by decide)) rfl T.g_l_web k_l_web b_l_web .nil pass0 (pa_cons (pv 0) (pa_cons (pv 1) pa_nil))) (pg_tup rfl (pgs_cons (pg_name (i := 2) sc_l_comings.nd rfl (Or.inl rfl)) (pgs_cons (pg_name (i := 3) sc_l_comings.nd rfl (Or.inl rfl)) pgs_nil))))
    (pss_one (ps_ret (pe_tup (pa_cons (pv 2) (pa_cons (pe_lc (own := [("_law_pair", 4)]) rfl sc_l_comings.nd (pi_tup (pv 3)) (blkOk_by (N := N_l_comings) (sc := defScope s_l_comings) (by decide +kernel)) (fun _ _ _ _ _ => by exact (pg_name (i := 4) sc_l_comings.nd rfl (Or.inl rfl))) (fun _ _ _ _ _ => by exact pts_nil) (fun _ _ _ _ _ => by exact (pe_ix (ix_listK (K := K) rfl) (pe_lst (pa_cons (pv 4) (pa_cons (pe_revA (K := K) rfl (pv 4)) pa_nil))) (pe_call G_l_draw (hr.mono (by decide)) rfl T.g_l_draw k_l_draw b_l_draw .nil pass0 (pa_cons (pv 0) (pa_cons pe_int pa_nil))) (fun _ _ => rfl)))) pa_nil)))))), ?_⟩
    obtain ⟨Ta, gb, rfl, t0, q⟩ := h
    refine ⟨_, rfl, _, rfl, Ta, gb, rfl, t0, fun H1 p qa many ts xs k1 t1 hp hq al hts hlen hm => ⟨p, _, rfl, .of hp, rfl, _, _, rfl, _, _, rfl, rfl, ?_⟩⟩
    refine ⟨_, rfl, _, rfl, qa, rfl, ⟨_, .of hq⟩, fun D hD => ?_⟩
    have nDT := t1.ne hD
    have s1 : Same H1 (upd H1 D (.lst [])) := same_new hD
    refine lc_it (n := xs.length) walk_tup (fun j H8 => KeepT Ta H H8 ∧ TapeR H8 Ta ∧ H8 qa = some (.tup xs) ∧ Al (TieR H8) xs ts ∧ ∃ ys ps, H8 D = some (.lst ys) ∧ Al (TieR H8) ys ps ∧ ps.length = j ∧ GoodP many ps) ⟨k1.trans (.of s1), t1.mono s1, s1 _ _ hq, al.mono fun _ _ r => r.mono s1, [], [], upd_same, Al.nil, rfl, GoodP.nil⟩ (fun j H8 _ h8 => .of h8.2.2.1) ?_ ?_
    · rintro j x H8 H9 hj ⟨k8, t8, q8, al8, ys, ps, d8, alp, hpl, G8⟩ ⟨rfl, e⟩
      obtain ⟨t, et, pt, rfl, hpt⟩ := al8.getV e
      obtain ⟨w1, w2⟩ := hts t (List.mem_of_getElem? et)
      refine ⟨rfl, _, rfl, _, rfl, pt, _, _, rfl, .of hpt, fun p2 hp2 => ⟨by show 2 ≤ sizeLine; decide, fun l hl => ?_⟩⟩
      have s9 : Same H9 (upd H9 p2 (.tup [vn t.2, vn t.1])) := same_new hp2
      have s10 := s9.trans (same_new (o := .lst [.ref pt, .ref p2]) hl)
      have hp10 := s10 _ _ hpt
      have hr10 := (same_new (o := .lst [.ref pt, .ref p2]) hl) _ _ (show upd H9 p2 (.tup [vn t.2, vn t.1]) p2 = some (.tup [vn t.2, vn t.1]) from upd_same)
      have l10 : upd (upd H9 p2 (.tup [vn t.2, vn t.1])) l (.lst [.ref pt, .ref p2]) l = some (.lst [.ref pt, .ref p2]) := upd_same
      have t10 := t8.mono s10
      have k10 := k8.trans (.of s10)
      have q10 := s10 _ _ q8
      have d10 := s10 _ _ d8
      have al10 := al8.mono fun v x (r : TieR H9 v x) => r.mono s10
      have alp10 := alp.mono fun v x (r : TieR H9 v x) => r.mono s10
      have nlT : l ≠ Ta := (t8.mono s9).ne hl
      generalize upd (upd H9 p2 (.tup [vn t.2, vn t.1])) l (.lst [.ref pt, .ref p2]) = H10 at *
      refine ⟨_, rfl, Ta, 2, rfl, t10, by decide, by decide, fun r d e hr hd he => ?_⟩
      have t11 : TapeR (upd H10 Ta (TapeO d e)) Ta := .upd hd he
      have k11 : KeepT Ta H (upd H10 Ta (TapeO d e)) := k10.tape
      have l11 : upd H10 Ta (TapeO d e) l = some (.lst [.ref pt, .ref p2]) := by rw [upd_ne nlT]; exact l10
      have d11 : upd H10 Ta (TapeO d e) D = some (.lst ys) := by rw [upd_ne nDT]; exact d10
      have al11 : Al (TieR (upd H10 Ta (TapeO d e))) xs ts := al10.mono fun _ _ r => r.tape t10
      have alp11 : Al (TieR (upd H10 Ta (TapeO d e))) ys ps := alp10.mono fun _ _ r => r.tape t10
      have r1 : TieR (upd H10 Ta (TapeO d e)) (.ref pt) t := TieR.tape t10 ⟨pt, rfl, hp10⟩
      have r2 : TieR (upd H10 Ta (TapeO d e)) (.ref p2) (t.2, t.1) := TieR.tape t10 ⟨p2, rfl, hr10⟩
      have q11 : upd H10 Ta (TapeO d e) qa = some (.tup xs) := by
        obtain ⟨d', e', a', _⟩ := t10.at_
        exact tup_of_lst a' q10
      generalize upd H10 Ta (TapeO d e) = H11 at *
      obtain ⟨v, u, ev, rv, g1, g2, g3⟩ : ∃ (v : V) (u : Tie), atI [V.ref pt, V.ref p2] (r : Int) = some v ∧ TieR H11 v u ∧ u.1 < many ∧ u.2 < many ∧ u.1 ≠ u.2 := by
        match r, hr with
        | 0, _ => exact ⟨_, t, rfl, r1, by omega, by omega, by omega⟩
        | 1, _ => exact ⟨_, (t.2, t.1), rfl, r2, by show t.2 < many; omega, by show t.1 < many; omega, by show t.2 ≠ t.1; omega⟩
      have hal := alp11.1
      have hxl := al11.1
      have nHD : H D = none := k1.free hD nDT
      refine ⟨l, _, _, v, rfl, rfl, .of l11, ev, ys, d11, smalls (by omega), k11.mut nHD, ?_, tup_of_lst d11 q11, al11.mono fun _ _ r => r.lst d11, ys ++ [v], ps ++ [u], upd_same, (alp11.snoc rv).mono fun _ _ r => r.lst d11, by rw [List.length_append, hpl]; rfl, G8.app fun w hw => ?_⟩
      · obtain ⟨d', e', a', b'⟩ := t11.at_
        exact ⟨d', e', by rw [upd_ne nDT.symm]; exact a', b'⟩
      · rw [List.mem_singleton.mp hw]
        exact ⟨g1, g2, g3⟩
    · rintro H8 ⟨k8, t8, q8, al8, ys, ps, d8, alp, hpl, G8⟩
      refine ⟨by show 2 ≤ sizeLine; decide, fun p2 hp2 => ?_⟩
      have s9 : Same H8 (upd H8 p2 (.tup [vn many, .ref D])) := same_new hp2
      refine q _ p2 D many ps ys (k8.trans (.of s9)) (t8.mono s9) upd_same nDT (s9 _ _ d8) (alp.mono fun _ _ r => r.mono s9) G8 ?_ hm
      rw [hpl, al8.1]
      exact hlen
end
end Hu
end

/-! ## Wx5 -/
section
set_option maxHeartbeats 4000000
set_option autoImplicit true
namespace Hu
open PySem PySem.Spec PyProof.Rows L2
local macro_rules | `(tactic| walk_at "len") => `(tactic| (intro h; first
  | (obtain ⟨_, e, _⟩ := h; cases e; rfl)
  | (obtain ⟨_, _, e, _⟩ := h; cases e; rfl)
  | (obtain ⟨_, _, _, e, _⟩ := h; cases e; rfl)
  | (obtain ⟨_, _, _, _, e, _⟩ := h; cases e; rfl)
  | (obtain ⟨_, _, _, _, _, e, _⟩ := h; cases e; rfl)
  | (obtain ⟨_, _, _, _, _, _, e, _⟩ := h; cases e; rfl)
  | (obtain ⟨_, _, _, _, _, _, _, e, _⟩ := h; cases e; rfl)
  | (obtain ⟨_, _, _, _, _, _, _, _, e, _⟩ := h; cases e; rfl)
  | (obtain ⟨_, _, _, _, _, _, _, _, _, e, _⟩ := h; cases e; rfl)
  | (obtain ⟨_, _, _, _, _, _, _, _, _, _, e, _⟩ := h; cases e; rfl)
  | (obtain ⟨_, _, _, _, _, _, _, _, _, _, _, e, _⟩ := h; cases e; rfl)
  | (obtain ⟨_, _, _, _, _, _, _, _, _, _, _, _, e, _⟩ := h; cases e; rfl)
  | (obtain ⟨_, _, _, _, _, _, _, _, _, _, _, _, _, e, _⟩ := h; cases e; rfl)
  | (obtain ⟨_, _, _, _, _, _, _, _, _, _, _, _, _, _, e, _⟩ := h; cases e; rfl)
  | (obtain ⟨_, _, _, _, _, _, _, _, _, _, _, _, _, _, _, e, _⟩ := h; cases e; rfl)
  | (obtain ⟨_, _, _, _, _, _, _, _, _, _, _, _, _, _, _, _, e, _⟩ := h; cases e; rfl)
  | (obtain ⟨_, _, _, _, _, _, _, _, _, _, _, _, _, _, _, _, _, e, _⟩ := h; cases e; rfl)
  | (obtain ⟨_, _, _, _, _, _, _, _, _, _, _, _, _, _, _, _, _, _, e, _⟩ := h; cases e; rfl)))
section
variable {P : Program} {w : World} {K : PySem.W.Frag} {mg : Str → Option Value} {base : Heap}
/-! ### _law_even_right -/
abbrev N_l_even_right : List Str := ["_law_held", "_law_web_here", "_law_numbers", "_law_limit", "_law_hueing", "_law_steps", "_law_many"]
theorem sc_l_even_right : FnScope N_l_even_right ["_law_held"] (defScope s_l_even_right) := ⟨rfl, rfl, rfl, by decide +kernel, rfl, by decide +kernel, by decide +kernel⟩
theorem sum_one {c : Nat} : ∀ k : Nat, ((List.range k).map fun d => if c = d then 1 else 0).sum = if c < k then 1 else 0
  | 0 => rfl
  | k + 1 => by
    rw [List.range_succ, List.map_append, List.sum_append, sum_one k]
    simp only [List.map_cons, List.map_nil, List.sum_cons, List.sum_nil, Nat.add_zero]
    split <;> split <;> split <;> omega
theorem sum_add {f g : Nat → Nat} : ∀ l : List Nat, (l.map fun c => f c + g c).sum = (l.map f).sum + (l.map g).sum
  | [] => rfl
  | a :: l => by
    simp only [List.map_cons, List.sum_cons, sum_add l]
    omega
theorem sum_zero : ∀ k : Nat, ((List.range k).map fun _ => 0).sum = 0
  | 0 => rfl
  | k + 1 => by
    rw [List.range_succ, List.map_append, List.sum_append, sum_zero k]
    rfl
theorem sum_hues {h : Hue} {k : Nat} : ∀ n : Nat, (∀ i, i < n → ∃ c, c < k ∧ hu h i = some c) → ((List.range k).map fun c => ((List.range n).filter fun i => hu h i == some c).length).sum = n
  | 0, _ => by
    have : ((List.range k).map fun c => ((List.range 0).filter fun i => hu h i == some c).length) = (List.range k).map fun _ => 0 := rfl
    rw [this, sum_zero]
  | n + 1, H => by
    obtain ⟨c, hc, e⟩ := H n (Nat.lt_succ_self n)
    have e1 : ((List.range k).map fun d => ((List.range (n + 1)).filter fun i => hu h i == some d).length) = (List.range k).map fun d => ((List.range n).filter fun i => hu h i == some d).length + (if c = d then 1 else 0) := by
      refine List.map_congr_left fun d _ => ?_
      rw [List.range_succ, List.filter_append, List.length_append]
      congr 1
      by_cases q : c = d
      · rw [if_pos q, List.filter_cons_of_pos (by rw [e, q]; simp)]
        rfl
      · rw [if_neg q, List.filter_cons_of_neg (by rw [e]; simpa using q)]
        rfl
    rw [e1, sum_add, sum_hues n fun i hi => H i (Nat.lt_succ_of_lt hi), sum_one, if_pos hc]
theorem sizes_sum {h : Hue} {k : Nat} (F : Full h) (B : Below h k) : (sizesOf h k).sum = h.length := by
  unfold sizesOf hasHue
  refine sum_hues h.length fun i hi => ?_
  obtain ⟨c, e⟩ := Option.ne_none_iff_exists'.mp (F i hi)
  exact ⟨c, B i c e, e⟩
theorem sum_cast : ∀ l : List Nat, (l.map fun n : Nat => (n : Int)).sum = (l.sum : Int)
  | [] => rfl
  | a :: l => by
    rw [List.map_cons, List.sum_cons, List.sum_cons, sum_cast l]
    omega
theorem dp_nats {K : PySem.W.Frag} {H : Hp} : ∀ l : List Nat, DpAll K H (l.map vn) (l.map fun n : Nat => PyData.int (n : Int))
  | [] => .nil
  | a :: l => .cons (.int _) (dp_nats l)
theorem canLay_nats : ∀ l : List Nat, PyData.canLayAll0 (l.map fun n : Nat => PyData.int (n : Int)) = true
  | [] => rfl
  | a :: l => by
    have := canLay_nats l
    simp [PyData.canLayAll0, PyData.canLay0] at this ⊢
    exact this
theorem depth_nats : ∀ l : List Nat, PyData.depthAll (l.map fun n : Nat => PyData.int (n : Int)) ≤ 1
  | [] => by decide
  | a :: l => by
    have := depth_nats l
    simp [PyData.depthAll, PyData.depth] at this ⊢
    omega
theorem shaped_nats {l : List Nat} : SeqAt.shaped (.list (l.map fun n : Nat => PyData.int (n : Int))) = true := by
  unfold SeqAt.shaped
  refine Bool.and_eq_true_iff.mpr ⟨canLay_nats l, decide_eq_true ?_⟩
  have := depth_nats l
  simp [PyData.depth]
  omega
def sp_l_even_right (K : PySem.W.Frag) : Sp := fun vs H Q _ => ∃ (o : Own) (m : Nat) (ps : List Tie) (h : Hue), vs = [.ref o.self] ∧ CameT K H o m ps h ∧ ps.length ≤ 38 ∧ ∀ H', Same H H' → Q (.bl true) H'
theorem ok_l_even_right (T : Tx P w K mg base) : Has P w K mg base 11 ("_law_even_right", none) ["_law_held"] (sp_l_even_right K) := by
  obtain ⟨fd_Tied_web_now, G_Tied_web_now, b_Tied_web_now, k_Tied_web_now⟩ := ok_Tied_web_now (P := P) (w := w) (base := base) T
  obtain ⟨fd_Tied_limit, G_Tied_limit, b_Tied_limit, k_Tied_limit⟩ := ok_Tied_limit (P := P) (w := w) (base := base) T
  obtain ⟨fd_evened, G_evened, b_evened, k_evened⟩ := ok_evened (P := P) (w := w) (base := base) T
  obtain ⟨fd_l_hues, G_l_hues, b_l_hues, k_l_hues⟩ := ok_l_hues (P := P) (w := w) (base := base) T
  obtain ⟨fd_sizes, G_sizes, b_sizes, k_sizes⟩ := ok_sizes (P := P) (w := w) (base := base) T
  obtain ⟨fd_is_whole, G_is_whole, b_is_whole, k_is_whole⟩ := ok_is_whole (P := P) (w := w) (base := base) T
  obtain ⟨fd_all_hued, G_all_hued, b_all_hued, k_all_hued⟩ := ok_all_hued (P := P) (w := w) (base := base) T
  refine mkHas T 85 (d := d_l_even_right) rfl sc_l_even_right rfl rfl (fun us hl => match us, hl with | [_], _ => fun _ _ _ _ _ _ => rfl) (fun vs H Q E => ?_) (fun cdv A outer s H vs Q E hr h => ?_)
  · walk_at "len"
  · have hU := hu_of hr
    refine ⟨_, PSs.nox (pss_cons (ps_asg (pe_meth0 (pv 0) T.c_Tied T.m_Tied_web_now G_Tied_web_now (hr.mono (by decide)) b_Tied_web_now .nil pass0) (pg_tup rfl (pgs_cons (pg_name (i := 1) sc_l_even_right.nd rfl (Or.inl rfl)) (pgs_cons (pg_name (i := 2) sc_l_even_right.nd rfl (Or.inl rfl)) pgs_nil))))
    (pss_cons (ps_set (i := 3) sc_l_even_right.nd rfl (Or.inl rfl) (pe_meth0 (pv 0) T.c_Tied T.m_Tied_limit G_Tied_limit (hr.mono (by decide)) b_Tied_limit .nil pass0))
    (pss_cons (ps_asg (pe_call G_evened (hr.mono (by decide)) rfl T.g_evened k_evened b_evened .nil pass0 (pa_cons (pv 1) (pa_cons (pe_call G_l_hues (hr.mono (by decide)) rfl T.g_l_hues k_l_hues b_l_hues .nil pass0 (pa_cons (pv 0) pa_nil)) (pa_cons (pv 3) pa_nil)))) (pg_tup rfl (pgs_cons (pg_name (i := 4) sc_l_even_right.nd rfl (Or.inl rfl)) (pgs_cons (pg_name (i := 5) sc_l_even_right.nd rfl (Or.inl rfl)) pgs_nil))))
    (pss_cons (ps_set (i := 6) sc_l_even_right.nd rfl (Or.inl rfl) (pe_call G_sizes (hr.mono (by decide)) rfl T.g_sizes k_sizes b_sizes .nil pass0 (pa_cons (pv 4) (pa_cons (pv 3) pa_nil))))
    (pss_cons (ps_if (PW.pt (pw_or (pt_not (pt_val (pe_call G_is_whole (hr.mono (by decide)) rfl T.g_is_whole k_is_whole b_is_whole .nil pass0 (pa_cons (pv 1) (pa_cons (pv 4) pa_nil))))) (pw_or (pt_cmpR op_ne (pe_callB (cr_sum rfl) (by rfl) T.b_sum (by decide +kernel) (pa_cons (pv 6) pa_nil)) (pe_callB call_len_seq (by rfl) T.b_len (by decide +kernel) (pa_cons (pv 2) pa_nil)) (nomark _)) (pw_or1 (PW.pt (pw_and (pt_cmpR (op_neD hr.units) (pv 6) (pe_lst pa_nil) (nomark _)) (pw_and1 (pt_cmpR op_gt (pe_op op_sub (pe_callB (cr_max rfl) (by rfl) T.b_max (by decide +kernel) (pa_cons (pv 6) pa_nil)) (pe_callB (cr_min rfl) (by rfl) T.b_min (by decide +kernel) (pa_cons (pv 6) pa_nil))) pe_int (nomark _))))))))) (pss_one (ps_ret pe_bl)) pss_nil)
    (pss_one (ps_ret (pe_call G_is_whole (hr.mono (by decide)) rfl T.g_is_whole k_is_whole b_is_whole .nil pass0 (pa_cons (pv 1) (pa_cons (pe_ix ix_tup (pe_call G_all_hued (hr.mono (by decide)) rfl T.g_all_hued k_all_hued b_all_hued .nil pass0 (pa_cons (pv 1) (pa_cons (pv 3) pa_nil))) pe_int (fun _ _ => rfl)) pa_nil)))))))))), ?_⟩
    obtain ⟨o, m, ps, hh, rfl, C, hlen, q⟩ := h
    have hO := C.obj
    have htl : (ps.map tieP).length = ps.length := List.length_map ..
    have hmo := mostAt_le (m := m) (ts := ps.map tieP)
    have hth := thick_le (ts := ps.map tieP)
    rw [htl] at hmo hth
    generalize hk : mostAt m (ps.map tieP) + thick (ps.map tieP) = k at *
    have hk2 : k ≤ 200 := by omega
    obtain ⟨CO, CW, CP, CF, CB⟩ := C
    rw [hk] at CO CB
    refine ⟨_, rfl, o.self, o.dx, _, rfl, CO.ins, rfl, o, m, _, _, _, _, _, _, rfl, CO, fun p W N H1 s1 hp W1 hN hN' => ⟨p, _, rfl, .of hp, rfl, _, _, rfl, _, _, rfl, rfl, ?_⟩⟩
    have O1 := CO.mono s1
    refine ⟨_, rfl, o.self, o.dx, _, rfl, O1.ins, rfl, o, m, _, _, _, _, _, _, rfl, O1, ?_⟩
    refine ⟨_, rfl, _, rfl, o, m, _, _, _, _, _, _, rfl, O1, fun Hd H2 hHd s2 d2 => ?_⟩
    have W2 := W1.mono s2
    refine ⟨_, rfl, _, _, m, k, _, hh, rfl, W2, ⟨Hd, rfl, d2⟩, CW, CP, CF, CB, by rw [htl]; omega, hk2, fun H3 p3 D S h' s3 hp3 d3 P3 F3 B3 E3 => ⟨p3, _, rfl, .of hp3, rfl, _, _, rfl, _, _, rfl, rfl, ?_⟩⟩
    have hl' : h'.length = ps.length := by rw [P3.1, htl]
    refine ⟨_, rfl, _, rfl, _, h', k, rfl, ⟨D, rfl, d3⟩, by omega, by omega, B3, F3, fun M H4 hM s4 m4 => ?_⟩
    have s34 := s3.trans s4
    have W4 := W2.mono s34
    have s14 := s2.trans s34
    refine ⟨_, rfl, _, rfl, _, _, m, _, h', rfl, W4, ⟨D, rfl, s4 _ _ d3⟩, CW, P3, F3, fun H5 s5 => ⟨_, rfl, iteF ?_⟩⟩
    have s15 := s14.trans s5
    have m5 := s5 _ _ m4
    have m5' : H5 M = some (.lst (((sizesOf h' k).map fun n : Nat => (n : Int)).map V.int)) := by rw [m5, map_vn_int]
    refine ⟨_, rfl, M, _, rfl, .of m5', _, rfl, N, _, rfl, .inl (.of (s15 _ _ hN')), rfl, _, rfl, ?_⟩
    rw [sum_cast, sizes_sum F3 B3, List.length_map, List.length_range, hl']
    rw [decide_eq_true (show V.int ((ps.length : Nat) : Int) = V.int ((ps.length : Nat) : Int) from rfl)]
    refine iteF ?_
    refine ⟨_, rfl, by decide, fun l hl => ?_⟩
    have s6 : Same H5 (upd H5 l (.lst [])) := same_new hl
    refine ⟨_, _, .lst (.of (s6 _ _ m5)) (dp_nats _), .lst (.of upd_same) .nil, shaped_nats, by decide, _, rfl, ?_⟩
    have s16 := s15.trans s6
    have m6' := s6 _ _ m5'
    generalize upd H5 l (.lst []) = H6 at s16 m6' s6
    have rest : (∀ H7, Same H6 H7 → Q (.bl true) H7) := fun H7 s7 => q H7 ((s1.trans s16).trans s7)
    have W6 := W1.mono s16
    have fin : ∀ {D' : Ends}, True := fun {_} => trivial
    cases hS : sizesOf h' k with
    | nil =>
      refine iteF (iteF ?_)
      refine ⟨_, rfl, _, rfl, _, rfl, _, m, k, _, rfl, W6, CW, by rw [hk]; exact Nat.le_refl _, by omega, by rw [htl]; omega, fun H7 p7 hv7 S7 h7 s7 hp7 R7 P7 F7 => ?_⟩
      refine ⟨p7, _, 0, _, rfl, rfl, .of hp7, rfl, _, _, m, _, h7, rfl, W6.mono s7, R7, CW, P7, F7, fun H8 s8 => rest H8 (s7.trans s8)⟩
    | cons s0 S1 =>
      have hne : ((sizesOf h' k).map fun n : Nat => (n : Int)) ≠ [] := by rw [hS]; exact fun z => nomatch z
      have hlp : 0 < ((sizesOf h' k).map fun n : Nat => (n : Int)).length := List.length_pos_iff.mpr hne
      rw [← hS]
      have eqc : (!PyData.eqv (.list ((sizesOf h' k).map fun n : Nat => PyData.int (n : Int))) (.list [])) = true := by rw [hS]; rfl
      rw [eqc]
      refine iteT ⟨_, rfl, M, _, rfl, .of m6', hlp, fun mx hmx hmx2 => ?_⟩
      refine ⟨_, rfl, M, _, rfl, .of m6', hlp, fun mn hmn hmn2 => ?_⟩
      obtain ⟨x, hx, rfl⟩ := ints_mem hmx
      obtain ⟨y, hy, rfl⟩ := ints_mem hmn
      have hE := E3 x y hx hy
      refine ⟨_, _, rfl, rfl, _, _, rfl, rfl, _, rfl, ?_⟩
      rw [decide_eq_false (show ¬ (1 : Int) < (x : Int) - (y : Int) by omega)]
      refine iteF ?_
      refine ⟨_, rfl, _, rfl, _, rfl, _, m, k, _, rfl, W6, CW, by rw [hk]; exact Nat.le_refl _, by omega, by rw [htl]; omega, fun H7 p7 hv7 S7 h7 s7 hp7 R7 P7 F7 => ?_⟩
      refine ⟨p7, _, 0, _, rfl, rfl, .of hp7, rfl, _, _, m, _, h7, rfl, W6.mono s7, R7, CW, P7, F7, fun H8 s8 => rest H8 (s7.trans s8)⟩
end
end Hu
end

/-! ## Wx6 -/
section
set_option maxHeartbeats 4000000
set_option autoImplicit true
namespace Hu
open PySem PySem.Spec PyProof.Rows L2
local macro_rules | `(tactic| walk_at "len") => `(tactic| (intro h; first
  | (obtain ⟨_, e, _⟩ := h; cases e; rfl)
  | (obtain ⟨_, _, e, _⟩ := h; cases e; rfl)
  | (obtain ⟨_, _, _, e, _⟩ := h; cases e; rfl)
  | (obtain ⟨_, _, _, _, e, _⟩ := h; cases e; rfl)
  | (obtain ⟨_, _, _, _, _, e, _⟩ := h; cases e; rfl)
  | (obtain ⟨_, _, _, _, _, _, e, _⟩ := h; cases e; rfl)
  | (obtain ⟨_, _, _, _, _, _, _, e, _⟩ := h; cases e; rfl)
  | (obtain ⟨_, _, _, _, _, _, _, _, e, _⟩ := h; cases e; rfl)
  | (obtain ⟨_, _, _, _, _, _, _, _, _, e, _⟩ := h; cases e; rfl)
  | (obtain ⟨_, _, _, _, _, _, _, _, _, _, e, _⟩ := h; cases e; rfl)
  | (obtain ⟨_, _, _, _, _, _, _, _, _, _, _, e, _⟩ := h; cases e; rfl)
  | (obtain ⟨_, _, _, _, _, _, _, _, _, _, _, _, e, _⟩ := h; cases e; rfl)
  | (obtain ⟨_, _, _, _, _, _, _, _, _, _, _, _, _, e, _⟩ := h; cases e; rfl)
  | (obtain ⟨_, _, _, _, _, _, _, _, _, _, _, _, _, _, e, _⟩ := h; cases e; rfl)
  | (obtain ⟨_, _, _, _, _, _, _, _, _, _, _, _, _, _, _, e, _⟩ := h; cases e; rfl)
  | (obtain ⟨_, _, _, _, _, _, _, _, _, _, _, _, _, _, _, _, e, _⟩ := h; cases e; rfl)
  | (obtain ⟨_, _, _, _, _, _, _, _, _, _, _, _, _, _, _, _, _, e, _⟩ := h; cases e; rfl)
  | (obtain ⟨_, _, _, _, _, _, _, _, _, _, _, _, _, _, _, _, _, _, e, _⟩ := h; cases e; rfl)))
section
variable {P : Program} {w : World} {K : PySem.W.Frag} {mg : Str → Option Value} {base : Heap}
/-! ### _law_all_go -/
abbrev N_l_all_go : List Str := ["_law_tape_here", "_law_held", "_law_limit", "_law_number", "_law_rows", "_law_row"]
theorem sc_l_all_go : FnScope N_l_all_go ["_law_tape_here", "_law_held"] (defScope s_l_all_go) := ⟨rfl, rfl, rfl, by decide +kernel, rfl, by decide +kernel, by decide +kernel⟩
def dvo : Option Nat → PyData
  | none => .none
  | some c => .int (c : Int)
theorem dp_vo {K : PySem.W.Frag} {H : Hp} {c : Option Nat} : Dp K H (vo c) (dvo c) := by
  cases c
  · exact .non
  · exact .int _
def rowD (ns : List Nat) (ts : List Tie) (h : Hue) (i : Nat) : PyData := .tuple [.int ((ns.getD i 0 : Nat) : Int), .int (((en ts i).1 : Nat) : Int), .int (((en ts i).2 : Nat) : Int), dvo (hu h i)]
theorem Al.uncons {α : Type} {R : V → α → Prop} {v : V} {x : α} {vs : List V} {xs : List α} (h : Al R (v :: vs) (x :: xs)) : R v x ∧ Al R vs xs :=
  ⟨h.2 0 v x rfl rfl, by simpa using h.1, fun i v' x' a b => h.2 (i + 1) v' x' a b⟩
theorem dp_rows {K : PySem.W.Frag} {H : Hp} {ns : List Nat} {ts : List Tie} {h : Hue} : ∀ {vs : List V} {l : List Nat}, Al (RowR ns ts h H) vs l → DpAll K H vs (l.map (rowD ns ts h))
  | [], [], _ => .nil
  | [], _ :: _, a => absurd a.1 (by simp)
  | _ :: _, [], a => absurd a.1 (by simp)
  | v :: vs, x :: l, a => by
    obtain ⟨⟨p, rfl, hp⟩, a2⟩ := a.uncons
    exact .cons (.tup (.of hp) (.cons (.int _) (.cons (.int _) (.cons (.int _) (.cons dp_vo .nil))))) (dp_rows a2)
theorem lay_vo {c : Option Nat} : PyData.canLay0 (dvo c) = true := by cases c <;> rfl
theorem depth_vo {c : Option Nat} : PyData.depth (dvo c) ≤ 1 := by cases c <;> simp [dvo, PyData.depth]
theorem lay_rows {ns : List Nat} {ts : List Tie} {h : Hue} : ∀ l : List Nat, PyData.canLayAll0 (l.map (rowD ns ts h)) = true
  | [] => rfl
  | a :: l => by
    have := lay_rows (ns := ns) (ts := ts) (h := h) l
    simp [PyData.canLayAll0, PyData.canLay0, rowD, lay_vo] at this ⊢
    exact this
theorem depth_rows {ns : List Nat} {ts : List Tie} {h : Hue} : ∀ l : List Nat, PyData.depthAll (l.map (rowD ns ts h)) ≤ 5
  | [] => by show PyData.depthAll [] ≤ 5; decide
  | a :: l => by
    have := depth_rows (ns := ns) (ts := ts) (h := h) l
    have := depth_vo (c := hu h a)
    simp [PyData.depthAll, PyData.depth, rowD] at *
    omega
theorem shaped_rows {ns : List Nat} {ts : List Tie} {h : Hue} {l : List Nat} : SeqAt.shaped (.list (l.map (rowD ns ts h))) = true := by
  unfold SeqAt.shaped
  refine Bool.and_eq_true_iff.mpr ⟨lay_rows l, decide_eq_true ?_⟩
  have := depth_rows (ns := ns) (ts := ts) (h := h) l
  simp [PyData.depth]
  omega
theorem without {α : Type} {f g : Nat → α} {j : Nat} : ∀ n : Nat, j ≤ n → (∀ i, i < j → g i = f i) → (∀ i, j ≤ i → g i = f (i + 1)) → ((List.range (n + 1)).filter fun i => decide (i ≠ j)).map f = (List.range n).map g
  | 0, hj, _, _ => by
    obtain rfl : j = 0 := by omega
    rfl
  | n + 1, hj, h1, h2 => by
    rw [List.range_succ, List.filter_append, List.map_append]
    by_cases q : j = n + 1
    · subst q
      rw [List.filter_eq_self.mpr fun i hi => decide_eq_true (by have := List.mem_range.mp hi; omega)]
      rw [List.filter_cons_of_neg (by simp), List.filter_nil, List.map_nil, List.append_nil]
      exact List.map_congr_left fun i hi => (h1 i (List.mem_range.mp hi)).symm
    · rw [without n (by omega) h1 h2, show (List.filter (fun i => decide (i ≠ j)) [n + 1]) = [n + 1] from List.filter_cons_of_pos (decide_eq_true (by omega))]
      rw [List.range_succ, List.map_append, List.map_cons, List.map_cons, h2 n (by omega)]
      rfl
theorem getD_er {α : Type} {l : List α} {d : α} {i j : Nat} : (l.eraseIdx j).getD i d = l.getD (if i < j then i else i + 1) d := by
  rw [List.getD_eq_getElem?_getD, List.getD_eq_getElem?_getD, List.getElem?_eraseIdx]
  split <;> rfl
theorem rowD_er {ns : List Nat} {ts : List Tie} {h : Hue} {i j : Nat} : rowD (ns.eraseIdx j) (ts.eraseIdx j) (h.eraseIdx j) i = rowD ns ts h (if i < j then i else i + 1) := by
  unfold rowD en hu
  rw [getD_er, getD_er, getD_er]
theorem rng_at {n i j : Nat} (h : (List.range n)[i]? = some j) : i < n ∧ j = i := by
  have hi : i < n := by simpa using (List.getElem?_eq_some_iff.mp h).1
  rw [List.getElem?_range hi] at h
  exact ⟨hi, (Option.some.inj h).symm⟩
theorem nd_ix {l : List Nat} (h : l.Pairwise (· < ·)) {i j x : Nat} (a : l[i]? = some x) (b : l[j]? = some x) : i = j := by
  obtain ⟨hi, ei⟩ := List.getElem?_eq_some_iff.mp a
  obtain ⟨hj, ej⟩ := List.getElem?_eq_some_iff.mp b
  rcases Nat.lt_trichotomy i j with q | q | q
  · have := List.pairwise_iff_getElem.mp h i j hi hj q
    omega
  · exact q
  · have := List.pairwise_iff_getElem.mp h j i hj hi q
    omega
def sp_l_all_go (K : PySem.W.Frag) : Sp := fun vs H Q _ => ∃ (Ta : Addr) (o : Own) (m g b pl : Nat) (ns : List Nat) (ts : List Tie) (h : Hue), vs = [.ref Ta, .ref o.self] ∧ TiedO K H o m ns ts h g b pl ∧ TapeR H Ta ∧ Ta ∉ o.l ∧ m ≤ 12 ∧ pl ≤ 900 ∧
  ∀ H' pl', Same (dels H (Ta :: o.l)) H' → TapeR H' Ta → TiedO K H' o m [] [] [] g 0 pl' → pl' ≤ pl + 100 → Q (.bl true) H'
theorem KeepT.two {Ta : Addr} {o : Own} {H H' : Hp} (k : KeepT Ta H H') : Same (dels H (Ta :: o.l)) H' := fun b u e => k b u (by
  unfold dels at e ⊢
  split at e
  · cases e
  · rename_i h
    rw [if_neg (fun z => h (by rw [List.mem_singleton.mp z]; exact List.mem_cons_self))]
    exact e)
theorem Keeps.two {Ta : Addr} {o : Own} {H H' : Hp} (k : Keeps o H H') : Same (dels H (Ta :: o.l)) H' := fun b u e => k b u (by
  unfold dels at e ⊢
  split at e
  · cases e
  · rename_i h
    rw [if_neg (fun z => h (List.mem_cons_of_mem _ z))]
    exact e)
theorem two_trans {l : List Addr} {H H1 H' : Hp} (a : Same (dels H l) H1) (b : Same (dels H1 l) H') : Same (dels H l) H' := (dels_of a fun p hp => dels_none hp).trans b
theorem two_at {l : List Addr} {H H' : Hp} {p : Addr} {x : HO} (a : Same (dels H l) H') (hp : p ∉ l) (e : H p = some x) : H' p = some x := a _ _ (by rw [dels_ne hp]; exact e)
theorem TiedO.keepT {K : PySem.W.Frag} {H H' : Hp} {o : Own} {m : Nat} {ns : List Nat} {ts : List Tie} {h : Hue} {g b pl Ta : Nat} (O : TiedO K H o m ns ts h g b pl) (k : KeepT Ta H H') (n : Ta ∉ o.l) (tl : ∃ xs, H Ta = some (.lst xs)) : TiedO K H' o m ns ts h g b pl := by
  obtain ⟨ll, htl⟩ := tl
  obtain ⟨vs, h1, h1'⟩ := O.ends
  obtain ⟨ys, h2, h2'⟩ := O.past
  refine ⟨k.at (fun z => n (z ▸ Own.self_mem)) O.ins, ⟨vs, k.at (fun z => n (z ▸ Own.E_mem)) h1, h1'.mono fun _ _ r => ?_⟩, k.at (fun z => n (z ▸ Own.U_mem)) O.hues, ⟨ys, k.at (fun z => n (z ▸ Own.P_mem)) h2, h2'⟩, O.ne, O.nums⟩
  obtain ⟨p, x, y⟩ := r
  exact ⟨p, x, k.at (fun z => by rw [z, htl] at y; cases y) y⟩
theorem TapeR.keeps {o : Own} {H H' : Hp} {Ta : Addr} (t : TapeR H Ta) (k : Keeps o H H') (n : Ta ∉ o.l) : TapeR H' Ta := let ⟨d, e, a, b⟩ := t.at_; ⟨d, e, k.at n a, b⟩
theorem er_perm : ∀ {l : List Nat} {j n : Nat}, l[j]? = some n → (n :: l.eraseIdx j).Perm l
  | [], _, _, h => by simp at h
  | a :: l, 0, n, h => by
    obtain rfl : a = n := Option.some.inj h
    exact List.Perm.refl _
  | a :: l, j + 1, n, h => (List.Perm.swap a n _).trans (List.Perm.cons a (er_perm (l := l) h))
theorem fewer {ns : List Nat} {n j : Nat} {r : List V} (h : ns[j]? = some n) (p : (ns.map vn).Perm (vn n :: r)) : ((ns.eraseIdx j).map vn).Perm r :=
  List.Perm.cons_inv (((er_perm h).map vn).trans p)
theorem ok_l_all_go (T : Tx P w K mg base) : Has P w K mg base 12 ("_law_all_go", none) ["_law_tape_here", "_law_held"] (sp_l_all_go K) := by
  obtain ⟨fd_Tied_limit, G_Tied_limit, b_Tied_limit, k_Tied_limit⟩ := ok_Tied_limit (P := P) (w := w) (base := base) T
  obtain ⟨fd_l_mixed, G_l_mixed, b_l_mixed, k_l_mixed⟩ := ok_l_mixed (P := P) (w := w) (base := base) T
  obtain ⟨fd_Tied_ties, G_Tied_ties, b_Tied_ties, k_Tied_ties⟩ := ok_Tied_ties (P := P) (w := w) (base := base) T
  obtain ⟨fd_Tied_go, G_Tied_go, b_Tied_go, k_Tied_go⟩ := ok_Tied_go (P := P) (w := w) (base := base) T
  obtain ⟨fd_Tied_settle, G_Tied_settle, b_Tied_settle, k_Tied_settle⟩ := ok_Tied_settle (P := P) (w := w) (base := base) T
  refine mkHas T 86 (d := d_l_all_go) rfl sc_l_all_go rfl rfl (fun us hl => match us, hl with | [_, _], _ => fun _ _ _ _ _ _ => rfl) (fun vs H Q E => ?_) (fun cdv A outer s H vs Q E hr h => ?_)
  · walk_at "len"
  · have hU := hu_of hr
    refine ⟨_, PSs.nox (pss_cons (ps_set (i := 2) sc_l_all_go.nd rfl (Or.inl rfl) (pe_meth0 (pv 1) T.c_Tied T.m_Tied_limit G_Tied_limit (hr.mono (by decide)) b_Tied_limit .nil pass0))
    (pss_cons (ps_for PassesOwn.never rfl (pi_list (pe_call G_l_mixed (hr.mono (by decide)) rfl T.g_l_mixed k_l_mixed b_l_mixed .nil pass0 (pa_cons (pv 0) (pa_cons (pe_lc (own := [("_law_row", 5)]) rfl sc_l_all_go.nd (pi_list (pe_meth0 (pv 1) T.c_Tied T.m_Tied_ties G_Tied_ties (hr.mono (by decide)) b_Tied_ties .nil pass0)) (blkOk_by (N := N_l_all_go) (sc := defScope s_l_all_go) (by decide +kernel)) (fun _ _ _ _ _ => by exact (pg_name (i := 5) sc_l_all_go.nd rfl (Or.inl rfl))) (fun _ _ _ _ _ => by exact pts_nil) (fun _ _ _ _ _ => by exact (pe_ix (ix_tupK (K := K) rfl) (pv 5) pe_int (fun _ _ => rfl)))) pa_nil)))) (pg_name (i := 3) sc_l_all_go.nd rfl (Or.inr rfl))
      (pss_cons (ps_setLc (i := 4) (own := [("_law_row", 5)]) rfl sc_l_all_go.nd rfl rfl (sw_true rfl rfl rfl (by decide +kernel)) (pi_list (pe_meth0 (pv 1) T.c_Tied T.m_Tied_ties G_Tied_ties (hr.mono (by decide)) b_Tied_ties .nil pass0)) (blkOk_by (N := N_l_all_go) (sc := defScope s_l_all_go) (by decide +kernel)) (fun _ _ _ _ _ => by exact (pg_name (i := 5) sc_l_all_go.nd rfl (Or.inl rfl))) (fun _ _ _ _ _ => by exact (pts_one (pt_cmpR op_ne (pe_ix (ix_tupK (K := K) rfl) (pv 5) pe_int (fun _ _ => rfl)) (pv 3) (nomark _)))) (fun _ _ _ _ _ => by exact (pv 5)))
      (pss_cons (ps_expr (pe_meth (pv 1) T.c_Tied T.m_Tied_go G_Tied_go (hr.mono (by decide)) b_Tied_go .nil pass0 (pa_cons (pv 3) pa_nil)))
      (pss_one (ps_if (PW.pt (pw_or (pt_cmpR (op_neD hr.units) (pe_meth0 (pv 1) T.c_Tied T.m_Tied_ties G_Tied_ties (hr.mono (by decide)) b_Tied_ties .nil pass0) (pv 4) (nomark _)) (pw_or1 (pt_cmpR op_ne (pe_meth0 (pv 1) T.c_Tied T.m_Tied_limit G_Tied_limit (hr.mono (by decide)) b_Tied_limit .nil pass0) (pv 2) (nomark _))))) (pss_one (ps_ret pe_bl)) pss_nil)))))
    (pss_one (ps_ret (pe_and (pe_cmpR (op_eqD hr.units) (pe_meth0 (pv 1) T.c_Tied T.m_Tied_settle G_Tied_settle (hr.mono (by decide)) b_Tied_settle .nil pass0) (pe_lst pa_nil) (nomark _)) (pe_and (pe_cmpR op_eq (pe_meth0 (pv 1) T.c_Tied T.m_Tied_limit G_Tied_limit (hr.mono (by decide)) b_Tied_limit .nil pass0) pe_int (nomark _)) (pe_one (pe_cmpR (op_eqD hr.units) (pe_meth0 (pv 1) T.c_Tied T.m_Tied_ties G_Tied_ties (hr.mono (by decide)) b_Tied_ties .nil pass0) (pe_lst pa_nil) (nomark _))))))))), ?_⟩
    obtain ⟨Ta, o, m, g, b, pl, ns, ts, hh, rfl, O, tp, nTa, hm, hpl, q⟩ := h
    have hf := O.nums.few
    refine ⟨_, rfl, o.self, o.dx, _, rfl, O.ins, rfl, o, m, _, _, _, _, _, _, rfl, O, ?_⟩
    refine ⟨_, rfl, _, rfl, o.self, o.dx, _, rfl, O.ins, rfl, o, m, _, _, _, _, _, _, rfl, O, fun D0 H1 hD0 s1 L1 => ?_⟩
    obtain ⟨D0', cs, eD, hc, alC⟩ := L1
    cases eD
    have hcl : cs.length = ns.length := by rw [alC.1, List.length_range]
    refine ⟨D0, rfl, ⟨_, .of hc⟩, fun D hD => ?_⟩
    refine lc_val (n := cs.length) walk_list (by omega) hD (fun H2 s2 => .of (s2 _ _ hc)) (fun _ => true) (fun i => vn (ns.getD i 0)) ?_ ?_
    · rintro i x H2 H3 acc hi s2 d2 ⟨rfl, e⟩ Good Skip hg hs
      obtain ⟨j, ej, p, rfl, hp⟩ := alC.getV e
      obtain ⟨_, rfl⟩ := rng_at ej
      exact ⟨rfl, _, rfl, p, _, 0, _, rfl, rfl, .of (s2 _ _ hp), rfl, hg rfl _ (Same.refl _)⟩
    intro H2 s2 hd2
    rw [filter_all] at hd2
    have ens : (List.range cs.length).map (fun i => vn (ns.getD i 0)) = ns.map vn := by
      rw [hcl]
      refine List.ext_getElem? fun j => ?_
      rw [List.getElem?_map, List.getElem?_map]
      by_cases z : j < ns.length
      · rw [List.getElem?_range z, List.getElem?_eq_getElem z]
        show some (vn (ns.getD j 0)) = _
        rw [getD_of (List.getElem?_eq_getElem z)]
        rfl
      · rw [List.getElem?_eq_none (by rw [List.length_range]; omega), List.getElem?_eq_none (by omega)]
        rfl
    rw [ens] at hd2
    have s12 := s1.trans s2
    have O2 := O.mono s12
    have tp2 := tp.mono s12
    obtain ⟨dd, ee, hTa, _⟩ := tp2.at_
    have nDT : D ≠ Ta := fun z => by
      obtain ⟨d', e', hT', _⟩ := tp.at_
      rw [← z, s1.free hD] at hT'
      cases hT'
    refine ⟨Ta, D, _, rfl, tp2, hd2, nDT, by rw [List.length_map]; omega, fun M H3 ys hM k3 tp3 hM3 pm => ?_⟩
    have O3 := O2.keepT k3 nTa ⟨_, hTa⟩
    have nM := O2.free hM
    have nMT : M ≠ Ta := (ne_of_none hTa hM).symm
    have two3 : Same (dels H (Ta :: o.l)) H3 := two_trans (dels_same.trans s12) (KeepT.two k3)
    refine ⟨M, rfl, ⟨_, .of hM3⟩, ?_⟩
    have hyl : ys.length = ns.length := by rw [pm.length_eq, List.length_map]
    refine for_list (xs := ys) (fun i σ H4 => Same (dels H (Ta :: o.l)) H4 ∧ TapeR H4 Ta ∧ H4 M = some (.lst ys) ∧ (∃ z3 z4 z5, σ = [some (.ref Ta), some (.ref o.self), some (vn b), z3, z4, z5]) ∧ ∃ ns' ts' h', TiedO K H4 o m ns' ts' h' g b (pl + i) ∧ (ns'.map vn).Perm (ys.drop i)) ⟨two3, tp3, hM3, ⟨_, _, _, rfl⟩, ns, ts, hh, O3, by rw [List.drop_zero]; exact pm.symm⟩ (fun i σ H4 _ h4 => .of h4.2.2.1) ?_ ?_
    · rintro i x σ H4 hx ⟨two4, tp4, hM4, ⟨z3, z4, z5, rfl⟩, ns', ts', h', O4, pm4⟩
      have hil := (List.getElem?_eq_some_iff.mp hx).1
      have hdr : ys.drop i = x :: ys.drop (i + 1) := by
        rw [List.drop_eq_getElem_cons hil]
        congr 1
        exact Option.some.inj ((List.getElem?_eq_getElem hil).symm.trans hx)
      rw [hdr] at pm4
      obtain ⟨n, hn, rfl⟩ := List.mem_map.mp (pm4.mem_iff.mpr List.mem_cons_self)
      obtain ⟨j, hj, ej⟩ := List.getElem_of_mem hn
      have hnj : ns'[j]? = some n := by rw [List.getElem?_eq_getElem hj, ej]
      have hf4 := O4.nums.few
      refine ⟨_, rfl, o.self, o.dx, _, rfl, O4.ins, rfl, o, m, _, _, _, _, _, _, rfl, O4, fun D1 H5 hD1 s5 L5 => ?_⟩
      obtain ⟨D1', c1, eD1, hc1, al1⟩ := L5
      cases eD1
      have hcl1 : c1.length = ns'.length := by rw [al1.1, List.length_range]
      refine ⟨D1, rfl, ⟨_, .of hc1⟩, fun E hE => ?_⟩
      refine lc_rel (n := c1.length) walk_list (by omega) hE (fun H2 s2 => .of (s2 _ _ hc1)) (fun i => decide (i ≠ j)) (fun i H v => RowR ns' ts' h' H v i) (fun i Ha Hb v s w => w.mono s) ?_ ?_
      · rintro i1 x1 H6 H7 acc hi1 s6 d6 ⟨rfl, e⟩ Good Skip hg hs
        obtain ⟨j1, ej1, p, rfl, hp⟩ := al1.getV e
        obtain ⟨hj1, rfl⟩ := rng_at ej1
        refine ⟨rfl, _, rfl, p, _, 0, _, rfl, rfl, .of (s6 _ _ hp), rfl, _, rfl, ?_⟩
        refine ⟨rfl, _, rfl, ?_⟩
        have hp7 := s6 _ _ hp
        by_cases hij : j1 = j
        · rw [hij, getD_of hnj, decide_eq_true (show vn n = vn n from rfl)]
          exact iteF (hs (by rw [hij]; simp) _ (Same.refl _))
        · have hne : ns'.getD j1 0 ≠ n := fun z => by
            have hj1' : j1 < ns'.length := by omega
            have e1 : ns'[j1]? = some n := by
              have := getD_some (xs := ns') (d := 0) hj1'
              rw [z] at this
              exact this
            exact hij (nd_ix O4.nums.asc e1 hnj)
          rw [decide_eq_false (show ¬ vn (ns'.getD j1 0) = vn n from fun z => hne (by injection z with z; omega))]
          refine iteT ⟨_, rfl, hg (decide_eq_true hij) _ _ (Same.refl _) ⟨p, rfl, ?_⟩⟩
          rw [del_ne (fun z => by rw [z, d6] at hp7; cases hp7)]
          exact hp7
      intro H6 rs s6 d6 alR
      have s56 := s5.trans s6
      have O6 := O4.mono s56
      have tp6 := tp4.mono s56
      obtain ⟨dd6, ee6, hTa6, _⟩ := tp6.at_
      have nEo := (O4.mono s5).free hE
      refine ⟨_, rfl, o.self, o.dx, _, rfl, O6.ins, rfl, _, rfl, o, m, _, _, _, n, j, _, _, _, rfl, O6, hnj, by omega, fun H7 k7 O7 => ?_⟩
      have two7 := two_trans (two4.trans s56) (Keeps.two (Ta := Ta) k7)
      have hTa7 := k7.at nTa hTa6
      have hM7 := k7.at nM (s56 _ _ hM4)
      have hE7 := k7.at nEo d6
      have alR7 := alR.mono fun v i (r : RowR ns' ts' h' H6 v i) => (show RowR ns' ts' h' H7 v i from let ⟨p, a, b⟩ := r; ⟨p, a, k7.at (O6.notin b) b⟩)
      refine ⟨_, rfl, o.self, o.dx, _, rfl, O7.ins, rfl, o, m, _, _, _, _, _, _, rfl, O7, fun D2 H8 hD2 s8 L8 => ?_⟩
      obtain ⟨D2', c2, eD2, hc2, al2⟩ := L8
      cases eD2
      have al7 := alR7.mono fun v i (r : RowR ns' ts' h' H7 v i) => r.mono s8
      rw [hcl1] at al7
      have O8 := O7.mono s8
      have hl1 := O4.nums.l1
      have hlen : ns'.length = ns'.length - 1 + 1 := by omega
      have eqD : ((List.range ns'.length).filter fun i => decide (i ≠ j)).map (rowD ns' ts' h') = (List.range (ns'.eraseIdx j).length).map (rowD (ns'.eraseIdx j) (ts'.eraseIdx j) (h'.eraseIdx j)) := by
        rw [List.length_eraseIdx, if_pos hj]
        conv => lhs; rw [hlen]
        refine without _ (by omega) (fun i hi => ?_) (fun i hi => ?_)
        · rw [rowD_er, if_pos hi]
        · rw [rowD_er, if_neg (by omega)]
      refine ⟨_, rfl, _, _, .lst (.of hc2) (dp_rows al2), .lst (.of (s8 _ _ hE7)) (dp_rows al7), shaped_rows, shaped_rows, _, rfl, ?_⟩
      rw [eqD, SeqAt.eqv_refl _ (Bool.and_eq_true_iff.mp (shaped_rows (ns := ns'.eraseIdx j) (ts := ts'.eraseIdx j) (h := h'.eraseIdx j) (l := List.range (ns'.eraseIdx j).length))).1]
      refine iteF ?_
      refine ⟨_, rfl, o.self, o.dx, _, rfl, O8.ins, rfl, o, m, _, _, _, _, _, _, rfl, O8, ?_⟩
      refine ⟨_, rfl, rfl, _, rfl, ?_⟩
      rw [decide_eq_true (show vn b = vn b from rfl)]
      refine iteF ?_
      refine ⟨two7.trans s8, (tp6.keeps k7 nTa).mono s8, s8 _ _ hM7, ⟨_, _, _, rfl⟩, _, _, _, O8, fewer hnj pm4⟩
    rintro σ H4 ⟨two4, tp4, hM4, ⟨z3, z4, z5, rfl⟩, ns', ts', h', O4, pm4⟩
    rw [List.drop_length] at pm4
    obtain rfl : ns' = [] := by
      have := pm4.length_eq
      rw [List.length_map] at this
      exact List.eq_nil_of_length_eq_zero this
    obtain rfl : ts' = [] := List.eq_nil_of_length_eq_zero O4.nums.l1.symm
    obtain rfl : h' = [] := List.eq_nil_of_length_eq_zero O4.nums.l2.symm
    have tpf := tp4
    have hyl2 := O.nums.few
    refine ⟨_, rfl, o.self, o.dx, _, rfl, O4.ins, rfl, o, m, _, _, _, rfl, O4, by omega, by omega, fun D9 H9 k9 O9 hD9 => ?_⟩
    refine ⟨by decide, fun l1 hl1 => ?_⟩
    have s10 : Same H9 (upd H9 l1 (.lst [])) := same_new hl1
    refine ⟨_, _, .lst (.of (s10 _ _ hD9)) .nil, .lst (.of upd_same) .nil, by decide, by decide, _, rfl, ?_⟩
    have O10 := O9.mono s10
    refine iteT ⟨_, rfl, o.self, o.dx, _, rfl, O10.ins, rfl, o, m, _, _, _, _, _, _, rfl, O10, rfl, _, rfl, ?_⟩
    refine iteT ⟨_, rfl, o.self, o.dx, _, rfl, O10.ins, rfl, o, m, _, _, _, _, _, _, rfl, O10, fun Dx H11 hDx s11 L11 => ?_⟩
    obtain ⟨Dx', cx, eDx, hcx, alx⟩ := L11
    cases eDx
    obtain rfl : cx = [] := List.eq_nil_of_length_eq_zero (by rw [alx.1]; rfl)
    have O11 := O10.mono s11
    refine ⟨by decide, fun l2 hl2 => ?_⟩
    have s12 : Same H11 (upd H11 l2 (.lst [])) := same_new hl2
    refine ⟨_, _, .lst (.of (s12 _ _ hcx)) .nil, .lst (.of upd_same) .nil, by decide, by decide, ?_⟩
    have s912 := (s10.trans s11).trans s12
    refine q _ _ ((two_trans two4 (Keeps.two k9)).trans s912) ((tpf.keeps k9 nTa).mono s912) (O11.mono s12) ?_
    omega
end
end Hu
end

/-! ## Wx7 -/
section
set_option maxHeartbeats 4000000
set_option autoImplicit true
namespace Hu
open PySem PySem.Spec PyProof.Rows L2
local macro_rules | `(tactic| walk_at "len") => `(tactic| (intro h; first
  | (obtain ⟨_, e, _⟩ := h; cases e; rfl)
  | (obtain ⟨_, _, e, _⟩ := h; cases e; rfl)
  | (obtain ⟨_, _, _, e, _⟩ := h; cases e; rfl)
  | (obtain ⟨_, _, _, _, e, _⟩ := h; cases e; rfl)
  | (obtain ⟨_, _, _, _, _, e, _⟩ := h; cases e; rfl)
  | (obtain ⟨_, _, _, _, _, _, e, _⟩ := h; cases e; rfl)
  | (obtain ⟨_, _, _, _, _, _, _, e, _⟩ := h; cases e; rfl)
  | (obtain ⟨_, _, _, _, _, _, _, _, e, _⟩ := h; cases e; rfl)
  | (obtain ⟨_, _, _, _, _, _, _, _, _, e, _⟩ := h; cases e; rfl)
  | (obtain ⟨_, _, _, _, _, _, _, _, _, _, e, _⟩ := h; cases e; rfl)
  | (obtain ⟨_, _, _, _, _, _, _, _, _, _, _, e, _⟩ := h; cases e; rfl)
  | (obtain ⟨_, _, _, _, _, _, _, _, _, _, _, _, e, _⟩ := h; cases e; rfl)
  | (obtain ⟨_, _, _, _, _, _, _, _, _, _, _, _, _, e, _⟩ := h; cases e; rfl)
  | (obtain ⟨_, _, _, _, _, _, _, _, _, _, _, _, _, _, e, _⟩ := h; cases e; rfl)
  | (obtain ⟨_, _, _, _, _, _, _, _, _, _, _, _, _, _, _, e, _⟩ := h; cases e; rfl)
  | (obtain ⟨_, _, _, _, _, _, _, _, _, _, _, _, _, _, _, _, e, _⟩ := h; cases e; rfl)
  | (obtain ⟨_, _, _, _, _, _, _, _, _, _, _, _, _, _, _, _, _, e, _⟩ := h; cases e; rfl)
  | (obtain ⟨_, _, _, _, _, _, _, _, _, _, _, _, _, _, _, _, _, _, e, _⟩ := h; cases e; rfl)))
section
variable {P : Program} {w : World} {K : PySem.W.Frag} {mg : Str → Option Value} {base : Heap}
/-! ### law -/
abbrev N_law : List Str := ["_law_script", "_law_k", "_law_tape_here", "_law_many", "_law_pairs", "_law_turn", "_law_held", "_law_mixed_here", "_law_web_here", "_law_numbers", "_law_due", "_law_pair", "_law_number"]
theorem sc_law : FnScope N_law ["_law_script"] (defScope s_law) := ⟨rfl, rfl, rfl, by decide +kernel, rfl, by decide +kernel, by decide +kernel⟩
/-! ### pairs in order -/
theorem Al.cons {α : Type} {R : V → α → Prop} {v : V} {x : α} {vs : List V} {xs : List α} (r : R v x) (h : Al R vs xs) : Al R (v :: vs) (x :: xs) := by
  refine ⟨by rw [List.length_cons, List.length_cons, h.1], fun i v' x' a b => ?_⟩
  cases i with
  | zero =>
    cases a
    cases b
    exact r
  | succ i => exact h.2 i v' x' a b
theorem Al.perm {α : Type} {R : V → α → Prop} {ys vs : List V} (p : ys.Perm vs) : ∀ {xs : List α}, Al R vs xs → ∃ zs : List α, zs.Perm xs ∧ Al R ys zs := by
  induction p with
  | nil => exact fun {xs} h => ⟨xs, .refl _, h⟩
  | cons x p ih =>
    intro xs h
    match xs, h with
    | [], h => exact absurd h.1 (by simp)
    | y :: xs, h =>
      obtain ⟨r, h2⟩ := h.uncons
      obtain ⟨zs, q, a⟩ := ih h2
      exact ⟨y :: zs, q.cons _, a.cons r⟩
  | swap a b l =>
    intro xs h
    match xs, h with
    | [], h => exact absurd h.1 (by simp)
    | [_], h => exact absurd h.1 (by simp)
    | y :: z :: xs, h =>
      obtain ⟨r, h2⟩ := h.uncons
      obtain ⟨r2, h3⟩ := h2.uncons
      exact ⟨z :: y :: xs, .swap _ _ _, (h3.cons r).cons r2⟩
  | trans p q ihp ihq =>
    intro xs h
    obtain ⟨zs, q1, a1⟩ := ihq h
    obtain ⟨ws, q2, a2⟩ := ihp a1
    exact ⟨ws, q2.trans q1, a2⟩
abbrev iT (t : Tie) : Int × Int := ((t.1 : Int), (t.2 : Int))
/-- the pair behind a place -/
def pk (H : Hp) : V → Int × Int
  | .ref p => match H p with
    | some (.tup [.int a, .int b]) => (a, b)
    | _ => (0, 0)
  | _ => (0, 0)
theorem pk_tie {H : Hp} {v : V} {t : Tie} (r : TieR H v t) : pk H v = iT t := by
  obtain ⟨p, rfl, hp⟩ := r
  show (match H p with
    | some (.tup [.int a, .int b]) => (a, b)
    | _ => (0, 0)) = _
  rw [hp]
theorem pk_at {H : Hp} {vs : List V} {ts : List Tie} (al : Al (TieR H) vs ts) : ∀ x ∈ vs, ∃ t, x = V.ref t ∧ H t = some (.tup [.int (pk H x).1, .int (pk H x).2]) := by
  intro x hx
  obtain ⟨i, hi⟩ := List.getElem?_of_mem hx
  obtain ⟨t, _, r⟩ := al.getV hi
  have e := pk_tie r
  obtain ⟨p, rfl, hp⟩ := r
  exact ⟨p, rfl, by rw [e]; exact hp⟩
theorem pk_map {H : Hp} {vs : List V} {ts : List Tie} (al : Al (TieR H) vs ts) : vs.map (pk H) = ts.map iT := by
  refine List.ext_getElem? fun i => ?_
  rw [List.getElem?_map, List.getElem?_map]
  cases e : vs[i]? with
  | none =>
    have := List.getElem?_eq_none_iff.mp e
    rw [List.getElem?_eq_none (by rw [← al.1]; exact this)]
    rfl
  | some v =>
    obtain ⟨t, et, r⟩ := al.getV e
    rw [et, Option.map_some, Option.map_some, pk_tie r]
theorem lex_as {p q : Int × Int} (h1 : SrtO.lexB p q = false) (h2 : SrtO.lexB q p = false) : p = q := by
  have a1 : ¬ SrtO.lexB p q = true := by rw [h1]; exact Bool.false_ne_true
  have a2 : ¬ SrtO.lexB q p = true := by rw [h2]; exact Bool.false_ne_true
  rw [SrtO.lexB_iff] at a1 a2
  obtain ⟨a, b⟩ := p
  obtain ⟨c, d⟩ := q
  dsimp only at a1 a2
  have : a = c := by omega
  have : b = d := by omega
  simp_all
theorem pairs_eq {l1 l2 : List (Int × Int)} (p : l1.Perm l2) (h1 : l1.Pairwise fun x y => SrtO.lexB y x = false) (h2 : l2.Pairwise fun x y => SrtO.lexB y x = false) : l1 = l2 :=
  List.Perm.eq_of_pairwise (le := fun x y => SrtO.lexB y x = false) (fun a b _ _ h h' => lex_as h' h) h1 h2 p
def pD (p : Int × Int) : PyData := .tuple [.int p.1, .int p.2]
theorem dp_pairsI {K : PySem.W.Frag} {H : Hp} {k : V → Int × Int} : ∀ {ys : List V}, (∀ x ∈ ys, ∃ t, x = V.ref t ∧ H t = some (.tup [.int (k x).1, .int (k x).2])) → DpAll K H ys ((ys.map k).map pD)
  | [], _ => .nil
  | y :: ys, h => by
    obtain ⟨t, e, ht⟩ := h y List.mem_cons_self
    rw [List.map_cons, List.map_cons]
    refine .cons ?_ (dp_pairsI fun x hx => h x (List.mem_cons_of_mem _ hx))
    rw [e]
    rw [e] at ht
    exact .tup (.of ht) (.cons (.int _) (.cons (.int _) .nil))
theorem lay_pairsI : ∀ l : List (Int × Int), PyData.canLayAll0 (l.map pD) = true
  | [] => rfl
  | a :: l => by
    have := lay_pairsI l
    simp [PyData.canLayAll0, PyData.canLay0, pD] at this ⊢
    exact this
theorem depth_pairsI : ∀ l : List (Int × Int), PyData.depthAll (l.map pD) ≤ 4
  | [] => by show PyData.depthAll [] ≤ 4; decide
  | a :: l => by
    have := depth_pairsI l
    simp [PyData.depthAll, PyData.depth, pD] at *
    omega
theorem shaped_pairsI {l : List (Int × Int)} : SeqAt.shaped (.list (l.map pD)) = true := by
  unfold SeqAt.shaped
  refine Bool.and_eq_true_iff.mpr ⟨lay_pairsI l, decide_eq_true ?_⟩
  have := depth_pairsI l
  simp [PyData.depth]
  omega
theorem GoodP.perm {m : Nat} {ps qs : List Tie} (g : GoodP m ps) (p : qs.Perm ps) : GoodP m qs := fun t ht => g t (p.mem_iff.mp ht)
theorem tieP_mm {t : Tie} : [vn (min t.1 t.2), vn (max t.1 t.2)] = [vn (tieP t).1, vn (tieP t).2] := by
  unfold tieP tieOfTwo
  split
  · rw [Nat.min_eq_right (by omega), Nat.max_eq_left (by omega)]
  · rw [Nat.min_eq_left (by omega), Nat.max_eq_right (by omega)]
theorem Al.viaR {α β : Type} {R : V → α → Prop} {f : β → α} {vs : List V} {l : List β} (h : Al (fun v i => R v (f i)) vs l) : Al R vs (l.map f) := by
  refine ⟨by rw [List.length_map]; exact h.1, fun i v x a b => ?_⟩
  rw [List.getElem?_map] at b
  obtain ⟨y, hy, rfl⟩ := Option.map_eq_some_iff.mp b
  exact h.2 i v y a hy
theorem map_rng {ps : List Tie} {n : Nat} (h : n = ps.length) : (List.range n).map (fun i => tieP (ps.getD i (0, 0))) = ps.map tieP := by
  subst h
  refine List.ext_getElem? fun i => ?_
  rw [List.getElem?_map, List.getElem?_map]
  by_cases q : i < ps.length
  · rw [List.getElem?_range q, getD_some (d := (0, 0)) q]
    rfl
  · rw [List.getElem?_eq_none (by rw [List.length_range]; omega), List.getElem?_eq_none (by omega)]
    rfl
def sp_law (K : PySem.W.Frag) : Sp := fun vs H Q _ => ∃ (Sa : Addr) (ns : List Int), vs = [.ref Sa] ∧ SqL K H Sa (ns.map V.int) ∧ ns.length < 100000 ∧ Tab K H ∧ ∀ H', Q (.bl true) H'
theorem SqL.extN {K : PySem.W.Frag} {H H' : Hp} {a : Addr} {xs : List V} (h : SqL K H a xs) (e : ExtN H H') : SqL K H' a xs :=
  h.elim (fun h => .inl (h.elim (fun h => .inl (e _ _ h fun _ z => nomatch z)) fun ⟨o, h⟩ => .inr ⟨o, e _ _ h fun _ z => nomatch z⟩)) fun h => .inr h
theorem rgA {a : Addr} {i : Nat} : [V.ref a, V.int ((0 : Int) + (i : Int))] = [V.ref a, vn i] := by rw [Int.zero_add]
theorem ok_law (T : Tx P w K mg base) {fd : FuncData} (F : FunD K d_law.name d_law.qual d_law.params d_law.body d_law.scope [] [] (He.fAd K d_law.at_) fd) : FnOk P w K mg base CX0 108 (He.fAd K d_law.at_) fd ["_law_script"] (sp_law K) := by
  obtain ⟨fd_l_tape, G_l_tape, b_l_tape, k_l_tape⟩ := ok_l_tape (P := P) (w := w) (base := base) T
  obtain ⟨fd_l_comings, G_l_comings, b_l_comings, k_l_comings⟩ := ok_l_comings (P := P) (w := w) (base := base) T
  obtain ⟨fd_l_draw, G_l_draw, b_l_draw, k_l_draw⟩ := ok_l_draw (P := P) (w := w) (base := base) T
  obtain ⟨fd_Tied_init, G_Tied_init, b_Tied_init, k_Tied_init⟩ := ok_Tied_init (P := P) (w := w) (base := base) T
  obtain ⟨fd_l_mixed, G_l_mixed, b_l_mixed, k_l_mixed⟩ := ok_l_mixed (P := P) (w := w) (base := base) T
  obtain ⟨fd_l_come_right, G_l_come_right, b_l_come_right, k_l_come_right⟩ := ok_l_come_right (P := P) (w := w) (base := base) T
  obtain ⟨fd_Tied_web_now, G_Tied_web_now, b_Tied_web_now, k_Tied_web_now⟩ := ok_Tied_web_now (P := P) (w := w) (base := base) T
  obtain ⟨fd_is_whole, G_is_whole, b_is_whole, k_is_whole⟩ := ok_is_whole (P := P) (w := w) (base := base) T
  obtain ⟨fd_l_hues, G_l_hues, b_l_hues, k_l_hues⟩ := ok_l_hues (P := P) (w := w) (base := base) T
  obtain ⟨fd_Tied_limit, G_Tied_limit, b_Tied_limit, k_Tied_limit⟩ := ok_Tied_limit (P := P) (w := w) (base := base) T
  obtain ⟨fd_most_at, G_most_at, b_most_at, k_most_at⟩ := ok_most_at (P := P) (w := w) (base := base) T
  obtain ⟨fd_thickest, G_thickest, b_thickest, k_thickest⟩ := ok_thickest (P := P) (w := w) (base := base) T
  obtain ⟨fd_l_even_right, G_l_even_right, b_l_even_right, k_l_even_right⟩ := ok_l_even_right (P := P) (w := w) (base := base) T
  obtain ⟨fd_l_all_go, G_l_all_go, b_l_all_go, k_l_all_go⟩ := ok_l_all_go (P := P) (w := w) (base := base) T
  obtain ⟨fd_Tied_come, G_Tied_come, b_Tied_come, k_Tied_come⟩ := ok_Tied_come (P := P) (w := w) (base := base) T
  obtain ⟨fd_Tied_hue_of, G_Tied_hue_of, b_Tied_hue_of, k_Tied_hue_of⟩ := ok_Tied_hue_of (P := P) (w := w) (base := base) T
  refine mkFn (d := d_law) F sc_law (fun vs H Q E => ?_) (fun cdv A outer s H vs Q E hr h => ?_)
  · walk_at "len"
  · have hU := hu_of hr
    refine ⟨_, PSs.nox (pss_cons (ps_for PassesOwn.never rfl (pi_range1 rfl T.b_range (pa_cons (pe_op op_add pe_int (pe_callB (call_min2 rfl) (by rfl) T.b_min (by decide +kernel) (pa_cons pe_int (pa_cons (pe_callB call_len_seq (by rfl) T.b_len (by decide +kernel) (pa_cons (pv 0) pa_nil)) pa_nil)))) pa_nil)) (pg_name (i := 1) sc_law.nd rfl (Or.inl rfl))
      (pss_cons (ps_set (i := 2) sc_law.nd rfl (Or.inl rfl) (pe_call G_l_tape (hr.mono (by decide)) rfl T.g_l_tape k_l_tape b_l_tape .nil pass0 (pa_cons (pv 0) (pa_cons (pv 1) pa_nil))))
      (pss_cons (ps_asg (pe_call G_l_comings (hr.mono (by decide)) rfl T.g_l_comings k_l_comings b_l_comings .nil pass0 (pa_cons (pv 2) (pa_cons (pe_and (pe_cmpR op_eq (pv 1) pe_int (nomark _)) (pe_one (pe_cmpR op_eq (pe_call G_l_draw (hr.mono (by decide)) rfl T.g_l_draw k_l_draw b_l_draw .nil pass0 (pa_cons (pv 2) (pa_cons pe_int pa_nil))) pe_int (nomark _)))) pa_nil))) (pg_tup rfl (pgs_cons (pg_name (i := 3) sc_law.nd rfl (Or.inl rfl)) (pgs_cons (pg_name (i := 4) sc_law.nd rfl (Or.inl rfl)) pgs_nil))))
      (pss_one (ps_for PassesOwn.never rfl (pi_range1 rfl T.b_range (pa_cons pe_int pa_nil)) (pg_name (i := 5) sc_law.nd rfl (Or.inl rfl))
        (pss_cons (ps_set (i := 6) sc_law.nd rfl (Or.inl rfl) (pe_make T.mk_Tied G_Tied_init (hr.mono (by decide)) rfl T.g_Tied b_Tied_init .nil pass0 (pa_cons (pv 3) pa_nil)))
        (pss_cons (ps_set (i := 7) sc_law.nd rfl (Or.inl rfl) (pe_call G_l_mixed (hr.mono (by decide)) rfl T.g_l_mixed k_l_mixed b_l_mixed .nil pass0 (pa_cons (pv 2) (pa_cons (pv 4) pa_nil))))
        (pss_cons (ps_if (pt_not (pt_val (pe_call G_l_come_right (hr.mono (by decide)) rfl T.g_l_come_right k_l_come_right b_l_come_right .nil pass0 (pa_cons (pv 6) (pa_cons (pv 7) pa_nil))))) (pss_one (ps_ret pe_bl)) pss_nil)
        (pss_cons (ps_asg (pe_meth0 (pv 6) T.c_Tied T.m_Tied_web_now G_Tied_web_now (hr.mono (by decide)) b_Tied_web_now .nil pass0) (pg_tup rfl (pgs_cons (pg_name (i := 8) sc_law.nd rfl (Or.inl rfl)) (pgs_cons (pg_name (i := 9) sc_law.nd rfl (Or.inl rfl)) pgs_nil))))
        (pss_cons (ps_set (i := 10) sc_law.nd rfl (Or.inl rfl) (pe_callB cr_sortedPO (by rfl) T.b_sorted (by decide +kernel) (pa_cons (pe_lc (own := [("_law_pair", 11)]) rfl sc_law.nd (pi_list (pv 4)) (blkOk_by (N := N_law) (sc := defScope s_law) (by decide +kernel)) (fun _ _ _ _ _ => by exact (pg_name (i := 11) sc_law.nd rfl (Or.inl rfl))) (fun _ _ _ _ _ => by exact pts_nil) (fun _ _ _ _ _ => by exact (pe_tup (pa_cons (pe_callB (cr_minT (K := K) rfl rfl hU) (by rfl) T.b_min (by decide +kernel) (pa_cons (pv 11) pa_nil)) (pa_cons (pe_callB (cr_maxT (K := K) rfl rfl hU) (by rfl) T.b_max (by decide +kernel) (pa_cons (pv 11) pa_nil)) pa_nil))))) pa_nil)))
        (pss_cons (ps_if (PW.pt (pw_or (pt_cmpR (op_neD hr.units) (pe_callB cr_sortedPT (by rfl) T.b_sorted (by decide +kernel) (pa_cons (pe_ix ix_tup (pv 8) pe_int (fun _ _ => rfl)) pa_nil)) (pv 10) (nomark _)) (pw_or1 (pt_not (pt_val (pe_call G_is_whole (hr.mono (by decide)) rfl T.g_is_whole k_is_whole b_is_whole .nil pass0 (pa_cons (pv 8) (pa_cons (pe_call G_l_hues (hr.mono (by decide)) rfl T.g_l_hues k_l_hues b_l_hues .nil pass0 (pa_cons (pv 6) pa_nil)) pa_nil)))))))) (pss_one (ps_ret pe_bl)) pss_nil)
        (pss_cons (ps_if (PW.pt (pw_or (pt_cmpR op_ne (pe_meth0 (pv 6) T.c_Tied T.m_Tied_limit G_Tied_limit (hr.mono (by decide)) b_Tied_limit .nil pass0) (pe_op op_add (pe_call G_most_at (hr.mono (by decide)) rfl T.g_most_at k_most_at b_most_at .nil pass0 (pa_cons (pv 8) pa_nil)) (pe_call G_thickest (hr.mono (by decide)) rfl T.g_thickest k_thickest b_thickest .nil pass0 (pa_cons (pv 8) pa_nil))) (nomark _)) (pw_or1 (pt_not (pt_val (pe_call G_l_even_right (hr.mono (by decide)) rfl T.g_l_even_right k_l_even_right b_l_even_right .nil pass0 (pa_cons (pv 6) pa_nil))))))) (pss_one (ps_ret pe_bl)) pss_nil)
        (pss_cons (ps_if (pt_not (pt_val (pe_call G_l_all_go (hr.mono (by decide)) rfl T.g_l_all_go k_l_all_go b_l_all_go .nil pass0 (pa_cons (pv 2) (pa_cons (pv 6) pa_nil))))) (pss_one (ps_ret pe_bl)) pss_nil)
        (pss_one (ps_for PassesOwn.never rfl (pi_list (pe_slice sl_list (pv 7) po_none (po_some pe_int))) (pg_name (i := 11) sc_law.nd rfl (Or.inl rfl))
          (pss_cons (ps_set (i := 12) sc_law.nd rfl (Or.inl rfl) (pe_ix ix_tup (pe_meth (pv 6) T.c_Tied T.m_Tied_come G_Tied_come (hr.mono (by decide)) b_Tied_come .nil pass0 (pa_cons (pe_ix ix_tup (pv 11) pe_int (fun _ _ => rfl)) (pa_cons (pe_ix ix_tup (pv 11) pe_int (fun _ _ => rfl)) pa_nil))) pe_int (fun _ _ => rfl)))
          (pss_one (ps_if (PW.pt (pw_or (pt_not (pt_chain op_le op_lt pe_int (pe_meth (pv 6) T.c_Tied T.m_Tied_hue_of G_Tied_hue_of (hr.mono (by decide)) b_Tied_hue_of .nil pass0 (pa_cons (pv 12) pa_nil)) (pe_meth0 (pv 6) T.c_Tied T.m_Tied_limit G_Tied_limit (hr.mono (by decide)) b_Tied_limit .nil pass0))) (pw_or1 (pt_cmpR op_lt (pv 12) (pe_callB call_len_seq (by rfl) T.b_len (by decide +kernel) (pa_cons (pv 4) pa_nil)) (nomark _))))) (pss_one (ps_ret pe_bl)) pss_nil))))))))))))))))))
    (pss_one (ps_ret pe_bl))), ?_⟩
    obtain ⟨Sa, ns, rfl, hS, hnl, tb, q⟩ := h
    refine ⟨_, rfl, Sa, _, rfl, .inl hS, _, _, rfl, _, _, rfl, rfl, ?_⟩
    obtain ⟨j, hj, hj6, hj0⟩ : ∃ j : Int, (1 : Int) + (if ((ns.map V.int).length : Int) < 5 then ((ns.map V.int).length : Int) else 5) = j ∧ j ≤ 6 ∧ 0 ≤ j := by
      refine ⟨_, rfl, ?_, ?_⟩ <;> split <;> omega
    refine ⟨j, congrArg (fun z => [V.int z]) hj, by omega, by omega, ?_⟩
    refine for_range (fun i σ H2 => ExtN H H2 ∧ Tab K H2 ∧ ∃ z1 z2 z3 z4 z5 z6 z7 z8 z9 za zb zc, σ = [some (.ref Sa), z1, z2, z3, z4, z5, z6, z7, z8, z9, za, zb, zc]) ⟨LamX.ExtN.refl _, tb, _, _, _, _, _, _, _, _, _, _, _, _, rfl⟩ ?_ ?_
    · rintro i σ H2 hi ⟨x2, tb2, z1, z2, z3, z4, z5, z6, z7, z8, z9, za, zb, zc, rfl⟩
      refine ⟨_, rfl, _, rfl, Sa, ns, i, rgA, SqL.extN hS x2, by omega, fun Ta d e hTa hd he => ?_⟩
      dsimp only
      refine gseq ?_
      have hb1 : Same H2 (upd H2 Ta (.lst [.int d, .int e])) := same_new hTa
      have tp1 : TapeR (upd H2 Ta (.lst [.int d, .int e])) Ta := ⟨⟨d, e, upd_same, hd, he⟩⟩
      generalize upd H2 Ta (.lst [.int d, .int e]) = H3 at hb1 tp1
      refine seq_by (fun σ H4 => ∃ many L xs ps z1 z5 z6 z7 z8 z9 za zb zc, σ = [some (.ref Sa), z1, some (.ref Ta), some (vn many), some (.ref L), z5, z6, z7, z8, z9, za, zb, zc] ∧ Same H2 H4 ∧ TapeR H4 Ta ∧ L ≠ Ta ∧ H4 L = some (.lst xs) ∧ Al (TieR H4) xs ps ∧ GoodP many ps ∧ ps.length ≤ 38 ∧ many ≤ 12) (fun N hN => ?_) ?_
      · have com : ∀ {H4 : Hp}, KeepT Ta H3 H4 → Same H2 H4 := fun k => (dels_of hb1 fun p hp => by rw [List.mem_singleton.mp hp]; exact hTa).trans k
        by_cases hi0 : i = 0
        · subst hi0
          refine ⟨_, rfl, _, rfl, rfl, _, rfl, ?_⟩
          refine iteT ⟨_, rfl, Ta, 8, rfl, tp1, by decide, by decide, fun r dd ee hr hdd hee => ⟨rfl, Ta, _, rfl, ⟨⟨_, _, upd_same, hdd, hee⟩⟩, fun H5 p L many ps xs k5 tp5 hp nLT hL al G hlen hm => ⟨p, _, rfl, .of hp, rfl, _, _, rfl, _, _, rfl, rfl, ?_⟩⟩⟩
          exact hN _ _ ⟨many, L, xs, ps, _, _, _, _, _, _, _, _, _, rfl, com ((KeepT.of (Same.refl _)).tape.trans k5), tp5, nLT, hL, al, G, hlen, hm⟩
        · refine ⟨_, rfl, _, rfl, rfl, _, rfl, ?_⟩
          rw [decide_eq_false (show ¬ V.int ((0 : Int) + (i : Int)) = V.int 0 from fun z => hi0 (by injection z with z; omega))]
          refine iteF ⟨Ta, _, rfl, tp1, fun H5 p L many ps xs k5 tp5 hp nLT hL al G hlen hm => ⟨p, _, rfl, .of hp, rfl, _, _, rfl, _, _, rfl, rfl, ?_⟩⟩
          exact hN _ _ ⟨many, L, xs, ps, _, _, _, _, _, _, _, _, _, rfl, com k5, tp5, nLT, hL, al, G, hlen, hm⟩
      rintro σ H4 ⟨many, L, xs, ps, z1, z5, z6, z7, z8, z9, za, zb, zc, rfl, s4, tp4, nLT, hL, al, G, hlen, hm⟩
      have tb4 := tb2.mono s4
      have tl4 : ∃ ll, H4 Ta = some (.lst ll) := let ⟨d, e, a, _⟩ := tp4.at_; ⟨_, a⟩
      have tbT : Tab K (dels H4 [Ta]) := tb4.dels fun p hp => by rw [List.mem_singleton.mp hp]; exact .inr (.inr tl4)
      have x24 : ExtN H2 (dels H4 [Ta]) := fun p x e n => by rw [dels_ne (fun z => by rw [List.mem_singleton.mp z, hTa] at e; cases e)]; exact s4 _ _ e
      refine ⟨2, rfl, by decide, by decide, ?_⟩
      refine for_range (fun j σ H5 => ExtN (dels H4 [Ta]) H5 ∧ TapeR H5 Ta ∧ Tab K H5 ∧ ∃ z1 z5 z6 z7 z8 z9 za zb zc, σ = [some (.ref Sa), z1, some (.ref Ta), some (vn many), some (.ref L), z5, z6, z7, z8, z9, za, zb, zc]) ⟨.same dels_same, tp4, tb4, _, _, _, _, _, _, _, _, _, rfl⟩ ?_ ?_
      · rintro j σ H5 hj2 ⟨x5, tp5, tb5, z1, z5, z6, z7, z8, z9, za, zb, zc, rfl⟩
        have nL5 : L ∉ [Ta] := fun z => nLT (List.mem_singleton.mp z)
        have hL5 := ext_at x5 nL5 hL (fun _ z => nomatch z)
        have al5 : Al (TieR H5) xs ps := al.mono fun v t (r : TieR H4 v t) => let ⟨p, a, b⟩ := r; ⟨p, a, ext_at x5 (fun z => by rw [List.mem_singleton.mp z] at b; obtain ⟨ll, e⟩ := tl4; rw [e] at b; cases b) b (fun _ z => nomatch z)⟩
        obtain ⟨ll5, tl5⟩ : ∃ ll, H5 Ta = some (.lst ll) := let ⟨d, e, a, _⟩ := tp5.at_; ⟨_, a⟩
        refine ⟨_, rfl, fun x dx hx hdx hne => ?_⟩
        have sA : Same H5 (upd (upd H5 dx (.own x)) x (.ins (He.ga K "Tied") dx [])) := (same_new hdx).trans (same_new (by rw [upd_ne hne.symm]; exact hx))
        refine ⟨x, dx, many, H5, rfl, upd_same, sA, hx, fun H6 o eo s6 hol O6 => ⟨rfl, ?_⟩⟩
        subst eo
        have nTa : Ta ∉ o.l := fun z => by rw [hol _ z] at tl5; cases tl5
        have nLo : L ∉ o.l := fun z => by rw [hol _ z] at hL5; cases hL5
        have tp6 := tp5.mono s6
        have tl6 := s6 _ _ tl5
        have hxl : xs.length = ps.length := al.1
        refine ⟨_, rfl, _, rfl, Ta, L, xs, rfl, tp6, s6 _ _ hL5, nLT, by omega, fun M H7 ys hM k7 tp7 hM7 pm => ?_⟩
        have O7 := O6.keepT k7 nTa ⟨_, tl6⟩
        have nMo := O6.free hM
        have tb6 := tb5.mono s6
        have tb7 : Tab K H7 := (tb6.dels (l := [Ta]) fun p hp => by rw [List.mem_singleton.mp hp]; exact .inr (.inr ⟨_, tl6⟩)).mono k7
        have keepTie : ∀ {Ha Hb : Hp} {v : V} {t : Tie}, (∃ ll, Ha Ta = some (.lst ll)) → KeepT Ta Ha Hb → TieR Ha v t → TieR Hb v t := fun ⟨ll, e⟩ k ⟨p, a, b⟩ => ⟨p, a, k.at (fun z => by rw [z, e] at b; cases b) b⟩
        have al7 : Al (TieR H7) xs ps := al5.mono fun v t r => keepTie ⟨_, tl6⟩ k7 (r.mono s6)
        obtain ⟨ps', pp, alm⟩ := Al.perm pm al7
        have G' := G.perm pp
        have hlen' : ps'.length = ps.length := pp.length_eq
        have hL7 := k7.at nLT (s6 _ _ hL5)
        have f7 : Same (dels H5 (Ta :: o.l)) H7 := two_trans (dels_same.trans s6) (KeepT.two k7)
        refine ⟨_, rfl, _, rfl, o, M, many, ps', ys, rfl, O7, hM7, nMo, alm, G', by omega, hm, tb7, fun H8 h8 x8 tb8 C8 => ⟨_, rfl, iteF ?_⟩⟩
        have f8 : ExtN (dels H5 (Ta :: o.l)) H8 := ext_step (.same f7) (ext_more x8 fun p hp => List.mem_cons_of_mem _ hp)
        have hL8 := ext_at x8 nLo hL7 (fun _ z => nomatch z)
        have hM8 := ext_at x8 nMo hM7 (fun _ z => nomatch z)
        have tie8 : ∀ {v : V} {t : Tie}, TieR H7 v t → TieR H8 v t := fun ⟨p, a, b⟩ => ⟨p, a, ext_at x8 (O7.notin b) b (fun _ z => nomatch z)⟩
        have al8 : Al (TieR H8) xs ps := al7.mono fun v t r => tie8 r
        have alm8 : Al (TieR H8) ys ps' := alm.mono fun v t r => tie8 r
        have tp8 : TapeR H8 Ta := let ⟨d, e, a, b⟩ := tp7.at_; ⟨⟨d, e, ext_at x8 nTa a (fun _ z => nomatch z), b⟩⟩
        clear alm al7 hL7 hM7 tie8 x8 keepTie f7 tb7 O7 al5 tb6 O6
        refine ⟨_, rfl, o.self, o.dx, _, rfl, C8.obj.ins, rfl, o, many, _, _, _, _, _, _, rfl, C8.obj, fun p9 W N H9 s9 hp9 W9 hN9 hN9' => ⟨p9, _, rfl, .of hp9, rfl, _, _, rfl, _, _, rfl, rfl, ?_⟩⟩
        refine ⟨_, rfl, L, rfl, ⟨_, .of (s9 _ _ hL8)⟩, fun D hD => ?_⟩
        refine lc_rel (n := xs.length) walk_list (by omega) hD (fun Ha sa => .of (sa _ _ (s9 _ _ hL8))) (fun _ => true) (fun i Ha v => TieR Ha v (tieP (ps.getD i (0, 0)))) (fun i Ha Hb v sa r => r.mono sa) ?_ ?_
        · rintro i1 x1 Ha Hb acc hi1 sa da ⟨rfl, e1⟩ Good Skip hg hs
          obtain ⟨t, et, p, rfl, hp⟩ := al8.getV e1
          have hpa := sa _ _ (s9 _ _ hp)
          refine ⟨rfl, _, rfl, p, t.1, t.2, rfl, .of hpa, _, rfl, p, t.1, t.2, rfl, .of hpa, by show 2 ≤ sizeLine; decide, fun p2 hp2 => ?_⟩
          refine hg rfl _ _ (same_new hp2) ⟨p2, rfl, ?_⟩
          rw [del_ne (fun z => by rw [z, da] at hp2; cases hp2), upd_same, getD_of et, tieP_mm]
        intro Ha due sa da ald
        rw [filter_all] at ald
        have ald' : Al (TieR Ha) due (ps.map tieP) := by
          have := Al.viaR ald
          rw [map_rng hxl] at this
          exact this
        refine ⟨D, due, pk Ha, rfl, .of da, pk_at ald', fun zs p10 srt stb hp10 => ?_⟩
        have sb : Same Ha (upd Ha p10 (.lst zs)) := same_new hp10
        have z10 : upd Ha p10 (.lst zs) p10 = some (.lst zs) := upd_same
        have aldb := ald'.mono fun v t (r : TieR Ha v t) => r.mono sb
        have s9b := sa.trans sb
        obtain ⟨W', q9, eW, hW, qq, wv, eq9, hq, alw⟩ := W9.mono s9b
        cases eW
        cases eq9
        generalize upd Ha p10 (.lst zs) = Hb at *
        refine ⟨_, rfl, W, _, 1, _, rfl, rfl, .of hW, rfl, q9, wv, pk Hb, rfl, .of hq, pk_at alw, fun zs2 p11 srt2 stb2 hp11 => ⟨_, rfl, ?_⟩⟩
        have sc : Same Hb (upd Hb p11 (.lst zs2)) := same_new hp11
        have z11 : upd Hb p11 (.lst zs2) p11 = some (.lst zs2) := upd_same
        have sbc := sb.trans sc
        have s9c := s9b.trans sc
        generalize upd Hb p11 (.lst zs2) = Hc at *
        have d1 : ∀ x ∈ zs2, ∃ t, x = V.ref t ∧ Hc t = some (.tup [.int (pk Hb x).1, .int (pk Hb x).2]) := fun x hx => by
          obtain ⟨t, e1, e2⟩ := pk_at alw x (stb2.perm.mem_iff.mp hx)
          exact ⟨t, e1, sc _ _ e2⟩
        have d2 : ∀ x ∈ zs, ∃ t, x = V.ref t ∧ Hc t = some (.tup [.int (pk Ha x).1, .int (pk Ha x).2]) := fun x hx => by
          obtain ⟨t, e1, e2⟩ := pk_at ald' x (stb.perm.mem_iff.mp hx)
          exact ⟨t, e1, sbc _ _ e2⟩
        have epairs : zs2.map (pk Hb) = zs.map (pk Ha) := by
          refine pairs_eq ?_ (List.pairwise_map.mpr srt2) (List.pairwise_map.mpr srt)
          have q1 := stb2.perm.map (pk Hb)
          have q2 := stb.perm.map (pk Ha)
          rw [pk_map alw] at q1
          rw [pk_map ald'] at q2
          exact q1.trans (((pp.map tieP).map iT).trans q2.symm)
        refine ⟨_, _, .lst (.of z11) (dp_pairsI d1), .lst (.of (sc _ _ z10)) (dp_pairsI d2), shaped_pairsI, shaped_pairsI, _, rfl, ?_⟩
        rw [epairs, SeqAt.eqv_refl _ (Bool.and_eq_true_iff.mp (shaped_pairsI (l := zs.map (pk Ha)))).1]
        have s8c := s9.trans s9c
        have Cc : CameT K Hc o many ps' h8 := ⟨C8.obj.mono s8c, C8.web, C8.pr, C8.fl, C8.bl⟩
        have Wc := W9.mono s9c
        clear epairs d1 d2 aldb ald ald' alw W9
        refine iteF ⟨_, rfl, _, rfl, o, many, _, _, _, _, _, _, rfl, Cc.obj, fun Dh Hd hDh sd hdh => ?_⟩
        refine ⟨_, _, many, _, h8, rfl, Wc.mono sd, ⟨Dh, rfl, hdh⟩, C8.web, C8.pr, C8.fl, fun Hy se => ⟨_, rfl, iteF ?_⟩⟩
        have sde := sd.trans se
        have Oe := Cc.obj.mono sde
        have We := Wc.mono sde
        refine ⟨_, rfl, o.self, o.dx, _, rfl, Oe.ins, rfl, o, many, _, _, _, _, _, _, rfl, Oe, ?_⟩
        refine ⟨_, rfl, _, many, _, rfl, We, C8.web, fun Hf sf => ⟨_, rfl, _, many, _, rfl, We.mono sf, C8.web, fun Hg sg => ⟨_, _, rfl, rfl, rfl, _, rfl, ?_⟩⟩⟩
        have ev : (!decide (vn (mostAt many (ps'.map tieP) + thick (ps'.map tieP)) = V.int ((mostAt many (ps'.map tieP) : Int) + (thick (ps'.map tieP) : Int)))) = false := by
          rw [decide_eq_true (show vn (mostAt many (ps'.map tieP) + thick (ps'.map tieP)) = V.int ((mostAt many (ps'.map tieP) : Int) + (thick (ps'.map tieP) : Int)) from rfl)]
          rfl
        dsimp only
        rw [ev]
        have sfg := sf.trans sg
        have s8g := (s8c.trans sde).trans sfg
        have Cg : CameT K Hg o many ps' h8 := ⟨C8.obj.mono s8g, C8.web, C8.pr, C8.fl, C8.bl⟩
        refine iteF ⟨_, rfl, o, many, ps', h8, rfl, Cg, by omega, fun Hh sh => ⟨_, rfl, iteF ?_⟩⟩
        have s8h := s8g.trans sh
        have Oh := Cg.obj.mono sh
        have tph := tp8.mono s8h
        have tbh := tb8.mono s8h
        obtain ⟨llh, tlh⟩ : ∃ ll, Hh Ta = some (.lst ll) := let ⟨d, e, a, _⟩ := tph.at_; ⟨_, a⟩
        refine ⟨_, rfl, _, rfl, Ta, o, many, _, _, _, _, _, _, rfl, Oh, tph, nTa, hm, by omega, fun Hi pl2 two tpi Oi hpl2 => ⟨_, rfl, iteF ?_⟩⟩
        have tbi : Tab K Hi := (tbh.dels (l := Ta :: o.l) fun p hp => by
          rcases List.mem_cons.mp hp with rfl | hp
          · exact .inr (.inr ⟨_, tlh⟩)
          · exact Oh.kinds p hp).mono two
        have fi : ExtN (dels H5 (Ta :: o.l)) Hi := ext_step (f8.trans (ExtN.same s8h)) (ExtN.same two)
        have nMT : M ∉ Ta :: o.l := fun z => (List.mem_cons.mp z).elim (fun z => by rw [z] at hM; rw [hM] at tl6; cases tl6) nMo
        have nLT2 : L ∉ Ta :: o.l := fun z => (List.mem_cons.mp z).elim nLT nLo
        have hMi := two_at two nMT (s8h _ _ hM8)
        have hLi := two_at two nLT2 (s8h _ _ hL8)
        have almi : Al (TieR Hi) ys ps' := alm8.mono fun v t (r : TieR H8 v t) => let ⟨p, a, b⟩ := r.mono s8h; ⟨p, a, two_at two (fun z => (List.mem_cons.mp z).elim (fun z => by rw [z, tlh] at b; cases b) (Oh.notin b)) b⟩
        refine ⟨_, rfl, 3, rfl, M, ys, rfl, .of hMi, fun C hC => ?_⟩
        rw [cutV_three]
        have s10 : Same Hi (upd Hi C (.lst (ys.take 3))) := same_new hC
        have nC := Oi.free hC
        have e0 : mostAt many [] + thick [] = 0 := enough_none
        refine ⟨C, rfl, ⟨_, .of upd_same⟩, ?_⟩
        refine for_list (xs := ys.take 3) (fun i σ Hk => Keeps o Hi Hk ∧ Hk C = some (.lst (ys.take 3)) ∧ (∃ z1 z5 z8 z9 za zb zc, σ = [some (.ref Sa), z1, some (.ref Ta), some (vn many), some (.ref L), z5, some (.ref o.self), some (.ref M), z8, z9, za, zb, zc]) ∧ ∃ (qs : List Nat) (ts : List Tie) (h : Hue), TiedO K Hk o many qs ts h (ps'.length + i) (mostAt many ts + thick ts) (pl2 + i) ∧ qs.length = i ∧ WebOk many ts ∧ Proper ts h ∧ Full h ∧ Below h (mostAt many ts + thick ts)) ⟨.of s10, upd_same, ⟨_, _, _, _, _, _, _, rfl⟩, [], [], [], by rw [e0]; exact Oi.mono s10, rfl, web_none (by omega), ⟨rfl, fun i j p c hi => absurd hi (Nat.not_lt_zero _)⟩, fun i hi => absurd hi (Nat.not_lt_zero _), fun i c e => absurd (hu_lt e) (Nat.not_lt_zero _)⟩ (fun i σ Hk _ hk => .of hk.2.1) ?_ ?_
        · rintro i3 x σ Hk hx ⟨kk, hCk, ⟨z1, z5, z8, z9, za, zb, zc, rfl⟩, qs, ts, h, Ok, hql, Wk, Pk, Fk, Bk⟩
          have hi3 := (List.getElem?_eq_some_iff.mp hx).1
          rw [List.length_take] at hi3
          have hx' : ys[i3]? = some x := (List.getElem?_take_of_lt (show i3 < 3 by omega)).symm.trans hx
          obtain ⟨t, et, p, rfl, hp⟩ := almi.getV hx'
          have hpk := kk.at (Oi.notin hp) hp
          obtain ⟨g1, g2, g3⟩ := G' t (List.mem_of_getElem? et)
          refine ⟨_, rfl, o.self, o.dx, _, rfl, Ok.ins, rfl, _, rfl, p, _, 0, _, rfl, rfl, .of hpk, rfl, _, rfl, p, _, 1, _, rfl, rfl, .of hpk, rfl, o, many, _, _, t.1, t.2, _, _, h, rfl, Ok, Wk, Pk, Fk, Bk, g1, g2, g3, by omega, by omega, fun H3 p3 St Ch h3 k3 O3 W3 P3 F3 B3 hp3 R3 => ?_⟩
          refine ⟨p3, _, 0, _, rfl, rfl, .of hp3, rfl, ?_⟩
          have hl3 : qs.length < h3.length := by
            rw [P3.1, List.length_append, List.length_singleton, ← Ok.nums.l1]
            omega
          obtain ⟨c, ec⟩ := Option.ne_none_iff_exists'.mp (F3 qs.length hl3)
          have hc := B3 qs.length c ec
          refine ⟨_, rfl, o.self, o.dx, _, rfl, O3.ins, rfl, _, rfl, o, many, _, _, _, ps'.length + i3, qs.length, _, _, h3, rfl, O3, by rw [List.getElem?_append_right (Nat.le_refl _), Nat.sub_self]; rfl, ?_⟩
          rw [ec]
          refine ⟨0, (c : Int), rfl, rfl, _, rfl, ?_⟩
          rw [decide_eq_true (show (0 : Int) ≤ (c : Int) by omega)]
          refine iteT ⟨_, rfl, o.self, o.dx, _, rfl, O3.ins, rfl, o, many, _, _, _, _, _, _, rfl, O3, _, _, rfl, rfl, _, rfl, ?_⟩
          dsimp only
          rw [decide_eq_true (show (c : Int) < ((mostAt many (ts ++ [tieOfTwo t.1 t.2]) + thick (ts ++ [tieOfTwo t.1 t.2]) : Nat) : Int) by omega)]
          have kk3 := kk.trans k3
          refine iteF ⟨_, rfl, _, rfl, L, xs, rfl, .inl (.of (kk3.at nLo hLi)), _, _, rfl, rfl, _, rfl, ?_⟩
          dsimp only
          rw [decide_eq_false (show ¬ ((ps'.length + i3 : Nat) : Int) < (xs.length : Int) by omega)]
          refine iteF ⟨kk3, k3.at nC hCk, ⟨_, _, _, _, _, _, _, rfl⟩, _, _, _, O3, ?_, W3, P3, F3, B3⟩
          rw [List.length_append, hql]
          rfl
        · rintro σ Hk ⟨kk, hCk, ⟨z1, z5, z8, z9, za, zb, zc, rfl⟩, qs, ts, h, Ok, hql, Wk, Pk, Fk, Bk⟩
          have tpk := tpi.keeps kk nTa
          have fk : ExtN (dels H5 (Ta :: o.l)) Hk := ext_step fi (.same (Keeps.two kk))
          have tbk : Tab K Hk := (Oi.tab tbi).mono kk
          refine ⟨fun q u e n => fk q u ?_ n, tpk, tbk, _, _, _, _, _, _, _, _, _, rfl⟩
          have e5 := x5 q u e n
          rw [dels_ne (fun z => ?_)]
          · exact e5
          · rcases List.mem_cons.mp z with rfl | z
            · rw [dels_none (List.mem_singleton.mpr rfl)] at e
              cases e
            · rw [hol q z] at e5
              cases e5
      rintro σ H5 ⟨x5, tp5, tb5, z1, z5, z6, z7, z8, z9, za, zb, zc, rfl⟩
      exact ⟨x2.trans (x24.trans x5), tb5, _, _, _, _, _, _, _, _, _, _, _, _, rfl⟩
    rintro σ H2 ⟨x2, tb2, z1, z2, z3, z4, z5, z6, z7, z8, z9, za, zb, zc, rfl⟩
    exact q H2
end
end Hu
end

/-! ## HuEnd -/
section
set_option maxHeartbeats 0
set_option autoImplicit true
namespace Hu
open PySem PySem.Spec PyProof.Rows L2
theorem law_at {w : World} {K : PySem.W.Frag} {h : Heap} {mg : Str → Option Value} {fa : Addr} (KX : K.In h) (c : SaysL h K) (G : h.Ns mainGlobals mg) (hmg : mg ("law" : Str) = some (.ref fa)) :
    LamX.LawAtS PySem.Challenge.rw_huedties_k92_whole_one_web_come_by w K CX0 108 63 "_law_script" mg fa h := by
  obtain ⟨fd, F⟩ := c.t.def_ 87 (d := d_law) rfl
  have e := hmg.symm.trans (He.glo_ok KX G (c.t.fact 63 (f := .glo "law") rfl))
  cases e
  have ed : d_law.dvs K = [] := rfl
  have ek : d_law.kws K = [] := rfl
  rw [ed, ek] at F
  have b := FunD.bindsA (ps := ["_law_script"]) F fun _ _ _ _ _ _ us hl => match us, hl with | [_], _ => rfl
  refine ⟨fd, [nextC K], sp_law K, fun p hp => ?_, fun p hp => ?_, fun p hp => ?_, fun s u => b s [u] rfl, fun H a ns hl _ hT hS => ?_, fun base KB GB TB => ?_⟩
  · rw [List.mem_singleton.mp hp]
    exact c.empty
  · rw [List.mem_singleton.mp hp]
    exact c.out
  · rw [List.mem_singleton.mp hp]
    exact PySem.W.codeHd_of_K KX c.hd
  · exact ⟨a, ns, rfl, hS, by omega, LamX.TabS.nil (hT _ (List.mem_singleton.mpr rfl)), fun _ => rfl⟩
  · exact ok_law ⟨c.t, ⟨base, KB, GB⟩, TB _ (List.mem_singleton.mpr rfl)⟩ F
end Hu
open PySem PySem.W PySem.Calls PyProof.Rows
theorem PySem.Challenge.cw_huedties_k92_whole_one_web_come_by_holds : PySem.Challenge.rw_huedties_k92_whole_one_web_come_by.Holds := by
  w_on; o_law
  refine HandSHeadRun.head_any (r := OpenLaw.row PySem.Challenge.rw_huedties_k92_whole_one_web_come_by) (q := view (OpenLaw.row PySem.Challenge.rw_huedties_k92_whole_one_web_come_by).prog [91]) (H := Hu.hk) (ob := Hu.ob) (M := 6000) (loose := Hu.names) (d := HandSHeadRun.topDef (OpenLaw.row PySem.Challenge.rw_huedties_k92_whole_one_web_come_by).prog 91) (kwd := []) Hu.ob_eq
    (by kernel_rfl) (fun s => by kernel_rfl) Hu.run (by kernel_rfl) (by kernel_rfl) (by kernel_rfl) (by rfl) (by first | assumption | decide +kernel) (by decide +kernel) ⟨rfl, rfl, rfl, rfl, rfl, by decide +kernel⟩ ?hw ?hc
  case hw => w_witness2
  case hc =>
    refine LamX.walk_ofTsE (l := PySem.Challenge.rw_huedties_k92_whole_one_web_come_by) (n := 63) (k := 108) (x := "_law_script") (CX := fun _ => L2.CX0) rfl (by decide) (by kernel_rfl) ⟨rfl, by decide, by decide⟩ ?F (fun _ _ _ _ _ z => z)
    intro w mg fa h Y G hmg0
    obtain ⟨K, KX, c⟩ := Y
    have hmg : mg ("law" : PySem.Str) = some (.ref fa) := by
      have e : (HandSHeadRun.topDef (OpenLaw.row PySem.Challenge.rw_huedties_k92_whole_one_web_come_by).prog 91).name = ("law" : PySem.Str) := by kernel_rfl
      rw [← e]
      exact hmg0
    exact ⟨K, KX, Hu.law_at KX c G hmg⟩
end
