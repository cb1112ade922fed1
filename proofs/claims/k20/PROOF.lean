import PyProof.Rows.All
import Wide.All
import OpenK.AllK
import Wide.FinOn
import HandS.ForMost
import PySem.Challenge.RW_dimfits_k20_whole_names_are_nothing
import KE.KStateDown
import Lean
import HandS.Defaults
import HandS.Head0
import HandS.Head1
import HandS.Head2
import HandS.HeadEnd
import HandS.HeadHook1
import HandS.HeadHook2
import HandS.HeadHook3
import HandS.HeadHook4
import HandS.HeadWalk
import HandS.TupAny
import HandS.Style
import HandS.Finally
import HandS.More
import PyProof.EqAt
import HandS.WordsDict
import HandS.Walk
import HandS.Text
import HandS.Dict
import KE.KDictPairs
import HandS.Set
import HandS.SetFor
import HandS.SetTxt0
import HandS.Strs
import HandS.Lambda
import HandS.Nested
import HandS.Iter
import KE.SortData
import KE.KItemsList
import HandS.DictTup
import KE.DataEq
import HandS.EndBits
import HandS.EndTab
import KE.KNestM
set_option Elab.async false
set_option linter.all false
set_option maxRecDepth 100000
namespace Kz
open PySem PySem.Spec PyProof.Rows L2
def topS (i : Nat) : Stmt := PySem.Challenge.pw_dimfits_k20_whole_names_are_nothing.main.body.getD i (.Pass ⟨0, 0, 0, 0⟩)
abbrev s_of_two : Stmt := topS 7
abbrev s_worth : Stmt := topS 8
abbrev s_cells_of : Stmt := topS 9
abbrev s_Layer_init : Stmt := inClass (topS 12) 0
abbrev s_Layer_long : Stmt := inClass (topS 12) 1
abbrev s_Layer_long_of : Stmt := inClass (topS 12) 2
abbrev s_Layer_laid : Stmt := inClass (topS 12) 3
abbrev s_Layer_flat : Stmt := inClass (topS 12) 4
abbrev s_Layer_laid_one : Stmt := inClass (topS 12) 5
abbrev s_rows_of : Stmt := topS 13
abbrev s_inner_bodies : Stmt := topS 15
abbrev s_all_statements : Stmt := topS 16
abbrev s_bodies_of : Stmt := topS 17
abbrev s_cells_named : Stmt := topS 18
abbrev s_cells_in : Stmt := topS 19
abbrev s_Goer_init : Stmt := inClass (topS 21) 0
abbrev s_Goer_wants : Stmt := inClass (topS 21) 1
abbrev s_Goer_step_on : Stmt := inClass (topS 21) 2
abbrev s_run_with : Stmt := topS 22
abbrev s_ran : Stmt := topS 23
abbrev s_reads : Stmt := topS 25
abbrev s_ran_at : Stmt := topS 26
abbrev s_l_cell : Stmt := topS 28
abbrev s_l_flow : Stmt := topS 29
abbrev s_l_draw : Stmt := topS 30
abbrev s_l_names : Stmt := topS 31
abbrev s_l_term : Stmt := topS 32
abbrev s_l_room : Stmt := topS 33
abbrev s_l_sure : Stmt := topS 34
abbrev s_l_read : Stmt := topS 35
abbrev s_l_small : Stmt := topS 36
abbrev s_l_share : Stmt := topS 37
abbrev s_l_forked : Stmt := topS 38
abbrev s_l_round : Stmt := topS 39
abbrev s_l_again : Stmt := topS 40
abbrev s_l_kept : Stmt := topS 41
abbrev s_l_body : Stmt := topS 42
abbrev s_l_helpers : Stmt := topS 43
abbrev s_l_program : Stmt := topS 44
abbrev s_l_lay : Stmt := topS 45
abbrev s_l_rows : Stmt := topS 46
abbrev s_l_values : Stmt := topS 47
abbrev s_l_term_anew : Stmt := topS 48
abbrev s_l_body_anew : Stmt := topS 49
abbrev s_l_row_anew : Stmt := topS 50
abbrev s_l_longer : Stmt := topS 51
abbrev s_law : Stmt := topS 52
abbrev N_of_two : List Str := ["sign", "one", "other"]
theorem sc_of_two : FnScope N_of_two ["sign", "one", "other"] (defScope s_of_two) := ⟨rfl, rfl, rfl, by decide +kernel, rfl, by decide +kernel, by decide +kernel⟩
abbrev N_worth : List Str := ["term", "cells"]
theorem sc_worth : FnScope N_worth ["term", "cells"] (defScope s_worth) := ⟨rfl, rfl, rfl, by decide +kernel, rfl, by decide +kernel, by decide +kernel⟩
abbrev N_cells_of : List Str := ["term", "found", "left", "one"]
theorem sc_cells_of : FnScope N_cells_of ["term"] (defScope s_cells_of) := ⟨rfl, rfl, rfl, by decide +kernel, rfl, by decide +kernel, by decide +kernel⟩
abbrev N_Layer_init : List Str := ["self", "helpers"]
theorem sc_Layer_init : FnScope N_Layer_init ["self", "helpers"] (defScope s_Layer_init) := ⟨rfl, rfl, rfl, by decide +kernel, rfl, by decide +kernel, by decide +kernel⟩
abbrev N_Layer_long : List Str := ["self", "body", "statement"]
theorem sc_Layer_long : FnScope N_Layer_long ["self", "body"] (defScope s_Layer_long) := ⟨rfl, rfl, rfl, by decide +kernel, rfl, by decide +kernel, by decide +kernel⟩
abbrev N_Layer_long_of : List Str := ["self", "statement", "word"]
theorem sc_Layer_long_of : FnScope N_Layer_long_of ["self", "statement"] (defScope s_Layer_long_of) := ⟨rfl, rfl, rfl, by decide +kernel, rfl, by decide +kernel, by decide +kernel⟩
abbrev N_Layer_laid : List Str := ["self", "body", "at", "behind", "found", "left", "k", "statement", "here", "follows"]
theorem sc_Layer_laid : FnScope N_Layer_laid ["self", "body", "at", "behind"] (defScope s_Layer_laid) := ⟨rfl, rfl, rfl, by decide +kernel, rfl, by decide +kernel, by decide +kernel⟩
abbrev N_Layer_flat : List Str := ["self", "body", "found", "statement"]
theorem sc_Layer_flat : FnScope N_Layer_flat ["self", "body"] (defScope s_Layer_flat) := ⟨rfl, rfl, rfl, by decide +kernel, rfl, by decide +kernel, by decide +kernel⟩
abbrev N_Layer_laid_one : List Str := ["self", "statement", "at", "behind", "inner", "first", "one", "other", "leads", "rows"]
theorem sc_Layer_laid_one : FnScope N_Layer_laid_one ["self", "statement", "at", "behind"] (defScope s_Layer_laid_one) := ⟨rfl, rfl, rfl, by decide +kernel, rfl, by decide +kernel, by decide +kernel⟩
abbrev N_rows_of : List Str := ["program", "layer", "many"]
theorem sc_rows_of : FnScope N_rows_of ["program"] (defScope s_rows_of) := ⟨rfl, rfl, rfl, by decide +kernel, rfl, by decide +kernel, by decide +kernel⟩
abbrev N_inner_bodies : List Str := ["statement"]
theorem sc_inner_bodies : FnScope N_inner_bodies ["statement"] (defScope s_inner_bodies) := ⟨rfl, rfl, rfl, by decide +kernel, rfl, by decide +kernel, by decide +kernel⟩
abbrev N_all_statements : List Str := ["body", "found", "left", "one", "some"]
theorem sc_all_statements : FnScope N_all_statements ["body"] (defScope s_all_statements) := ⟨rfl, rfl, rfl, by decide +kernel, rfl, by decide +kernel, by decide +kernel⟩
abbrev N_bodies_of : List Str := ["program", "name", "body"]
theorem sc_bodies_of : FnScope N_bodies_of ["program"] (defScope s_bodies_of) := ⟨rfl, rfl, rfl, by decide +kernel, rfl, by decide +kernel, by decide +kernel⟩
abbrev N_cells_named : List Str := ["statement", "word"]
theorem sc_cells_named : FnScope N_cells_named ["statement"] (defScope s_cells_named) := ⟨rfl, rfl, rfl, by decide +kernel, rfl, by decide +kernel, by decide +kernel⟩
abbrev N_cells_in : List Str := ["program", "found", "body", "statement"]
theorem sc_cells_in : FnScope N_cells_in ["program"] (defScope s_cells_in) := ⟨rfl, rfl, rfl, by decide +kernel, rfl, by decide +kernel, by decide +kernel⟩
abbrev N_Goer_init : List Str := ["self", "program", "name"]
theorem sc_Goer_init : FnScope N_Goer_init ["self", "program"] (defScope s_Goer_init) := ⟨rfl, rfl, rfl, by decide +kernel, rfl, by decide +kernel, by decide +kernel⟩
abbrev N_Goer_wants : List Str := ["self"]
theorem sc_Goer_wants : FnScope N_Goer_wants ["self"] (defScope s_Goer_wants) := ⟨rfl, rfl, rfl, by decide +kernel, rfl, by decide +kernel, by decide +kernel⟩
abbrev N_Goer_step_on : List Str := ["self", "value", "row"]
theorem sc_Goer_step_on : FnScope N_Goer_step_on ["self", "value"] (defScope s_Goer_step_on) := ⟨rfl, rfl, rfl, by decide +kernel, rfl, by decide +kernel, by decide +kernel⟩
abbrev N_run_with : List Str := ["program", "take", "most", "goer", "used", "value"]
theorem sc_run_with : FnScope N_run_with ["program", "take", "most"] (defScope s_run_with) := ⟨rfl, rfl, rfl, by decide +kernel, rfl, by decide +kernel, by decide +kernel⟩
abbrev N_ran : List Str := ["program", "values", "most"]
theorem sc_ran : FnScope N_ran ["program", "values", "most"] (defScope s_ran) := ⟨rfl, rfl, rfl, by decide +kernel, rfl, by decide +kernel, by decide +kernel⟩
abbrev N_reads : List Str := ["gauge", "moment"]
theorem sc_reads : FnScope N_reads ["gauge", "moment"] (defScope s_reads) := ⟨rfl, rfl, rfl, by decide +kernel, rfl, by decide +kernel, by decide +kernel⟩
abbrev N_ran_at : List Str := ["program", "gauges", "moments", "most", "taken"]
theorem sc_ran_at : FnScope N_ran_at ["program", "gauges", "moments", "most"] (defScope s_ran_at) := ⟨rfl, rfl, rfl, by decide +kernel, rfl, by decide +kernel, by decide +kernel⟩
abbrev N_l_cell : List Str := ["_law_script", "_law_k", "_law_number"]
theorem sc_l_cell : FnScope N_l_cell ["_law_script", "_law_k"] (defScope s_l_cell) := ⟨rfl, rfl, rfl, by decide +kernel, rfl, by decide +kernel, by decide +kernel⟩
abbrev N_l_flow : List Str := ["_law_script", "_law_k", "_law_cell_here", "_law_own"]
theorem sc_l_flow : FnScope N_l_flow ["_law_script", "_law_k"] (defScope s_l_flow) := ⟨rfl, rfl, rfl, by decide +kernel, rfl, by decide +kernel, by decide +kernel⟩
abbrev N_l_draw : List Str := ["_law_flow_here", "_law_many", "_law_digit", "_law_number"]
theorem sc_l_draw : FnScope N_l_draw ["_law_flow_here", "_law_many"] (defScope s_l_draw) := ⟨rfl, rfl, rfl, by decide +kernel, rfl, by decide +kernel, by decide +kernel⟩
abbrev N_l_names : List Str := ["_law_flow_here", "_law_many", "_law_some", "_law_word", "_law_at", "_law_first", "_law_longer_here", "_law_taken", "_law_found", "_law_k", "_law_name", "_law_j"]
theorem sc_l_names : FnScope N_l_names ["_law_flow_here", "_law_many"] (defScope s_l_names) := ⟨rfl, rfl, rfl, by decide +kernel, rfl, by decide +kernel, by decide +kernel⟩
abbrev N_l_term : List Str := ["_law_flow_here", "_law_names_here", "_law_room_here", "_law_number", "_law_one", "_law_sign", "_law_first"]
theorem sc_l_term : FnScope N_l_term ["_law_flow_here", "_law_names_here", "_law_room_here"] (defScope s_l_term) := ⟨rfl, rfl, rfl, by decide +kernel, rfl, by decide +kernel, by decide +kernel⟩
abbrev N_l_room : List Str := ["_law_flow_here", "_law_world", "_law_form"]
theorem sc_l_room : FnScope N_l_room ["_law_flow_here", "_law_world"] (defScope s_l_room) := ⟨rfl, rfl, rfl, by decide +kernel, rfl, by decide +kernel, by decide +kernel⟩
abbrev N_l_sure : List Str := ["_law_flow_here", "_law_world", "_law_fresh", "_law_some", "_law_at", "_law_many", "_law_age"]
theorem sc_l_sure : FnScope N_l_sure ["_law_flow_here", "_law_world", "_law_fresh"] (defScope s_l_sure) := ⟨rfl, rfl, rfl, by decide +kernel, rfl, by decide +kernel, by decide +kernel⟩
abbrev N_l_read : List Str := ["_law_flow_here", "_law_world", "_law_fresh", "_law_x"]
theorem sc_l_read : FnScope N_l_read ["_law_flow_here", "_law_world", "_law_fresh"] (defScope s_l_read) := ⟨rfl, rfl, rfl, by decide +kernel, rfl, by decide +kernel, by decide +kernel⟩
abbrev N_l_small : List Str := ["_law_flow_here", "_law_world", "_law_fresh", "_law_way", "_law_x"]
theorem sc_l_small : FnScope N_l_small ["_law_flow_here", "_law_world", "_law_fresh"] (defScope s_l_small) := ⟨rfl, rfl, rfl, by decide +kernel, rfl, by decide +kernel, by decide +kernel⟩
abbrev N_l_share : List Str := ["_law_flow_here", "_law_world", "_law_fresh", "_law_deep", "_law_left", "_law_share_here", "_law_found"]
theorem sc_l_share : FnScope N_l_share ["_law_flow_here", "_law_world", "_law_fresh", "_law_deep"] (defScope s_l_share) := ⟨rfl, rfl, rfl, by decide +kernel, rfl, by decide +kernel, by decide +kernel⟩
abbrev N_l_forked : List Str := ["_law_flow_here", "_law_world", "_law_fresh", "_law_deep", "_law_test", "_law_states", "_law_arms", "_law_x", "_law_k"]
theorem sc_l_forked : FnScope N_l_forked ["_law_flow_here", "_law_world", "_law_fresh", "_law_deep"] (defScope s_l_forked) := ⟨rfl, rfl, rfl, by decide +kernel, rfl, by decide +kernel, by decide +kernel⟩
abbrev N_l_round : List Str := ["_law_flow_here", "_law_world", "_law_fresh", "_law_deep", "_law_c", "_law_form", "_law_turns", "_law_body_here", "_law_x", "_law_less", "_law_little", "_law_test", "_law_more"]
theorem sc_l_round : FnScope N_l_round ["_law_flow_here", "_law_world", "_law_fresh", "_law_deep"] (defScope s_l_round) := ⟨rfl, rfl, rfl, by decide +kernel, rfl, by decide +kernel, by decide +kernel⟩
abbrev N_l_again : List Str := ["_law_flow_here", "_law_world", "_law_fresh", "_law_statements", "_law_gone", "_law_rows_here", "_law_rounds", "_law_form", "_law_f", "_law_many", "_law_near", "_law_inner", "_law_heavy", "_law_turn", "_law_c", "_law_less", "_law_x", "_law_one"]
theorem sc_l_again : FnScope N_l_again ["_law_flow_here", "_law_world", "_law_fresh"] (defScope s_l_again) := ⟨rfl, rfl, rfl, by decide +kernel, rfl, by decide +kernel, by decide +kernel⟩
abbrev N_l_kept : List Str := ["_law_flow_here", "_law_world", "_law_fresh", "_law_deep", "_law_anew", "_law_found", "_law_sure_here", "_law_tell", "_law_k", "_law_c", "_law_less", "_law_some", "_law_body_here", "_law_turn"]
theorem sc_l_kept : FnScope N_l_kept ["_law_flow_here", "_law_world", "_law_fresh", "_law_deep"] (defScope s_l_kept) := ⟨rfl, rfl, rfl, by decide +kernel, rfl, by decide +kernel, by decide +kernel⟩
abbrev N_l_body : List Str := ["_law_flow_here", "_law_world", "_law_fresh", "_law_deep", "_law_found", "_law_k", "_law_way"]
theorem sc_l_body : FnScope N_l_body ["_law_flow_here", "_law_world", "_law_fresh", "_law_deep"] (defScope s_l_body) := ⟨rfl, rfl, rfl, by decide +kernel, rfl, by decide +kernel, by decide +kernel⟩
abbrev N_l_helpers : List Str := ["_law_flow_here", "_law_world", "_law_words", "_law_f", "_law_form", "_law_c", "_law_near", "_law_one", "_law_other", "_law_gone", "_law_body_here", "_law_rows_here", "_law_rounds", "_law_test", "_law_less", "_law_ahead", "_law_two"]
theorem sc_l_helpers : FnScope N_l_helpers ["_law_flow_here", "_law_world", "_law_words"] (defScope s_l_helpers) := ⟨rfl, rfl, rfl, by decide +kernel, rfl, by decide +kernel, by decide +kernel⟩
abbrev N_l_program : List Str := ["_law_flow_here", "_law_room_here", "_law_words", "_law_world", "_law_shift", "_law_first", "_law_inner"]
theorem sc_l_program : FnScope N_l_program ["_law_flow_here", "_law_room_here"] (defScope s_l_program) := ⟨rfl, rfl, rfl, by decide +kernel, rfl, by decide +kernel, by decide +kernel⟩
abbrev N_l_lay : List Str := ["_law_helpers_here", "_law_body_here", "_law_rows_here", "_law_ends", "_law_one", "_law_inner", "_law_many", "_law_turn", "_law_at", "_law_k", "_law_place"]
theorem sc_l_lay : FnScope N_l_lay ["_law_helpers_here", "_law_body_here", "_law_rows_here", "_law_ends"] (defScope s_l_lay) := ⟨rfl, rfl, rfl, by decide +kernel, rfl, by decide +kernel, by decide +kernel⟩
abbrev N_l_rows : List Str := ["_law_program_here", "_law_rows_here", "_law_k", "_law_place", "_law_row"]
theorem sc_l_rows : FnScope N_l_rows ["_law_program_here"] (defScope s_l_rows) := ⟨rfl, rfl, rfl, by decide +kernel, rfl, by decide +kernel, by decide +kernel⟩
abbrev N_l_values : List Str := ["_law_flow_here", "_law_many", "_law_k"]
theorem sc_l_values : FnScope N_l_values ["_law_flow_here", "_law_many"] (defScope s_l_values) := ⟨rfl, rfl, rfl, by decide +kernel, rfl, by decide +kernel, by decide +kernel⟩
abbrev N_l_term_anew : List Str := ["_law_term_here", "_law_names_here", "_law_first"]
theorem sc_l_term_anew : FnScope N_l_term_anew ["_law_term_here", "_law_names_here"] (defScope s_l_term_anew) := ⟨rfl, rfl, rfl, by decide +kernel, rfl, by decide +kernel, by decide +kernel⟩
abbrev N_l_body_anew : List Str := ["_law_body_here", "_law_names_here", "_law_gauges", "_law_helpers_here", "_law_found", "_law_one", "_law_bodies", "_law_x", "_law_inner"]
theorem sc_l_body_anew : FnScope N_l_body_anew ["_law_body_here", "_law_names_here", "_law_gauges", "_law_helpers_here"] (defScope s_l_body_anew) := ⟨rfl, rfl, rfl, by decide +kernel, rfl, by decide +kernel, by decide +kernel⟩
abbrev N_l_row_anew : List Str := ["_law_row", "_law_names_here", "_law_gauges", "_law_what", "_law_x"]
theorem sc_l_row_anew : FnScope N_l_row_anew ["_law_row", "_law_names_here", "_law_gauges"] (defScope s_l_row_anew) := ⟨rfl, rfl, rfl, by decide +kernel, rfl, by decide +kernel, by decide +kernel⟩
abbrev N_l_longer : List Str := ["_law_flow_here", "_law_program_here", "_law_names_here", "_law_body_here", "_law_k", "_law_term_here"]
theorem sc_l_longer : FnScope N_l_longer ["_law_flow_here", "_law_program_here"] (defScope s_l_longer) := ⟨rfl, rfl, rfl, by decide +kernel, rfl, by decide +kernel, by decide +kernel⟩
abbrev N_law : List Str := ["_law_script", "_law_flow_here", "_law_program_here", "_law_fresh", "_law_turn", "_law_cells", "_law_gauges", "_law_helpers_here", "_law_k", "_law_word", "_law_body_here", "_law_called", "_law_g", "_law_other", "_law_values_here", "_law_one", "_law_two", "_law_rows_at", "_law_moments", "_law_f", "_law_j", "_law_x", "_law_value", "_law_row"]
theorem sc_law : FnScope N_law ["_law_script"] (defScope s_law) := ⟨rfl, rfl, rfl, by decide +kernel, rfl, by decide +kernel, by decide +kernel⟩
end Kz
set_option Elab.async false
set_option linter.all false
set_option maxRecDepth 100000
set_option maxHeartbeats 0
namespace Kz
open PySem PySem.Spec PyProof.Rows L2
def d_of_two : He.DefD := ⟨("of_two", none), "of_two", "of_two", defArgs s_of_two, defBody s_of_two, defScope s_of_two, [], []⟩
def d_worth : He.DefD := ⟨("worth", none), "worth", "worth", defArgs s_worth, defBody s_worth, defScope s_worth, [], []⟩
def d_cells_of : He.DefD := ⟨("cells_of", none), "cells_of", "cells_of", defArgs s_cells_of, defBody s_cells_of, defScope s_cells_of, [], []⟩
def d_Layer_init : He.DefD := ⟨("Layer", some "__init__"), "__init__", "Layer.__init__", defArgs s_Layer_init, defBody s_Layer_init, defScope s_Layer_init, [], []⟩
def d_Layer_long : He.DefD := ⟨("Layer", some "long"), "long", "Layer.long", defArgs s_Layer_long, defBody s_Layer_long, defScope s_Layer_long, [], []⟩
def d_Layer_long_of : He.DefD := ⟨("Layer", some "long_of"), "long_of", "Layer.long_of", defArgs s_Layer_long_of, defBody s_Layer_long_of, defScope s_Layer_long_of, [], []⟩
def d_Layer_laid : He.DefD := ⟨("Layer", some "laid"), "laid", "Layer.laid", defArgs s_Layer_laid, defBody s_Layer_laid, defScope s_Layer_laid, [], []⟩
def d_Layer_flat : He.DefD := ⟨("Layer", some "flat"), "flat", "Layer.flat", defArgs s_Layer_flat, defBody s_Layer_flat, defScope s_Layer_flat, [], []⟩
def d_Layer_laid_one : He.DefD := ⟨("Layer", some "laid_one"), "laid_one", "Layer.laid_one", defArgs s_Layer_laid_one, defBody s_Layer_laid_one, defScope s_Layer_laid_one, [], []⟩
def d_rows_of : He.DefD := ⟨("rows_of", none), "rows_of", "rows_of", defArgs s_rows_of, defBody s_rows_of, defScope s_rows_of, [], []⟩
def d_inner_bodies : He.DefD := ⟨("inner_bodies", none), "inner_bodies", "inner_bodies", defArgs s_inner_bodies, defBody s_inner_bodies, defScope s_inner_bodies, [], []⟩
def d_all_statements : He.DefD := ⟨("all_statements", none), "all_statements", "all_statements", defArgs s_all_statements, defBody s_all_statements, defScope s_all_statements, [], []⟩
def d_bodies_of : He.DefD := ⟨("bodies_of", none), "bodies_of", "bodies_of", defArgs s_bodies_of, defBody s_bodies_of, defScope s_bodies_of, [], []⟩
def d_cells_named : He.DefD := ⟨("cells_named", none), "cells_named", "cells_named", defArgs s_cells_named, defBody s_cells_named, defScope s_cells_named, [], []⟩
def d_cells_in : He.DefD := ⟨("cells_in", none), "cells_in", "cells_in", defArgs s_cells_in, defBody s_cells_in, defScope s_cells_in, [], []⟩
def d_Goer_init : He.DefD := ⟨("Goer", some "__init__"), "__init__", "Goer.__init__", defArgs s_Goer_init, defBody s_Goer_init, defScope s_Goer_init, [], []⟩
def d_Goer_wants : He.DefD := ⟨("Goer", some "wants"), "wants", "Goer.wants", defArgs s_Goer_wants, defBody s_Goer_wants, defScope s_Goer_wants, [], []⟩
def d_Goer_step_on : He.DefD := ⟨("Goer", some "step_on"), "step_on", "Goer.step_on", defArgs s_Goer_step_on, defBody s_Goer_step_on, defScope s_Goer_step_on, [], []⟩
def d_run_with : He.DefD := ⟨("run_with", none), "run_with", "run_with", defArgs s_run_with, defBody s_run_with, defScope s_run_with, [], []⟩
def d_ran : He.DefD := ⟨("ran", none), "ran", "ran", defArgs s_ran, defBody s_ran, defScope s_ran, [.int 500], []⟩
def d_reads : He.DefD := ⟨("reads", none), "reads", "reads", defArgs s_reads, defBody s_reads, defScope s_reads, [], []⟩
def d_ran_at : He.DefD := ⟨("ran_at", none), "ran_at", "ran_at", defArgs s_ran_at, defBody s_ran_at, defScope s_ran_at, [.int 500], []⟩
def d_l_cell : He.DefD := ⟨("_law_cell", none), "_law_cell", "_law_cell", defArgs s_l_cell, defBody s_l_cell, defScope s_l_cell, [], []⟩
def d_l_flow : He.DefD := ⟨("_law_flow", none), "_law_flow", "_law_flow", defArgs s_l_flow, defBody s_l_flow, defScope s_l_flow, [], []⟩
def d_l_draw : He.DefD := ⟨("_law_draw", none), "_law_draw", "_law_draw", defArgs s_l_draw, defBody s_l_draw, defScope s_l_draw, [], []⟩
def d_l_names : He.DefD := ⟨("_law_names", none), "_law_names", "_law_names", defArgs s_l_names, defBody s_l_names, defScope s_l_names, [], []⟩
def d_l_term : He.DefD := ⟨("_law_term", none), "_law_term", "_law_term", defArgs s_l_term, defBody s_l_term, defScope s_l_term, [], []⟩
def d_l_room : He.DefD := ⟨("_law_room", none), "_law_room", "_law_room", defArgs s_l_room, defBody s_l_room, defScope s_l_room, [], []⟩
def d_l_sure : He.DefD := ⟨("_law_sure", none), "_law_sure", "_law_sure", defArgs s_l_sure, defBody s_l_sure, defScope s_l_sure, [], []⟩
def d_l_read : He.DefD := ⟨("_law_read", none), "_law_read", "_law_read", defArgs s_l_read, defBody s_l_read, defScope s_l_read, [], []⟩
def d_l_small : He.DefD := ⟨("_law_small", none), "_law_small", "_law_small", defArgs s_l_small, defBody s_l_small, defScope s_l_small, [], []⟩
def d_l_share : He.DefD := ⟨("_law_share", none), "_law_share", "_law_share", defArgs s_l_share, defBody s_l_share, defScope s_l_share, [], []⟩
def d_l_forked : He.DefD := ⟨("_law_forked", none), "_law_forked", "_law_forked", defArgs s_l_forked, defBody s_l_forked, defScope s_l_forked, [], []⟩
def d_l_round : He.DefD := ⟨("_law_round", none), "_law_round", "_law_round", defArgs s_l_round, defBody s_l_round, defScope s_l_round, [], []⟩
def d_l_again : He.DefD := ⟨("_law_again", none), "_law_again", "_law_again", defArgs s_l_again, defBody s_l_again, defScope s_l_again, [], []⟩
def d_l_kept : He.DefD := ⟨("_law_kept", none), "_law_kept", "_law_kept", defArgs s_l_kept, defBody s_l_kept, defScope s_l_kept, [], []⟩
def d_l_body : He.DefD := ⟨("_law_body", none), "_law_body", "_law_body", defArgs s_l_body, defBody s_l_body, defScope s_l_body, [], []⟩
def d_l_helpers : He.DefD := ⟨("_law_helpers", none), "_law_helpers", "_law_helpers", defArgs s_l_helpers, defBody s_l_helpers, defScope s_l_helpers, [], []⟩
def d_l_program : He.DefD := ⟨("_law_program", none), "_law_program", "_law_program", defArgs s_l_program, defBody s_l_program, defScope s_l_program, [], []⟩
def d_l_lay : He.DefD := ⟨("_law_lay", none), "_law_lay", "_law_lay", defArgs s_l_lay, defBody s_l_lay, defScope s_l_lay, [], []⟩
def d_l_rows : He.DefD := ⟨("_law_rows", none), "_law_rows", "_law_rows", defArgs s_l_rows, defBody s_l_rows, defScope s_l_rows, [], []⟩
def d_l_values : He.DefD := ⟨("_law_values", none), "_law_values", "_law_values", defArgs s_l_values, defBody s_l_values, defScope s_l_values, [], []⟩
def d_l_term_anew : He.DefD := ⟨("_law_term_anew", none), "_law_term_anew", "_law_term_anew", defArgs s_l_term_anew, defBody s_l_term_anew, defScope s_l_term_anew, [], []⟩
def d_l_body_anew : He.DefD := ⟨("_law_body_anew", none), "_law_body_anew", "_law_body_anew", defArgs s_l_body_anew, defBody s_l_body_anew, defScope s_l_body_anew, [], []⟩
def d_l_row_anew : He.DefD := ⟨("_law_row_anew", none), "_law_row_anew", "_law_row_anew", defArgs s_l_row_anew, defBody s_l_row_anew, defScope s_l_row_anew, [], []⟩
def d_l_longer : He.DefD := ⟨("_law_longer", none), "_law_longer", "_law_longer", defArgs s_l_longer, defBody s_l_longer, defScope s_l_longer, [], []⟩
def d_law : He.DefD := ⟨("law", none), "law", "law", defArgs s_law, defBody s_law, defScope s_law, [], []⟩
def fn0 : List He.DefD := [d_of_two, d_worth, d_cells_of, d_Layer_init, d_Layer_long, d_Layer_long_of, d_Layer_laid, d_Layer_flat, d_Layer_laid_one, d_rows_of, d_inner_bodies, d_all_statements, d_bodies_of, d_cells_named, d_cells_in, d_Goer_init, d_Goer_wants, d_Goer_step_on, d_run_with, d_ran]
def fn1 : List He.DefD := [d_reads, d_ran_at, d_l_cell, d_l_flow, d_l_draw, d_l_names, d_l_term, d_l_room, d_l_sure, d_l_read, d_l_small, d_l_share, d_l_forked, d_l_round, d_l_again, d_l_kept, d_l_body, d_l_helpers, d_l_program, d_l_lay]
def fn2 : List He.DefD := [d_l_rows, d_l_values, d_l_term_anew, d_l_body_anew, d_l_row_anew, d_l_longer, d_law]
def fn : List He.DefD := fn0 ++ fn1 ++ fn2
def fa0 : List He.Fa := [.glo "of_two", .glo "worth", .glo "cells_of", .glo "rows_of", .glo "inner_bodies", .glo "all_statements", .glo "bodies_of", .glo "cells_named", .glo "cells_in", .glo "run_with", .glo "ran", .glo "reads", .glo "ran_at", .glo "_law_cell", .glo "_law_flow", .glo "_law_draw", .glo "_law_names", .glo "_law_term", .glo "_law_room", .glo "_law_sure"]
def fa1 : List He.Fa := [.glo "_law_read", .glo "_law_small", .glo "_law_share", .glo "_law_forked", .glo "_law_round", .glo "_law_again", .glo "_law_kept", .glo "_law_body", .glo "_law_helpers", .glo "_law_program", .glo "_law_lay", .glo "_law_rows", .glo "_law_values", .glo "_law_term_anew", .glo "_law_body_anew", .glo "_law_row_anew", .glo "_law_longer", .glo "law", .glo "Layer", .glo "Goer"]
def fa2 : List He.Fa := [.free "len", .free "tuple", .free "sorted", .free "set", .free "dict", .free "sum", .free "enumerate", .free "list", .free "int", .free "min", .free "max", .free "range", .free "repr", .int "WIDE" 1000000, .int "MOST_ROWS" 60, .cls "Layer", .cls "Goer", .noat "Layer" "helpers", .noat "Goer" "rows", .noat "Goer" "cells"]
def fa3 : List He.Fa := [.noat "Goer" "told", .noat "Goer" "gone", .noat "Goer" "at", .noat "Goer" "is_done", .meth "Layer" "long", .meth "Layer" "long_of", .meth "Layer" "laid", .meth "Layer" "flat", .meth "Layer" "laid_one", .meth "Goer" "wants", .meth "Goer" "step_on", .mkr "Layer", .mkr "Goer"]
def fa : List He.Fa := fa0 ++ fa1 ++ fa2 ++ fa3
def lo0 : List PySem.Str := ["of_two", "worth", "cells_of", "rows_of", "inner_bodies", "all_statements", "bodies_of", "cells_named", "cells_in", "run_with", "ran", "reads", "ran_at", "_law_cell", "_law_flow", "_law_draw", "_law_names", "_law_term", "_law_room", "_law_sure"]
def lo1 : List PySem.Str := ["_law_read", "_law_small", "_law_share", "_law_forked", "_law_round", "_law_again", "_law_kept", "_law_body", "_law_helpers", "_law_program", "_law_lay", "_law_rows", "_law_values", "_law_term_anew", "_law_body_anew", "_law_row_anew", "_law_longer", "FitError", "TooMany", "NoValue"]
def lo2 : List PySem.Str := ["TooLong", "WIDE", "MOST_ROWS", "Layer", "Goer"]
def loose : List PySem.Str := lo0 ++ lo1 ++ lo2
def tf : List He.Defn := [("ran", none), ("ran_at", none)]
abbrev R : PySem.W.OpenRow := PySem.W.OpenLaw.row PySem.Challenge.rw_dimfits_k20_whole_names_are_nothing
def ex : PySem.W.Frag → Bool := fun K => !Nat.beq (He.cT K ("ran", none)).2 (He.cT K ("ran_at", none)).2
abbrev hk : PySem.W.Hook := He.hookX 5 fa fn [] tf ex
def ob (s : PySem.W.SharedT) : He.AlX := He.obsX 5 fa fn [] tf ex (HandSHeadRun.getT s)
theorem ob_eq (s : PySem.W.SharedT) : ob s = hk.obs s.abs := He.obsX_eq (HandSHeadRun.getT_eq s)
theorem run (w : World) : HandSHeadRun.RunEq R (PySem.W.view R.prog [52]) hk ob 20000 loose w := by
  intro os
  kernel_rfl
end Kz
set_option Elab.async false
set_option linter.all false
set_option maxRecDepth 100000
set_option maxHeartbeats 4000000
namespace Kz
open PySem PySem.Spec PyProof.Rows L2
/-- what the top has written -/
structure Tp (K : PySem.W.Frag) (mg : Str → Option Value) : Prop where
  ex : ∃ h : Heap, K.In h ∧ h.Ns mainGlobals mg ∧ He.SaysD fa fn K
section
variable {K : PySem.W.Frag} {mg : Str → Option Value}
theorem Tp.fact (T : Tp K mg) (i : Nat) {f : He.Fa} (h : fa[i]? = some f) : f.ok K = true := let ⟨_, _, _, c⟩ := T.ex; c.fact i h
theorem Tp.glo (T : Tp K mg) {x : Str} (i : Nat) (h : fa[i]? = some (.glo x)) : mg x = some (.ref (He.ga K x)) := let ⟨_, X, G, c⟩ := T.ex; He.glo_ok X G (c.fact i h)
theorem Tp.free (T : Tp K mg) {x : Str} (i : Nat) (h : fa[i]? = some (.free x)) : mg x = none := let ⟨_, X, G, c⟩ := T.ex; He.free_ok X G (c.fact i h)
theorem Tp.int (T : Tp K mg) {x : Str} {z : Int} (i : Nat) (h : fa[i]? = some (.int x z)) : ∃ t, mg x = some (.int z t) := let ⟨_, X, G, c⟩ := T.ex; He.int_ok X G (c.fact i h)
theorem Tp.cls (T : Tp K mg) {x : Str} (i : Nat) (h : fa[i]? = some (.cls x)) : Cls K (He.ga K x) := He.cls_ok (T.fact i h)
theorem Tp.noat (T : Tp K mg) {x f : Str} (i : Nat) (h : fa[i]? = some (.noat x f)) : NoAttr K (He.ga K x) f := He.noat_ok (T.fact i h)
theorem Tp.meth (T : Tp K mg) {x m : Str} (i : Nat) (h : fa[i]? = some (.meth x m)) : Meth K (He.ga K x) m (He.ma K (He.ga K x) m) := He.meth_ok (T.fact i h)
theorem Tp.mkr (T : Tp K mg) {x : Str} (i : Nat) (h : fa[i]? = some (.mkr x)) : Mk K (He.ga K x) (He.ma K (He.ga K x) "__init__") := He.mkr_ok (T.fact i h)
theorem Tp.def_ (T : Tp K mg) (i : Nat) {d : He.DefD} (h : fn[i]? = some d) : ∃ fd, FunD K d.name d.qual d.params d.body d.scope (d.dvs K) (d.kws K) (He.fAd K d.at_) fd := let ⟨_, _, _, c⟩ := T.ex; c.def_ i h
theorem Tp.n_len (T : Tp K mg) : mg "len" = none := T.free 40 rfl
theorem Tp.n_tuple (T : Tp K mg) : mg "tuple" = none := T.free 41 rfl
theorem Tp.n_sorted (T : Tp K mg) : mg "sorted" = none := T.free 42 rfl
theorem Tp.n_set (T : Tp K mg) : mg "set" = none := T.free 43 rfl
theorem Tp.n_dict (T : Tp K mg) : mg "dict" = none := T.free 44 rfl
theorem Tp.n_sum (T : Tp K mg) : mg "sum" = none := T.free 45 rfl
theorem Tp.n_enumerate (T : Tp K mg) : mg "enumerate" = none := T.free 46 rfl
theorem Tp.n_list (T : Tp K mg) : mg "list" = none := T.free 47 rfl
theorem Tp.n_int (T : Tp K mg) : mg "int" = none := T.free 48 rfl
theorem Tp.n_min (T : Tp K mg) : mg "min" = none := T.free 49 rfl
theorem Tp.n_max (T : Tp K mg) : mg "max" = none := T.free 50 rfl
theorem Tp.n_range (T : Tp K mg) : mg "range" = none := T.free 51 rfl
theorem Tp.n_repr (T : Tp K mg) : mg "repr" = none := T.free 52 rfl
theorem Tp.i_WIDE (T : Tp K mg) : ∃ t, mg "WIDE" = some (.int 1000000 t) := T.int 53 rfl
theorem Tp.i_MOST_ROWS (T : Tp K mg) : ∃ t, mg "MOST_ROWS" = some (.int 60 t) := T.int 54 rfl
theorem Tp.c_Layer (T : Tp K mg) : Cls K (He.ga K "Layer") := T.cls 55 rfl
theorem Tp.g_Layer (T : Tp K mg) : mg "Layer" = some (.ref (He.ga K "Layer")) := T.glo 38 rfl
theorem Tp.c_Goer (T : Tp K mg) : Cls K (He.ga K "Goer") := T.cls 56 rfl
theorem Tp.g_Goer (T : Tp K mg) : mg "Goer" = some (.ref (He.ga K "Goer")) := T.glo 39 rfl
theorem Tp.a_Layer_helpers (T : Tp K mg) : NoAttr K (He.ga K "Layer") "helpers" := T.noat 57 rfl
theorem Tp.a_Goer_rows (T : Tp K mg) : NoAttr K (He.ga K "Goer") "rows" := T.noat 58 rfl
theorem Tp.a_Goer_cells (T : Tp K mg) : NoAttr K (He.ga K "Goer") "cells" := T.noat 59 rfl
theorem Tp.a_Goer_told (T : Tp K mg) : NoAttr K (He.ga K "Goer") "told" := T.noat 60 rfl
theorem Tp.a_Goer_gone (T : Tp K mg) : NoAttr K (He.ga K "Goer") "gone" := T.noat 61 rfl
theorem Tp.a_Goer_at (T : Tp K mg) : NoAttr K (He.ga K "Goer") "at" := T.noat 62 rfl
theorem Tp.a_Goer_is_done (T : Tp K mg) : NoAttr K (He.ga K "Goer") "is_done" := T.noat 63 rfl
theorem Tp.m_Layer_long (T : Tp K mg) : Meth K (He.ga K "Layer") "long" (He.ma K (He.ga K "Layer") "long") := T.meth 64 rfl
theorem Tp.m_Layer_long_of (T : Tp K mg) : Meth K (He.ga K "Layer") "long_of" (He.ma K (He.ga K "Layer") "long_of") := T.meth 65 rfl
theorem Tp.m_Layer_laid (T : Tp K mg) : Meth K (He.ga K "Layer") "laid" (He.ma K (He.ga K "Layer") "laid") := T.meth 66 rfl
theorem Tp.m_Layer_flat (T : Tp K mg) : Meth K (He.ga K "Layer") "flat" (He.ma K (He.ga K "Layer") "flat") := T.meth 67 rfl
theorem Tp.m_Layer_laid_one (T : Tp K mg) : Meth K (He.ga K "Layer") "laid_one" (He.ma K (He.ga K "Layer") "laid_one") := T.meth 68 rfl
theorem Tp.m_Goer_wants (T : Tp K mg) : Meth K (He.ga K "Goer") "wants" (He.ma K (He.ga K "Goer") "wants") := T.meth 69 rfl
theorem Tp.m_Goer_step_on (T : Tp K mg) : Meth K (He.ga K "Goer") "step_on" (He.ma K (He.ga K "Goer") "step_on") := T.meth 70 rfl
theorem Tp.k_Layer (T : Tp K mg) : Mk K (He.ga K "Layer") (He.ma K (He.ga K "Layer") "__init__") := T.mkr 71 rfl
theorem Tp.k_Goer (T : Tp K mg) : Mk K (He.ga K "Goer") (He.ma K (He.ga K "Goer") "__init__") := T.mkr 72 rfl
end
/-- a def of the top keeps its promise -/
structure Fx (P : Program) (w : World) (K : PySem.W.Frag) (mg : Str → Option Value) (base : Heap) (k : Nat) (x : Str) (ps : List Str) (sp : Sp) : Prop where
  ex : ∃ (f : Addr) (fd : FuncData), mg x = some (.ref f) ∧ PySem.W.keepIn K (.ref f) = true ∧ Binds K fd ps [] ∧ FnOk P w K mg base CX0 k f fd ps sp
/-- a method of the class C -/
structure Mx (P : Program) (w : World) (K : PySem.W.Frag) (mg : Str → Option Value) (base : Heap) (k : Nat) (C : Addr) (m : Str) (ps : List Str) (sp : Sp) : Prop where
  ex : ∃ (f : Addr) (fd : FuncData), Cls K C ∧ Meth K C m f ∧ Binds K fd ps [] ∧ FnOk P w K mg base CX0 k f fd ps sp
section
variable {X : Cx} {k C : Nat} {x m : Str} {ps : List Str} {sp : Sp} {p pos apos : Pos} {e o : Expr} {es : List Expr} {t : TA} {ta : TE}
theorem pe_F (F : Fx X.prog X.w X.K X.mg X.base k x ps sp) (hr : Room k X.A) (hg : Gl X x) (ha : PA X (e :: es) t) (hdb : (x == ("__debug__" : Str)) = false := by decide)
    (he : starEach (e :: es) X.env = (false, eval e X.env) :: starEach es X.env := by rfl) (hpl : (backTo pos (starEach es X.env)).any (·.1) = false := by rfl) : PE X (.Call (.Name x p) (e :: es) [] pos) (tCall sp [] E0 t) := by
  obtain ⟨f, fd, hm, hk, hb, hf⟩ := F.ex
  exact pe_call hf hr hg hm hk hb .nil pass0 ha hdb he hpl
theorem pe_M {pl : Sem Bool} (he : PE X o ta) (F : Mx X.prog X.w X.K X.mg X.base k C m ps sp) (hr : Room k X.A) (ha : PA X (e :: es) t)
    (hst : starEach (e :: es) X.env = (false, eval e X.env) :: starEach es X.env := by rfl) (hpl : (backTo pos (starEach es X.env)).any (·.1) = false := by rfl)
    (ht : eval (.Call (.Attribute o m apos) (e :: es) [] pos) X.env = (do
      let ov ← eval o X.env
      standAt apos.atName
      let (f, first) ← holding [ov] (getMethod ov m pl)
      callWith pos f first (backTo pos (starEach (e :: es) X.env)) (backToKw pos (keywordEach [] X.env))) := by rfl) : PE X (.Call (.Attribute o m apos) (e :: es) [] pos) (tMeth C m sp [] E0 ta t) := by
  obtain ⟨f, fd, hc, hm, hb, hf⟩ := F.ex
  exact pe_meth he hc hm hf hr hb .nil pass0 ha hst hpl ht
theorem pe_M0 {pl : Sem Bool} (he : PE X o ta) (F : Mx X.prog X.w X.K X.mg X.base k C m ps sp) (hr : Room k X.A)
    (ht : eval (.Call (.Attribute o m apos) [] [] pos) X.env = (do
      let ov ← eval o X.env
      standAt apos.atName
      let (f, first) ← holding [ov] (getMethod ov m pl)
      callWith pos f first (backTo pos (starEach [] X.env)) (backToKw pos (keywordEach [] X.env))) := by rfl) : PE X (.Call (.Attribute o m apos) [] [] pos) (tMeth C m sp [] E0 ta tNil) := by
  obtain ⟨f, fd, hc, hm, hb, hf⟩ := F.ex
  exact pe_meth0 he hc hm hf hr hb .nil pass0 ht
end
section
variable {P : Program} {w : World} {K : PySem.W.Frag} {mg : Str → Option Value} {base : Heap}
/-- THE RULE for a def of the top: its body as a term of rules, the term's reading -/
theorem fx_of (T : Tp K mg) (i j : Nat) {x : Str} {st : Stmt} {N ps : List Str} {k : Nat} {sp : Sp} (hd : fn[i]? = some ⟨(x, none), x, x, defArgs st, defBody st, defScope st, [], []⟩) (hj : fa[j]? = some (.glo x)) (S : FnScope N ps (defScope st))
    (hb : ∀ (kV doc pm : Value) (an : Option Addr) (cdv ct : Value) (us : List Value), us.length = ps.length → bindArgs (PySem.W.fnOf x x (defArgs st) (defBody st) (defScope st) .none kV doc pm an cdv ct) ⟨us, []⟩ = pure (ps.zip us))
    (len : ∀ vs H Q E, sp vs H Q E → vs.length = ps.length)
    (hbody : ∀ (f : Addr) (cdv : Value) (A : Around) (outer : List Env) (s : Shared) (H : Hp) (vs : List V) (Q : VK) (E : XK), Room k (A.deeper (envOfC x (defScope st) s.heap.objs.size f cdv)) → sp vs H Q E →
      ∃ t, PSs (cxOf CX0 P w K mg base N x (defScope st) f cdv A outer s H E).nox (defBody st) t ∧ t { nx := fun _ H' => Q .non H', rt := Q } (start N vs) H) : Fx P w K mg base (k + 1) x ps sp := by
  obtain ⟨fd, F⟩ := T.def_ i hd
  refine ⟨He.ga K x, fd, T.glo j hj, F.kp, F.bindsN hb, ?_⟩
  refine F.ok S len fun cdv A outer s H vs Q E hr h => ?_
  obtain ⟨t, h1, h2⟩ := hbody _ cdv A outer s H vs Q E hr h
  exact ⟨t, h1.nox, h2⟩
/-- a method -/
theorem mx_of (T : Tp K mg) (i j l : Nat) {c m q : Str} {st : Stmt} {N ps : List Str} {k : Nat} {sp : Sp} (hd : fn[i]? = some ⟨(c, some m), m, q, defArgs st, defBody st, defScope st, [], []⟩) (hj : fa[j]? = some (.meth c m)) (hl : fa[l]? = some (.cls c)) (S : FnScope N ps (defScope st))
    (hb : ∀ (kV doc pm : Value) (an : Option Addr) (cdv ct : Value) (us : List Value), us.length = ps.length → bindArgs (PySem.W.fnOf m q (defArgs st) (defBody st) (defScope st) .none kV doc pm an cdv ct) ⟨us, []⟩ = pure (ps.zip us))
    (len : ∀ vs H Q E, sp vs H Q E → vs.length = ps.length)
    (hbody : ∀ (f : Addr) (cdv : Value) (A : Around) (outer : List Env) (s : Shared) (H : Hp) (vs : List V) (Q : VK) (E : XK), Room k (A.deeper (envOfC q (defScope st) s.heap.objs.size f cdv)) → sp vs H Q E →
      ∃ t, PSs (cxOf CX0 P w K mg base N q (defScope st) f cdv A outer s H E).nox (defBody st) t ∧ t { nx := fun _ H' => Q .non H', rt := Q } (start N vs) H) : Mx P w K mg base (k + 1) (He.ga K c) m ps sp := by
  obtain ⟨fd, F⟩ := T.def_ i hd
  refine ⟨He.ma K (He.ga K c) m, fd, T.cls l hl, T.meth j hj, F.bindsN hb, ?_⟩
  refine F.ok S len fun cdv A outer s H vs Q E hr h => ?_
  obtain ⟨t, h1, h2⟩ := hbody _ cdv A outer s H vs Q E hr h
  exact ⟨t, h1.nox, h2⟩
end
end Kz
set_option Elab.async false
set_option linter.all false
set_option maxRecDepth 100000
/-! Da: the plain mathematics: terms, statements, plain bodies, their rows, the going along rows, what ends in time. No Python here. -/
namespace Kz
open PySem
/-! ### terms -/
inductive Tm where
  | num (k : Int)
  | cell (x : Str)
  | op (s : Str) (a b : Tm)
def WD : Int := 1000000
def of2 (s : Str) (a b : Int) : Int :=
  if s = "+" then (a + b) % WD else if s = "-" then (a - b) % WD else if s = "*" then a * b % WD
  else if s = "<" then (if a < b then 1 else 0) else (if a = b then 1 else 0)
def Tm.worth (c : Str → Int) : Tm → Int
  | .num k => k
  | .cell x => c x
  | .op s a b => of2 s (a.worth c) (b.worth c)
def Tm.parts : Tm → Nat
  | .op _ a b => 1 + a.parts + b.parts
  | _ => 1
theorem Tm.parts_pos : ∀ t : Tm, 1 ≤ t.parts
  | .num _ => Nat.le_refl 1
  | .cell _ => Nat.le_refl 1
  | .op _ a b => by show 1 ≤ 1 + a.parts + b.parts; omega
/-- names by C, numbers below WIDE -/
def Tm.Ok (C : Str → Prop) : Tm → Prop
  | .num k => 0 ≤ k ∧ k < WD
  | .cell x => C x
  | .op s a b => (s = "+" ∨ s = "-" ∨ s = "*" ∨ s = "<" ∨ s = "=") ∧ a.Ok C ∧ b.Ok C
/-- cells hold values -/
def Vok (c : Str → Int) : Prop := ∀ x, 0 ≤ c x ∧ c x < WD
theorem of2_ok (s : Str) (a b : Int) : 0 ≤ of2 s a b ∧ of2 s a b < WD := by
  have h : (0 : Int) < WD := by decide
  unfold of2
  split
  · exact ⟨Int.emod_nonneg _ (by decide), Int.emod_lt_of_pos _ h⟩
  split
  · exact ⟨Int.emod_nonneg _ (by decide), Int.emod_lt_of_pos _ h⟩
  split
  · exact ⟨Int.emod_nonneg _ (by decide), Int.emod_lt_of_pos _ h⟩
  split <;> split <;> decide
theorem Tm.worth_ok {C : Str → Prop} {c : Str → Int} (v : Vok c) : ∀ t : Tm, t.Ok C → 0 ≤ t.worth c ∧ t.worth c < WD
  | .num _, h => h
  | .cell x, _ => v x
  | .op s a b, _ => of2_ok s _ _
def put (c : Str → Int) (x : Str) (v : Int) : Str → Int := fun y => if y = x then v else c y
theorem put_same {c : Str → Int} {x : Str} {v : Int} : put c x v x = v := if_pos rfl
theorem put_ne {c : Str → Int} {x y : Str} {v : Int} (h : y ≠ x) : put c x v y = c y := if_neg h
theorem Vok.put {c : Str → Int} {x : Str} {v : Int} (h : Vok c) (h0 : 0 ≤ v) (h1 : v < WD) : Vok (put c x v) := fun y => by
  unfold Kz.put
  split
  · exact ⟨h0, h1⟩
  · exact h y
/-! ### plain bodies: no call, no times -/
inductive Pl where
  | nil
  | set (x : Str) (t : Tm) (k : Pl)
  | read (x g : Str) (k : Pl)
  | tell (t : Tm) (k : Pl)
  | sure (xs : List Str) (n : Int) (k : Pl)
  | ite (t : Tm) (a b k : Pl)
  | wh (t : Tm) (b k : Pl)
def Pl.size : Pl → Nat
  | .nil => 0
  | .set _ _ k => 1 + k.size
  | .read _ _ k => 1 + k.size
  | .tell _ k => 1 + k.size
  | .sure _ _ k => 1 + k.size
  | .ite _ a b k => 1 + a.size + b.size + k.size
  | .wh _ b k => 1 + b.size + k.size
def Pl.app : Pl → Pl → Pl
  | .nil, q => q
  | .set x t k, q => .set x t (k.app q)
  | .read x g k, q => .read x g (k.app q)
  | .tell t k, q => .tell t (k.app q)
  | .sure xs n k, q => .sure xs n (k.app q)
  | .ite t a b k, q => .ite t a b (k.app q)
  | .wh t b k, q => .wh t b (k.app q)
theorem Pl.app_nil : ∀ p : Pl, p.app .nil = p
  | .nil => rfl
  | .set x t k => by show Pl.set x t (k.app .nil) = _; rw [Pl.app_nil k]
  | .read x g k => by show Pl.read x g (k.app .nil) = _; rw [Pl.app_nil k]
  | .tell t k => by show Pl.tell t (k.app .nil) = _; rw [Pl.app_nil k]
  | .sure xs n k => by show Pl.sure xs n (k.app .nil) = _; rw [Pl.app_nil k]
  | .ite t a b k => by show Pl.ite t a b (k.app .nil) = _; rw [Pl.app_nil k]
  | .wh t b k => by show Pl.wh t b (k.app .nil) = _; rw [Pl.app_nil k]
theorem Pl.app_app (q r : Pl) : ∀ p : Pl, (p.app q).app r = p.app (q.app r)
  | .nil => rfl
  | .set x t k => by show Pl.set x t ((k.app q).app r) = Pl.set x t (k.app (q.app r)); rw [Pl.app_app q r k]
  | .read x g k => by show Pl.read x g ((k.app q).app r) = Pl.read x g (k.app (q.app r)); rw [Pl.app_app q r k]
  | .tell t k => by show Pl.tell t ((k.app q).app r) = Pl.tell t (k.app (q.app r)); rw [Pl.app_app q r k]
  | .sure xs n k => by show Pl.sure xs n ((k.app q).app r) = Pl.sure xs n (k.app (q.app r)); rw [Pl.app_app q r k]
  | .ite t a b k => by show Pl.ite t a b ((k.app q).app r) = Pl.ite t a b (k.app (q.app r)); rw [Pl.app_app q r k]
  | .wh t b k => by show Pl.wh t b ((k.app q).app r) = Pl.wh t b (k.app (q.app r)); rw [Pl.app_app q r k]
theorem Pl.size_app (q : Pl) : ∀ p : Pl, (p.app q).size = p.size + q.size
  | .nil => by show q.size = 0 + q.size; omega
  | .set _ _ k => by show 1 + (k.app q).size = 1 + k.size + q.size; rw [Pl.size_app q k]; omega
  | .read _ _ k => by show 1 + (k.app q).size = 1 + k.size + q.size; rw [Pl.size_app q k]; omega
  | .tell _ k => by show 1 + (k.app q).size = 1 + k.size + q.size; rw [Pl.size_app q k]; omega
  | .sure _ _ k => by show 1 + (k.app q).size = 1 + k.size + q.size; rw [Pl.size_app q k]; omega
  | .ite _ a b k => by show 1 + a.size + b.size + (k.app q).size = 1 + a.size + b.size + k.size + q.size; rw [Pl.size_app q k]; omega
  | .wh _ b k => by show 1 + b.size + (k.app q).size = 1 + b.size + k.size + q.size; rw [Pl.size_app q k]; omega
theorem Pl.size_zero : ∀ {p : Pl}, p.size = 0 → p = .nil
  | .nil, _ => rfl
  | .set _ _ k, h => by have h : 1 + k.size = 0 := h; omega
  | .read _ _ k, h => by have h : 1 + k.size = 0 := h; omega
  | .tell _ k, h => by have h : 1 + k.size = 0 := h; omega
  | .sure _ _ k, h => by have h : 1 + k.size = 0 := h; omega
  | .ite _ a b k, h => by have h : 1 + a.size + b.size + k.size = 0 := h; omega
  | .wh _ b k, h => by have h : 1 + b.size + k.size = 0 := h; omega
/-! ### rows -/
inductive Rw where
  | set (x : Str) (t : Tm) (k : Nat)
  | read (x g : Str) (k : Nat)
  | tell (t : Tm) (k : Nat)
  | sure (xs : List Str) (n : Int) (k : Nat)
  | ite (t : Tm) (k m : Nat)
  | fin
/-- where a body that begins at a row is entered: behind, where it has no rows -/
def Pl.ent (p : Pl) (at_ bh : Nat) : Nat := if p.size = 0 then bh else at_
def Pl.lay : Pl → Nat → Nat → List Rw
  | .nil, _, _ => []
  | .set x t k, i, bh => .set x t (k.ent (i + 1) bh) :: k.lay (i + 1) bh
  | .read x g k, i, bh => .read x g (k.ent (i + 1) bh) :: k.lay (i + 1) bh
  | .tell t k, i, bh => .tell t (k.ent (i + 1) bh) :: k.lay (i + 1) bh
  | .sure xs n k, i, bh => .sure xs n (k.ent (i + 1) bh) :: k.lay (i + 1) bh
  | .ite t a b k, i, bh =>
    .ite t (a.ent (i + 1) (k.ent (i + 1 + a.size + b.size) bh)) (b.ent (i + 1 + a.size) (k.ent (i + 1 + a.size + b.size) bh)) ::
      (a.lay (i + 1) (k.ent (i + 1 + a.size + b.size) bh) ++ (b.lay (i + 1 + a.size) (k.ent (i + 1 + a.size + b.size) bh) ++ k.lay (i + 1 + a.size + b.size) bh))
  | .wh t b k, i, bh => .ite t (b.ent (i + 1) i) (k.ent (i + 1 + b.size) bh) :: (b.lay (i + 1) i ++ k.lay (i + 1 + b.size) bh)
theorem Pl.lay_ite (t : Tm) (a b k : Pl) (i bh : Nat) : Pl.lay (.ite t a b k) i bh = .ite t (a.ent (i + 1) (k.ent (i + 1 + a.size + b.size) bh)) (b.ent (i + 1 + a.size) (k.ent (i + 1 + a.size + b.size) bh)) ::
      (a.lay (i + 1) (k.ent (i + 1 + a.size + b.size) bh) ++ (b.lay (i + 1 + a.size) (k.ent (i + 1 + a.size + b.size) bh) ++ k.lay (i + 1 + a.size + b.size) bh)) := rfl
theorem Pl.lay_wh (t : Tm) (b k : Pl) (i bh : Nat) : Pl.lay (.wh t b k) i bh = .ite t (b.ent (i + 1) i) (k.ent (i + 1 + b.size) bh) :: (b.lay (i + 1) i ++ k.lay (i + 1 + b.size) bh) := rfl
theorem Pl.lay_len : ∀ (p : Pl) (i bh : Nat), (p.lay i bh).length = p.size
  | .nil, _, _ => rfl
  | .set _ _ k, i, bh => by show (k.lay (i + 1) bh).length + 1 = 1 + k.size; rw [Pl.lay_len k]; omega
  | .read _ _ k, i, bh => by show (k.lay (i + 1) bh).length + 1 = 1 + k.size; rw [Pl.lay_len k]; omega
  | .tell _ k, i, bh => by show (k.lay (i + 1) bh).length + 1 = 1 + k.size; rw [Pl.lay_len k]; omega
  | .sure _ _ k, i, bh => by show (k.lay (i + 1) bh).length + 1 = 1 + k.size; rw [Pl.lay_len k]; omega
  | .ite _ a b k, i, bh => by
    rw [Pl.lay_ite, List.length_cons, List.length_append, List.length_append, Pl.lay_len a, Pl.lay_len b, Pl.lay_len k]
    show _ = 1 + a.size + b.size + k.size
    omega
  | .wh _ b k, i, bh => by
    rw [Pl.lay_wh, List.length_cons, List.length_append, Pl.lay_len b, Pl.lay_len k]
    show _ = 1 + b.size + k.size
    omega
theorem Pl.ent_app (p q : Pl) (i bh : Nat) : (p.app q).ent i bh = p.ent i (q.ent (i + p.size) bh) := by
  unfold Pl.ent
  rw [Pl.size_app]
  by_cases h : p.size = 0
  · rw [if_pos h, h, Nat.zero_add, Nat.add_zero]
  · rw [if_neg h, if_neg (by omega)]
theorem Pl.lay_app (q : Pl) : ∀ (p : Pl) (i bh : Nat), (p.app q).lay i bh = p.lay i (q.ent (i + p.size) bh) ++ q.lay (i + p.size) bh
  | .nil, i, bh => rfl
  | .set x t k, i, bh => by
    show Rw.set x t ((k.app q).ent (i + 1) bh) :: (k.app q).lay (i + 1) bh = Rw.set x t (k.ent (i + 1) (q.ent (i + (1 + k.size)) bh)) :: (k.lay (i + 1) (q.ent (i + (1 + k.size)) bh) ++ q.lay (i + (1 + k.size)) bh)
    rw [Pl.lay_app q k, Pl.ent_app, show i + 1 + k.size = i + (1 + k.size) by omega]
  | .read x g k, i, bh => by
    show Rw.read x g ((k.app q).ent (i + 1) bh) :: (k.app q).lay (i + 1) bh = Rw.read x g (k.ent (i + 1) (q.ent (i + (1 + k.size)) bh)) :: (k.lay (i + 1) (q.ent (i + (1 + k.size)) bh) ++ q.lay (i + (1 + k.size)) bh)
    rw [Pl.lay_app q k, Pl.ent_app, show i + 1 + k.size = i + (1 + k.size) by omega]
  | .tell t k, i, bh => by
    show Rw.tell t ((k.app q).ent (i + 1) bh) :: (k.app q).lay (i + 1) bh = Rw.tell t (k.ent (i + 1) (q.ent (i + (1 + k.size)) bh)) :: (k.lay (i + 1) (q.ent (i + (1 + k.size)) bh) ++ q.lay (i + (1 + k.size)) bh)
    rw [Pl.lay_app q k, Pl.ent_app, show i + 1 + k.size = i + (1 + k.size) by omega]
  | .sure xs n k, i, bh => by
    show Rw.sure xs n ((k.app q).ent (i + 1) bh) :: (k.app q).lay (i + 1) bh = Rw.sure xs n (k.ent (i + 1) (q.ent (i + (1 + k.size)) bh)) :: (k.lay (i + 1) (q.ent (i + (1 + k.size)) bh) ++ q.lay (i + (1 + k.size)) bh)
    rw [Pl.lay_app q k, Pl.ent_app, show i + 1 + k.size = i + (1 + k.size) by omega]
  | .ite t a b k, i, bh => by
    have e : i + 1 + a.size + b.size + k.size = i + (1 + a.size + b.size + k.size) := by omega
    show Pl.lay (.ite t a b (k.app q)) i bh = Pl.lay (.ite t a b k) i (q.ent (i + (1 + a.size + b.size + k.size)) bh) ++ q.lay (i + (1 + a.size + b.size + k.size)) bh
    rw [Pl.lay_ite, Pl.lay_ite, Pl.lay_app q k, Pl.ent_app, e]
    simp only [List.cons_append, List.append_assoc]
  | .wh t b k, i, bh => by
    have e : i + 1 + b.size + k.size = i + (1 + b.size + k.size) := by omega
    show Pl.lay (.wh t b (k.app q)) i bh = Pl.lay (.wh t b k) i (q.ent (i + (1 + b.size + k.size)) bh) ++ q.lay (i + (1 + b.size + k.size)) bh
    rw [Pl.lay_wh, Pl.lay_wh, Pl.lay_app q k, Pl.ent_app, e]
    simp only [List.cons_append, List.append_assoc]
/-! ### going along rows -/
/-- it comes to the end in n rows at most, the end counted, whatever is read -/
def Hal (rows : List Rw) : Nat → Nat → (Str → Int) → Prop
  | 0, _, _ => False
  | n + 1, i, c => match rows[i]? with
    | none => False
    | some .fin => True
    | some (.set x t k) => Hal rows n k (put c x (t.worth c))
    | some (.read x _ k) => ∀ v, 0 ≤ v → v < WD → Hal rows n k (put c x v)
    | some (.tell _ k) => Hal rows n k c
    | some (.sure _ _ k) => Hal rows n k c
    | some (.ite t k m) => Hal rows n (if t.worth c ≠ 0 then k else m) c
theorem Hal.succ {rows : List Rw} : ∀ {n i : Nat} {c : Str → Int}, Hal rows n i c → Hal rows (n + 1) i c
  | 0, _, _, h => h.elim
  | n + 1, i, c, h => by
    unfold Hal at h ⊢
    split at h
    · exact h.elim
    · trivial
    · exact h.succ
    · exact fun v h0 h1 => (h v h0 h1).succ
    · exact h.succ
    · exact h.succ
    · exact h.succ
theorem Hal.mono {rows : List Rw} {n m i : Nat} {c : Str → Int} (h : Hal rows n i c) (l : n ≤ m) : Hal rows m i c := by
  obtain ⟨d, rfl⟩ := Nat.le.dest l
  clear l
  induction d with
  | zero => exact h
  | succ d ih => exact ih.succ
/-- rows hold the code from row i on -/
def Has (rows : List Rw) (i : Nat) (code : List Rw) : Prop := ∀ j r, code[j]? = some r → rows[i + j]? = some r
theorem Has.cons {rows : List Rw} {i : Nat} {r : Rw} {code : List Rw} (h : Has rows i (r :: code)) : rows[i]? = some r ∧ Has rows (i + 1) code :=
  ⟨h 0 r rfl, fun j q e => by rw [show i + 1 + j = i + (j + 1) by omega]; exact h (j + 1) q e⟩
theorem Has.app {rows : List Rw} {i : Nat} {a b : List Rw} (h : Has rows i (a ++ b)) : Has rows i a ∧ Has rows (i + a.length) b :=
  ⟨fun j r e => h j r (by
    have hl : j < a.length := by
      rcases Nat.lt_or_ge j a.length with q | q
      · exact q
      · rw [List.getElem?_eq_none q] at e; cases e
    rw [List.getElem?_append_left hl]; exact e), fun j r e => by
    rw [show i + a.length + j = i + (a.length + j) by omega]
    exact h (a.length + j) r (by rw [List.getElem?_append_right (by omega), Nat.add_sub_cancel_left]; exact e)⟩
/-- the body, wherever it is laid, comes to what is behind it in d rows at most, and leaves the cells of P as they were -/
def Fit (P : Str → Prop) (d : Nat) (p : Pl) : Prop := ∀ (rows : List Rw) (i bh : Nat) (c : Str → Int) (m : Nat), Has rows i (p.lay i bh) → Vok c →
  (∀ c', Vok c' → (∀ x, P x → c' x = c x) → Hal rows m bh c') → Hal rows (m + d) (p.ent i bh) c
theorem Fit.nil {P : Str → Prop} : Fit P 0 .nil := fun rows i bh c m _ v h => h c v fun _ _ => rfl
theorem Fit.mono {P P' : Str → Prop} {d d' : Nat} {p : Pl} (h : Fit P d p) (hP : ∀ x, P' x → P x) (hd : d ≤ d') : Fit P' d' p := fun rows i bh c m hs v q =>
  (h rows i bh c m hs v fun c' v' e => q c' v' fun x hx => e x (hP x hx)).mono (by omega)
theorem Fit.app {P : Str → Prop} {d e : Nat} {p q : Pl} (hp : Fit P d p) (hq : Fit P e q) : Fit P (d + e) (p.app q) := fun rows i bh c m hs v k => by
  rw [Pl.lay_app] at hs
  obtain ⟨h1, h2⟩ := hs.app
  rw [Pl.lay_len] at h2
  rw [Pl.ent_app, show m + (d + e) = (m + e) + d by omega]
  refine hp rows i _ c (m + e) h1 v fun c1 v1 e1 => ?_
  exact hq rows (i + p.size) bh c1 m h2 v1 fun c2 v2 e2 => k c2 v2 fun x hx => (e2 x hx).trans (e1 x hx)
theorem hal_set {rows : List Rw} {n i : Nat} {c : Str → Int} {x : Str} {t : Tm} {k : Nat} (e : rows[i]? = some (.set x t k)) (h : Hal rows n k (put c x (t.worth c))) : Hal rows (n + 1) i c := by
  unfold Hal; rw [e]; exact h
theorem hal_read {rows : List Rw} {n i : Nat} {c : Str → Int} {x g : Str} {k : Nat} (e : rows[i]? = some (.read x g k)) (h : ∀ v, 0 ≤ v → v < WD → Hal rows n k (put c x v)) : Hal rows (n + 1) i c := by
  unfold Hal; rw [e]; exact h
theorem hal_tell {rows : List Rw} {n i : Nat} {c : Str → Int} {t : Tm} {k : Nat} (e : rows[i]? = some (.tell t k)) (h : Hal rows n k c) : Hal rows (n + 1) i c := by
  unfold Hal; rw [e]; exact h
theorem hal_sure {rows : List Rw} {n i : Nat} {c : Str → Int} {xs : List Str} {z : Int} {k : Nat} (e : rows[i]? = some (.sure xs z k)) (h : Hal rows n k c) : Hal rows (n + 1) i c := by
  unfold Hal; rw [e]; exact h
theorem hal_ite {rows : List Rw} {n i : Nat} {c : Str → Int} {t : Tm} {k m : Nat} (e : rows[i]? = some (.ite t k m)) (h : Hal rows n (if t.worth c ≠ 0 then k else m) c) : Hal rows (n + 1) i c := by
  unfold Hal; rw [e]; exact h
theorem hal_fin {rows : List Rw} {n i : Nat} {c : Str → Int} (e : rows[i]? = some .fin) : Hal rows (n + 1) i c := by
  unfold Hal; rw [e]; trivial
theorem ent_some {p : Pl} {i bh : Nat} (h : p.size ≠ 0) : p.ent i bh = i := if_neg h
theorem ent_nil {i bh : Nat} : Pl.nil.ent i bh = bh := rfl
theorem Fit.set {P C : Str → Prop} {x : Str} {t : Tm} (h : ¬ P x) (ht : t.Ok C) : Fit P 1 (.set x t .nil) := fun rows i bh c m hs v k => by
  rw [ent_some (show Pl.size (.set x t .nil) ≠ 0 by show 1 + 0 ≠ 0; decide)]
  refine hal_set (k := bh) hs.cons.1 (k _ (v.put (t.worth_ok v ht).1 (t.worth_ok v ht).2) fun y hy => put_ne fun e => h (e ▸ hy))
theorem Fit.read {P : Str → Prop} {x g : Str} (h : ¬ P x) : Fit P 1 (.read x g .nil) := fun rows i bh c m hs v k => by
  rw [ent_some (show Pl.size (.read x g .nil) ≠ 0 by show 1 + 0 ≠ 0; decide)]
  exact hal_read (k := bh) hs.cons.1 fun z h0 h1 => k _ (v.put h0 h1) fun y hy => put_ne fun e => h (e ▸ hy)
theorem Fit.tell {P : Str → Prop} {t : Tm} : Fit P 1 (.tell t .nil) := fun rows i bh c m hs v k => by
  rw [ent_some (show Pl.size (.tell t .nil) ≠ 0 by show 1 + 0 ≠ 0; decide)]
  exact hal_tell (k := bh) hs.cons.1 (k c v fun _ _ => rfl)
theorem Fit.sure {P : Str → Prop} {xs : List Str} {z : Int} : Fit P 1 (.sure xs z .nil) := fun rows i bh c m hs v k => by
  rw [ent_some (show Pl.size (.sure xs z .nil) ≠ 0 by show 1 + 0 ≠ 0; decide)]
  exact hal_sure (k := bh) hs.cons.1 (k c v fun _ _ => rfl)
theorem Fit.ite {P : Str → Prop} {t : Tm} {a b : Pl} {d e : Nat} (ha : Fit P d a) (hb : Fit P e b) : Fit P (1 + d + e) (.ite t a b .nil) := fun rows i bh c m hs v k => by
  rw [ent_some (show Pl.size (.ite t a b .nil) ≠ 0 by show 1 + a.size + b.size + 0 ≠ 0; omega)]
  unfold Pl.lay at hs
  obtain ⟨h0, h1⟩ := hs.cons
  obtain ⟨h1, h2⟩ := h1.app
  obtain ⟨h2, _⟩ := h2.app
  rw [Pl.lay_len] at h2
  rw [show m + (1 + d + e) = (m + d + e) + 1 by omega]
  refine hal_ite h0 ?_
  split
  · exact (ha rows (i + 1) _ c m h1 v k).mono (by omega)
  · exact (hb rows (i + 1 + a.size) _ c m h2 v k).mono (by omega)
/-- a while whose test is 0 -/
theorem Fit.never {P : Str → Prop} {b : Pl} : Fit P 1 (.wh (.num 0) b .nil) := fun rows i bh c m hs v k => by
  rw [ent_some (show Pl.size (.wh (.num 0) b .nil) ≠ 0 by show 1 + b.size + 0 ≠ 0; omega)]
  unfold Pl.lay at hs
  refine hal_ite hs.cons.1 ?_
  rw [if_neg (fun z => z rfl)]
  exact k c v fun _ _ => rfl
/-- a round: from a start at which the test is not 0 the body comes to the test again -/
theorem wh_round {rows : List Rw} {i bh m d : Nat} {c : Str → Int} {t : Tm} {b : Pl} {Q : Str → Prop} (hs : Has rows i (Pl.lay (.wh t b .nil) i bh)) (hb : Fit Q d b) (v : Vok c)
    (h1 : t.worth c ≠ 0 → ∀ c', Vok c' → (∀ x, Q x → c' x = c x) → Hal rows m i c') (h2 : t.worth c = 0 → Hal rows (m + d) bh c) : Hal rows (m + d + 1) i c := by
  unfold Pl.lay at hs
  obtain ⟨h0, h3⟩ := hs.cons
  refine hal_ite h0 ?_
  split
  · rename_i e
    exact hb rows (i + 1) i c m h3.app.1 v (h1 e)
  · rename_i e
    exact h2 (Classical.not_not.mp e)
end Kz
set_option Elab.async false
set_option linter.all false
set_option maxRecDepth 100000
/-! Db: rounds by counters; statements, their plain bodies; what is well formed; the calling otherwise. -/
namespace Kz
open PySem
/-! ### rounds -/
theorem ent_set {x : Str} {t : Tm} {k : Pl} {i bh : Nat} : (Pl.set x t k).ent i bh = i := if_neg (by show 1 + k.size ≠ 0; omega)
theorem ent_wh {t : Tm} {b k : Pl} {i bh : Nat} : (Pl.wh t b k).ent i bh = i := if_neg (by show 1 + b.size + k.size ≠ 0; omega)
theorem lay_set {x : Str} {t : Tm} {k : Pl} {i bh : Nat} : (Pl.set x t k).lay i bh = .set x t (k.ent (i + 1) bh) :: k.lay (i + 1) bh := rfl
theorem wh_fit {P : Str → Prop} {t : Tm} {b : Pl} {e : Nat} (μ : (Str → Int) → Nat) (hpos : ∀ c, Vok c → t.worth c ≠ 0 → 0 < μ c)
    (hb : ∀ (rows : List Rw) (i bh : Nat) (c : Str → Int) (m : Nat), Has rows i (b.lay i bh) → Vok c → t.worth c ≠ 0 → (∀ c', Vok c' → (∀ y, P y → c' y = c y) → μ c' < μ c → Hal rows m bh c') → Hal rows (m + e) (b.ent i bh) c)
    {rows : List Rw} {i bh m : Nat} (hs : Has rows i (Pl.lay (.wh t b .nil) i bh)) : ∀ (n : Nat) (c : Str → Int), μ c ≤ n → Vok c → (∀ c', Vok c' → (∀ y, P y → c' y = c y) → Hal rows m bh c') → Hal rows (m + (n * (e + 1) + 1)) i c := by
  rw [Pl.lay_wh] at hs
  obtain ⟨h0, h3⟩ := hs.cons
  intro n
  induction n with
  | zero =>
    intro c hn v k
    refine hal_ite (n := m + 0 * (e + 1)) h0 ?_
    split
    · rename_i q
      exact absurd (hpos c v q) (by omega)
    · exact (k c v fun _ _ => rfl).mono (by omega)
  | succ n ih =>
    intro c hn v k
    refine hal_ite (n := m + (n + 1) * (e + 1)) h0 ?_
    split
    · rename_i q
      have e1 : m + (n + 1) * (e + 1) = (m + (n * (e + 1) + 1)) + e := by rw [Nat.succ_mul]; omega
      rw [e1]
      exact hb rows (i + 1) i c _ h3.app.1 v q fun c' v' e' l => ih c' (by omega) v' fun c2 v2 e2 => k c2 v2 fun y hy => (e2 y hy).trans (e' y hy)
    · exact (k c v fun _ _ => rfl).mono (Nat.le_add_right _ _)
abbrev less (c : Str) : Pl := .set c (.op "-" (.cell c) (.num 1)) .nil
abbrev more (c : Str) : Pl := .set c (.op "+" (.cell c) (.num 1)) .nil
/-- B and a change of the counter, in either order -/
def Round (B ch body : Pl) : Prop := body = B.app ch ∨ body = ch.app B
theorem round_fit {P : Str → Prop} {x : Str} {u : Tm} {B body : Pl} {d : Nat} (hr : Round B (.set x u .nil) body) (hB : Fit (fun y => P y ∨ y = x) d B) (hx : ¬ P x) (hu : ∀ c, Vok c → 0 ≤ u.worth c ∧ u.worth c < WD)
    (hl : ∀ c c' : Str → Int, c' x = c x → u.worth c' = u.worth c) {rows : List Rw} {i bh : Nat} {c : Str → Int} {m : Nat} (hs : Has rows i (body.lay i bh)) (v : Vok c)
    (k : ∀ c', Vok c' → (∀ y, P y → c' y = c y) → c' x = u.worth c → Hal rows m bh c') : Hal rows (m + (d + 1)) (body.ent i bh) c := by
  have ne : ∀ y, P y → y ≠ x := fun y hy e => hx (e ▸ hy)
  rcases hr with rfl | rfl
  · rw [Pl.lay_app] at hs
    obtain ⟨h1, h2⟩ := hs.app
    rw [Pl.lay_len] at h2
    rw [Pl.ent_app, show m + (d + 1) = (m + 1) + d by omega]
    refine hB rows i _ c (m + 1) h1 v fun c1 v1 e1 => ?_
    refine hal_set (k := bh) h2.cons.1 (k _ (v1.put (hu c1 v1).1 (hu c1 v1).2) (fun y hy => (put_ne (ne y hy)).trans (e1 y (.inl hy))) ?_)
    rw [put_same]
    exact hl c c1 (e1 x (.inr rfl))
  · obtain ⟨h1, h2⟩ := (show Has rows i (Rw.set x u (B.ent (i + 1) bh) :: B.lay (i + 1) bh) from hs).cons
    rw [show ((Pl.set x u .nil).app B).ent i bh = i from ent_set]
    refine hal_set (n := m + d) h1 ?_
    refine hB rows (i + 1) bh _ m h2 (v.put (hu c v).1 (hu c v).2) fun c2 v2 e2 => k c2 v2 (fun y hy => (e2 y (.inl hy)).trans (put_ne (ne y hy))) ?_
    rw [e2 x (.inr rfl), put_same]
theorem less_worth {x : Str} {c : Str → Int} : (Tm.op "-" (.cell x) (.num 1)).worth c = (c x - 1) % WD := rfl
theorem more_worth {x : Str} {c : Str → Int} : (Tm.op "+" (.cell x) (.num 1)).worth c = (c x + 1) % WD := rfl
theorem Fit.down {P : Str → Prop} {x : Str} {k : Int} {B body : Pl} {d : Nat} (hk : k = 1 ∨ k = 2) (hx : ¬ P x) (hB : Fit (fun y => P y ∨ y = x) d B) (hr : Round B (less x) body) :
    Fit P (2 * d + 6) (.set x (.num k) (.wh (.cell x) body .nil)) := fun rows i bh c m hs v q => by
  have hkW : 0 ≤ k ∧ k < WD := by rcases hk with rfl | rfl <;> decide
  rw [lay_set, ent_wh] at hs
  obtain ⟨h0, h1⟩ := hs.cons
  rw [ent_set, show m + (2 * d + 6) = (m + (2 * ((d + 1) + 1) + 1)) + 1 by omega]
  refine hal_set h0 ?_
  refine wh_fit (P := P) (e := d + 1) (fun c => (c x).toNat) (fun c v h => ?_) (fun rows i bh c m hs v ht k => ?_) h1 2 _ ?_ (v.put hkW.1 hkW.2) fun c' v' e' => q c' v' fun y hy => (e' y hy).trans (put_ne fun e => hx (e ▸ hy))
  · have := (v x).1
    have h : c x ≠ 0 := h
    show 0 < (c x).toNat
    omega
  · refine round_fit hr hB hx (fun c v => ?_) (fun c c' e => ?_) hs v fun c' v' e' ex => k c' v' e' ?_
    · rw [less_worth]
      exact ⟨Int.emod_nonneg _ (by decide), Int.emod_lt_of_pos _ (by decide)⟩
    · rw [less_worth, less_worth, e]
    · have h : c x ≠ 0 := ht
      have h1 := v x
      rw [less_worth, Int.emod_eq_of_lt (by omega) (by omega)] at ex
      show (c' x).toNat < (c x).toNat
      omega
  · show (put c x k x).toNat ≤ 2
    rw [put_same]
    rcases hk with rfl | rfl <;> decide
theorem up_test {x y : Str} {n l : Int} {c : Str → Int} (h : (Tm.op "*" (.op "<" (.cell x) (.num n)) (.op "<" (.cell y) (.num l))).worth c ≠ 0) : c x < n := by
  have e : (Tm.op "*" (.op "<" (.cell x) (.num n)) (.op "<" (.cell y) (.num l))).worth c = (if c x < n then 1 else 0) * (if c y < l then 1 else 0) % WD := rfl
  rw [e] at h
  by_cases q : c x < n
  · exact q
  · rw [if_neg q, Int.zero_mul] at h
    exact absurd rfl h
theorem Fit.up {P : Str → Prop} {x y : Str} {n l : Int} {B body : Pl} {d : Nat} (hn : n = 1 ∨ n = 2) (hx : ¬ P x) (hB : Fit (fun z => P z ∨ z = x) d B) (hr : Round B (more x) body) :
    Fit P (2 * d + 6) (.set x (.num 0) (.wh (.op "*" (.op "<" (.cell x) (.num n)) (.op "<" (.cell y) (.num l))) body .nil)) := fun rows i bh c m hs v q => by
  rw [lay_set, ent_wh] at hs
  obtain ⟨h0, h1⟩ := hs.cons
  rw [ent_set, show m + (2 * d + 6) = (m + (2 * ((d + 1) + 1) + 1)) + 1 by omega]
  refine hal_set h0 ?_
  refine wh_fit (P := P) (e := d + 1) (fun c => (n - c x).toNat) (fun c v h => ?_) (fun rows i bh c m hs v ht k => ?_) h1 2 _ ?_ (v.put (Int.le_refl 0) (show (0 : Int) < WD by decide)) fun c' v' e' => q c' v' fun y hy => (e' y hy).trans (put_ne fun e => hx (e ▸ hy))
  · have := up_test h
    show 0 < (n - c x).toNat
    omega
  · refine round_fit hr hB hx (fun c v => ?_) (fun c c' e => ?_) hs v fun c' v' e' ex => k c' v' e' ?_
    · rw [more_worth]
      exact ⟨Int.emod_nonneg _ (by decide), Int.emod_lt_of_pos _ (by decide)⟩
    · rw [more_worth, more_worth, e]
    · have h := up_test ht
      have h1 := v x
      have hW : WD = 1000000 := rfl
      rw [more_worth, Int.emod_eq_of_lt (by omega) (by omega)] at ex
      show (n - c' x).toNat < (n - c x).toNat
      omega
  · show (n - put c x 0 x).toNat ≤ 2
    rw [put_same]
    rcases hn with rfl | rfl <;> decide
/-! ### statements -/
inductive Sm where
  | set (x : Str) (t : Tm)
  | read (x g : Str)
  | tell (t : Tm)
  | sure (xs : List Str) (n : Int)
  | ite (t : Tm) (a b : List Sm)
  | wh (t : Tm) (b : List Sm)
  | times (n : Int) (b : List Sm)
  | call (f : Str)
abbrev Env' := Str → Option (List Sm)
def Pl.rep (p : Pl) : Nat → Pl
  | 0 => .nil
  | n + 1 => p.app (p.rep n)
def plL (f : Sm → Pl) : List Sm → Pl
  | [] => .nil
  | s :: r => (f s).app (plL f r)
theorem plL_app (f : Sm → Pl) : ∀ a b : List Sm, plL f (a ++ b) = (plL f a).app (plL f b)
  | [], b => rfl
  | s :: a, b => by
    show (f s).app (plL f (a ++ b)) = ((f s).app (plL f a)).app (plL f b)
    rw [plL_app f a b, Pl.app_app]
theorem plL_one (f : Sm → Pl) (s : Sm) : plL f [s] = f s := Pl.app_nil _
/-- the plain body of a statement: n is more than what stands in one another, calls counted -/
def plS (env : Env') : Nat → Sm → Pl
  | _, .set x t => .set x t .nil
  | _, .read x g => .read x g .nil
  | _, .tell t => .tell t .nil
  | _, .sure xs n => .sure xs n .nil
  | n + 1, .ite t a b => .ite t (plL (plS env n) a) (plL (plS env n) b) .nil
  | n + 1, .wh t b => .wh t (plL (plS env n) b) .nil
  | n + 1, .times k b => (plL (plS env n) b).rep k.toNat
  | n + 1, .call f => match env f with
    | some b => plL (plS env n) b
    | none => .nil
  | 0, _ => .nil
/-- well formed: cells by C, gauges by G, calls by env, nested less than n deep -/
def Wf (C G : Str → Prop) (env : Env') : Nat → Sm → Prop
  | _, .set x t => C x ∧ t.Ok C ∧ t.parts ≤ 11
  | _, .read x g => C x ∧ G g
  | _, .tell t => t.Ok C ∧ t.parts ≤ 11
  | _, .sure xs n => (∀ x ∈ xs, C x) ∧ xs ≠ [] ∧ xs.length ≤ 4 ∧ 0 ≤ n ∧ n < WD
  | n + 1, .ite t a b => (t.Ok C ∧ t.parts ≤ 11) ∧ (∀ s ∈ a, Wf C G env n s) ∧ ∀ s ∈ b, Wf C G env n s
  | n + 1, .wh t b => (t.Ok C ∧ t.parts ≤ 11) ∧ ∀ s ∈ b, Wf C G env n s
  | n + 1, .times k b => (1 ≤ k ∧ k ≤ 4 ∧ b ≠ []) ∧ ∀ s ∈ b, Wf C G env n s
  | n + 1, .call f => ∃ b, env f = some b ∧ ∀ s ∈ b, Wf C G env n s
  | 0, _ => False
section
variable {C C' G G' : Str → Prop} {env env' : Env'}
theorem Tm.Ok.imp (hC : ∀ x, C x → C' x) {t : Tm} : t.Ok C → t.Ok C' := by
  induction t with
  | num k => exact id
  | cell x => exact hC x
  | op s a b iha ihb => exact fun h => ⟨h.1, iha h.2.1, ihb h.2.2⟩
theorem Wf.imp (hC : ∀ x, C x → C' x) (hG : ∀ x, G x → G' x) (he : ∀ f b, env f = some b → env' f = some b) : ∀ {n : Nat} {s : Sm}, Wf C G env n s → Wf C' G' env' n s := by
  intro n
  induction n with
  | zero =>
    intro s h
    cases s with
    | set x t => exact ⟨hC x h.1, h.2.1.imp hC, h.2.2⟩
    | read x g => exact ⟨hC x h.1, hG g h.2⟩
    | tell t => exact ⟨h.1.imp hC, h.2⟩
    | sure xs n => exact ⟨fun x hx => hC x (h.1 x hx), h.2⟩
    | _ => exact h.elim
  | succ n ih =>
    intro s h
    cases s with
    | set x t => exact ⟨hC x h.1, h.2.1.imp hC, h.2.2⟩
    | read x g => exact ⟨hC x h.1, hG g h.2⟩
    | tell t => exact ⟨h.1.imp hC, h.2⟩
    | sure xs n => exact ⟨fun x hx => hC x (h.1 x hx), h.2⟩
    | ite t a b => exact ⟨⟨h.1.1.imp hC, h.1.2⟩, fun s hs => ih (h.2.1 s hs), fun s hs => ih (h.2.2 s hs)⟩
    | wh t b => exact ⟨⟨h.1.1.imp hC, h.1.2⟩, fun s hs => ih (h.2 s hs)⟩
    | times k b => exact ⟨h.1, fun s hs => ih (h.2 s hs)⟩
    | call f =>
      obtain ⟨b, e, hb⟩ := h
      exact ⟨b, he f b e, fun s hs => ih (hb s hs)⟩
theorem Wf.succ : ∀ {n : Nat} {s : Sm}, Wf C G env n s → Wf C G env (n + 1) s := by
  intro n
  induction n with
  | zero =>
    intro s h
    cases s <;> first | exact h | exact h.elim
  | succ n ih =>
    intro s h
    cases s with
    | set x t => exact h
    | read x g => exact h
    | tell t => exact h
    | sure xs n => exact h
    | ite t a b => exact ⟨h.1, fun s hs => ih (h.2.1 s hs), fun s hs => ih (h.2.2 s hs)⟩
    | wh t b => exact ⟨h.1, fun s hs => ih (h.2 s hs)⟩
    | times k b => exact ⟨h.1, fun s hs => ih (h.2 s hs)⟩
    | call f =>
      obtain ⟨b, e, hb⟩ := h
      exact ⟨b, e, fun s hs => ih (hb s hs)⟩
theorem Wf.up {n m : Nat} {s : Sm} (h : Wf C G env n s) (l : n ≤ m) : Wf C G env m s := by
  obtain ⟨d, rfl⟩ := Nat.le.dest l
  clear l
  induction d with
  | zero => exact h
  | succ d ih => exact ih.succ
theorem plL_congr {f g : Sm → Pl} : ∀ {b : List Sm}, (∀ s ∈ b, f s = g s) → plL f b = plL g b
  | [], _ => rfl
  | s :: r, h => by
    show (f s).app (plL f r) = (g s).app (plL g r)
    rw [h s List.mem_cons_self, plL_congr fun z hz => h z (List.mem_cons_of_mem _ hz)]
/-- the plain body doesn't hang on a larger env, nor on more depth -/
theorem plS_env (he : ∀ f b, env f = some b → env' f = some b) : ∀ {n : Nat} {s : Sm}, Wf C G env n s → plS env' n s = plS env n s := by
  intro n
  induction n with
  | zero =>
    intro s h
    cases s <;> first | rfl | exact h.elim
  | succ n ih =>
    intro s h
    cases s with
    | set x t => rfl
    | read x g => rfl
    | tell t => rfl
    | sure xs n => rfl
    | ite t a b =>
      show Pl.ite t (plL (plS env' n) a) (plL (plS env' n) b) .nil = Pl.ite t (plL (plS env n) a) (plL (plS env n) b) .nil
      rw [plL_congr fun s hs => ih (h.2.1 s hs), plL_congr fun s hs => ih (h.2.2 s hs)]
    | wh t b =>
      show Pl.wh t (plL (plS env' n) b) .nil = Pl.wh t (plL (plS env n) b) .nil
      rw [plL_congr fun s hs => ih (h.2 s hs)]
    | times k b =>
      show (plL (plS env' n) b).rep k.toNat = (plL (plS env n) b).rep k.toNat
      rw [plL_congr fun s hs => ih (h.2 s hs)]
    | call f =>
      obtain ⟨b, e, hb⟩ := h
      show (match env' f with | some b => plL (plS env' n) b | none => .nil) = (match env f with | some b => plL (plS env n) b | none => .nil)
      rw [he f b e, e]
      exact plL_congr fun s hs => ih (hb s hs)
theorem plS_succ : ∀ {n : Nat} {s : Sm}, Wf C G env n s → plS env (n + 1) s = plS env n s := by
  intro n
  induction n with
  | zero =>
    intro s h
    cases s <;> first | rfl | exact h.elim
  | succ n ih =>
    intro s h
    cases s with
    | set x t => rfl
    | read x g => rfl
    | tell t => rfl
    | sure xs n => rfl
    | ite t a b =>
      show Pl.ite t (plL (plS env (n + 1)) a) (plL (plS env (n + 1)) b) .nil = Pl.ite t (plL (plS env n) a) (plL (plS env n) b) .nil
      rw [plL_congr fun s hs => ih (h.2.1 s hs), plL_congr fun s hs => ih (h.2.2 s hs)]
    | wh t b =>
      show Pl.wh t (plL (plS env (n + 1)) b) .nil = Pl.wh t (plL (plS env n) b) .nil
      rw [plL_congr fun s hs => ih (h.2 s hs)]
    | times k b =>
      show (plL (plS env (n + 1)) b).rep k.toNat = (plL (plS env n) b).rep k.toNat
      rw [plL_congr fun s hs => ih (h.2 s hs)]
    | call f =>
      obtain ⟨b, e, hb⟩ := h
      show (match env f with | some b => plL (plS env (n + 1)) b | none => .nil) = (match env f with | some b => plL (plS env n) b | none => .nil)
      rw [e]
      exact plL_congr fun s hs => ih (hb s hs)
theorem plS_up {n m : Nat} {s : Sm} (h : Wf C G env n s) (l : n ≤ m) : plS env m s = plS env n s := by
  obtain ⟨d, rfl⟩ := Nat.le.dest l
  clear l
  induction d with
  | zero => rfl
  | succ d ih =>
    rw [← ih]
    exact plS_succ (h.up (Nat.le_add_right n d))
theorem plL_up {n m : Nat} {b : List Sm} (h : ∀ s ∈ b, Wf C G env n s) (l : n ≤ m) : plL (plS env m) b = plL (plS env n) b := plL_congr fun s hs => plS_up (h s hs) l
theorem plL_env {n : Nat} {b : List Sm} (he : ∀ f b, env f = some b → env' f = some b) (h : ∀ s ∈ b, Wf C G env n s) : plL (plS env' n) b = plL (plS env n) b := plL_congr fun s hs => plS_env he (h s hs)
theorem Fit.rep {P : Str → Prop} {d : Nat} {p : Pl} (h : Fit P d p) : ∀ n : Nat, Fit P (n * d) (p.rep n)
  | 0 => by rw [Nat.zero_mul]; exact Fit.nil
  | n + 1 => by rw [Nat.succ_mul, Nat.add_comm]; exact h.app (h.rep n)
theorem Pl.size_rep (p : Pl) : ∀ n : Nat, (p.rep n).size = n * p.size
  | 0 => by rw [Nat.zero_mul]; rfl
  | n + 1 => by
    show (p.app (p.rep n)).size = _
    rw [Pl.size_app, Pl.size_rep p n, Nat.succ_mul, Nat.add_comm]
end
end Kz
set_option Elab.async false
set_option linter.all false
set_option maxRecDepth 100000
/-! ZDc: calling otherwise; the going along rows, in lockstep. -/
namespace Kz
open PySem
/-! ### names called otherwise -/
def Tm.ren (fc : Str → Str) : Tm → Tm
  | .num k => .num k
  | .cell x => .cell (fc x)
  | .op s a b => .op s (a.ren fc) (b.ren fc)
def Rw.ren (fc fg : Str → Str) : Rw → Rw
  | .set x t k => .set (fc x) (t.ren fc) k
  | .read x g k => .read (fc x) (fg g) k
  | .tell t k => .tell (t.ren fc) k
  | .sure xs n k => .sure (xs.map fc) n k
  | .ite t k m => .ite (t.ren fc) k m
  | .fin => .fin
def Pl.ren (fc fg : Str → Str) : Pl → Pl
  | .nil => .nil
  | .set x t k => .set (fc x) (t.ren fc) (k.ren fc fg)
  | .read x g k => .read (fc x) (fg g) (k.ren fc fg)
  | .tell t k => .tell (t.ren fc) (k.ren fc fg)
  | .sure xs n k => .sure (xs.map fc) n (k.ren fc fg)
  | .ite t a b k => .ite (t.ren fc) (a.ren fc fg) (b.ren fc fg) (k.ren fc fg)
  | .wh t b k => .wh (t.ren fc) (b.ren fc fg) (k.ren fc fg)
def renS (fc fg fh : Str → Str) : Nat → Sm → Sm
  | _, .set x t => .set (fc x) (t.ren fc)
  | _, .read x g => .read (fc x) (fg g)
  | _, .tell t => .tell (t.ren fc)
  | _, .sure xs n => .sure (xs.map fc) n
  | n + 1, .ite t a b => .ite (t.ren fc) (a.map (renS fc fg fh n)) (b.map (renS fc fg fh n))
  | n + 1, .wh t b => .wh (t.ren fc) (b.map (renS fc fg fh n))
  | n + 1, .times k b => .times k (b.map (renS fc fg fh n))
  | _, .call f => .call (fh f)
  | 0, s => s
section
variable {fc fg fh : Str → Str}
theorem Pl.ren_app (q : Pl) : ∀ p : Pl, (p.app q).ren fc fg = (p.ren fc fg).app (q.ren fc fg)
  | .nil => rfl
  | .set x t k => congrArg (Pl.set (fc x) (t.ren fc)) (Pl.ren_app q k)
  | .read x g k => congrArg (Pl.read (fc x) (fg g)) (Pl.ren_app q k)
  | .tell t k => congrArg (Pl.tell (t.ren fc)) (Pl.ren_app q k)
  | .sure xs n k => congrArg (Pl.sure (xs.map fc) n) (Pl.ren_app q k)
  | .ite t a b k => congrArg (Pl.ite (t.ren fc) (a.ren fc fg) (b.ren fc fg)) (Pl.ren_app q k)
  | .wh t b k => congrArg (Pl.wh (t.ren fc) (b.ren fc fg)) (Pl.ren_app q k)
theorem Pl.size_ren : ∀ p : Pl, (p.ren fc fg).size = p.size
  | .nil => rfl
  | .set x t k => congrArg (1 + ·) (Pl.size_ren k)
  | .read x g k => congrArg (1 + ·) (Pl.size_ren k)
  | .tell t k => congrArg (1 + ·) (Pl.size_ren k)
  | .sure xs n k => congrArg (1 + ·) (Pl.size_ren k)
  | .ite t a b k => by
    show 1 + (a.ren fc fg).size + (b.ren fc fg).size + (k.ren fc fg).size = 1 + a.size + b.size + k.size
    rw [Pl.size_ren a, Pl.size_ren b, Pl.size_ren k]
  | .wh t b k => by
    show 1 + (b.ren fc fg).size + (k.ren fc fg).size = 1 + b.size + k.size
    rw [Pl.size_ren b, Pl.size_ren k]
theorem Pl.ent_ren (p : Pl) (i bh : Nat) : (p.ren fc fg).ent i bh = p.ent i bh := by
  unfold Pl.ent
  rw [Pl.size_ren]
theorem Pl.lay_ren : ∀ (p : Pl) (i bh : Nat), (p.ren fc fg).lay i bh = (p.lay i bh).map (Rw.ren fc fg)
  | .nil, _, _ => rfl
  | .set x t k, i, bh => by
    show Rw.set (fc x) (t.ren fc) ((k.ren fc fg).ent (i + 1) bh) :: (k.ren fc fg).lay (i + 1) bh = Rw.set (fc x) (t.ren fc) (k.ent (i + 1) bh) :: (k.lay (i + 1) bh).map (Rw.ren fc fg)
    rw [Pl.ent_ren, Pl.lay_ren k]
  | .read x g k, i, bh => by
    show Rw.read (fc x) (fg g) ((k.ren fc fg).ent (i + 1) bh) :: (k.ren fc fg).lay (i + 1) bh = Rw.read (fc x) (fg g) (k.ent (i + 1) bh) :: (k.lay (i + 1) bh).map (Rw.ren fc fg)
    rw [Pl.ent_ren, Pl.lay_ren k]
  | .tell t k, i, bh => by
    show Rw.tell (t.ren fc) ((k.ren fc fg).ent (i + 1) bh) :: (k.ren fc fg).lay (i + 1) bh = Rw.tell (t.ren fc) (k.ent (i + 1) bh) :: (k.lay (i + 1) bh).map (Rw.ren fc fg)
    rw [Pl.ent_ren, Pl.lay_ren k]
  | .sure xs n k, i, bh => by
    show Rw.sure (xs.map fc) n ((k.ren fc fg).ent (i + 1) bh) :: (k.ren fc fg).lay (i + 1) bh = Rw.sure (xs.map fc) n (k.ent (i + 1) bh) :: (k.lay (i + 1) bh).map (Rw.ren fc fg)
    rw [Pl.ent_ren, Pl.lay_ren k]
  | .ite t a b k, i, bh => by
    rw [show (Pl.ite t a b k).ren fc fg = .ite (t.ren fc) (a.ren fc fg) (b.ren fc fg) (k.ren fc fg) from rfl, Pl.lay_ite, Pl.lay_ite, List.map_cons, List.map_append, List.map_append]
    simp only [Pl.ent_ren, Pl.size_ren, Pl.lay_ren a, Pl.lay_ren b, Pl.lay_ren k]
    rfl
  | .wh t b k, i, bh => by
    rw [show (Pl.wh t b k).ren fc fg = .wh (t.ren fc) (b.ren fc fg) (k.ren fc fg) from rfl, Pl.lay_wh, Pl.lay_wh, List.map_cons, List.map_append]
    simp only [Pl.ent_ren, Pl.size_ren, Pl.lay_ren b, Pl.lay_ren k]
    rfl
theorem Pl.ren_rep (p : Pl) : ∀ n : Nat, (p.rep n).ren fc fg = (p.ren fc fg).rep n
  | 0 => rfl
  | n + 1 => by
    show (p.app (p.rep n)).ren fc fg = (p.ren fc fg).app ((p.ren fc fg).rep n)
    rw [Pl.ren_app, Pl.ren_rep p n]
theorem plL_ren {f f' : Sm → Pl} {g : Sm → Sm} : ∀ {b : List Sm}, (∀ s ∈ b, f' (g s) = (f s).ren fc fg) → plL f' (b.map g) = (plL f b).ren fc fg
  | [], _ => rfl
  | s :: r, h => by
    show (f' (g s)).app (plL f' (r.map g)) = ((f s).app (plL f r)).ren fc fg
    rw [Pl.ren_app, h s List.mem_cons_self, plL_ren fun z hz => h z (List.mem_cons_of_mem _ hz)]
variable {C G : Str → Prop} {env env' : Env'}
theorem renS_succ : ∀ {n : Nat} {s : Sm}, Wf C G env n s → renS fc fg fh (n + 1) s = renS fc fg fh n s := by
  intro n
  induction n with
  | zero =>
    intro s h
    cases s <;> first | rfl | exact h.elim
  | succ n ih =>
    intro s h
    cases s with
    | set x t => rfl
    | read x g => rfl
    | tell t => rfl
    | sure xs n => rfl
    | ite t a b =>
      show Sm.ite _ (a.map (renS fc fg fh (n + 1))) (b.map (renS fc fg fh (n + 1))) = Sm.ite _ (a.map (renS fc fg fh n)) (b.map (renS fc fg fh n))
      rw [List.map_congr_left fun s hs => ih (h.2.1 s hs), List.map_congr_left fun s hs => ih (h.2.2 s hs)]
    | wh t b =>
      show Sm.wh _ (b.map (renS fc fg fh (n + 1))) = Sm.wh _ (b.map (renS fc fg fh n))
      rw [List.map_congr_left fun s hs => ih (h.2 s hs)]
    | times k b =>
      show Sm.times k (b.map (renS fc fg fh (n + 1))) = Sm.times k (b.map (renS fc fg fh n))
      rw [List.map_congr_left fun s hs => ih (h.2 s hs)]
    | call f => rfl
theorem renS_up {n m : Nat} {s : Sm} (h : Wf C G env n s) (l : n ≤ m) : renS fc fg fh m s = renS fc fg fh n s := by
  obtain ⟨d, rfl⟩ := Nat.le.dest l
  clear l
  induction d with
  | zero => rfl
  | succ d ih =>
    rw [← ih]
    exact renS_succ (h.up (Nat.le_add_right n d))
/-- the plain body of the program called otherwise -/
theorem plS_ren {N : Nat} (hE : ∀ f b, env f = some b → env' (fh f) = some (b.map (renS fc fg fh N))) : ∀ {n : Nat} {s : Sm}, n ≤ N → Wf C G env n s → plS env' n (renS fc fg fh n s) = (plS env n s).ren fc fg := by
  intro n
  induction n with
  | zero =>
    intro s _ h
    cases s <;> first | rfl | exact h.elim
  | succ n ih =>
    intro s hn h
    cases s with
    | set x t => rfl
    | read x g => rfl
    | tell t => rfl
    | sure xs n => rfl
    | ite t a b =>
      show Pl.ite _ (plL (plS env' n) (a.map (renS fc fg fh n))) (plL (plS env' n) (b.map (renS fc fg fh n))) .nil = Pl.ite _ ((plL (plS env n) a).ren fc fg) ((plL (plS env n) b).ren fc fg) .nil
      rw [plL_ren fun s hs => ih (by omega) (h.2.1 s hs), plL_ren fun s hs => ih (by omega) (h.2.2 s hs)]
    | wh t b =>
      show Pl.wh _ (plL (plS env' n) (b.map (renS fc fg fh n))) .nil = Pl.wh _ ((plL (plS env n) b).ren fc fg) .nil
      rw [plL_ren fun s hs => ih (by omega) (h.2 s hs)]
    | times k b =>
      show (plL (plS env' n) (b.map (renS fc fg fh n))).rep k.toNat = ((plL (plS env n) b).rep k.toNat).ren fc fg
      rw [Pl.ren_rep, plL_ren fun s hs => ih (by omega) (h.2 s hs)]
    | call f =>
      obtain ⟨b, e, hb⟩ := h
      show (match env' (fh f) with | some b => plL (plS env' n) b | none => .nil) = Pl.ren fc fg (match env f with | some b => plL (plS env n) b | none => .nil)
      rw [hE f b e, e]
      show plL (plS env' n) (b.map (renS fc fg fh N)) = (plL (plS env n) b).ren fc fg
      rw [List.map_congr_left fun s hs => renS_up (fc := fc) (fg := fg) (fh := fh) (hb s hs) (by omega : n ≤ N)]
      exact plL_ren fun s hs => ih (by omega) (hb s hs)
theorem plL_renS {N : Nat} (hE : ∀ f b, env f = some b → env' (fh f) = some (b.map (renS fc fg fh N))) {b : List Sm} (h : ∀ s ∈ b, Wf C G env N s) : plL (plS env' N) (b.map (renS fc fg fh N)) = (plL (plS env N) b).ren fc fg :=
  plL_ren fun s hs => plS_ren hE (Nat.le_refl N) (h s hs)
end
/-! ### what names stand in rows -/
def Pl.Ok (C G : Str → Prop) : Pl → Prop
  | .nil => True
  | .set x t k => C x ∧ t.Ok C ∧ t.parts ≤ 11 ∧ k.Ok C G
  | .read x g k => C x ∧ G g ∧ k.Ok C G
  | .tell t k => t.Ok C ∧ t.parts ≤ 11 ∧ k.Ok C G
  | .sure xs n k => (∀ x ∈ xs, C x) ∧ xs.length ≤ 4 ∧ 0 ≤ n ∧ n < WD ∧ k.Ok C G
  | .ite t a b k => t.Ok C ∧ t.parts ≤ 11 ∧ a.Ok C G ∧ b.Ok C G ∧ k.Ok C G
  | .wh t b k => t.Ok C ∧ t.parts ≤ 11 ∧ b.Ok C G ∧ k.Ok C G
def Rw.Ok (C G : Str → Prop) : Rw → Prop
  | .set x t _ => C x ∧ t.Ok C ∧ t.parts ≤ 11
  | .read x g _ => C x ∧ G g
  | .tell t _ => t.Ok C ∧ t.parts ≤ 11
  | .sure xs n _ => (∀ x ∈ xs, C x) ∧ xs.length ≤ 4 ∧ 0 ≤ n ∧ n < WD
  | .ite t _ _ => t.Ok C ∧ t.parts ≤ 11
  | .fin => True
section
variable {C G : Str → Prop} {env : Env'}
theorem Pl.Ok.app {q : Pl} (hq : q.Ok C G) : ∀ {p : Pl}, p.Ok C G → (p.app q).Ok C G
  | .nil, _ => hq
  | .set _ _ k, h => ⟨h.1, h.2.1, h.2.2.1, Pl.Ok.app hq h.2.2.2⟩
  | .read _ _ k, h => ⟨h.1, h.2.1, Pl.Ok.app hq h.2.2⟩
  | .tell _ k, h => ⟨h.1, h.2.1, Pl.Ok.app hq h.2.2⟩
  | .sure _ _ k, h => ⟨h.1, h.2.1, h.2.2.1, h.2.2.2.1, Pl.Ok.app hq h.2.2.2.2⟩
  | .ite _ a b k, h => ⟨h.1, h.2.1, h.2.2.1, h.2.2.2.1, Pl.Ok.app hq h.2.2.2.2⟩
  | .wh _ b k, h => ⟨h.1, h.2.1, h.2.2.1, Pl.Ok.app hq h.2.2.2⟩
theorem Pl.Ok.rep {p : Pl} (h : p.Ok C G) : ∀ n : Nat, (p.rep n).Ok C G
  | 0 => trivial
  | n + 1 => Pl.Ok.app (h.rep n) h
theorem plL_ok {f : Sm → Pl} : ∀ {b : List Sm}, (∀ s ∈ b, (f s).Ok C G) → (plL f b).Ok C G
  | [], _ => trivial
  | s :: r, h => Pl.Ok.app (plL_ok fun z hz => h z (List.mem_cons_of_mem _ hz)) (h s List.mem_cons_self)
theorem plS_ok : ∀ {n : Nat} {s : Sm}, Wf C G env n s → (plS env n s).Ok C G := by
  intro n
  induction n with
  | zero =>
    intro s h
    cases s with
    | set x t => exact ⟨h.1, h.2.1, h.2.2, trivial⟩
    | read x g => exact ⟨h.1, h.2, trivial⟩
    | tell t => exact ⟨h.1, h.2, trivial⟩
    | sure xs n => exact ⟨h.1, h.2.2.1, h.2.2.2.1, h.2.2.2.2, trivial⟩
    | _ => exact h.elim
  | succ n ih =>
    intro s h
    cases s with
    | set x t => exact ⟨h.1, h.2.1, h.2.2, trivial⟩
    | read x g => exact ⟨h.1, h.2, trivial⟩
    | tell t => exact ⟨h.1, h.2, trivial⟩
    | sure xs n => exact ⟨h.1, h.2.2.1, h.2.2.2.1, h.2.2.2.2, trivial⟩
    | ite t a b => exact ⟨h.1.1, h.1.2, plL_ok fun s hs => ih (h.2.1 s hs), plL_ok fun s hs => ih (h.2.2 s hs), trivial⟩
    | wh t b => exact ⟨h.1.1, h.1.2, plL_ok fun s hs => ih (h.2 s hs), trivial⟩
    | times k b => exact Pl.Ok.rep (plL_ok fun s hs => ih (h.2 s hs)) _
    | call f =>
      obtain ⟨b, e, hb⟩ := h
      show Pl.Ok C G (match env f with | some b => plL (plS env n) b | none => .nil)
      rw [e]
      exact plL_ok fun s hs => ih (hb s hs)
theorem Pl.lay_ok : ∀ {p : Pl} {i bh : Nat}, p.Ok C G → ∀ r ∈ p.lay i bh, r.Ok C G
  | .nil, _, _, _, r, hr => absurd hr List.not_mem_nil
  | .set _ _ k, i, bh, h, r, hr => by
    rcases List.mem_cons.mp hr with e | hr
    · rw [e]; exact ⟨h.1, h.2.1, h.2.2.1⟩
    · exact Pl.lay_ok h.2.2.2 r hr
  | .read _ _ k, i, bh, h, r, hr => by
    rcases List.mem_cons.mp hr with e | hr
    · rw [e]; exact ⟨h.1, h.2.1⟩
    · exact Pl.lay_ok h.2.2 r hr
  | .tell _ k, i, bh, h, r, hr => by
    rcases List.mem_cons.mp hr with e | hr
    · rw [e]; exact ⟨h.1, h.2.1⟩
    · exact Pl.lay_ok h.2.2 r hr
  | .sure _ _ k, i, bh, h, r, hr => by
    rcases List.mem_cons.mp hr with e | hr
    · rw [e]; exact ⟨h.1, h.2.1, h.2.2.1, h.2.2.2.1⟩
    · exact Pl.lay_ok h.2.2.2.2 r hr
  | .ite t a b k, i, bh, h, r, hr => by
    rw [Pl.lay_ite] at hr
    rcases List.mem_cons.mp hr with e | hr
    · rw [e]; exact ⟨h.1, h.2.1⟩
    rcases List.mem_append.mp hr with hr | hr
    · exact Pl.lay_ok h.2.2.1 r hr
    rcases List.mem_append.mp hr with hr | hr
    · exact Pl.lay_ok h.2.2.2.1 r hr
    · exact Pl.lay_ok h.2.2.2.2 r hr
  | .wh t b k, i, bh, h, r, hr => by
    rw [Pl.lay_wh] at hr
    rcases List.mem_cons.mp hr with e | hr
    · rw [e]; exact ⟨h.1, h.2.1⟩
    rcases List.mem_append.mp hr with hr | hr
    · exact Pl.lay_ok h.2.2.1 r hr
    · exact Pl.lay_ok h.2.2.2 r hr
end
/-! ### one who goes -/
structure Mc where
  i : Nat
  c : Str → Int
  told : List Int
  gone : List Nat
  used : Nat
  over : Bool
def Rw.wants : Rw → Option Str
  | .read _ g _ => some g
  | _ => none
def stepM (r : Rw) (v : Int) (m : Mc) : Mc := match r with
  | .fin => { m with gone := m.gone ++ [m.i], over := true }
  | .ite t k l => { m with gone := m.gone ++ [m.i], i := if t.worth m.c ≠ 0 then k else l }
  | .read x _ k => { m with gone := m.gone ++ [m.i], i := k, c := put m.c x v, used := m.used + 1 }
  | .set x t k => { m with gone := m.gone ++ [m.i], i := k, c := put m.c x (t.worth m.c) }
  | .tell t k => { m with gone := m.gone ++ [m.i], i := k, told := m.told ++ [t.worth m.c] }
  | .sure _ _ k => { m with gone := m.gone ++ [m.i], i := k }
def inpOf (inp : Nat → Str → Int) (r : Rw) (m : Mc) : Int := match r.wants with
  | some g => inp m.used g
  | none => 0
def goM (rows : List Rw) (inp : Nat → Str → Int) : Nat → Mc → Option Mc
  | 0, _ => none
  | n + 1, m => match rows[m.i]? with
    | none => none
    | some r => if (stepM r (inpOf inp r m) m).over = true then some (stepM r (inpOf inp r m) m) else goM rows inp n (stepM r (inpOf inp r m) m)
def Inp (inp : Nat → Str → Int) : Prop := ∀ k g, 0 ≤ inp k g ∧ inp k g < WD
def m0 : Mc := ⟨0, fun _ => 0, [], [], 0, false⟩
section
variable {rows : List Rw} {inp inp' : Nat → Str → Int} {C G : Str → Prop} {fc fg : Str → Str}
/-- where it halts there is a next row, and behind it it halts in one row less -/
theorem Hal.next {n : Nat} {m : Mc} (hI : Inp inp) (h : Hal rows (n + 1) m.i m.c) : ∃ r, rows[m.i]? = some r ∧ (r = .fin ∨ (r ≠ .fin ∧ Hal rows n (stepM r (inpOf inp r m) m).i (stepM r (inpOf inp r m) m).c)) := by
  unfold Hal at h
  split at h
  · exact h.elim
  · rename_i e; exact ⟨_, e, .inl rfl⟩
  · rename_i e; exact ⟨_, e, .inr ⟨(fun z => by cases z), h⟩⟩
  · rename_i x g k e; exact ⟨_, e, .inr ⟨(fun z => by cases z), h _ (hI m.used g).1 (hI m.used g).2⟩⟩
  · rename_i e; exact ⟨_, e, .inr ⟨(fun z => by cases z), h⟩⟩
  · rename_i e; exact ⟨_, e, .inr ⟨(fun z => by cases z), h⟩⟩
  · rename_i e; exact ⟨_, e, .inr ⟨(fun z => by cases z), h⟩⟩
theorem step_over {r : Rw} {v : Int} {m : Mc} (hm : m.over = false) : (stepM r v m).over = true ↔ r = .fin := by
  cases r <;> simp [stepM, hm]
theorem goM_some (hI : Inp inp) : ∀ {n : Nat} {m : Mc}, m.over = false → Hal rows n m.i m.c → ∃ e, goM rows inp n m = some e := by
  intro n
  induction n with
  | zero => intro m _ h; exact h.elim
  | succ n ih =>
    intro m hm h
    obtain ⟨r, e, q⟩ := h.next hI
    unfold goM
    rw [e]
    show ∃ q, (if (stepM r (inpOf inp r m) m).over = true then some (stepM r (inpOf inp r m) m) else goM rows inp n (stepM r (inpOf inp r m) m)) = some q
    split
    · exact ⟨_, rfl⟩
    · rename_i z
      rcases q with q | ⟨q1, q2⟩
      · exact absurd ((step_over hm).mpr q) z
      · refine ih ?_ q2
        cases b : (stepM r (inpOf inp r m) m).over with
        | false => rfl
        | true => exact absurd b z
theorem step_gone {r : Rw} {v : Int} {m : Mc} : (stepM r v m).gone = m.gone ++ [m.i] := by cases r <;> rfl
theorem step_used {r : Rw} {v : Int} {m : Mc} : (stepM r v m).used ≤ m.used + 1 := by cases r <;> simp [stepM]
/-! ### in lockstep -/
structure RelM (C : Str → Prop) (fc : Str → Str) (m m' : Mc) : Prop where
  i : m'.i = m.i
  c : ∀ x, C x → m'.c (fc x) = m.c x
  told : m'.told = m.told
  gone : m'.gone = m.gone
  used : m'.used = m.used
  over : m'.over = m.over
theorem worth_ren {c c' : Str → Int} (h : ∀ x, C x → c' (fc x) = c x) : ∀ {t : Tm}, t.Ok C → (t.ren fc).worth c' = t.worth c
  | .num _, _ => rfl
  | .cell x, q => h x q
  | .op s a b, q => by
    show of2 s _ _ = of2 s _ _
    rw [worth_ren h q.2.1, worth_ren h q.2.2]
theorem put_ren (inj : ∀ x y, C x → C y → fc x = fc y → x = y) {c c' : Str → Int} (h : ∀ x, C x → c' (fc x) = c x) {y : Str} (hy : C y) {v : Int} : ∀ x, C x → put c' (fc y) v (fc x) = put c y v x := fun x hx => by
  by_cases e : x = y
  · rw [e, put_same, put_same]
  · rw [put_ne e, put_ne fun z => e (inj x y hx hy z)]
    exact h x hx
theorem step_ren (inj : ∀ x y, C x → C y → fc x = fc y → x = y) {r : Rw} (hr : r.Ok C G) {v : Int} {m m' : Mc} (h : RelM C fc m m') : RelM C fc (stepM r v m) (stepM (r.ren fc fg) v m') := by
  obtain ⟨i, c, told, gone, used, over⟩ := m
  obtain ⟨i', c', told', gone', used', over'⟩ := m'
  obtain ⟨h1, h2, h3, h4, h5, h6⟩ := h
  obtain rfl : i' = i := h1
  obtain rfl : told' = told := h3
  obtain rfl : gone' = gone := h4
  obtain rfl : used' = used := h5
  obtain rfl : over' = over := h6
  have h2 : ∀ x, C x → c' (fc x) = c x := h2
  cases r with
  | set x t =>
    refine ⟨rfl, ?_, rfl, rfl, rfl, rfl⟩
    show ∀ y, C y → put c' (fc x) ((t.ren fc).worth c') (fc y) = put c x (t.worth c) y
    rw [worth_ren h2 hr.2.1]
    exact put_ren inj h2 hr.1
  | read x g => exact ⟨rfl, put_ren inj h2 hr.1, rfl, rfl, rfl, rfl⟩
  | tell t =>
    refine ⟨rfl, h2, ?_, rfl, rfl, rfl⟩
    show _ ++ [(t.ren fc).worth c'] = _ ++ [t.worth c]
    rw [worth_ren h2 hr.1]
  | sure xs n => exact ⟨rfl, h2, rfl, rfl, rfl, rfl⟩
  | ite t k l =>
    refine ⟨?_, h2, rfl, rfl, rfl, rfl⟩
    show (if (t.ren fc).worth c' ≠ 0 then k else l) = (if t.worth c ≠ 0 then k else l)
    rw [worth_ren h2 hr.1]
  | fin => exact ⟨rfl, h2, rfl, rfl, rfl, rfl⟩
theorem goM_ren (inj : ∀ x y, C x → C y → fc x = fc y → x = y) (hR : ∀ r ∈ rows, r.Ok C G) (hi : ∀ k g, G g → inp' k (fg g) = inp k g) :
    ∀ {n : Nat} {m m' e : Mc}, RelM C fc m m' → goM rows inp n m = some e → ∃ e', goM (rows.map (Rw.ren fc fg)) inp' n m' = some e' ∧ RelM C fc e e' := by
  intro n
  induction n with
  | zero => intro m m' e _ h; cases h
  | succ n ih =>
    intro m m' e h q
    unfold goM at q ⊢
    cases er : rows[m.i]? with
    | none => rw [er] at q; cases q
    | some r =>
      rw [er] at q
      have hr := hR r (List.mem_of_getElem? er)
      rw [h.i, List.getElem?_map, er]
      have eI : inpOf inp' (r.ren fc fg) m' = inpOf inp r m := by
        unfold inpOf
        cases r with
        | read x g =>
          show inp' m'.used (fg g) = inp m.used g
          rw [h.used, hi _ _ hr.2]
        | _ => rfl
      have hs := step_ren (fg := fg) inj hr (v := inpOf inp r m) h
      show ∃ e', (if (stepM (r.ren fc fg) (inpOf inp' (r.ren fc fg) m') m').over = true then some (stepM (r.ren fc fg) (inpOf inp' (r.ren fc fg) m') m') else goM (rows.map (Rw.ren fc fg)) inp' n (stepM (r.ren fc fg) (inpOf inp' (r.ren fc fg) m') m')) = some e' ∧ RelM C fc e e'
      rw [eI, hs.over]
      have q : (if (stepM r (inpOf inp r m) m).over = true then some (stepM r (inpOf inp r m) m) else goM rows inp n (stepM r (inpOf inp r m) m)) = some e := q
      split at q
      · rename_i z
        rw [if_pos z]
        cases q
        exact ⟨_, rfl, hs⟩
      · rename_i z
        rw [if_neg z]
        exact ih hs q
end
end Kz
set_option Elab.async false
set_option linter.all false
set_option maxRecDepth 100000
/-! ZRp: how terms, statements, rows, programs stand in the heap; what stays over a change. -/
namespace Kz
open PySem PyProof.Rows L2
/-! ### what stays -/
/-- but for the addresses of S all that was tracked stays, tuples stay anyway, nothing is forgotten -/
structure Fr (S : List Addr) (H H' : Hp) : Prop where
  keep : ∀ a o, a ∉ S → H a = some o → H' a = some o
  tups : ∀ a xs, H a = some (.tup xs) → H' a = some (.tup xs)
  back : ∀ a, H' a = none → H a = none
  fz : ∀ a o xs, H a = some (.frz o (.tup xs)) → H' a = some (.frz o (.tup xs))
section
variable {S S' : List Addr} {H H1 H2 : Hp} {a p : Addr} {o u : HO}
theorem Fr.refl : Fr S H H := ⟨fun _ _ _ h => h, fun _ _ h => h, fun _ h => h, fun _ _ _ h => h⟩
theorem Fr.trans (x : Fr S H H1) (y : Fr S H1 H2) : Fr S H H2 := ⟨fun a o h e => y.keep a o h (x.keep a o h e), fun a o e => y.tups a o (x.tups a o e), fun a e => x.back a (y.back a e), fun a o xs e => y.fz a o xs (x.fz a o xs e)⟩
theorem Fr.mono (x : Fr S H H1) (h : ∀ a ∈ S, a ∈ S') : Fr S' H H1 := ⟨fun a o n e => x.keep a o (fun z => n (h a z)) e, x.tups, x.back, x.fz⟩
theorem Fr.some (x : Fr S H H1) (h : H a = some o) : ∃ u, H1 a = some u := by
  cases e : H1 a with
  | none => rw [x.back a e] at h; cases h
  | some u => exact ⟨u, rfl⟩
theorem Fr.new (x : Fr S H H1) (h : H1 p = none) : Fr S H (upd H1 p o) :=
  ⟨fun a u n e => by rw [upd_ne (ne_of_none (x.keep a u n e) h)]; exact x.keep a u n e, fun a xs e => by rw [upd_ne (ne_of_none (x.tups a xs e) h)]; exact x.tups a xs e, fun a e => by
    by_cases z : a = p
    · subst z; exact x.back a h
    · rw [upd_ne z] at e; exact x.back a e, fun a o xs e => by rw [upd_ne (ne_of_none (x.fz a o xs e) h)]; exact x.fz a o xs e⟩
def NoTup : HO → Prop
  | .tup _ => False
  | .frz _ (.tup _) => False
  | _ => True
theorem Fr.mutT (x : Fr S H H1) (h : a ∈ S) (e : H1 a = .some u) (hu : NoTup u) : Fr S H (upd H1 a o) := by
  have nt : ∀ b xs, H b = .some (.tup xs) → b ≠ a := fun b xs z q => by
    subst q
    rw [x.tups b xs z] at e
    cases e
    exact hu
  have nf : ∀ b o xs, H b = .some (.frz o (.tup xs)) → b ≠ a := fun b o xs z q => by
    subst q
    rw [x.fz b o xs z] at e
    cases e
    exact hu
  refine ⟨fun b v n z => ?_, fun b xs z => ?_, fun b z => ?_, fun b o xs z => by rw [upd_ne (nf b o xs z)]; exact x.fz b o xs z⟩
  · rw [upd_ne (show b ≠ a from fun q => n (by rw [q]; exact h))]
    exact x.keep b v n z
  · rw [upd_ne (nt b xs z)]
    exact x.tups b xs z
  · by_cases q : b = a
    · subst q; rw [upd_same] at z; cases z
    · rw [upd_ne q] at z; exact x.back b z
theorem Fr.mutL {xs : List V} (x : Fr S H H1) (h : a ∈ S) (e : H1 a = .some (.lst xs)) : Fr S H (upd H1 a o) := x.mutT h e trivial
theorem Fr.mutD {kvs : List (Key × V)} (x : Fr S H H1) (h : a ∈ S) (e : H1 a = .some (.dK kvs)) : Fr S H (upd H1 a o) := x.mutT h e trivial
/-- a thing that wasn't known at first may change -/
theorem Fr.own (x : Fr S H H1) (h : H p = none) (e : H1 p = .some u) : Fr S H (upd H1 p o) := by
  have nt : ∀ b o, H b = .some o → b ≠ p := fun b o z q => by subst q; rw [h] at z; cases z
  refine ⟨fun b v n z => ?_, fun b xs z => ?_, fun b z => ?_, fun b o xs z => by rw [upd_ne (nt b _ z)]; exact x.fz b o xs z⟩
  · rw [upd_ne (nt b v z)]
    exact x.keep b v n z
  · rw [upd_ne (nt b _ z)]
    exact x.tups b xs z
  · by_cases q : b = p
    · subst q; rw [upd_same] at z; cases z
    · rw [upd_ne q] at z; exact x.back b z
/-- what was not known at first is no part of what may change -/
theorem Fr.cut (x : Fr (p :: S) H H1) (h : H p = none) : Fr S H H1 := ⟨fun a o n e => x.keep a o (fun z => by
  rcases List.mem_cons.mp z with q | q
  · subst q; rw [h] at e; cases e
  · exact n q) e, x.tups, x.back, x.fz⟩
theorem Fr.keepL {xs : List V} (x : Fr S H H1) (n : a ∉ S) (e : H a = .some (.lst xs)) : H1 a = .some (.lst xs) := x.keep a _ n e
end
/-- tuples stay -/
def Tu (H H' : Hp) : Prop := ∀ a xs, H a = some (.tup xs) → H' a = some (.tup xs)
theorem Tu.refl {H : Hp} : Tu H H := fun _ _ h => h
theorem Fr.tu {S : List Addr} {H H' : Hp} (x : Fr S H H') : Tu H H' := x.tups
theorem Tu.trans {H H1 H2 : Hp} (a : Tu H H1) (b : Tu H1 H2) : Tu H H2 := fun x xs h => b x xs (a x xs h)
theorem Tu.new {H : Hp} {p : Addr} {o : HO} (h : H p = none) : Tu H (upd H p o) := fun a xs e => by rw [upd_ne (ne_of_none e h)]; exact e
/-! ### terms -/
def RT (H : Hp) : V → Tm → Prop
  | v, .num k => ∃ a, v = .ref a ∧ H a = some (.tup [.str "num", .int k])
  | v, .cell x => ∃ a, v = .ref a ∧ H a = some (.tup [.str "cell", .str x])
  | v, .op s a b => ∃ p u w, v = .ref p ∧ H p = some (.tup [.str "op", .str s, u, w]) ∧ RT H u a ∧ RT H w b
theorem RT.mono {H H' : Hp} (t : Tu H H') : ∀ {v : V} {x : Tm}, RT H v x → RT H' v x
  | _, .num _, ⟨a, e, h⟩ => ⟨a, e, t _ _ h⟩
  | _, .cell _, ⟨a, e, h⟩ => ⟨a, e, t _ _ h⟩
  | _, .op _ _ _, ⟨p, u, w, e, h, h1, h2⟩ => ⟨p, u, w, e, t _ _ h, h1.mono t, h2.mono t⟩
def Tm.enc : Tm → PyData
  | .num k => .tuple [.str "num", .int k]
  | .cell x => .tuple [.str "cell", .str x]
  | .op s a b => .tuple [.str "op", .str s, a.enc, b.enc]
theorem RT.dp {K : PySem.W.Frag} {H : Hp} : ∀ {v : V} {x : Tm}, RT H v x → Dp K H v x.enc
  | _, .num k, ⟨a, e, h⟩ => by subst e; exact .tup (SqT.of h) (.cons (.str _) (.cons (.int _) .nil))
  | _, .cell x, ⟨a, e, h⟩ => by subst e; exact .tup (SqT.of h) (.cons (.str _) (.cons (.str _) .nil))
  | _, .op s a b, ⟨p, u, w, e, h, h1, h2⟩ => by subst e; exact .tup (SqT.of h) (.cons (.str _) (.cons (.str _) (.cons h1.dp (.cons h2.dp .nil))))
/-! ### statements -/
def RS (H : Hp) : Nat → V → Sm → Prop
  | _, v, .set x t => ∃ a u, v = .ref a ∧ H a = some (.tup [.str "set", .str x, u]) ∧ RT H u t
  | _, v, .read x g => ∃ a, v = .ref a ∧ H a = some (.tup [.str "read", .str x, .str g])
  | _, v, .tell t => ∃ a u, v = .ref a ∧ H a = some (.tup [.str "tell", u]) ∧ RT H u t
  | _, v, .sure xs n => ∃ a p, v = .ref a ∧ H a = some (.tup [.str "sure", .ref p, .int n]) ∧ H p = some (.tup (xs.map V.str))
  | n + 1, v, .ite t a b => ∃ q u pa pb va vb, v = .ref q ∧ H q = some (.tup [.str "if", u, .ref pa, .ref pb]) ∧ RT H u t ∧ H pa = some (.tup va) ∧ Paired (RS H n) va a ∧ H pb = some (.tup vb) ∧ Paired (RS H n) vb b
  | n + 1, v, .wh t b => ∃ q u pb vb, v = .ref q ∧ H q = some (.tup [.str "while", u, .ref pb]) ∧ RT H u t ∧ H pb = some (.tup vb) ∧ Paired (RS H n) vb b
  | n + 1, v, .times k b => ∃ q pb vb, v = .ref q ∧ H q = some (.tup [.str "times", .int k, .ref pb]) ∧ H pb = some (.tup vb) ∧ Paired (RS H n) vb b
  | _, v, .call f => ∃ a, v = .ref a ∧ H a = some (.tup [.str "call", .str f])
  | 0, _, _ => False
theorem RS.mono {H H' : Hp} (t : Tu H H') : ∀ {n : Nat} {v : V} {s : Sm}, RS H n v s → RS H' n v s := by
  intro n
  induction n with
  | zero =>
    intro v s h
    cases s with
    | set x u => obtain ⟨a, w, e, h1, h2⟩ := h; exact ⟨a, w, e, t _ _ h1, h2.mono t⟩
    | read x g => obtain ⟨a, e, h1⟩ := h; exact ⟨a, e, t _ _ h1⟩
    | tell u => obtain ⟨a, w, e, h1, h2⟩ := h; exact ⟨a, w, e, t _ _ h1, h2.mono t⟩
    | sure xs n => obtain ⟨a, p, e, h1, h2⟩ := h; exact ⟨a, p, e, t _ _ h1, t _ _ h2⟩
    | call f => obtain ⟨a, e, h1⟩ := h; exact ⟨a, e, t _ _ h1⟩
    | _ => exact h.elim
  | succ n ih =>
    intro v s h
    cases s with
    | set x u => obtain ⟨a, w, e, h1, h2⟩ := h; exact ⟨a, w, e, t _ _ h1, h2.mono t⟩
    | read x g => obtain ⟨a, e, h1⟩ := h; exact ⟨a, e, t _ _ h1⟩
    | tell u => obtain ⟨a, w, e, h1, h2⟩ := h; exact ⟨a, w, e, t _ _ h1, h2.mono t⟩
    | sure xs n => obtain ⟨a, p, e, h1, h2⟩ := h; exact ⟨a, p, e, t _ _ h1, t _ _ h2⟩
    | call f => obtain ⟨a, e, h1⟩ := h; exact ⟨a, e, t _ _ h1⟩
    | ite u a b =>
      obtain ⟨q, w, pa, pb, va, vb, e, h1, h2, h3, h4, h5, h6⟩ := h
      exact ⟨q, w, pa, pb, va, vb, e, t _ _ h1, h2.mono t, t _ _ h3, Paired.mapP h4 fun _ _ z => ih z, t _ _ h5, Paired.mapP h6 fun _ _ z => ih z⟩
    | wh u b =>
      obtain ⟨q, w, pb, vb, e, h1, h2, h5, h6⟩ := h
      exact ⟨q, w, pb, vb, e, t _ _ h1, h2.mono t, t _ _ h5, Paired.mapP h6 fun _ _ z => ih z⟩
    | times k b =>
      obtain ⟨q, pb, vb, e, h1, h5, h6⟩ := h
      exact ⟨q, pb, vb, e, t _ _ h1, t _ _ h5, Paired.mapP h6 fun _ _ z => ih z⟩
theorem RS.succ {H : Hp} : ∀ {n : Nat} {v : V} {s : Sm}, RS H n v s → RS H (n + 1) v s := by
  intro n
  induction n with
  | zero =>
    intro v s h
    cases s with
    | set x u => exact h
    | read x g => exact h
    | tell u => exact h
    | sure xs n => exact h
    | call f => exact h
    | _ => exact h.elim
  | succ n ih =>
    intro v s h
    cases s with
    | set x u => exact h
    | read x g => exact h
    | tell u => exact h
    | sure xs n => exact h
    | call f => exact h
    | ite u a b =>
      obtain ⟨q, w, pa, pb, va, vb, e, h1, h2, h3, h4, h5, h6⟩ := h
      exact ⟨q, w, pa, pb, va, vb, e, h1, h2, h3, Paired.mapP h4 fun _ _ z => ih z, h5, Paired.mapP h6 fun _ _ z => ih z⟩
    | wh u b =>
      obtain ⟨q, w, pb, vb, e, h1, h2, h5, h6⟩ := h
      exact ⟨q, w, pb, vb, e, h1, h2, h5, Paired.mapP h6 fun _ _ z => ih z⟩
    | times k b =>
      obtain ⟨q, pb, vb, e, h1, h5, h6⟩ := h
      exact ⟨q, pb, vb, e, h1, h5, Paired.mapP h6 fun _ _ z => ih z⟩
theorem RS.up {H : Hp} {n m : Nat} {v : V} {s : Sm} (h : RS H n v s) (l : n ≤ m) : RS H m v s := by
  obtain ⟨d, rfl⟩ := Nat.le.dest l
  clear l
  induction d with
  | zero => exact h
  | succ d ih => exact ih.succ
/-- statements in a row -/
abbrev RL (H : Hp) (n : Nat) (vs : List V) (b : List Sm) : Prop := Paired (RS H n) vs b
theorem RL.mono {H H' : Hp} (t : Tu H H') {n : Nat} {vs : List V} {b : List Sm} (h : RL H n vs b) : RL H' n vs b := Paired.mapP h fun _ _ z => z.mono t
theorem RL.up {H : Hp} {n m : Nat} {vs : List V} {b : List Sm} (h : RL H n vs b) (l : n ≤ m) : RL H m vs b := Paired.mapP h fun _ _ z => z.up l
theorem pd_app {α β : Type} {F : α → β → Prop} : ∀ {a c : List α} {b d : List β}, Paired F a b → Paired F c d → Paired F (a ++ c) (b ++ d)
  | _, _, _, _, .nil, s => s
  | _, _, _, _, .cons r t, s => .cons r (pd_app t s)
theorem pd_at {α β : Type} {F : α → β → Prop} : ∀ {a : List α} {b : List β} {i : Nat} {x : α}, Paired F a b → a[i]? = some x → ∃ y, b[i]? = some y ∧ F x y
  | _, _, _, _, .nil, e => by simp at e
  | _, _, 0, _, .cons r _, e => by simp at e; subst e; exact ⟨_, rfl, r⟩
  | _, _, i + 1, x, .cons _ t, e => by
    obtain ⟨y, h1, h2⟩ := pd_at (i := i) (x := x) t (by simpa using e)
    exact ⟨y, by simpa using h1, h2⟩
theorem pd_at' {α β : Type} {F : α → β → Prop} : ∀ {a : List α} {b : List β} {i : Nat} {y : β}, Paired F a b → b[i]? = some y → ∃ x, a[i]? = some x ∧ F x y
  | _, _, _, _, .nil, e => by simp at e
  | _, _, 0, _, .cons r _, e => by simp at e; subst e; exact ⟨_, rfl, r⟩
  | _, _, i + 1, y, .cons _ t, e => by
    obtain ⟨x, h1, h2⟩ := pd_at' (i := i) (y := y) t (by simpa using e)
    exact ⟨x, by simpa using h1, h2⟩
theorem pd_take {α β : Type} {F : α → β → Prop} : ∀ {a : List α} {b : List β} (n : Nat), Paired F a b → Paired F (a.take n) (b.take n)
  | _, _, 0, _ => .nil
  | _, _, _ + 1, .nil => .nil
  | _, _, n + 1, .cons r t => .cons r (pd_take n t)
theorem pd_drop {α β : Type} {F : α → β → Prop} : ∀ {a : List α} {b : List β} (n : Nat), Paired F a b → Paired F (a.drop n) (b.drop n)
  | _, _, 0, r => r
  | _, _, _ + 1, .nil => .nil
  | _, _, n + 1, .cons _ t => pd_drop n t
theorem pd_rep {α β : Type} {F : α → β → Prop} {a : List α} {b : List β} (h : Paired F a b) : ∀ n : Nat, Paired F (List.replicate n a).flatten (List.replicate n b).flatten
  | 0 => .nil
  | n + 1 => by
    rw [List.replicate_succ, List.replicate_succ, List.flatten_cons, List.flatten_cons]
    exact pd_app h (pd_rep h n)
theorem pd_cut {α β : Type} {F : α → β → Prop} : ∀ {a c : List α} {b : List β}, Paired F (a ++ c) b → ∃ b1 b2, b = b1 ++ b2 ∧ Paired F a b1 ∧ Paired F c b2
  | [], c, b, h => ⟨[], b, rfl, .nil, h⟩
  | x :: a, c, _, .cons (b := y) r t => by
    obtain ⟨b1, b2, e, h1, h2⟩ := pd_cut (a := a) t
    exact ⟨y :: b1, b2, by rw [e]; rfl, .cons r h1, h2⟩
/-! ### rows -/
def RR (H : Hp) : V → Rw → Prop
  | v, .set x t k => ∃ a u, v = .ref a ∧ H a = some (.tup [.str "set", .str x, u, .int k]) ∧ RT H u t
  | v, .read x g k => ∃ a, v = .ref a ∧ H a = some (.tup [.str "read", .str x, .str g, .int k])
  | v, .tell t k => ∃ a u, v = .ref a ∧ H a = some (.tup [.str "tell", u, .int k]) ∧ RT H u t
  | v, .sure xs n k => ∃ a p, v = .ref a ∧ H a = some (.tup [.str "sure", .ref p, .int n, .int k]) ∧ H p = some (.tup (xs.map V.str))
  | v, .ite t k m => ∃ a u, v = .ref a ∧ H a = some (.tup [.str "if", u, .int k, .int m]) ∧ RT H u t
  | v, .fin => ∃ a, v = .ref a ∧ H a = some (.tup [.str "end"])
theorem RR.mono {H H' : Hp} (t : Tu H H') : ∀ {v : V} {r : Rw}, RR H v r → RR H' v r
  | _, .set _ _ _, ⟨a, u, e, h, h2⟩ => ⟨a, u, e, t _ _ h, h2.mono t⟩
  | _, .read _ _ _, ⟨a, e, h⟩ => ⟨a, e, t _ _ h⟩
  | _, .tell _ _, ⟨a, u, e, h, h2⟩ => ⟨a, u, e, t _ _ h, h2.mono t⟩
  | _, .sure _ _ _, ⟨a, p, e, h, h2⟩ => ⟨a, p, e, t _ _ h, t _ _ h2⟩
  | _, .ite _ _ _, ⟨a, u, e, h, h2⟩ => ⟨a, u, e, t _ _ h, h2.mono t⟩
  | _, .fin, ⟨a, e, h⟩ => ⟨a, e, t _ _ h⟩
def Rw.enc : Rw → PyData
  | .set x t k => .tuple [.str "set", .str x, t.enc, .int k]
  | .read x g k => .tuple [.str "read", .str x, .str g, .int k]
  | .tell t k => .tuple [.str "tell", t.enc, .int k]
  | .sure xs n k => .tuple [.str "sure", .tuple (xs.map PyData.str), .int n, .int k]
  | .ite t k m => .tuple [.str "if", t.enc, .int k, .int m]
  | .fin => .tuple [.str "end"]
theorem dp_strs {K : PySem.W.Frag} {H : Hp} : ∀ xs : List Str, DpAll K H (xs.map V.str) (xs.map PyData.str)
  | [] => .nil
  | x :: xs => .cons (.str x) (dp_strs xs)
theorem RR.dp {K : PySem.W.Frag} {H : Hp} : ∀ {v : V} {r : Rw}, RR H v r → Dp K H v r.enc
  | _, .set _ _ _, ⟨a, u, e, h, h2⟩ => by subst e; exact .tup (SqT.of h) (.cons (.str _) (.cons (.str _) (.cons h2.dp (.cons (.int _) .nil))))
  | _, .read _ _ _, ⟨a, e, h⟩ => by subst e; exact .tup (SqT.of h) (.cons (.str _) (.cons (.str _) (.cons (.str _) (.cons (.int _) .nil))))
  | _, .tell _ _, ⟨a, u, e, h, h2⟩ => by subst e; exact .tup (SqT.of h) (.cons (.str _) (.cons h2.dp (.cons (.int _) .nil)))
  | _, .sure xs _ _, ⟨a, p, e, h, h2⟩ => by subst e; exact .tup (SqT.of h) (.cons (.str _) (.cons (.tup (SqT.of h2) (dp_strs xs)) (.cons (.int _) (.cons (.int _) .nil))))
  | _, .ite _ _ _, ⟨a, u, e, h, h2⟩ => by subst e; exact .tup (SqT.of h) (.cons (.str _) (.cons h2.dp (.cons (.int _) (.cons (.int _) .nil))))
  | _, .fin, ⟨a, e, h⟩ => by subst e; exact .tup (SqT.of h) (.cons (.str _) .nil)
theorem RR.dps {K : PySem.W.Frag} {H : Hp} : ∀ {vs : List V} {rs : List Rw}, Paired (RR H) vs rs → DpAll K H vs (rs.map Rw.enc)
  | _, _, .nil => .nil
  | _, _, .cons r t => .cons r.dp (RR.dps t)
/-! ### programs -/
structure Prg where
  gauges : List Str
  helpers : List (Str × List Sm)
  body : List Sm
def RH (H : Hp) (n : Nat) (v : V) (h : Str × List Sm) : Prop := ∃ a q bv, v = .ref a ∧ H a = some (.tup [.str h.1, .ref q]) ∧ H q = some (.tup bv) ∧ RL H n bv h.2
theorem RH.mono {H H' : Hp} (t : Tu H H') {n : Nat} {v : V} {h : Str × List Sm} : RH H n v h → RH H' n v h := fun ⟨a, q, bv, e, h1, h2, h3⟩ => ⟨a, q, bv, e, t _ _ h1, t _ _ h2, h3.mono t⟩
/-- a tuple that has no dict, known to its object -/
def TnO (H : Hp) (a : Addr) (xs : List V) : Prop := ∃ o : Obj, H a = some (.frz o (.tup xs)) ∧ o.cls = .type "tuple" ∧ o.dict = none
theorem TnO.fr {S : List Addr} {H H' : Hp} {a : Addr} {xs : List V} (x : Fr S H H') : TnO H a xs → TnO H' a xs := fun ⟨o, h, r⟩ => ⟨o, x.fz _ _ _ h, r⟩
theorem TnO.sq {K : PySem.W.Frag} {H : Hp} {a : Addr} {xs : List V} : TnO H a xs → SqT K H a xs := fun ⟨o, h, _⟩ => .inl (.inr ⟨o, h⟩)
structure RPg (H : Hp) (n : Nat) (p : Addr) (P : Prg) : Prop where
  ex : ∃ g h b hv bv, H p = some (.tup [.ref g, .ref h, .ref b]) ∧ H g = some (.tup (P.gauges.map V.str)) ∧ TnO H h hv ∧ Paired (RH H n) hv P.helpers ∧ H b = some (.tup bv) ∧ RL H n bv P.body
theorem RPg.fr {S : List Addr} {H H' : Hp} (x : Fr S H H') {n : Nat} {p : Addr} {P : Prg} : RPg H n p P → RPg H' n p P := fun ⟨g, h, b, hv, bv, h1, h2, h3, h4, h5, h6⟩ =>
  ⟨⟨g, h, b, hv, bv, x.tups _ _ h1, x.tups _ _ h2, h3.fr x, Paired.mapP h4 fun _ _ z => z.mono x.tu, x.tups _ _ h5, h6.mono x.tu⟩⟩
end Kz
set_option Elab.async false
set_option linter.all false
set_option maxRecDepth 100000
/-! ZCu: cuts: what a part of a reading comes to, said once. -/
namespace Kz
open PySem L2
section
variable {te : TE} {g : TG} {c : TT} {t u : TS} {D : Ends} {σ : St} {H : Hp}
theorem asg_cut (Pp : V → Hp → Prop) (e : ∀ Q : VK, (∀ x H1, Pp x H1 → Q x H1) → te σ H Q) (k : ∀ x H1, Pp x H1 → g x σ H1 D.nx) : tAsg te g D σ H := e _ k
theorem if_cut (Pp : Bool → Hp → Prop) (e : ∀ Q : Bool → Hp → Prop, (∀ b H1, Pp b H1 → Q b H1) → c σ H Q) (k : ∀ b H1, Pp b H1 → if b = true then t D σ H1 else u D σ H1) : tIfS c t u D σ H := e _ k
theorem ret_cut (Pp : V → Hp → Prop) (e : ∀ Q : VK, (∀ x H1, Pp x H1 → Q x H1) → te σ H Q) (k : ∀ x H1, Pp x H1 → D.rt x H1) : tRet te D σ H := e _ k
theorem drop_cut (Pp : V → Hp → Prop) (e : ∀ Q : VK, (∀ x H1, Pp x H1 → Q x H1) → te σ H Q) (k : ∀ x H1, Pp x H1 → D.nx σ H1) : tDrop te D σ H := e _ k
/-- statements: what follows t, said once -/
theorem seq_cut (Pp : St → Hp → Prop) (e : ∀ D' : Ends, (∀ σ' H1, Pp σ' H1 → D'.nx σ' H1) → D'.rt = D.rt → D'.bk = D.bk → D'.ct = D.ct → t D' σ H) (k : ∀ σ' H1, Pp σ' H1 → u D σ' H1) : tSeq t u D σ H := e _ k rfl rfl rfl
end
end Kz
set_option Elab.async false
set_option linter.all false
set_option maxRecDepth 100000
set_option maxHeartbeats 4000000
/-! ZW1: cells, flows, draws. -/
namespace Kz
open PySem PySem.Spec PyProof.Rows L2
/-! ### plain -/
structure Fl where
  own : Int
  cnt : Int
  seed : Int
def Fl.lst (f : Fl) : List V := [.int f.own, .int f.cnt, .int f.seed]
structure Fl.Ok (f : Fl) : Prop where
  o : 0 ≤ f.own
  c : 0 ≤ f.cnt
  s0 : 0 ≤ f.seed
  s1 : f.seed < 1099511627776
def mix1 (f : Fl) : Int := (f.seed * (48271 + 2 * (f.cnt + 1)) + 7919 * (f.cnt + 1) + 1) % 2147483629
def mix2 (f : Fl) : Int := mix1 f * mix1 f % 2147483587
def drawV (f : Fl) (m : Int) : Int := if 0 < f.own then f.own % m else (mix2 f + 5) * (mix2 f + 40692) % 2147483579 / 31 % m
def drawN (f : Fl) (m : Int) : Fl := if 0 < f.own then { f with own := f.own / m } else { f with cnt := f.cnt + 1 }
theorem drawV_in (f : Fl) {m : Int} (h : 0 < m) : 0 ≤ drawV f m ∧ drawV f m < m := by
  unfold drawV
  split
  · exact ⟨Int.emod_nonneg _ (by omega), Int.emod_lt_of_pos _ h⟩
  · exact ⟨Int.emod_nonneg _ (by omega), Int.emod_lt_of_pos _ h⟩
theorem drawN_ok {f : Fl} (h : f.Ok) {m : Int} (hm : 0 < m) : (drawN f m).Ok := by
  unfold drawN
  split
  · exact ⟨Int.ediv_nonneg h.o (by omega), h.c, h.s0, h.s1⟩
  · exact ⟨h.o, by have := h.c; show 0 ≤ f.cnt + 1; omega, h.s0, h.s1⟩
theorem mix1_in (f : Fl) : 0 ≤ mix1 f ∧ mix1 f < 2147483629 := ⟨Int.emod_nonneg _ (by decide), Int.emod_lt_of_pos _ (by decide)⟩
theorem mix2_in (f : Fl) : 0 ≤ mix2 f ∧ mix2 f < 2147483587 := ⟨Int.emod_nonneg _ (by decide), Int.emod_lt_of_pos _ (by decide)⟩
def cellF (ns : List Int) (k : Nat) : Int :=
  if k < ns.length then ns.getD k 0
  else (if 0 < ns.length then ns.getD (k * 7 % ns.length) 0 % 2147483629 * 48271 + (k : Int) * 7919 else (k : Int) * 7919 + 5) % 2147483647 * 31
def flowF (ns : List Int) (k : Nat) : Fl := ⟨if cellF ns k ≥ 1000000000000000000 then cellF ns k else 0, 0, cellF ns k % 2147483629 + 40692 * k⟩
theorem flowF_ok (ns : List Int) {k : Nat} (h : k ≤ 10) : (flowF ns k).Ok := by
  have h1 := Int.emod_nonneg (cellF ns k) (show (2147483629 : Int) ≠ 0 by decide)
  have h2 := Int.emod_lt_of_pos (cellF ns k) (show (0 : Int) < 2147483629 by decide)
  refine ⟨?_, Int.le_refl 0, ?_, ?_⟩
  · show 0 ≤ (if cellF ns k ≥ 1000000000000000000 then cellF ns k else 0)
    split <;> omega
  · show 0 ≤ cellF ns k % 2147483629 + 40692 * (k : Int)
    omega
  · show cellF ns k % 2147483629 + 40692 * (k : Int) < 1099511627776
    omega
/-! ### promises -/
def spCell (K : PySem.W.Frag) : Sp := fun vs H Q _ => ∃ (a : Addr) (ns : List Int) (k : Nat), vs = [.ref a, .int k] ∧ SqL K H a (ns.map V.int) ∧ k ≤ 10 ∧ Q (.int (cellF ns k)) H
def spFlow (K : PySem.W.Frag) : Sp := fun vs H Q _ => ∃ (a : Addr) (ns : List Int) (k : Nat), vs = [.ref a, .int k] ∧ SqL K H a (ns.map V.int) ∧ k ≤ 10 ∧ ∀ p, H p = none → Q (.ref p) (upd H p (.lst (flowF ns k).lst))
def spDraw : Sp := fun vs H Q _ => ∃ (a : Addr) (f : Fl) (m : Int), vs = [.ref a, .int m] ∧ H a = some (.lst f.lst) ∧ f.Ok ∧ 0 < m ∧ m < 1073741824 ∧ Q (.int (drawV f m)) (upd H a (.lst (drawN f m).lst))
section
variable {P : Program} {w : World} {K : PySem.W.Frag} {mg : Str → Option Value} {base : Heap}
theorem ok_draw (T : Tp K mg) : Fx P w K mg base 1 "_law_draw" ["_law_flow_here", "_law_many"] spDraw := by
  refine fx_of T 24 15 rfl rfl sc_l_draw (fun _ _ _ _ _ _ us hl => match us, hl with | [_, _], _ => rfl) (fun vs H Q E h => ?_) (fun f cdv A outer s H vs Q E hr h => ?_)
  · obtain ⟨a, f, m, rfl, _⟩ := h
    rfl
  · obtain ⟨a, fl, m, rfl, hf, fo, h0, h1, q⟩ := h
    refine ⟨_, (pss_cons (ps_if (pt_cmpR op_gt (pe_ix ix_list (pv 0) pe_int (fun _ _ => rfl)) pe_int (nomark _)) (pss_cons (ps_set (i := 2) sc_l_draw.nd rfl (Or.inl rfl) (pe_op op_mod (pe_ix ix_list (pv 0) pe_int (fun _ _ => rfl)) (pv 1)))
      (pss_cons (ps_asg (pe_op op_fdiv (pe_ix ix_list (pv 0) pe_int (fun _ _ => rfl)) (pv 1)) (pg_sub (pv 0) pe_int set_list))
      (pss_one (ps_ret (pv 2)))))
     pss_nil)
    (pss_cons (ps_asg (pe_op op_add (pe_ix ix_list (pv 0) pe_int (fun _ _ => rfl)) pe_int) (pg_sub (pv 0) pe_int set_list))
    (pss_cons (ps_set (i := 3) sc_l_draw.nd rfl (Or.inl rfl) (pe_op op_mod (pe_op op_add (pe_op op_add (pe_op op_mul (pe_ix ix_list (pv 0) pe_int (fun _ _ => rfl)) (pe_op op_add pe_int (pe_op op_mul pe_int (pe_ix ix_list (pv 0) pe_int (fun _ _ => rfl))))) (pe_op op_mul pe_int (pe_ix ix_list (pv 0) pe_int (fun _ _ => rfl)))) pe_int) pe_int))
    (pss_cons (ps_set (i := 3) sc_l_draw.nd rfl (Or.inl rfl) (pe_op op_mod (pe_op op_mul (pv 3) (pv 3)) pe_int))
    (pss_one (ps_ret (pe_op op_mod (pe_op op_fdiv (pe_op op_mod (pe_op op_mul (pe_op op_add (pv 3) pe_int) (pe_op op_add (pv 3) pe_int)) pe_int) pe_int) (pv 1)))))))), ?_⟩
    have hL : SqL K H a fl.lst := SqL.of hf
    -- if flow[0] > 0
    refine ⟨_, rfl, a, _, 0, _, rfl, rfl, hL, rfl, _, _, rfl, rfl, _, rfl, ?_⟩
    by_cases ho : 0 < fl.own
    · rw [decide_eq_true ho]
      refine iteT ?_
      refine ⟨_, rfl, a, _, 0, _, rfl, rfl, hL, rfl, _, rfl, _, _, rfl, rfl, h0, ?_⟩
      refine ⟨_, rfl, a, _, 0, _, rfl, rfl, hL, rfl, _, rfl, _, _, rfl, rfl, ⟨h0, h1⟩, ?_⟩
      refine ⟨_, rfl, a, _, 0, 0, rfl, rfl, hf, rfl, ?_⟩
      refine ⟨_, rfl, ?_⟩
      have e1 : drawV fl m = fl.own % m := if_pos ho
      have e2 : drawN fl m = { fl with own := fl.own / m } := if_pos ho
      rw [e1, e2] at q
      exact q
    · rw [decide_eq_false ho]
      refine iteF ?_
      refine ⟨_, rfl, a, _, 1, _, rfl, rfl, hL, rfl, _, _, rfl, rfl, ?_⟩
      refine ⟨_, rfl, a, _, 1, 1, rfl, rfl, hf, rfl, ?_⟩
      have e2 : drawN fl m = { fl with cnt := fl.cnt + 1 } := if_neg ho
      have hL2 : SqL K (upd H a (.lst (drawN fl m).lst)) a (drawN fl m).lst := SqL.of upd_same
      rw [e2] at hL2 q
      refine ⟨_, rfl, a, _, 2, _, rfl, rfl, hL2, rfl, _, rfl, a, _, 1, _, rfl, rfl, hL2, rfl, _, _, rfl, rfl, .inl (by decide), _, _, rfl, rfl, _, _, rfl, rfl, .inl ⟨by have := fo.s0; show -(2 ^ 64) < fl.seed; omega, by have := fo.s1; show fl.seed < 2 ^ 64; omega⟩, ?_⟩
      refine ⟨_, rfl, a, _, 1, _, rfl, rfl, hL2, rfl, _, _, rfl, rfl, .inl (by decide), _, _, rfl, rfl, _, _, rfl, rfl, _, _, rfl, rfl, (show (0 : Int) < 2147483629 by decide), ?_⟩
      have m1 := mix1_in fl
      have m2 := mix2_in fl
      refine ⟨_, rfl, _, rfl, _, _, rfl, rfl, .inl ⟨by show -(2 ^ 64) < mix1 fl; omega, by show mix1 fl < 2 ^ 64; omega⟩, _, _, rfl, rfl, (show (0 : Int) < 2147483587 by decide), ?_⟩
      refine ⟨_, rfl, _, _, rfl, rfl, _, rfl, _, _, rfl, rfl, _, _, rfl, rfl, .inl ⟨by show -(2 ^ 64) < mix2 fl + 5; omega, by show mix2 fl + 5 < 2 ^ 64; omega⟩, _, _, rfl, rfl, (show (0 : Int) < 2147483579 by decide), _, _, rfl, rfl, ⟨by decide, by decide⟩, _, rfl, _, _, rfl, rfl, h0, ?_⟩
      have e1 : drawV fl m = (mix2 fl + 5) * (mix2 fl + 40692) % 2147483579 / 31 % m := if_neg ho
      rw [e1] at q
      exact q
theorem ok_cell (T : Tp K mg) : Fx P w K mg base 1 "_law_cell" ["_law_script", "_law_k"] (spCell K) := by
  refine fx_of T 22 13 rfl rfl sc_l_cell (fun _ _ _ _ _ _ us hl => match us, hl with | [_, _], _ => rfl) (fun vs H Q E h => ?_) (fun f cdv A outer s H vs Q E hr h => ?_)
  · obtain ⟨a, ns, k, rfl, _⟩ := h
    rfl
  · obtain ⟨a, ns, k, rfl, hS, hk, q⟩ := h
    refine ⟨_, (pss_cons (ps_if (pt_cmpR op_lt (pv 1) (pe_callB call_len_seq (by rfl) T.n_len PySem.boot_len (pa_cons (pv 0) pa_nil)) (nomark _)) (pss_one (ps_ret (pe_ix ix_list (pv 0) (pv 1) (fun _ _ => rfl))))
     pss_nil)
    (pss_cons (ps_set (i := 2) sc_l_cell.nd rfl (Or.inl rfl) (pe_op op_add (pe_op op_mul (pv 1) pe_int) pe_int))
    (pss_cons (ps_if (pt_cmpR op_gt (pe_callB call_len_seq (by rfl) T.n_len PySem.boot_len (pa_cons (pv 0) pa_nil)) pe_int (nomark _)) (pss_one (ps_set (i := 2) sc_l_cell.nd rfl (Or.inl rfl) (pe_op op_add (pe_op op_mul (pe_op op_mod (pe_ix ix_list (pv 0) (pe_op op_mod (pe_op op_mul (pv 1) pe_int) (pe_callB call_len_seq (by rfl) T.n_len PySem.boot_len (pa_cons (pv 0) pa_nil))) (fun _ _ => rfl)) pe_int) pe_int) (pe_op op_mul (pv 1) pe_int))))
     pss_nil)
    (pss_one (ps_ret (pe_op op_mul (pe_op op_mod (pv 2) pe_int) pe_int)))))), ?_⟩
    have ln : (ns.map V.int).length = ns.length := List.length_map ..
    have at_ : ∀ i : Nat, i < ns.length → atI (ns.map V.int) (i : Int) = some (.int (ns.getD i 0)) := fun i hi => by
      refine atI_nat ?_
      rw [List.getElem?_map, List.getElem?_eq_getElem hi, List.getD_eq_getElem?_getD, List.getElem?_eq_getElem hi]
      rfl
    refine ⟨_, rfl, _, rfl, a, _, rfl, .inl hS, _, _, rfl, rfl, _, rfl, ?_⟩
    rw [ln]
    by_cases h1 : k < ns.length
    · rw [decide_eq_true (show (k : Int) < (ns.length : Int) by omega)]
      refine iteT ?_
      refine ⟨_, rfl, _, rfl, a, _, _, _, rfl, rfl, hS, at_ k h1, ?_⟩
      have e : cellF ns k = ns.getD k 0 := if_pos h1
      rw [e] at q
      exact q
    · rw [decide_eq_false (show ¬ (k : Int) < (ns.length : Int) by omega)]
      refine iteF ?_
      refine ⟨_, rfl, _, _, rfl, rfl, .inr (by decide), _, _, rfl, rfl, ?_⟩
      refine ⟨_, rfl, a, _, rfl, .inl hS, _, _, rfl, rfl, _, rfl, ?_⟩
      rw [ln]
      have e : cellF ns k = (if 0 < ns.length then ns.getD (k * 7 % ns.length) 0 % 2147483629 * 48271 + (k : Int) * 7919 else (k : Int) * 7919 + 5) % 2147483647 * 31 := if_neg h1
      by_cases h2 : 0 < ns.length
      · rw [if_pos h2] at e
        rw [decide_eq_true (show (0 : Int) < (ns.length : Int) by omega)]
        refine iteT ?_
        have em : (k : Int) * 7 % (ns.length : Int) = ((k * 7 % ns.length : Nat) : Int) := by
          rw [Int.natCast_emod, Int.natCast_mul]
          rfl
        refine ⟨_, rfl, _, rfl, _, _, rfl, rfl, .inr (by decide), _, rfl, a, _, rfl, .inl hS, _, _, rfl, rfl, (by rw [ln]; show (0 : Int) < (ns.length : Int); omega), a, _, _, _, rfl, rfl, hS, (by rw [ln, em]; exact at_ _ (Nat.mod_lt _ h2)), _, _, rfl, rfl, (show (0 : Int) < 2147483629 by decide),
          _, _, rfl, rfl, .inr (by decide), _, rfl, _, _, rfl, rfl, .inr (by decide), _, _, rfl, rfl, ?_⟩
        refine ⟨_, rfl, _, _, rfl, rfl, (show (0 : Int) < 2147483647 by decide), _, _, rfl, rfl, .inr (by decide), ?_⟩
        rw [e] at q
        exact q
      · rw [if_neg h2] at e
        rw [decide_eq_false (show ¬ (0 : Int) < (ns.length : Int) by omega)]
        refine iteF ?_
        refine ⟨_, rfl, _, _, rfl, rfl, (show (0 : Int) < 2147483647 by decide), _, _, rfl, rfl, .inr (by decide), ?_⟩
        rw [e] at q
        exact q
theorem ok_flow (T : Tp K mg) : Fx P w K mg base 2 "_law_flow" ["_law_script", "_law_k"] (spFlow K) := by
  have F_l_cell : Fx P w K mg base 1 "_law_cell" ["_law_script", "_law_k"] (spCell K) := ok_cell T
  refine fx_of T 23 14 rfl rfl sc_l_flow (fun _ _ _ _ _ _ us hl => match us, hl with | [_, _], _ => rfl) (fun vs H Q E h => ?_) (fun f cdv A outer s H vs Q E hr h => ?_)
  · obtain ⟨a, ns, k, rfl, _⟩ := h
    rfl
  · obtain ⟨a, ns, k, rfl, hS, hk, q⟩ := h
    refine ⟨_, (pss_cons (ps_set (i := 2) sc_l_flow.nd rfl (Or.inl rfl) (pe_F F_l_cell (hr.mono (by omega)) (by rfl) (pa_cons (pv 0) (pa_cons (pv 1) pa_nil))))
    (pss_cons (ps_set (i := 3) sc_l_flow.nd rfl (Or.inl rfl) pe_int)
    (pss_cons (ps_if (pt_cmpR op_ge (pv 2) (pe_op op_pow pe_int pe_int) (nomark _)) (pss_one (ps_set (i := 3) sc_l_flow.nd rfl (Or.inl rfl) (pv 2)))
     pss_nil)
    (pss_one (ps_ret (pe_lst (pa_cons (pv 3) (pa_cons pe_int (pa_cons (pe_op op_add (pe_op op_mod (pv 2) pe_int) (pe_op op_mul pe_int (pv 1))) pa_nil))))))))), ?_⟩
    refine ⟨_, rfl, _, rfl, a, ns, k, rfl, hS, hk, ?_⟩
    refine ⟨_, rfl, _, _, rfl, rfl, ⟨by decide, by decide, by decide⟩, _, _, rfl, rfl, _, rfl, ?_⟩
    have fin : ∀ z : Int, z = (flowF ns k).own → ∀ p, H p = none → Q (.ref p) (upd H p (.lst [.int z, .int 0, .int (cellF ns k % 2147483629 + 40692 * (k : Int))])) := fun z e p hp => by
      rw [e]
      exact q p hp
    by_cases h1 : cellF ns k ≥ 1000000000000000000
    · rw [decide_eq_true (show (10 : Int) ^ (18 : Int).toNat ≤ cellF ns k from h1)]
      refine iteT ?_
      refine ⟨_, rfl, ?_⟩
      refine ⟨_, rfl, _, rfl, _, _, rfl, rfl, (show (0 : Int) < 2147483629 by decide), _, rfl, _, _, rfl, rfl, .inl (by decide), _, _, rfl, rfl, (by show 3 ≤ sizeLine; decide), fin _ ?_⟩
      exact (if_pos h1).symm
    · rw [decide_eq_false (show ¬ (10 : Int) ^ (18 : Int).toNat ≤ cellF ns k from h1)]
      refine iteF ?_
      refine ⟨_, rfl, _, rfl, _, _, rfl, rfl, (show (0 : Int) < 2147483629 by decide), _, rfl, _, _, rfl, rfl, .inl (by decide), _, _, rfl, rfl, (by show 3 ≤ sizeLine; decide), fin _ ?_⟩
      exact (if_neg h1).symm
end
end Kz
set_option Elab.async false
set_option linter.all false
set_option maxRecDepth 100000
set_option maxHeartbeats 4000000
/-! ZGx: the world of the drawing of programs, in the heap. -/
namespace Kz
open PySem PySem.Spec PyProof.Rows L2
/-! ### places -/
theorem pickV {α : Type} (xs : List α) {d : Int} (h0 : 0 ≤ d) (h1 : d < (xs.length : Int)) : ∃ v, v ∈ xs ∧ xs[d.toNat]? = some v ∧ atI xs d = some v := by
  have hl : d.toNat < xs.length := by omega
  refine ⟨xs[d.toNat], List.getElem_mem hl, List.getElem?_eq_getElem hl, ?_⟩
  have e : d = ((d.toNat : Nat) : Int) := by omega
  have q := atI_nat (xs := xs) (j := d.toNat) (List.getElem?_eq_getElem hl)
  rw [← e] at q
  exact q
theorem pickS (xs : List Str) {d : Int} (h0 : 0 ≤ d) (h1 : d < (xs.length : Int)) : ∃ x, x ∈ xs ∧ atI (xs.map V.str) d = some (.str x) := by
  obtain ⟨v, hv, _, e⟩ := pickV (xs.map V.str) h0 (by rw [List.length_map]; exact h1)
  obtain ⟨x, hx, rfl⟩ := List.mem_map.mp hv
  exact ⟨x, hx, e⟩
theorem lenS (xs : List Str) : ((xs.map V.str).length : Int) = (xs.length : Int) := by rw [List.length_map]
/-! ### a flow -/
structure FlAt (H : Hp) (a : Addr) (f : Fl) : Prop where
  at_ : H a = some (.lst f.lst)
  ok : f.Ok
theorem FlAt.draw {H : Hp} {a : Addr} {f : Fl} (h : FlAt H a f) {m : Int} (hm : 0 < m) : FlAt (upd H a (.lst (drawN f m).lst)) a (drawN f m) := ⟨upd_same, drawN_ok h.ok hm⟩
theorem FlAt.keep {H H' : Hp} {S : List Addr} {a : Addr} {f : Fl} (h : FlAt H a f) (x : Fr S H H') (n : a ∉ S) : FlAt H' a f := ⟨x.keep _ _ n h.at_, h.ok⟩
theorem FlAt.new {H : Hp} {a p : Addr} {f : Fl} {o : HO} (h : FlAt H a f) (n : H p = none) : FlAt (upd H p o) a f := ⟨by rw [upd_ne (ne_of_none h.at_ n)]; exact h.at_, h.ok⟩
/-! ### the world -/
structure Hl where
  name : Str
  body : List Sm
  gone : List Str
  ga : Addr
  rows : Int
  rounds : Bool
structure Wd where
  aC : Addr
  aK : Addr
  aG : Addr
  aH : Addr
  aA : Addr
  cells : List Str
  counters : List Str
  gauges : List Str
  hs : List Hl
  age : Int
def Wd.addrs (W : Wd) : List Addr := W.aC :: W.aK :: W.aG :: W.aH :: W.aA :: W.hs.map (·.ga)
def hN : Nat := 6
structure HlAt (H : Hp) (kvs : List (Key × V)) (h : Hl) : Prop where
  ex : ∃ t, valV kvs (Sum.inr h.name : Key) = some (.ref t) ∧ H t = some (.tup [.ref h.ga, .int h.rows, .bl h.rounds]) ∧ H h.ga = some (.lst (h.gone.map V.str))
/-- what stands still while bodies are drawn -/
structure Ws (H : Hp) (W : Wd) : Prop where
  cells : H W.aC = some (.lst (W.cells.map V.str))
  counters : H W.aK = some (.lst (W.counters.map V.str))
  gauges : H W.aG = some (.lst (W.gauges.map V.str))
  helpers : ∃ hv, H W.aH = some (.lst hv) ∧ Paired (RH H hN) hv (W.hs.map fun h => (h.name, h.body))
  about : ∃ kvs, H W.aA = some (.dK kvs) ∧ kvs.length ≤ 8 ∧ ∀ h ∈ W.hs, HlAt H kvs h
theorem Ws.mono {H H' : Hp} {W : Wd} {S : List Addr} (s : Ws H W) (x : Fr S H H') (n : ∀ a ∈ W.addrs, a ∉ S) : Ws H' W := by
  have m : ∀ {l : List Addr} {a : Addr}, a ∈ l → a ∈ l := fun h => h
  refine ⟨x.keep _ _ (n _ (.head _)) s.cells, x.keep _ _ (n _ (.tail _ (.head _))) s.counters, x.keep _ _ (n _ (.tail _ (.tail _ (.head _)))) s.gauges, ?_, ?_⟩
  · obtain ⟨hv, h1, h2⟩ := s.helpers
    exact ⟨hv, x.keep _ _ (n _ (.tail _ (.tail _ (.tail _ (.head _))))) h1, Paired.mapP h2 fun _ _ z => z.mono x.tu⟩
  · obtain ⟨kvs, h1, hl, h2⟩ := s.about
    refine ⟨kvs, x.keep _ _ (n _ (.tail _ (.tail _ (.tail _ (.tail _ (.head _)))))) h1, hl, fun h hh => ?_⟩
    obtain ⟨t, e1, e2, e3⟩ := (h2 h hh).ex
    exact ⟨t, e1, x.tups _ _ e2, x.keep _ _ (n _ (.tail _ (.tail _ (.tail _ (.tail _ (.tail _ (List.mem_map.mpr ⟨h, hh, rfl⟩))))))) e3⟩
/-- the world's dict -/
structure Wv (H : Hp) (w : Addr) (W : Wd) (left heavy : Int) : Prop where
  ex : ∃ kvs : List (Key × V), H w = some (.dK kvs) ∧ kvs.length ≤ 8 ∧ valV kvs (Sum.inr "cells" : Key) = some (.ref W.aC) ∧ valV kvs (Sum.inr "counters" : Key) = some (.ref W.aK) ∧ valV kvs (Sum.inr "gauges" : Key) = some (.ref W.aG) ∧
    valV kvs (Sum.inr "helpers" : Key) = some (.ref W.aH) ∧ valV kvs (Sum.inr "about" : Key) = some (.ref W.aA) ∧ valV kvs (Sum.inr "left" : Key) = some (.int left) ∧ valV kvs (Sum.inr "heavy" : Key) = some (.int heavy) ∧ valV kvs (Sum.inr "age" : Key) = some (.int W.age)
theorem putK_len {kvs : List (Key × V)} {k : Key} {v u : V} (h : valV kvs k = some u) : (putK kvs k v).length = kvs.length := by
  unfold putK
  rw [valV_any, h]
  show (kvs.map _).length = _
  rw [List.length_map]
theorem kne {a b : Str} (h : ¬ a = b) : ¬ (Sum.inr a : Key) = Sum.inr b := fun z => h (Sum.inr.inj z)
theorem k_lc : ¬ ("cells" : Str) = "left" := by decide +kernel
theorem k_lk : ¬ ("counters" : Str) = "left" := by decide +kernel
theorem k_lg : ¬ ("gauges" : Str) = "left" := by decide +kernel
theorem k_lh : ¬ ("helpers" : Str) = "left" := by decide +kernel
theorem k_la : ¬ ("about" : Str) = "left" := by decide +kernel
theorem k_ly : ¬ ("heavy" : Str) = "left" := by decide +kernel
theorem k_le : ¬ ("age" : Str) = "left" := by decide +kernel
theorem k_yc : ¬ ("cells" : Str) = "heavy" := by decide +kernel
theorem k_yk : ¬ ("counters" : Str) = "heavy" := by decide +kernel
theorem k_yg : ¬ ("gauges" : Str) = "heavy" := by decide +kernel
theorem k_yh : ¬ ("helpers" : Str) = "heavy" := by decide +kernel
theorem k_ya : ¬ ("about" : Str) = "heavy" := by decide +kernel
theorem k_yl : ¬ ("left" : Str) = "heavy" := by decide +kernel
theorem k_ye : ¬ ("age" : Str) = "heavy" := by decide +kernel
section
variable {H H' : Hp} {w : Addr} {W : Wd} {left heavy : Int}
theorem Wv.keep {S : List Addr} (v : Wv H w W left heavy) (x : Fr S H H') (n : w ∉ S) : Wv H' w W left heavy := let ⟨kvs, e, r⟩ := v.ex; ⟨kvs, x.keep _ _ n e, r⟩
theorem Wv.at_ (v : Wv H w W left heavy) : ∃ kvs, H w = some (.dK kvs) := let ⟨kvs, e, _⟩ := v.ex; ⟨kvs, e⟩
theorem dget {kvs : List (Key × V)} {x : Str} {v : V} (e : H w = some (.dK kvs)) (h : valV kvs (Sum.inr x : Key) = some v) : DGet H w (.str x) (some v) := by
  have q := DGet.k (k := Sum.inr x) e
  rw [h] at q
  exact q
theorem Wv.gC (v : Wv H w W left heavy) : DGet H w (.str "cells") (some (.ref W.aC)) := let ⟨_, e, _, h, _⟩ := v.ex; dget e h
theorem Wv.gK (v : Wv H w W left heavy) : DGet H w (.str "counters") (some (.ref W.aK)) := let ⟨_, e, _, _, h, _⟩ := v.ex; dget e h
theorem Wv.gG (v : Wv H w W left heavy) : DGet H w (.str "gauges") (some (.ref W.aG)) := let ⟨_, e, _, _, _, h, _⟩ := v.ex; dget e h
theorem Wv.gH (v : Wv H w W left heavy) : DGet H w (.str "helpers") (some (.ref W.aH)) := let ⟨_, e, _, _, _, _, h, _⟩ := v.ex; dget e h
theorem Wv.gA (v : Wv H w W left heavy) : DGet H w (.str "about") (some (.ref W.aA)) := let ⟨_, e, _, _, _, _, _, h, _⟩ := v.ex; dget e h
theorem Wv.gL (v : Wv H w W left heavy) : DGet H w (.str "left") (some (.int left)) := let ⟨_, e, _, _, _, _, _, _, h, _⟩ := v.ex; dget e h
theorem Wv.gY (v : Wv H w W left heavy) : DGet H w (.str "heavy") (some (.int heavy)) := let ⟨_, e, _, _, _, _, _, _, _, h, _⟩ := v.ex; dget e h
theorem Wv.gE (v : Wv H w W left heavy) : DGet H w (.str "age") (some (.int W.age)) := let ⟨_, e, _, _, _, _, _, _, _, _, h⟩ := v.ex; dget e h
theorem Wv.setL (v : Wv H w W left heavy) (z : Int) : ∃ kvs', DPut H w (.str "left") (.int z) (upd H w (.dK kvs')) ∧ Wv (upd H w (.dK kvs')) w W z heavy := by
  obtain ⟨kvs, e, l, h1, h2, h3, h4, h5, h6, h7, h8⟩ := v.ex
  refine ⟨putK kvs (Sum.inr "left") (.int z), DPut.k (k := Sum.inr "left") e (small1000 (by omega)), ⟨_, upd_same, by rw [putK_len h6]; exact l, ?_, ?_, ?_, ?_, ?_, ?_, ?_, ?_⟩⟩
  · rw [valV_put, if_neg (kne k_lc)]; exact h1
  · rw [valV_put, if_neg (kne k_lk)]; exact h2
  · rw [valV_put, if_neg (kne k_lg)]; exact h3
  · rw [valV_put, if_neg (kne k_lh)]; exact h4
  · rw [valV_put, if_neg (kne k_la)]; exact h5
  · rw [valV_put, if_pos rfl]
  · rw [valV_put, if_neg (kne k_ly)]; exact h7
  · rw [valV_put, if_neg (kne k_le)]; exact h8
theorem Wv.setY (v : Wv H w W left heavy) (z : Int) : ∃ kvs', DPut H w (.str "heavy") (.int z) (upd H w (.dK kvs')) ∧ Wv (upd H w (.dK kvs')) w W left z := by
  obtain ⟨kvs, e, l, h1, h2, h3, h4, h5, h6, h7, h8⟩ := v.ex
  refine ⟨putK kvs (Sum.inr "heavy") (.int z), DPut.k (k := Sum.inr "heavy") e (small1000 (by omega)), ⟨_, upd_same, by rw [putK_len h7]; exact l, ?_, ?_, ?_, ?_, ?_, ?_, ?_, ?_⟩⟩
  · rw [valV_put, if_neg (kne k_yc)]; exact h1
  · rw [valV_put, if_neg (kne k_yk)]; exact h2
  · rw [valV_put, if_neg (kne k_yg)]; exact h3
  · rw [valV_put, if_neg (kne k_yh)]; exact h4
  · rw [valV_put, if_neg (kne k_ya)]; exact h5
  · rw [valV_put, if_neg (kne k_yl)]; exact h6
  · rw [valV_put, if_pos rfl]
  · rw [valV_put, if_neg (kne k_ye)]; exact h8
end
/-! ### what is known read -/
structure FrOk (W : Wd) (fr : List (Key × V)) : Prop where
  nd : (fr.map (·.1)).Nodup
  in_ : ∀ kv ∈ fr, ∃ x, kv.1 = Sum.inr x ∧ x ∈ W.cells
theorem FrOk.nil (W : Wd) : FrOk W [] := ⟨List.nodup_nil, fun _ h => absurd h List.not_mem_nil⟩
theorem FrOk.drop {W : Wd} {fr : List (Key × V)} (h : FrOk W fr) (k : Key) : FrOk W (dropK fr k) := ⟨nd_dropK h.nd, fun kv hk => h.in_ kv (dropK_mem hk)⟩
theorem mem_putK {kvs : List (Key × V)} {k : Key} {v : V} {p : Key × V} (h : p ∈ putK kvs k v) : p = (k, v) ∨ p ∈ kvs := by
  unfold putK at h
  split at h
  · obtain ⟨q, hq, e⟩ := List.mem_map.mp h
    split at e
    · rename_i e1
      exact .inl (by rw [← e, e1])
    · rw [← e]
      exact .inr hq
  · rcases List.mem_append.mp h with h | h
    · exact .inr h
    · exact .inl (List.mem_singleton.mp h)
theorem putK_keys {kvs : List (Key × V)} {k : Key} {v : V} (h : (kvs.any fun kv => decide (kv.1 = k)) = true) : (putK kvs k v).map (·.1) = kvs.map (·.1) := by
  unfold putK
  rw [if_pos h, List.map_map]
  refine List.map_congr_left fun p _ => ?_
  show (if p.1 = k then (p.1, v) else p).1 = p.1
  split <;> rfl
theorem FrOk.put {W : Wd} {fr : List (Key × V)} (h : FrOk W fr) {x : Str} (hx : x ∈ W.cells) (v : V) : FrOk W (putK fr (Sum.inr x) v) := by
  refine ⟨?_, fun kv hk => ?_⟩
  · cases e : valV fr (Sum.inr x : Key) with
    | none => exact nd_putK v h.nd e
    | some u => rw [putK_keys (by rw [valV_any, e]; rfl)]; exact h.nd
  · rcases mem_putK hk with e | hk
    · exact ⟨x, by rw [e], hx⟩
    · exact h.in_ kv hk
theorem FrOk.names {W : Wd} : ∀ {fr : List (Key × V)}, FrOk W fr → ∃ xs : List Str, fr.map (·.1) = xs.map Sum.inr ∧ xs.Nodup ∧ ∀ x ∈ xs, x ∈ W.cells
  | [], _ => ⟨[], rfl, List.nodup_nil, fun _ h => absurd h List.not_mem_nil⟩
  | p :: fr, h => by
    obtain ⟨x, e, hx⟩ := h.in_ p List.mem_cons_self
    have nd : ((p :: fr).map (·.1)).Nodup := h.nd
    rw [List.map_cons, List.nodup_cons] at nd
    obtain ⟨xs, e2, nd2, h2⟩ := FrOk.names (fr := fr) ⟨nd.2, fun kv hk => h.in_ kv (List.mem_cons_of_mem _ hk)⟩
    refine ⟨x :: xs, by rw [List.map_cons, List.map_cons, e, e2], List.nodup_cons.mpr ⟨fun z => nd.1 ?_, nd2⟩, fun y hy => ?_⟩
    · rw [e, e2]
      exact List.mem_map.mpr ⟨x, z, rfl⟩
    · rcases List.mem_cons.mp hy with q | q
      · rw [q]; exact hx
      · exact h2 y q
/-- lengths of lists without doubles -/
theorem nodup_le : ∀ {xs ys : List Str}, xs.Nodup → (∀ x ∈ xs, x ∈ ys) → xs.length ≤ ys.length
  | [], _, _, _ => Nat.zero_le _
  | x :: xs, ys, h, s => by
    have hx := s x List.mem_cons_self
    have q := nodup_le (xs := xs) (ys := ys.erase x) (List.nodup_cons.mp h).2 fun y hy => (List.mem_erase_of_ne (show y ≠ x from fun e => (List.nodup_cons.mp h).1 (by rw [← e]; exact hy))).mpr (s y (List.mem_cons_of_mem _ hy))
    rw [List.length_erase_of_mem hx] at q
    have := List.length_pos_of_mem hx
    rw [List.length_cons]
    omega
/-! ### all of it -/
structure WOk (W : Wd) : Prop where
  c1 : 1 ≤ W.cells.length
  c2 : W.cells.length ≤ 5
  k : W.counters.length = 3
  g1 : 1 ≤ W.gauges.length
  g2 : W.gauges.length ≤ 4
  nd : (W.cells ++ W.counters).Nodup
  a0 : 0 ≤ W.age
  a1 : W.age ≤ 200
  hl : W.hs.length ≤ 3
structure Gx (H : Hp) (f w d : Addr) (fl : Fl) (W : Wd) (left heavy : Int) (fr : List (Key × V)) : Prop where
  fl : FlAt H f fl
  ws : Ws H W
  wv : Wv H w W left heavy
  fa : H d = some (.dK fr)
  fo : FrOk W fr
  sep : ∀ a ∈ W.addrs, a ≠ f ∧ a ≠ w ∧ a ≠ d
  dw : d ≠ w
section
variable {H H' : Hp} {f w d p a : Addr} {fl fl' : Fl} {W : Wd} {left heavy : Int} {fr fr' : List (Key × V)} {o : HO}
theorem Gx.nin (g : Gx H f w d fl W left heavy fr) : ∀ a ∈ W.addrs, a ∉ [f, w, d] := fun a ha z => by
  obtain ⟨h1, h2, h3⟩ := g.sep a ha
  rcases List.mem_cons.mp z with e | z
  · exact h1 e
  rcases List.mem_cons.mp z with e | z
  · exact h2 e
  rcases List.mem_cons.mp z with e | z
  · exact h3 e
  · cases z
theorem Gx.fw (g : Gx H f w d fl W left heavy fr) : f ≠ w := let ⟨_, e⟩ := g.wv.at_; ne_of g.fl.at_ e (by intro z; cases z)
theorem Gx.fd (g : Gx H f w d fl W left heavy fr) : f ≠ d := ne_of g.fl.at_ g.fa (by intro z; cases z)
theorem mem3f {f w d : Addr} : f ∈ [f, w, d] := .head _
theorem mem3w {f w d : Addr} : w ∈ [f, w, d] := .tail _ (.head _)
theorem mem3d {f w d : Addr} : d ∈ [f, w, d] := .tail _ (.tail _ (.head _))
theorem sub3f {f w d : Addr} : ∀ a ∈ [f], a ∈ [f, w, d] := fun a h => by rw [List.mem_singleton.mp h]; exact .head _
/-- something new -/
theorem Gx.new (g : Gx H f w d fl W left heavy fr) (h : H p = none) : Gx (upd H p o) f w d fl W left heavy fr :=
  ⟨g.fl.new h, g.ws.mono (S := []) (Fr.refl.new h) (fun _ _ z => by cases z), g.wv.keep (S := []) (Fr.refl.new h) (fun z => by cases z), by rw [upd_ne (ne_of_none g.fa h)]; exact g.fa, g.fo, g.sep, g.dw⟩
/-- all but f, w, d stay -/
theorem Gx.ext (g : Gx H f w d fl W left heavy fr) (x : Fr [] H H') : Gx H' f w d fl W left heavy fr :=
  have n : ∀ a : Addr, a ∉ ([] : List Addr) := fun _ z => by cases z
  ⟨g.fl.keep x (n _), g.ws.mono x fun _ _ => n _, g.wv.keep x (n _), x.keep _ _ (n _) g.fa, g.fo, g.sep, g.dw⟩
/-- the flow alone has changed -/
theorem Gx.flow (g : Gx H f w d fl W left heavy fr) (x : Fr [f] H H') (h : FlAt H' f fl') : Gx H' f w d fl' W left heavy fr := by
  have n1 : w ∉ [f] := fun z => g.fw (List.mem_singleton.mp z).symm
  have n2 : d ∉ [f] := fun z => g.fd (List.mem_singleton.mp z).symm
  exact ⟨h, g.ws.mono x fun a ha z => (g.sep a ha).1 (List.mem_singleton.mp z), g.wv.keep x n1, x.keep _ _ n2 g.fa, g.fo, g.sep, g.dw⟩
theorem Gx.draw (g : Gx H f w d fl W left heavy fr) {m : Int} (hm : 0 < m) : Gx (upd H f (.lst (drawN fl m).lst)) f w d (drawN fl m) W left heavy fr :=
  g.flow (Fr.refl.mutL (List.mem_singleton.mpr rfl) g.fl.at_) (g.fl.draw hm)
theorem Gx.frf (g : Gx H f w d fl W left heavy fr) : Fr [f, w, d] H (upd H f o) := Fr.refl.mutL mem3f g.fl.at_
theorem Gx.frd (g : Gx H f w d fl W left heavy fr) : Fr [f, w, d] H (upd H d o) := Fr.refl.mutD mem3d g.fa
theorem Gx.frw (g : Gx H f w d fl W left heavy fr) : Fr [f, w, d] H (upd H w o) := let ⟨_, e⟩ := g.wv.at_; Fr.refl.mutD mem3w e
theorem Gx.world {left' heavy' : Int} {kvs : List (Key × V)} (g : Gx H f w d fl W left heavy fr) (h : Wv (upd H w (.dK kvs)) w W left' heavy') : Gx (upd H w (.dK kvs)) f w d fl W left' heavy' fr := by
  obtain ⟨kvs0, e0⟩ := g.wv.at_
  have x : Fr [w] H (upd H w (.dK kvs)) := Fr.refl.mutD (List.mem_singleton.mpr rfl) e0
  exact ⟨g.fl.keep x fun z => g.fw (List.mem_singleton.mp z), g.ws.mono x fun a ha z => (g.sep a ha).2.1 (List.mem_singleton.mp z), h, x.keep _ _ (fun z => g.dw (List.mem_singleton.mp z)) g.fa, g.fo, g.sep, g.dw⟩
theorem Gx.fresh (g : Gx H f w d fl W left heavy fr) (h : FrOk W fr') : Gx (upd H d (.dK fr')) f w d fl W left heavy fr' := by
  have x : Fr [d] H (upd H d (.dK fr')) := Fr.refl.mutD (List.mem_singleton.mpr rfl) g.fa
  exact ⟨g.fl.keep x fun z => g.fd (List.mem_singleton.mp z), g.ws.mono x fun a ha z => (g.sep a ha).2.2 (List.mem_singleton.mp z), g.wv.keep x fun z => g.dw (List.mem_singleton.mp z).symm, upd_same, h, g.sep, g.dw⟩
/-- another dict of what is read -/
theorem Gx.other (g : Gx H f w d fl W left heavy fr) (h : H a = some (.dK fr')) (fo : FrOk W fr') (n1 : ∀ b ∈ W.addrs, b ≠ a) (n2 : a ≠ w) : Gx H f w a fl W left heavy fr' :=
  ⟨g.fl, g.ws, g.wv, h, fo, fun b hb => ⟨(g.sep b hb).1, (g.sep b hb).2.1, n1 b hb⟩, n2⟩
theorem Ws.some (s : Ws H W) : ∀ b ∈ W.addrs, ∃ o, H b = .some o := fun b hb => by
  rcases List.mem_cons.mp hb with e | hb
  · exact ⟨_, e ▸ s.cells⟩
  rcases List.mem_cons.mp hb with e | hb
  · exact ⟨_, e ▸ s.counters⟩
  rcases List.mem_cons.mp hb with e | hb
  · exact ⟨_, e ▸ s.gauges⟩
  rcases List.mem_cons.mp hb with e | hb
  · obtain ⟨hv, h, _⟩ := s.helpers
    exact ⟨_, e ▸ h⟩
  rcases List.mem_cons.mp hb with e | hb
  · obtain ⟨kvs, h, _⟩ := s.about
    exact ⟨_, e ▸ h⟩
  · obtain ⟨z, hz, e⟩ := List.mem_map.mp hb
    obtain ⟨kvs, _, _, h⟩ := s.about
    obtain ⟨t, _, _, h3⟩ := (h z hz).ex
    exact ⟨_, e ▸ h3⟩
/-- a new empty dict in the place of the other -/
theorem Gx.near (g : Gx H f w d fl W left heavy fr) (h : H p = none) : Gx (upd H p (.dK [])) f w p fl W left heavy [] := by
  refine (g.new h).other upd_same (FrOk.nil W) (fun b hb => ?_) ?_
  · obtain ⟨o, e⟩ := g.ws.some b hb
    exact ne_of_none e h
  · obtain ⟨kvs, e⟩ := g.wv.at_
    exact (ne_of_none e h).symm
end
end Kz
set_option Elab.async false
set_option linter.all false
set_option maxRecDepth 100000
set_option maxHeartbeats 4000000
/-! ZBo: what is known of drawn bodies: well formed, their rows, their time. -/
namespace Kz
open PySem
def Cn (W : Wd) : Str → Prop := fun x => x ∈ W.cells ∨ x ∈ W.counters
def Gn (W : Wd) : Str → Prop := fun x => x ∈ W.gauges
def envH : List Hl → Env'
  | [] => fun _ => none
  | h :: r => fun f => if f = h.name then some h.body else envH r f
abbrev envW (W : Wd) : Env' := envH W.hs
def NN : Nat := 20
abbrev plW (W : Wd) (b : List Sm) : Pl := plL (plS (envW W) NN) b
structure Bo (W : Wd) (P : Str → Prop) (n sz d : Nat) (b : List Sm) : Prop where
  wf : ∀ s ∈ b, Wf (Cn W) (Gn W) (envW W) n s
  fit : Fit P d (plW W b)
  size : (plW W b).size ≤ sz
theorem envH_at : ∀ {hs : List Hl} {h : Hl}, (hs.map (·.name)).Nodup → h ∈ hs → envH hs h.name = some h.body
  | x :: r, h, nd, hm => by
    rw [List.map_cons, List.nodup_cons] at nd
    rcases List.mem_cons.mp hm with e | hm
    · rw [e]; exact if_pos rfl
    · have hne : ¬ h.name = x.name := fun z => nd.1 (by rw [← z]; exact List.mem_map.mpr ⟨h, hm, rfl⟩)
      show (if h.name = x.name then some x.body else envH r h.name) = _
      rw [if_neg hne]
      exact envH_at nd.2 hm
theorem envH_some : ∀ {hs : List Hl} {f : Str} {b : List Sm}, envH hs f = some b → ∃ h ∈ hs, h.name = f ∧ h.body = b
  | [], _, _, h => by cases h
  | x :: r, f, b, h => by
    have h : (if f = x.name then some x.body else envH r f) = some b := h
    split at h
    · rename_i e
      exact ⟨x, List.mem_cons_self, e.symm, Option.some.inj h⟩
    · obtain ⟨y, h1, h2⟩ := envH_some h
      exact ⟨y, List.mem_cons_of_mem _ h1, h2⟩
section
variable {W : Wd} {P P' : Str → Prop} {n m sz sz' d d' : Nat} {a b : List Sm} {t : Tm} {c : Str}
theorem Bo.nil : Bo W P n 0 0 [] := ⟨fun _ h => absurd h List.not_mem_nil, Fit.nil, Nat.le_refl 0⟩
theorem Bo.app (x : Bo W P n sz d a) (y : Bo W P n sz' d' b) : Bo W P n (sz + sz') (d + d') (a ++ b) := by
  refine ⟨fun s hs => ?_, ?_, ?_⟩
  · rcases List.mem_append.mp hs with h | h
    · exact x.wf s h
    · exact y.wf s h
  · unfold plW
    rw [plL_app]
    exact x.fit.app y.fit
  · unfold plW
    rw [plL_app, Pl.size_app]
    exact Nat.add_le_add x.size y.size
theorem Bo.mono (x : Bo W P n sz d b) (hP : ∀ y, P' y → P y) (hn : n ≤ m) (h1 : sz ≤ sz') (h2 : d ≤ d') : Bo W P' m sz' d' b :=
  ⟨fun s hs => (x.wf s hs).up hn, x.fit.mono hP h2, Nat.le_trans x.size h1⟩
theorem Bo.up (x : Bo W P n sz d b) (hn : n ≤ m) : Bo W P m sz d b := x.mono (fun _ h => h) hn (Nat.le_refl _) (Nat.le_refl _)
/-- one statement, by its own plain body -/
theorem Bo.one {s : Sm} (wf : Wf (Cn W) (Gn W) (envW W) n s) (fit : Fit P d (plS (envW W) NN s)) (size : (plS (envW W) NN s).size ≤ sz) : Bo W P n sz d [s] :=
  ⟨fun z hz => by rw [List.mem_singleton.mp hz]; exact wf, by unfold plW; rw [plL_one]; exact fit, by unfold plW; rw [plL_one]; exact size⟩
theorem no_env {f : Str} {b : List Sm} (h : (fun _ => none : Env') f = some b) : envW W f = some b := by cases h
theorem Bo.small (wo : WOk W) {s : Sm} (h : Wf (· ∈ W.cells) (· ∈ W.gauges) (fun _ => none) 0 s) (hP : ∀ y, P y → y ∈ W.counters) : Bo W P n 1 1 [s] := by
  have wf : Wf (Cn W) (Gn W) (envW W) 0 s := h.imp (fun _ q => .inl q) (fun _ q => q) fun _ _ q => no_env q
  have nd := (List.nodup_append.mp wo.nd).2.2
  have np : ∀ x ∈ W.cells, ¬ P x := fun x hx z => nd x hx x (hP x z) rfl
  have e : plS (envW W) NN s = plS (envW W) 0 s := plS_up wf (Nat.zero_le _)
  refine (Bo.one wf ?_ ?_).up (Nat.zero_le _)
  · rw [e]
    cases s with
    | set x u => exact Fit.set (np x h.1) h.2.1
    | read x g => exact Fit.read (np x h.1)
    | tell u => exact Fit.tell
    | sure xs z => exact Fit.sure
    | _ => exact h.elim
  · rw [e]
    cases s with
    | set x u => exact Nat.le_refl 1
    | read x g => exact Nat.le_refl 1
    | tell u => exact Nat.le_refl 1
    | sure xs z => exact Nat.le_refl 1
    | _ => exact h.elim
theorem pl_at {b : List Sm} (h : ∀ s ∈ b, Wf (Cn W) (Gn W) (envW W) n s) (l : n ≤ m) (l2 : m ≤ NN) : plL (plS (envW W) m) b = plW W b := by
  unfold plW
  rw [plL_up h l, plL_up h (Nat.le_trans l l2)]
theorem Bo.ite (ht : t.Ok (Cn W)) (hp : t.parts ≤ 11) (hn : n + 1 ≤ NN) (x : Bo W P n sz d a) (y : Bo W P n sz' d' b) : Bo W P (n + 1) (1 + sz + sz') (1 + d + d') [.ite t a b] := by
  have e : plS (envW W) NN (.ite t a b) = .ite t (plW W a) (plW W b) .nil := by
    show Pl.ite t (plL (plS (envW W) 19) a) (plL (plS (envW W) 19) b) .nil = _
    rw [pl_at x.wf (by unfold NN at hn; omega) (by decide), pl_at y.wf (by unfold NN at hn; omega) (by decide)]
  refine Bo.one ⟨⟨ht, hp⟩, x.wf, y.wf⟩ (by rw [e]; exact Fit.ite x.fit y.fit) ?_
  rw [e]
  have := x.size
  have := y.size
  show 1 + (plW W a).size + (plW W b).size + 0 ≤ _
  omega
theorem Bo.times {k : Int} (h1 : 1 ≤ k) (h4 : k ≤ 4) (hb : b ≠ []) (hn : n + 1 ≤ NN) (x : Bo W P n sz d b) : Bo W P (n + 1) (k.toNat * sz) (k.toNat * d) [.times k b] := by
  have e : plS (envW W) NN (.times k b) = (plW W b).rep k.toNat := by
    show (plL (plS (envW W) 19) b).rep k.toNat = _
    rw [pl_at x.wf (by unfold NN at hn; omega) (by decide)]
  refine Bo.one ⟨⟨h1, h4, hb⟩, x.wf⟩ (by rw [e]; exact x.fit.rep _) ?_
  rw [e, Pl.size_rep]
  exact Nat.mul_le_mul_left _ x.size
theorem Bo.call {h : Hl} (e : envW W h.name = some h.body) (hn : n + 1 ≤ NN) (x : Bo W P n sz d h.body) : Bo W P (n + 1) sz d [.call h.name] := by
  have ep : plS (envW W) NN (.call h.name) = plW W h.body := by
    show (match envW W h.name with | some b => plL (plS (envW W) 19) b | none => .nil) = _
    rw [e]
    exact pl_at x.wf (by unfold NN at hn; omega) (by decide)
  exact Bo.one ⟨_, e, x.wf⟩ (by rw [ep]; exact x.fit) (by rw [ep]; exact x.size)
theorem Bo.never : Bo W P 1 1 1 [.wh (.num 0) []] := by
  refine Bo.one ⟨⟨⟨Int.le_refl 0, (by decide : (0 : Int) < WD)⟩, (by decide : 1 ≤ 11)⟩, fun _ h => absurd h List.not_mem_nil⟩ Fit.never (Nat.le_refl 1)
abbrev sLess (c : Str) : Sm := .set c (.op "-" (.cell c) (.num 1))
abbrev sMore (c : Str) : Sm := .set c (.op "+" (.cell c) (.num 1))
theorem one_num : (Tm.num 1).Ok (Cn W) := ⟨(by decide : (0 : Int) ≤ 1), (by decide : (1 : Int) < WD)⟩
theorem less_wf (hc : c ∈ W.counters) : Wf (Cn W) (Gn W) (envW W) n (sLess c) := by
  have h : Cn W c ∧ (Tm.op "-" (.cell c) (.num 1)).Ok (Cn W) ∧ (Tm.op "-" (.cell c) (.num 1)).parts ≤ 11 := ⟨.inr hc, ⟨.inr (.inl rfl), .inr hc, one_num⟩, (by decide : 3 ≤ 11)⟩
  cases n <;> exact h
theorem more_wf (hc : c ∈ W.counters) : Wf (Cn W) (Gn W) (envW W) n (sMore c) := by
  have h : Cn W c ∧ (Tm.op "+" (.cell c) (.num 1)).Ok (Cn W) ∧ (Tm.op "+" (.cell c) (.num 1)).parts ≤ 11 := ⟨.inr hc, ⟨.inl rfl, .inr hc, one_num⟩, (by decide : 3 ≤ 11)⟩
  cases n <;> exact h
/-- a body with a change of the counter behind or ahead -/
def Rnd (b : List Sm) (s : Sm) (body : List Sm) : Prop := body = b ++ [s] ∨ body = s :: b
theorem rnd_wf {s : Sm} {body : List Sm} (h : Rnd b s body) (hb : ∀ z ∈ b, Wf (Cn W) (Gn W) (envW W) n z) (hs : Wf (Cn W) (Gn W) (envW W) n s) : ∀ z ∈ body, Wf (Cn W) (Gn W) (envW W) n z := fun z hz => by
  rcases h with rfl | rfl
  · rcases List.mem_append.mp hz with q | q
    · exact hb z q
    · rw [List.mem_singleton.mp q]; exact hs
  · rcases List.mem_cons.mp hz with q | q
    · rw [q]; exact hs
    · exact hb z q
theorem rnd_pl {x : Str} {u : Tm} {body : List Sm} (h : Rnd b (.set x u) body) : Round (plW W b) (.set x u .nil) (plW W body) := by
  rcases h with rfl | rfl
  · left
    unfold plW
    rw [plL_app, plL_one]
    rfl
  · right
    rfl
theorem rnd_size {x : Str} {u : Tm} {body : List Sm} (h : Rnd b (.set x u) body) : (plW W body).size = (plW W b).size + 1 := by
  rcases rnd_pl (W := W) h with e | e
  · rw [e, Pl.size_app]
    rfl
  · rw [e, Pl.size_app]
    show 1 + 0 + _ = _
    omega
theorem wh_pl {body : List Sm} (hn : n + 1 ≤ NN) (h : ∀ z ∈ body, Wf (Cn W) (Gn W) (envW W) n z) {x : Str} {u t : Tm} : plW W [.set x u, .wh t body] = .set x u (.wh t (plW W body) .nil) := by
  show Pl.set x u (Pl.wh t (plL (plS (envW W) 19) body) .nil) = _
  rw [pl_at h (by unfold NN at hn; omega) (by decide)]
theorem Bo.down {k : Int} {body : List Sm} (hk : k = 1 ∨ k = 2) (hc : c ∈ W.counters) (hP : ¬ P c) (hn : n + 1 ≤ NN) (x : Bo W (fun y => P y ∨ y = c) n sz d b) (hr : Rnd b (sLess c) body) :
    Bo W P (n + 1) (sz + 3) (2 * d + 6) [.set c (.num k), .wh (.cell c) body] := by
  have wb := rnd_wf hr x.wf (less_wf hc)
  refine ⟨fun s hs => ?_, ?_, ?_⟩
  · rcases List.mem_cons.mp hs with e | hs
    · rw [e]
      exact ⟨.inr hc, (by rcases hk with rfl | rfl <;> exact ⟨by decide, by decide⟩ : (Tm.num k).Ok (Cn W)), (by decide : 1 ≤ 11)⟩
    · rw [List.mem_singleton.mp hs]
      exact ⟨⟨.inr hc, (by decide : 1 ≤ 11)⟩, wb⟩
  · rw [wh_pl hn wb]
    exact Fit.down hk hP x.fit (rnd_pl hr)
  · rw [wh_pl hn wb]
    have := x.size
    show 1 + (1 + (plW W body).size + 0) ≤ _
    rw [rnd_size hr]
    omega
theorem Bo.rise {z l : Int} {y : Str} {body : List Sm} (hz : z = 1 ∨ z = 2) (hl : l = 3 ∨ l = 500000) (hc : c ∈ W.counters) (hy : y ∈ W.cells) (hP : ¬ P c) (hn : n + 1 ≤ NN) (x : Bo W (fun y => P y ∨ y = c) n sz d b) (hr : Rnd b (sMore c) body) :
    Bo W P (n + 1) (sz + 3) (2 * d + 6) [.set c (.num 0), .wh (.op "*" (.op "<" (.cell c) (.num z)) (.op "<" (.cell y) (.num l))) body] := by
  have wb := rnd_wf hr x.wf (more_wf hc)
  refine ⟨fun s hs => ?_, ?_, ?_⟩
  · rcases List.mem_cons.mp hs with e | hs
    · rw [e]
      exact ⟨.inr hc, ⟨Int.le_refl 0, (by decide : (0 : Int) < WD)⟩, (by decide : 1 ≤ 11)⟩
    · rw [List.mem_singleton.mp hs]
      refine ⟨⟨⟨.inr (.inr (.inl rfl)), ⟨.inr (.inr (.inr (.inl rfl))), .inr hc, ?_⟩, ⟨.inr (.inr (.inr (.inl rfl))), .inl hy, ?_⟩⟩, (by decide : 7 ≤ 11)⟩, wb⟩
      · rcases hz with rfl | rfl <;> exact ⟨by decide, by decide⟩
      · rcases hl with rfl | rfl <;> exact ⟨by decide, by decide⟩
  · rw [wh_pl hn wb]
    exact Fit.up hz hP x.fit (rnd_pl hr)
  · rw [wh_pl hn wb]
    have := x.size
    show 1 + (1 + (plW W body).size + 0) ≤ _
    rw [rnd_size hr]
    omega
end
/-! ### depth, weights -/
/-- the counters that a body at depth D leaves -/
def Pc (W : Wd) (D : Nat) : Str → Prop := fun x => x ∈ W.counters.take D
theorem Pc.sub {W : Wd} {D : Nat} {x : Str} (h : Pc W D x) : x ∈ W.counters := List.mem_of_mem_take h
theorem Pc.le {W : Wd} {D E : Nat} (l : D ≤ E) {x : Str} (h : Pc W D x) : Pc W E x := by
  unfold Pc at h ⊢
  have e : W.counters.take D = (W.counters.take E).take D := by rw [List.take_take, Nat.min_eq_left l]
  rw [e] at h
  exact List.mem_of_mem_take h
theorem ctr_at {W : Wd} (wo : WOk W) {D : Nat} (h : D < 3) : ∃ c, W.counters[D]? = some c ∧ c ∈ W.counters ∧ ¬ Pc W D c ∧ ∀ y, (Pc W D y ∨ y = c) → Pc W (D + 1) y := by
  have hl : D < W.counters.length := by rw [wo.k]; exact h
  have nd := (List.nodup_append.mp wo.nd).2.1
  refine ⟨W.counters[D], List.getElem?_eq_getElem hl, List.getElem_mem hl, fun z => ?_, fun y hy => ?_⟩
  · obtain ⟨i, hi, e⟩ := List.mem_iff_getElem.mp z
    rw [List.length_take] at hi
    rw [List.getElem_take] at e
    have := (List.getElem_inj nd).mp e
    omega
  · unfold Pc
    rw [List.take_add_one, List.getElem?_eq_getElem hl]
    rcases hy with hy | hy
    · exact List.mem_append_left _ hy
    · rw [hy]
      exact List.mem_append_right _ (by simp)
def wt : Nat → Int
  | 0 => 8
  | 1 => 4
  | _ => 2
structure HOk (W : Wd) : Prop where
  nd : (W.hs.map (·.name)).Nodup
  all : ∀ h ∈ W.hs, 1 ≤ h.rows ∧ h.rows ≤ 20 ∧ Bo W (Pc W 2) 5 h.rows.toNat (2 * h.rows.toNat) h.body ∧ h.gone.length ≤ 20 ∧ h.body ≠ []
/-- from a room l, one row's room taken off ahead, to the room l' -/
structure StepOk (D : Nat) (l l' : Int) (sz d : Nat) : Prop where
  le : l' ≤ l
  a : (d : Int) ≤ wt D * (l + 1 - l')
  b : (d : Int) ≤ wt D * (l + 4)
  s : (sz : Int) ≤ 2 * (l + 1 - l')
  z : (sz : Int) ≤ 2 * l + 7
/-- of a share's body -/
structure ShareOk (D : Nat) (l l' : Int) (sz d : Nat) : Prop where
  le : l' ≤ l
  no : l ≤ 0 → l' = l
  a : (d : Int) ≤ wt D * (l - l')
  b : 0 < l → (d : Int) ≤ wt D * (l + 3)
  s : (sz : Int) ≤ 2 * (l - l')
  z : 0 < l → (sz : Int) ≤ 2 * l + 5
/-- of a body -/
structure BodyOk (D : Nat) (l l' : Int) (sz d : Nat) : Prop where
  le : l' ≤ l
  no : l = 0 → l' = l
  a : (d : Int) ≤ wt D * (l - l')
  b : (d : Int) ≤ wt D * (l + 3)
  s : (sz : Int) ≤ 2 * (l - l')
  z : (sz : Int) ≤ 2 * l + 5
theorem BodyOk.start {D : Nat} {l : Int} (h : 0 ≤ l) : BodyOk D l l 0 0 := by
  refine ⟨Int.le_refl l, fun _ => rfl, ?_, ?_, ?_, ?_⟩
  · rw [Int.sub_self, Int.mul_zero]; exact Int.le_refl 0
  · have : 0 ≤ wt D := by unfold wt; split <;> decide
    exact Int.mul_nonneg this (by omega)
  · omega
  · omega
theorem BodyOk.step {D : Nat} {l0 l l' : Int} {sz d sz' d' : Nat} (hD : D ≤ 2) (x : BodyOk D l0 l sz d) (hl : 1 ≤ l) (y : StepOk D (l - 1) l' sz' d') : BodyOk D l0 l' (sz + sz') (d + d') := by
  obtain ⟨x1, x2, x3, x4, x5, x6⟩ := x
  obtain ⟨y1, y2, y3, y4, y5⟩ := y
  have hD : D = 0 ∨ D = 1 ∨ D = 2 := by omega
  rcases hD with rfl | rfl | rfl <;> (try simp only [wt] at *) <;> refine ⟨by omega, fun z => by have := x2 z; omega, by show (((d + d' : Nat) : Int)) ≤ _; (try simp only [wt]); omega, by (try simp only [wt]); omega, by omega, by omega⟩
theorem StepOk.small {D : Nat} {l l' : Int} (hD : D ≤ 2) (h0 : 0 ≤ l) (h : l' ≤ l) : StepOk D l l' 1 1 := by
  have hD : D = 0 ∨ D = 1 ∨ D = 2 := by omega
  rcases hD with rfl | rfl | rfl <;> refine ⟨h, ?_, ?_, by omega, by omega⟩ <;> (try simp only [wt]) <;> omega
theorem StepOk.fork {D : Nat} {l l1 l2 : Int} {s1 d1 s2 d2 : Nat} (hD : D < 2) (h0 : 0 ≤ l) (x : ShareOk (D + 1) l l1 s1 d1) (y : ShareOk (D + 1) l1 l2 s2 d2) : StepOk D l l2 (1 + s1 + s2) (1 + d1 + d2) := by
  obtain ⟨x1, x2, x3, x4, x5, x6⟩ := x
  obtain ⟨y1, y2, y3, y4, y5, y6⟩ := y
  have hD : D = 0 ∨ D = 1 := by omega
  have k1 : l = 0 ∨ 0 < l := by omega
  have k2 : l1 ≤ 0 ∨ 0 < l1 := by omega
  rcases hD with rfl | rfl <;> (try simp only [wt] at *) <;> rcases k1 with k1 | k1 <;> rcases k2 with k2 | k2 <;> refine ⟨by omega, ?_, ?_, ?_, ?_⟩ <;> (try simp only [wt]) <;> omega
theorem StepOk.never {D : Nat} {l : Int} (hD : D < 2) (h0 : 0 ≤ l) : StepOk D l l 1 1 := by
  have hD : D = 0 ∨ D = 1 := by omega
  rcases hD with rfl | rfl <;> refine ⟨Int.le_refl l, ?_, ?_, ?_, ?_⟩ <;> (try simp only [wt]) <;> omega
theorem StepOk.round {D : Nat} {l l1 : Int} {s1 d1 : Nat} (hD : D < 2) (h0 : 0 ≤ l) (x : ShareOk (D + 1) (l - 2) l1 s1 d1) : StepOk D l l1 (s1 + 3) (2 * d1 + 6) := by
  obtain ⟨x1, x2, x3, x4, x5, x6⟩ := x
  have hD : D = 0 ∨ D = 1 := by omega
  have k1 : l - 2 ≤ 0 ∨ 0 < l - 2 := by omega
  rcases hD with rfl | rfl <;> (try simp only [wt] at *) <;> rcases k1 with k1 | k1 <;> refine ⟨by omega, ?_, ?_, ?_, ?_⟩ <;> (try simp only [wt]) <;> omega
theorem StepOk.again {D : Nat} {l l1 r : Int} {s d : Nat} (hD : D ≤ 2) (h0 : 0 ≤ l) (h1 : l1 ≤ l) (hr0 : 0 ≤ r) (hr : r ≤ l1) (hs : (s : Int) ≤ r) (hd : (d : Int) ≤ 2 * r) : StepOk D l (l1 - r) s d := by
  have hD : D = 0 ∨ D = 1 ∨ D = 2 := by omega
  rcases hD with rfl | rfl | rfl <;> refine ⟨by omega, ?_, ?_, ?_, ?_⟩ <;> (try simp only [wt]) <;> omega
theorem StepOk.kept {l : Int} {s d : Nat} (h0 : 6 < l) (hs : s ≤ 21) (hd : d ≤ 87) : StepOk 0 l (l - 18) s d := by
  refine ⟨by omega, ?_, ?_, ?_, ?_⟩ <;> (try simp only [wt]) <;> omega
theorem ShareOk.of {D : Nat} {l s l1 : Int} {sz d : Nat} (hD : D ≤ 2) (hs0 : 0 ≤ s) (hs : 0 < l → s ≤ l) (hs1 : l ≤ 0 → s = 0) (x : BodyOk D s l1 sz d) : ShareOk D l (l - s + l1) sz d := by
  obtain ⟨x1, x2, x3, x4, x5, x6⟩ := x
  have hD : D = 0 ∨ D = 1 ∨ D = 2 := by omega
  rcases hD with rfl | rfl | rfl <;> (try simp only [wt] at *) <;> refine ⟨by omega, fun z => by have := hs1 z; have := x2 this; omega, ?_, fun z => ?_, by omega, fun z => ?_⟩ <;> (try simp only [wt]) <;> first | omega | (have := hs z; omega)
end Kz
set_option Elab.async false
set_option linter.all false
set_option maxRecDepth 100000
/-! ZCv: what is made, said with the heap behind it as a letter. -/
namespace Kz
open PySem PyProof.Rows L2
section
variable {K : PySem.W.Frag} {H : Hp} {Q : VK} {xs ys : List V} {a b l : Addr} {x y z : V}
theorem tup_cut (h : xs.length ≤ sizeLine) (k : ∀ p H', H p = none → Fr [] H H' → H' p = some (.tup xs) → Q (.ref p) H') : xs.length ≤ sizeLine ∧ ∀ p, H p = none → Q (.ref p) (upd H p (.tup xs)) := ⟨h, fun p hp => k p _ hp (Fr.refl.new hp) upd_same⟩
theorem lst_cut (h : xs.length ≤ sizeLine) (k : ∀ p H', H p = none → Fr [] H H' → H' p = some (.lst xs) → Q (.ref p) H') : xs.length ≤ sizeLine ∧ ∀ p, H p = none → Q (.ref p) (upd H p (.lst xs)) := ⟨h, fun p hp => k p _ hp (Fr.refl.new hp) upd_same⟩
theorem newL_cut (k : ∀ p H', H p = none → Fr [] H H' → H' p = some (.lst xs) → Q (.ref p) H') : ∀ p, H p = none → Q (.ref p) (upd H p (.lst xs)) := fun p hp => k p _ hp (Fr.refl.new hp) upd_same
theorem newT_cut (k : ∀ p H', H p = none → Fr [] H H' → H' p = some (.tup xs) → Q (.ref p) H') : ∀ p, H p = none → Q (.ref p) (upd H p (.tup xs)) := fun p hp => k p _ hp (Fr.refl.new hp) upd_same
theorem newD_cut {kvs : List (Key × V)} (k : ∀ p H', H p = none → Fr [] H H' → H' p = some (.dK kvs) → Q (.ref p) H') : ∀ p, H p = none → Q (.ref p) (upd H p (.dK kvs)) := fun p hp => k p _ hp (Fr.refl.new hp) upd_same
theorem catA_cut (ha : H a = some (.tup xs)) (hb : H b = some (.tup ys)) (hz : xs.length + ys.length ≤ sizeLine) (k : ∀ p H', Fr [] H H' → H' p = some (.tup (xs ++ ys)) → Q (.ref p) H') : rCatA K (.ref a) (.ref b) H Q := by
  refine ⟨a, b, xs, ys, rfl, rfl, SqT.of ha, SqT.of hb, hz, fun e => ?_, fun _ e => ?_, fun _ _ p hp => k p _ (Fr.refl.new hp) upd_same⟩
  · refine k b H Fr.refl ?_
    rw [e]
    exact hb
  · refine k a H Fr.refl ?_
    rw [e, List.append_nil]
    exact ha
theorem slA_cut {lo hi : Option Int} (ha : H a = some (.tup xs)) (k : ∀ p H', Fr [] H H' → H' p = some (.tup (cutV xs lo hi)) → Q (.ref p) H') : rSlA K (.ref a) lo hi H Q := by
  refine ⟨a, xs, rfl, SqT.of ha, fun e => ?_, fun _ p hp => k p _ (Fr.refl.new hp) upd_same⟩
  refine k a H Fr.refl ?_
  have e2 : cutV xs lo hi = xs := by
    unfold cutV
    rw [e.1, e.2, List.drop_zero, Nat.sub_zero, List.take_length]
  rw [e2]
  exact ha
/-- [x, y][d] -/
theorem ix2_cut {d : Int} (h : H l = some (.lst [x, y])) (h0 : 0 ≤ d) (h1 : d < 2) (k0 : d = 0 → Q x H) (k1 : d = 1 → Q y H) : rIxL K (.ref l) (.int d) H Q := by
  have dd : d = 0 ∨ d = 1 := by omega
  rcases dd with rfl | rfl
  · exact ⟨l, _, 0, x, rfl, rfl, SqL.of h, rfl, k0 rfl⟩
  · exact ⟨l, _, 1, y, rfl, rfl, SqL.of h, rfl, k1 rfl⟩
theorem ix3_cut {d : Int} (h : H l = some (.lst [x, y, z])) (h0 : 0 ≤ d) (h1 : d < 3) (k0 : Q x H) (k1 : Q y H) (k2 : Q z H) : rIxL K (.ref l) (.int d) H Q := by
  have dd : d = 0 ∨ d = 1 ∨ d = 2 := by omega
  rcases dd with rfl | rfl | rfl
  · exact ⟨l, _, 0, x, rfl, rfl, SqL.of h, rfl, k0⟩
  · exact ⟨l, _, 1, y, rfl, rfl, SqL.of h, rfl, k1⟩
  · exact ⟨l, _, 2, z, rfl, rfl, SqL.of h, rfl, k2⟩
/-- xs[d] of texts -/
theorem ixS_cut {ns : List Str} {d : Int} (h : H l = some (.lst (ns.map V.str))) (h0 : 0 ≤ d) (h1 : d < (ns.length : Int)) (k : ∀ n, n ∈ ns → Q (.str n) H) : rIxL K (.ref l) (.int d) H Q := by
  obtain ⟨n, hn, e⟩ := pickS ns h0 h1
  exact ⟨l, _, d, _, rfl, rfl, SqL.of h, e, k n hn⟩
end
section
variable {H : Hp} {Q : VK} {E : XK} {f w d : Addr} {fl : Fl} {W : Wd} {left heavy : Int} {fr : List (Key × V)} {m : Int}
theorem draw_f (h : FlAt H f fl) (h0 : 0 < m) (h1 : m < 1073741824) (k : ∀ v H' fl', 0 ≤ v → v < m → FlAt H' f fl' → Fr [f] H H' → Q (.int v) H') : spDraw [.ref f, .int m] H Q E :=
  ⟨f, fl, m, rfl, h.at_, h.ok, h0, h1, k _ _ _ (drawV_in fl h0).1 (drawV_in fl h0).2 (h.draw h0) (Fr.refl.mutL (.head _) h.at_)⟩
theorem draw_g (g : Gx H f w d fl W left heavy fr) (h0 : 0 < m) (h1 : m < 1073741824) (k : ∀ v H' fl', 0 ≤ v → v < m → Gx H' f w d fl' W left heavy fr → Fr [f] H H' → Q (.int v) H') : spDraw [.ref f, .int m] H Q E :=
  draw_f g.fl h0 h1 fun v H' fl' v0 v1 hf x => k v H' fl' v0 v1 (g.flow x hf) x
theorem Fr.f3 {H H' : Hp} (x : Fr [f] H H') : Fr [f, w, d] H H' := x.mono sub3f
theorem Fr.e3 {S : List Addr} {H H' : Hp} (x : Fr [] H H') : Fr S H H' := x.mono fun _ h => nomatch h
theorem Fr.w3 {H H' : Hp} (x : Fr [w] H H') : Fr [f, w, d] H H' := x.mono fun a h => by rw [List.mem_singleton.mp h]; exact mem3w
theorem Fr.d3 {H H' : Hp} (x : Fr [d] H H') : Fr [f, w, d] H H' := x.mono fun a h => by rw [List.mem_singleton.mp h]; exact mem3d
/-- what is at an address apart stays -/
theorem nin3 {o : HO} {p : Addr} (g : Gx H f w d fl W left heavy fr) (h : H p = none) : p ∉ [f, w, d] := fun z => by
  simp only [List.mem_cons, List.not_mem_nil, or_false] at z
  rcases z with rfl | rfl | rfl
  · rw [g.fl.at_] at h; cases h
  · obtain ⟨kv, e⟩ := g.wv.at_
    rw [e] at h; cases h
  · rw [g.fa] at h; cases h
end
theorem Fr.cutN {S S' : List Addr} {H H1 : Hp} {p : Addr} (x : Fr S H H1) (h : H p = none) (hs : ∀ a ∈ S, a ∈ S' ∨ a = p) : Fr S' H H1 := ⟨fun a o n e => x.keep a o (fun z => by
  rcases hs a z with q | q
  · exact n q
  · subst q; rw [h] at e; cases e) e, x.tups, x.back, x.fz⟩
/-- behind a part that had a dict of its own -/
theorem Gx.back {H6 H7 H8 : Hp} {f w d nd : Addr} {fl fl8 : Fl} {W : Wd} {left heavy l8 heavy8 : Int} {fr fr8 : List (Key × V)} (g7 : Gx H7 f w d fl W left heavy fr) (n7 : H6 nd = none) (hd : ∃ o, H6 d = some o) (x7 : Fr [f, w, d] H6 H7) (x8 : Fr [f, w, nd] H7 H8) (g8 : Gx H8 f w nd fl8 W l8 heavy8 fr8) :
    Gx H8 f w d fl8 W l8 heavy8 fr ∧ Fr [f, w, d] H6 H8 := by
  obtain ⟨o, ed⟩ := hd
  have hne : d ≠ nd := ne_of_none ed n7
  have nd8 : d ∉ [f, w, nd] := fun z => by
    simp only [List.mem_cons, List.not_mem_nil, or_false] at z
    rcases z with z | z | z
    · exact g7.fd z.symm
    · exact g7.dw z
    · exact hne z
  refine ⟨g8.other (x8.keep _ _ nd8 g7.fa) g7.fo (fun b hb => (g7.sep b hb).2.2) g7.dw, ?_⟩
  have y : Fr [f, w, d, nd] H6 H8 := (x7.mono fun a h => by
    simp only [List.mem_cons, List.not_mem_nil, or_false] at h ⊢
    rcases h with h | h | h <;> simp [h]).trans (x8.mono fun a h => by
    simp only [List.mem_cons, List.not_mem_nil, or_false] at h ⊢
    rcases h with h | h | h <;> simp [h])
  exact y.cutN n7 fun a h => by
    simp only [List.mem_cons, List.not_mem_nil, or_false] at h ⊢
    rcases h with h | h | h | h <;> simp [h]
/-- a new dict in the place of the one that is known -/
theorem Gx.newD {H H' : Hp} {f w d p : Addr} {fl : Fl} {W : Wd} {left heavy : Int} {fr fr' : List (Key × V)} (g : Gx H f w d fl W left heavy fr) (n : H p = none) (x : Fr [] H H') (e : H' p = some (.dK fr')) (fo : FrOk W fr') : Gx H' f w p fl W left heavy fr' := by
  refine (g.ext x).other e fo (fun b hb => ?_) ?_
  · obtain ⟨o, eo⟩ := g.ws.some b hb
    exact ne_of_none eo n
  · obtain ⟨kv, eo⟩ := g.wv.at_
    exact (ne_of_none eo n).symm
/-- a draw, the heap behind it by a letter -/
def spDrawC : Sp := fun vs H Q _ => ∃ (a : Addr) (f : Fl) (m : Int), vs = [.ref a, .int m] ∧ FlAt H a f ∧ 0 < m ∧ m < 1073741824 ∧ ∀ v H' f', 0 ≤ v → v < m → FlAt H' a f' → Fr [a] H H' → Q (.int v) H'
theorem Fx.imp {P : Program} {w : World} {K : PySem.W.Frag} {mg : Str → Option Value} {base : Heap} {k : Nat} {x : Str} {ps : List Str} {sp sp' : Sp} (F : Fx P w K mg base k x ps sp) (h : ∀ vs H Q E, sp' vs H Q E → sp vs H Q E) : Fx P w K mg base k x ps sp' :=
  let ⟨f, fd, h1, h2, h3, h4⟩ := F.ex
  ⟨f, fd, h1, h2, h3, h4.imp h⟩
theorem ok_drawC {P : Program} {w : World} {K : PySem.W.Frag} {mg : Str → Option Value} {base : Heap} (T : Tp K mg) : Fx P w K mg base 1 "_law_draw" ["_law_flow_here", "_law_many"] spDrawC :=
  (ok_draw T).imp fun vs H Q E ⟨a, f, m, e, h, h0, h1, q⟩ => ⟨a, f, m, e, h.at_, h.ok, h0, h1, q _ _ _ (drawV_in f h0).1 (drawV_in f h0).2 (h.draw h0) (Fr.refl.mutL (.head _) h.at_)⟩
end Kz
set_option Elab.async false
set_option linter.all false
set_option maxRecDepth 100000
/-! ZCv2: rules whose readings name the heap behind a new thing by a letter. -/
namespace Kz
open PySem PySem.Spec PyProof.Rows L2
def tTupC (t : TA) : TE := fun σ H Q => t σ H fun xs H1 => xs.length ≤ sizeLine ∧ ∀ p H', H1 p = none → Fr [] H1 H' → H' p = some (.tup xs) → Q (.ref p) H'
def tLstC (t : TA) : TE := fun σ H Q => t σ H fun xs H1 => xs.length ≤ sizeLine ∧ ∀ p H', H1 p = none → Fr [] H1 H' → H' p = some (.lst xs) → Q (.ref p) H'
section
variable {X : Cx} {es : List Expr} {t : TA} {pos : Pos}
theorem pa_cl (h : PA X es t) : PA X es (fun σ H Q => ∃ Q0 : List V → Hp → Prop, t σ H Q0 ∧ ∀ xs H1, Q0 xs H1 → Q xs H1) :=
  ⟨fun pos pins s σ H Q I ⟨Q0, h1, h2⟩ => thn (h.run pos pins s σ H Q0 I h1) fun us s1 ⟨xs, H1, I1, r1, q1⟩ => ⟨xs, H1, I1, r1, h2 _ _ q1⟩⟩
theorem pe_tupC {x1} (h : PA X es t) : PE X (.Tuple es x1 pos) (tTupC t) :=
  ⟨fun pins s σ H Q I h' => (pe_tup (x1 := x1) (pos := pos) (pa_cl h)).run pins s σ H Q I ⟨_, h', fun xs H1 ⟨a, b⟩ => ⟨a, fun p hp => b p _ hp (Fr.refl.new hp) upd_same⟩⟩⟩
theorem pe_lstC (h : PA X es t) : PE X (.List es pos) (tLstC t) :=
  ⟨fun pins s σ H Q I h' => (pe_lst (pos := pos) (pa_cl h)).run pins s σ H Q I ⟨_, h', fun xs H1 ⟨a, b⟩ => ⟨a, fun p hp => b p _ hp (Fr.refl.new hp) upd_same⟩⟩⟩
theorem opr_imp {f : Value → Value → Sem Value} {r r' : R2} (h : OpR X f r) (i : ∀ x y H Q, r' x y H Q → r x y H Q) : OpR X f r' := fun pins s σ H x y v u Q I rx ry q => h pins s σ H x y v u Q I rx ry (i _ _ _ _ q)
theorem callr_imp {f : Value} {r r' : List V → Hp → VK → Prop} (h : CallR X f r) (i : ∀ xs H Q, r' xs H Q → r xs H Q) : CallR X f r' := fun pins s σ H xs us Q I rx q => h pins s σ H xs us Q I rx (i _ _ _ q)
/-- t + u of tuples -/
def rCatC : R2 := fun x y H Q => ∃ a b xs ys, x = .ref a ∧ y = .ref b ∧ H a = some (.tup xs) ∧ H b = some (.tup ys) ∧ xs.length + ys.length ≤ sizeLine ∧ ∀ p H', Fr [] H H' → H' p = some (.tup (xs ++ ys)) → Q (.ref p) H'
theorem op_catC : OpR X (binaryOp .Add) rCatC := opr_imp op_catA fun x y H Q ⟨a, b, xs, ys, e1, e2, ha, hb, hz, k⟩ => by
  refine ⟨a, b, xs, ys, e1, e2, SqT.of ha, SqT.of hb, hz, fun e => ?_, fun _ e => ?_, fun _ _ p hp => k p _ (Fr.refl.new hp) upd_same⟩
  · refine k b H Fr.refl ?_
    rw [e]
    exact hb
  · refine k a H Fr.refl ?_
    rw [e, List.append_nil]
    exact ha
/-- x + y of lists -/
def rCatL (K : PySem.W.Frag) : R2 := fun x y H Q => ∃ a b xs ys, x = .ref a ∧ y = .ref b ∧ H a = some (.lst xs) ∧ H b = some (.lst ys) ∧ xs.length + ys.length ≤ sizeLine ∧ ∀ p H', H p = none → Fr [] H H' → H' p = some (.lst (xs ++ ys)) → Q (.ref p) H'
theorem op_catL : OpR X (binaryOp .Add) (rCatL X.K) := opr_imp op_cat fun x y H Q ⟨a, b, xs, ys, e1, e2, ha, hb, hz, k⟩ => ⟨a, b, xs, ys, e1, e2, ha, hb, hz, fun p hp => k p _ hp (Fr.refl.new hp) upd_same⟩
/-- xs * k -/
def rRepC : R2 := fun x y H Q => ∃ l k xs, x = .ref l ∧ y = .int k ∧ H l = some (.lst xs) ∧ 0 ≤ k ∧ k < 1000 ∧ xs.length ≤ 1000 ∧ ∀ p H', H p = none → Fr [] H H' → H' p = some (.lst (List.replicate k.toNat xs).flatten) → Q (.ref p) H'
theorem op_repC : OpR X (binaryOp .Mult) rRepC := opr_imp op_rep fun x y H Q ⟨l, k, xs, e1, e2, h, k0, k1, hx, q⟩ => by
  refine ⟨l, k, xs, e1, e2, h, by omega, by omega, ?_, fun p hp => q p _ hp (Fr.refl.new hp) upd_same⟩
  have h1 : xs.length * k.toNat ≤ 1000 * 1000 := Nat.mul_le_mul hx (by omega)
  exact Nat.le_trans h1 (by decide)
/-- tuple(xs) of a list, list(xs) of a list or a tuple, that stand in the heap -/
def rTupC : List V → Hp → VK → Prop := fun vs H Q => ∃ p xs, vs = [.ref p] ∧ H p = some (.lst xs) ∧ ∀ l H', H l = none → Fr [] H H' → H' l = some (.tup xs) → Q (.ref l) H'
theorem call_tupC : CallR X (.type "tuple") rTupC := callr_imp call_tuple_of fun vs H Q ⟨p, xs, e, h, k⟩ => ⟨p, xs, e, .inl ⟨SqL.of h, fun l hl => k l _ hl (Fr.refl.new hl) upd_same⟩⟩
def rLstC : List V → Hp → VK → Prop := fun vs H Q => ∃ p xs, vs = [.ref p] ∧ (H p = some (.lst xs) ∨ H p = some (.tup xs)) ∧ ∀ l H', H l = none → Fr [] H H' → H' l = some (.lst xs) → Q (.ref l) H'
theorem call_lstC : CallR X (.type "list") rLstC := callr_imp call_list_of fun vs H Q ⟨p, xs, e, h, k⟩ => ⟨p, xs, e, h.imp SqL.of SqT.of, fun l hl => k l _ hl (Fr.refl.new hl) upd_same⟩
/-- cuts -/
def rSlTC : V → Option Int → Option Int → Hp → VK → Prop := fun x lo hi H Q => ∃ a xs, x = .ref a ∧ H a = some (.tup xs) ∧ ∀ p H', Fr [] H H' → H' p = some (.tup (cutV xs lo hi)) → Q (.ref p) H'
theorem sl_tupC : SlR X rSlTC := fun pins s σ H x v vl vu lo hi sl Q I rx hs pl pu ⟨a, xs, e, ha, k⟩ => sl_tupA pins s σ H x v vl vu lo hi sl Q I rx hs pl pu (by
  refine ⟨a, xs, e, SqT.of ha, fun e => ?_, fun _ p hp => k p _ (Fr.refl.new hp) upd_same⟩
  refine k a H Fr.refl ?_
  have e2 : cutV xs lo hi = xs := by
    unfold cutV
    rw [e.1, e.2, List.drop_zero, Nat.sub_zero, List.take_length]
  rw [e2]
  exact ha)
def rSlLC : V → Option Int → Option Int → Hp → VK → Prop := fun x lo hi H Q => ∃ a xs, x = .ref a ∧ H a = some (.lst xs) ∧ ∀ p H', H p = none → Fr [] H H' → H' p = some (.lst (cutV xs lo hi)) → Q (.ref p) H'
theorem sl_lstC : SlR X rSlLC := fun pins s σ H x v vl vu lo hi sl Q I rx hs pl pu ⟨a, xs, e, ha, k⟩ => sl_list pins s σ H x v vl vu lo hi sl Q I rx hs pl pu ⟨a, xs, e, SqL.of ha, fun p hp => k p _ hp (Fr.refl.new hp) upd_same⟩
/-- a new dict -/
def tDnC : TE := fun σ H Q => ∀ p H', H p = none → Fr [] H H' → H' p = some (.dK []) → Q (.ref p) H'
theorem pe_dnC {e : Expr} (h : PE X e (fun σ H Q => ∀ p, H p = none → Q (.ref p) (upd H p (.dK [])))) : PE X e tDnC := ⟨fun pins s σ H Q I q => h.run pins s σ H Q I fun p hp => q p _ hp (Fr.refl.new hp) upd_same⟩
/-- dict(d) -/
def rDictC : List V → Hp → VK → Prop := fun vs H Q => ∃ a kvs, vs = [.ref a] ∧ H a = some (.dK kvs) ∧ ∀ p H', H p = none → Fr [] H H' → H' p = some (.dK kvs) → Q (.ref p) H'
theorem call_dictC : CallR X (.type "dict") rDictC := callr_imp call_dictD fun vs H Q ⟨a, kvs, e, h, k⟩ => ⟨a, kvs, e, .inl h, fun p hp => k p _ hp (Fr.refl.new hp) upd_same⟩
end
end Kz
set_option Elab.async false
set_option linter.all false
set_option maxRecDepth 100000
/-! ZCv3: what is new and own changes, the world stands. -/
namespace Kz
open PySem PySem.Spec PyProof.Rows L2
section
variable {H H0 H1 : Hp} {f w d p a : Addr} {fl fl0 : Fl} {W : Wd} {left left0 heavy heavy0 : Int} {fr fr0 : List (Key × V)} {o u : HO}
/-- none of the known things -/
structure Apart (p f w d : Addr) (W : Wd) : Prop where
  n3 : p ∉ [f, w, d]
  nw : ∀ b ∈ W.addrs, b ≠ p
theorem Gx.apart (g : Gx H f w d fl W left heavy fr) (h : H p = none) : Apart p f w d W := ⟨nin3 (o := .lst []) g h, fun b hb z => by
  obtain ⟨o, e⟩ := g.ws.some b hb
  rw [z, h] at e
  cases e⟩
/-- of what was apart at first, changed later -/
theorem Gx.own (g : Gx H f w d fl W left heavy fr) (m : Apart p f w d W) (e : H p = some u) (nt : NoTup u) : Gx (upd H p o) f w d fl W left heavy fr := by
  have x : Fr [p] H (upd H p o) := Fr.refl.mutT (.head _) e nt
  have m1 : f ∉ [p] := fun z => m.n3 (by rw [← List.mem_singleton.mp z]; exact .head _)
  have m2 : w ∉ [p] := fun z => m.n3 (by rw [← List.mem_singleton.mp z]; exact mem3w)
  have m3 : d ∉ [p] := fun z => m.n3 (by rw [← List.mem_singleton.mp z]; exact mem3d)
  exact ⟨g.fl.keep x m1, g.ws.mono x fun a ha z => m.nw a ha (List.mem_singleton.mp z), g.wv.keep x m2, x.keep _ _ m3 g.fa, g.fo, g.sep, g.dw⟩
theorem Gx.frl (g : Gx H f w d fl W left heavy fr) (wo : WOk W) : fr.length ≤ 5 := by
  obtain ⟨xs, e, nd, hxs⟩ := g.fo.names
  have e2 := congrArg List.length e
  rw [List.length_map, List.length_map] at e2
  have := nodup_le nd hxs
  have := wo.c2
  omega
theorem FrOk.len (g : FrOk W fr) (wo : WOk W) : fr.length ≤ 5 := by
  obtain ⟨xs, e, nd, hxs⟩ := g.names
  have e2 := congrArg List.length e
  rw [List.length_map, List.length_map] at e2
  have := nodup_le nd hxs
  have := wo.c2
  omega
/-- what is in it may be put -/
theorem Gx.put (g : Gx H f w d fl W left heavy fr) (wo : WOk W) (x : Str) (v : V) : DPut H d (.str x) v (upd H d (.dK (putK fr (Sum.inr x) v))) := DPut.k (k := Sum.inr x) g.fa (small1000 (by have := g.frl wo; omega))
theorem upd_lock {a b : Addr} {o u : HO} (h : a ≠ b) (e : H b = some o) : upd H a u b = some o := by rw [upd_ne (Ne.symm h)]; exact e
end
/-! ### rules within a block, the walk's K by its own letter -/
section
variable {X : Cx} {K : PySem.W.Frag}
theorem ix_listB (h : X.K = K) : IxR X (rIxL K) := h ▸ ix_list
theorem ix_tupB (h : X.K = K) : IxR X (rIxT K) := h ▸ ix_tup
theorem op_in_seqB (h : X.K = K) : OpR X (compareOp .In) (rIn K false) := h ▸ op_in_seq
theorem op_notIn_seqB (h : X.K = K) : OpR X (compareOp .NotIn) (rIn K true) := h ▸ op_notIn_seq
theorem pg_tupB {es : List Expr} {k n : Nat} {t : TGs} {pos : Pos} (hK : X.K = K) (hc : X.calm = true) (h : PGs X es t) (hn : (assignEach es X.env).length = n) (hst : (assignEach es X.env).findIdx? (·.1) = none) : PG X (.Tuple es k pos) (gTup K n t) := hK ▸ pg_tup hc h hn hst
theorem call_len_seqB (h : X.K = K) : CallR X (.builtin "len") (fun xs H Q => ∃ p ys, xs = [.ref p] ∧ (SqL K H p ys ∨ SqT K H p ys) ∧ Q (.int ys.length) H) := h ▸ call_len_seq
end
end Kz
set_option Elab.async false
set_option linter.all false
set_option maxRecDepth 100000
/-! ZCv4: a list against [], what is set or read of small rows, frames step by step. -/
namespace Kz
open PySem PySem.Spec PyProof.Rows L2
section
variable {X : Cx}
/-- xs == [] -/
def rEqNil (K : PySem.W.Frag) : R2 := fun x y H Q => ∃ a b xs, x = .ref a ∧ y = .ref b ∧ SqL K H a xs ∧ SqL K H b [] ∧ Q (.bl xs.isEmpty) H
theorem op_eqNil (hu : X.A.units + 64 < cLine) : OpR X (compareOp .Eq) (rEqNil X.K) := by
  intro pins s σ H x y v u Q I rx ry h
  obtain ⟨a, b, xs, rfl, rfl, h1, h2, q⟩ := h
  cases rx
  cases ry
  obtain ⟨its, r, pl, hz⟩ := I.list h1
  obtain ⟨its2, r2, pl2, hz2⟩ := I.list h2
  cases r2
  cases r with
  | nil => exact SeqAt.eq_listAt (e := fun _ => true) pl.isList pl2.isList rfl (by omega) (fun j h1 h2 => absurd h1 (Nat.not_lt_zero j)) ⟨.bl _, H, I, rfl, q⟩
  | cons _ _ => exact SeqAt.eq_list_lengthsAt pl.isList pl2.isList rfl (by omega) ⟨.bl _, H, I, rfl, q⟩
end
section
variable {X : Cx}
/-- d[k] = v among several targets -/
def rSetK : TSet := fun o i v H Q => ∃ (a : Addr) (H' : Hp), o = .ref a ∧ DPut H a i v H' ∧ Q H'
theorem set_dK (hu : X.A.units + 1 < cLine) : PSet X rSetK := fun pins s σ H o i v ov iv u Q I ro ri rv ⟨a, H', e, g, q⟩ => by
  subst e
  obtain rfl : ov = Value.ref a := ro
  exact d_setItem hu I g ri rv fun s' I' => ⟨H', I', q⟩
end
section
variable {S S' S2 : List Addr} {H H0 H1 H2 : Hp}
theorem Fr.sub (x : Fr S H H1) (h : ∀ a ∈ S, a ∈ S' ∨ H a = none) : Fr S' H H1 := ⟨fun a o n e => x.keep a o (fun z => by
  rcases h a z with q | q
  · exact n q
  · rw [q] at e; cases e) e, x.tups, x.back, x.fz⟩
theorem Fr.step (x : Fr S H0 H1) (y : Fr S2 H1 H2) (h : ∀ a ∈ S2, a ∈ S ∨ H0 a = none) : Fr S H0 H2 :=
  ((x.mono (S' := S ++ S2) fun a z => List.mem_append_left _ z).trans (y.mono fun a z => List.mem_append_right _ z)).sub fun a z => by
    rcases List.mem_append.mp z with q | q
    · exact .inl q
    · exact h a q
end
theorem val_mem {kvs : List (Key × V)} {p : Key × V} (h : p ∈ kvs) : ∃ u, valV kvs p.1 = some u := by
  cases e : valV kvs p.1 with
  | none => exact absurd (List.mem_map.mpr ⟨p, h, rfl⟩) (valV_not e)
  | some u => exact ⟨u, rfl⟩
theorem val_drop {j k : Key} (h : ¬ j = k) : ∀ kvs : List (Key × V), valV (dropK kvs k) j = valV kvs j
  | [] => rfl
  | p :: r => by
    by_cases e : p.1 = k
    · rw [dropK_pos e, val_drop h r, valV_neg (fun z => h (z.symm.trans e))]
    · rw [dropK_neg e]
      by_cases e2 : p.1 = j
      · rw [valV_pos e2, valV_pos e2]
      · rw [valV_neg e2, valV_neg e2, val_drop h r]
theorem flat_strs (gs : List Str) : (gs.map V.str).all flatV = true := by
  rw [List.all_map]
  exact List.all_eq_true.mpr fun _ _ => rfl
theorem at0 {a : V} {l : List V} : atI (a :: l) 0 = some a := atI_nat (xs := a :: l) (j := 0) rfl
theorem at1 {a b : V} {l : List V} : atI (a :: b :: l) 1 = some b := atI_nat (xs := a :: b :: l) (j := 1) rfl
theorem at2 {a b c : V} {l : List V} : atI (a :: b :: c :: l) 2 = some c := atI_nat (xs := a :: b :: c :: l) (j := 2) rfl
theorem at3 {a b c d : V} {l : List V} : atI (a :: b :: c :: d :: l) 3 = some d := atI_nat (xs := a :: b :: c :: d :: l) (j := 3) rfl
theorem rs_head {H : Hp} {v : V} {s : Sm} (h : RS H 0 v s) : ∃ (t : Addr) (wd : Str) (z : V) (rest : List V), v = .ref t ∧ H t = some (.tup (.str wd :: z :: rest)) ∧ ((if false = true then !inV (.str wd) [.str "set", .str "read"] else inV (.str wd) [.str "set", .str "read"]) = true → ∃ y, z = .str y) := by
  cases s with
  | set x t => obtain ⟨a, u, e, h1, _⟩ := h; exact ⟨a, _, _, _, e, h1, fun _ => ⟨x, rfl⟩⟩
  | read x g => obtain ⟨a, e, h1⟩ := h; exact ⟨a, _, _, _, e, h1, fun _ => ⟨x, rfl⟩⟩
  | tell t => obtain ⟨a, u, e, h1, _⟩ := h; exact ⟨a, _, _, _, e, h1, fun z => absurd z (by decide +kernel)⟩
  | sure xs n => obtain ⟨a, u, e, h1, _⟩ := h; exact ⟨a, _, _, _, e, h1, fun z => absurd z (by decide +kernel)⟩
  | call f => obtain ⟨a, e, h1⟩ := h; exact ⟨a, _, _, _, e, h1, fun z => absurd z (by decide +kernel)⟩
  | _ => exact h.elim
/-- the names that small rows set or read -/
theorem gone_lc {K : PySem.W.Frag} {j a : Nat} {σ : L2.St} {H : Hp} {vs : List V} {b : List Sm} {Qd : Addr → Hp → Prop} (hσ : j < σ.length) (hl : H a = some (.lst vs)) (hr : RL H 0 vs b) (hn : vs.length ≤ 100)
    (k : ∀ (L : Addr) (H' : Hp) (gs : List Str), H L = none → Fr [] H H' → H' L = some (.lst (gs.map V.str)) → gs.length ≤ vs.length → Qd L H') :
    ∀ D, H D = none → ∃ W : Nat → Nat → Hp → Prop, (∃ m, W 0 m (upd H D (.lst []))) ∧ ∀ i m H, W i m H →
      ((Itl K a).stop i H ∧ Qd D H) ∨ ((Itl K a).go i H ∧ ∃ Nx : Hp → Prop, (∀ H', Nx H' → ∃ m', m' < m ∧ W (i + 1) m' H') ∧ ∀ x H', (Itl K a).yld i H x H' → gName j x (wipe σ [j]) H' fun σ2 H2 => wipe σ2 [j] = wipe σ [j] ∧
        tTest (tOp (rIn K false) (tOp (rIxT K) (tVar j) (tC (.int 0))) (tTupC (tCons (tC (.str "set")) (tCons (tC (.str "read")) tNil)))) σ2 H2 fun b H3 =>
        if b = true then tOp (rIxT K) (tVar j) (tC (.int 1)) σ2 H3 fun y H4 => ∃ acc, H4 D = some (.lst acc) ∧ acc.length < sizeLine ∧ Nx (upd H4 D (.lst (acc ++ [y]))) else Nx H3) := by
  intro D hD
  have nda : a ≠ D := ne_of_none hl hD
  refine lc_list (xs := vs) (fun i H' => ∃ gs : List Str, H' D = some (.lst (gs.map V.str)) ∧ gs.length ≤ i ∧ Fr [] H H') ⟨[], upd_same, Nat.le_refl _, Fr.refl.new hD⟩ (fun i H' _ hP => ?_) (fun i x H' hx hP => ?_) (fun H' hP => ?_)
  · obtain ⟨gs, _, _, x⟩ := hP
    exact SqL.of (x.keep _ _ (fun z => nomatch z) hl)
  · obtain ⟨gs, eD, gl, xx⟩ := hP
    obtain ⟨s, _, rs⟩ := pd_at hr hx
    have e1 : ((wipe σ [j]).set j (some x))[j]? = some (some x) := List.getElem?_set_self (by rw [wipe_length]; exact hσ)
    refine ⟨by show ((σ.set j none).set j (some x)).set j none = σ.set j none; rw [List.set_set, List.set_set], ?_⟩
    obtain ⟨t, wd, z, rest, ex, et, hw⟩ := rs_head rs
    have et' := xx.tups _ _ et
    refine ⟨x, e1, t, _, 0, .str wd, ex, rfl, SqT.of et', at0, (by decide : 2 ≤ sizeLine), fun p Hp np xp ep => ⟨p, _, rfl, .inr (SqT.of ep), rfl, rfl, _, rfl, ite2 (fun c => ?_) (fun c => ⟨gs, xp.keep _ _ (fun z => nomatch z) eD, Nat.le_succ_of_le gl, xx.trans xp⟩)⟩⟩
    obtain ⟨y, rfl⟩ := hw c
    refine ⟨x, e1, t, _, 1, .str y, ex, rfl, SqT.of (xp.tups _ _ et'), at1, gs.map V.str, xp.keep _ _ (fun z => nomatch z) eD, ?_, gs ++ [y], ?_, ?_, ?_⟩
    · have : i < vs.length := (List.getElem?_eq_some_iff.mp hx).1
      rw [List.length_map]
      exact small1000 (by omega)
    · rw [List.map_append]
      exact upd_same
    · rw [List.length_append, List.length_singleton]
      omega
    · exact (xx.trans xp).own hD (xp.keep _ _ (fun z => nomatch z) eD)
  · obtain ⟨gs, eD, gl, xx⟩ := hP
    exact k D H' gs hD xx eD gl
end Kz
set_option Elab.async false
set_option linter.all false
set_option maxRecDepth 100000
set_option maxHeartbeats 4000000
/-! ZW3: terms, rooms, readings, sures, small rows are drawn. -/
namespace Kz
open PySem PySem.Spec PyProof.Rows L2
theorem small40 {n : Nat} (h : n ≤ 1000) : n ≤ sizeLine := Nat.le_of_lt (small1000 h)
theorem sz1 : 1 ≤ sizeLine := by decide
theorem sz2 : 2 ≤ sizeLine := by decide
theorem sz3 : 3 ≤ sizeLine := by decide
theorem sz4 : 4 ≤ sizeLine := by decide
theorem lt30 {n : Nat} (h : n ≤ 1000) : (n : Int) < 1073741824 := by omega
/-- a term of at most n parts in a row of roots -/
def spTerm (n : Nat) : Sp := fun vs H Q _ => ∃ (f na : Addr) (fl : Fl) (names : List Str) (room : Int), vs = [.ref f, .ref na, .int room] ∧ FlAt H f fl ∧ H na = some (.lst (names.map V.str)) ∧ na ≠ f ∧ 1 ≤ names.length ∧ names.length ≤ 1000 ∧ 1 ≤ room ∧ room ≤ n ∧ room ≤ 100 ∧
  ∀ v H' fl' t, Fr [f] H H' → FlAt H' f fl' → RT H' v t → t.Ok (· ∈ names) → (t.parts : Int) ≤ room → Q v H'
section
variable {P : Program} {w : World} {K : PySem.W.Frag} {mg : Str → Option Value} {base : Heap}
theorem ok_term (T : Tp K mg) : ∀ n : Nat, Fx P w K mg base (n + 2) "_law_term" ["_law_flow_here", "_law_names_here", "_law_room_here"] (spTerm n)
  | 0 => by
    refine fx_of T 26 17 rfl rfl sc_l_term (fun _ _ _ _ _ _ us hl => match us, hl with | [_, _, _], _ => rfl) (fun vs H Q E h => ?_) (fun f cdv A outer s H vs Q E hr h => ?_)
    · obtain ⟨f, na, fl, names, room, rfl, _⟩ := h
      rfl
    · obtain ⟨f, na, fl, names, room, rfl, h1, h2, h3, h4, h5, h6, h7, _⟩ := h
      exact absurd h7 (by omega)
  | n + 1 => by
    have F_l_draw : Fx P w K mg base 1 "_law_draw" ["_law_flow_here", "_law_many"] spDraw := ok_draw T
    have F_l_term := ok_term T n
    refine fx_of T 26 17 rfl rfl sc_l_term (fun _ _ _ _ _ _ us hl => match us, hl with | [_, _, _], _ => rfl) (fun vs H Q E h => ?_) (fun f cdv A outer s H vs Q E hr h => ?_)
    · obtain ⟨f, na, fl, names, room, rfl, _⟩ := h
      rfl
    · obtain ⟨f, na, fl, names, room, rfl, hf, hn, hne, hn1, hn2, hr1, hr2, hr3, q⟩ := h
      refine ⟨_, (pss_cons (ps_if (PW.pt (pw_or (pt_cmpR op_lt (pv 2) pe_int (nomark _)) (pw_or1 (pt_cmpR op_eq (pe_F F_l_draw (hr.mono (by omega)) (by rfl) (pa_cons (pv 0) (pa_cons pe_int pa_nil))) pe_int (nomark _))))) (pss_cons (ps_set (i := 3) sc_l_term.nd rfl (Or.inl rfl) (pe_ix ix_list (pe_lst (pa_cons (pe_F F_l_draw (hr.mono (by omega)) (by rfl) (pa_cons (pv 0) (pa_cons pe_int pa_nil))) (pa_cons (pe_F F_l_draw (hr.mono (by omega)) (by rfl) (pa_cons (pv 0) (pa_cons pe_int pa_nil))) pa_nil))) (pe_callTy call_int1 (by rfl) T.n_int (by decide +kernel) (pa_cons (pe_cmpR op_eq (pe_F F_l_draw (hr.mono (by omega)) (by rfl) (pa_cons (pv 0) (pa_cons pe_int pa_nil))) pe_int (nomark _)) pa_nil)) (fun _ _ => rfl)))
      (pss_one (ps_ret (pe_ix ix_list (pe_lst (pa_cons (pe_tup (pa_cons pe_str (pa_cons (pe_ix ix_list (pv 1) (pe_F F_l_draw (hr.mono (by omega)) (by rfl) (pa_cons (pv 0) (pa_cons (pe_callB call_len_seq (by rfl) T.n_len PySem.boot_len (pa_cons (pv 1) pa_nil)) pa_nil))) (fun _ _ => rfl)) pa_nil))) (pa_cons (pe_tup (pa_cons pe_str (pa_cons (pv 3) pa_nil))) pa_nil))) (pe_F F_l_draw (hr.mono (by omega)) (by rfl) (pa_cons (pv 0) (pa_cons pe_int pa_nil))) (fun _ _ => rfl)))))
     pss_nil)
    (pss_cons (ps_set (i := 4) sc_l_term.nd rfl (Or.inl rfl) (pe_op op_add pe_int (pe_F F_l_draw (hr.mono (by omega)) (by rfl) (pa_cons (pv 0) (pa_cons (pe_op op_sub (pv 2) pe_int) pa_nil)))))
    (pss_cons (ps_set (i := 5) sc_l_term.nd rfl (Or.inl rfl) (pe_ix ix_str pe_str (pe_F F_l_draw (hr.mono (by omega)) (by rfl) (pa_cons (pv 0) (pa_cons pe_int pa_nil))) (fun _ _ => rfl)))
    (pss_cons (ps_set (i := 6) sc_l_term.nd rfl (Or.inl rfl) (pe_F F_l_term (hr.mono (by omega)) (by rfl) (pa_cons (pv 0) (pa_cons (pv 1) (pa_cons (pv 4) pa_nil)))))
    (pss_one (ps_ret (pe_tup (pa_cons pe_str (pa_cons (pv 5) (pa_cons (pv 6) (pa_cons (pe_F F_l_term (hr.mono (by omega)) (by rfl) (pa_cons (pv 0) (pa_cons (pv 1) (pa_cons (pe_op op_sub (pe_op op_sub (pv 2) pe_int) (pv 4)) pa_nil)))) pa_nil))))))))))), ?_⟩
      have hm : f ∈ [f] := .head _
      have nn : na ∉ [f] := fun z => hne (List.mem_singleton.mp z)
      refine if_cut (fun b H1 => ∃ fl1, Fr [f] H H1 ∧ FlAt H1 f fl1 ∧ (b = false → 3 ≤ room)) (fun Q' hQ => ?_) (fun b H1 hP => ?_)
      · refine ⟨_, rfl, _, _, rfl, rfl, _, rfl, ?_⟩
        by_cases c1 : room < 3
        · rw [decide_eq_true c1]
          exact iteT (hQ _ _ ⟨fl, Fr.refl, hf, fun z => by cases z⟩)
        · rw [decide_eq_false c1]
          refine iteF ?_
          refine ⟨_, rfl, f, fl, 3, rfl, hf.at_, hf.ok, by decide, by decide, rfl, _, rfl, ?_⟩
          exact hQ _ _ ⟨_, Fr.refl.mutL hm hf.at_, hf.draw (by decide), fun _ => by omega⟩
      · obtain ⟨fl1, x1, hf1, hb⟩ := hP
        have hn1' := x1.keep _ _ nn hn
        refine ite2 (fun _ => ?_) (fun e => ?_)
        · -- a leaf
          refine asg_cut (fun v H2 => ∃ fl2 k, v = .int k ∧ 0 ≤ k ∧ k < WD ∧ Fr [f] H H2 ∧ FlAt H2 f fl2) (fun Q' hQ => ?_) (fun v H2 hP => ?_)
          · have d1 := drawV_in fl1 (m := 3) (by decide)
            have h2 := hf1.draw (m := 3) (by decide)
            have y2 := x1.mutL (o := .lst (drawN fl1 3).lst) hm hf1.at_
            have d2 := drawV_in (drawN fl1 3) (m := 1000000) (by decide)
            have h3 := h2.draw (m := 1000000) (by decide)
            have y3 := y2.mutL (o := .lst (drawN (drawN fl1 3) 1000000).lst) hm h2.at_
            refine ⟨_, rfl, f, fl1, 3, rfl, hf1.at_, hf1.ok, by decide, by decide, _, rfl, f, _, 1000000, rfl, h2.at_, h2.ok, by decide, by decide, sz2, fun l hl => ?_⟩
            have h4 := h3.new (o := .lst [.int (drawV fl1 3), .int (drawV (drawN fl1 3) 1000000)]) hl
            have y4 := y3.new (o := .lst [.int (drawV fl1 3), .int (drawV (drawN fl1 3) 1000000)]) hl
            have nl : l ≠ f := (ne_of_none h3.at_ hl).symm
            refine ⟨_, rfl, f, _, 4, rfl, h4.at_, h4.ok, by decide, by decide, rfl, .inr ⟨_, rfl, l, [.int (drawV fl1 3), .int (drawV (drawN fl1 3) 1000000)], ?_⟩⟩
            have h5 := h4.draw (m := 4) (by decide)
            have y5 := y4.mutL (o := .lst (drawN (drawN (drawN fl1 3) 1000000) 4).lst) hm h4.at_
            by_cases c : V.int (drawV (drawN (drawN fl1 3) 1000000) 4) = V.int 3
            · rw [decide_eq_true c]
              refine ⟨_, .int (drawV (drawN fl1 3) 1000000), rfl, rfl, SqL.of (by rw [upd_ne nl]; exact upd_same), rfl, hQ _ _ ⟨_, _, rfl, d2.1, d2.2, y5, h5⟩⟩
            · rw [decide_eq_false c]
              refine ⟨_, .int (drawV fl1 3), rfl, rfl, SqL.of (by rw [upd_ne nl]; exact upd_same), rfl, hQ _ _ ⟨_, _, rfl, d1.1, by have := d1.2; show _ < (1000000 : Int); omega, y5, h5⟩⟩
          · obtain ⟨fl2, k, rfl, k0, k1, x2, hf2⟩ := hP
            have hn2' := x2.keep _ _ nn hn
            have h3 := hf2.draw (m := (names.length : Int)) (by omega)
            have y3 := x2.mutL (o := .lst (drawN fl2 (names.length : Int)).lst) hm hf2.at_
            have d3 := drawV_in fl2 (m := (names.length : Int)) (by omega)
            obtain ⟨x, hx, ex⟩ := pickS names d3.1 d3.2
            have hn3 := y3.keep _ _ nn hn
            refine ⟨.ref na, rfl, _, rfl, .ref na, rfl, na, _, rfl, .inl (SqL.of hn2'), f, fl2, (names.length : Int), by rw [lenS]; rfl, hf2.at_, hf2.ok, by omega, lt30 hn2, na, _, _, _, rfl, rfl, SqL.of hn3, ex, sz2, fun p hp => ?_⟩
            have h4 := h3.new (o := .tup [.str "cell", .str x]) hp
            have y4 := y3.new (o := .tup [.str "cell", .str x]) hp
            refine ⟨_, rfl, sz2, fun p2 hp2 => ?_⟩
            have h5 := h4.new (o := .tup [.str "num", .int k]) hp2
            have y5 := y4.new (o := .tup [.str "num", .int k]) hp2
            have np : p ≠ p2 := ne_of_none upd_same hp2
            refine ⟨sz2, fun l hl => ?_⟩
            have h6 := h5.new (o := .lst [.ref p, .ref p2]) hl
            have y6 := y5.new (o := .lst [.ref p, .ref p2]) hl
            have nl : l ≠ f := (ne_of_none h5.at_ hl).symm
            have np1 : p ≠ l := ne_of_none (by rw [upd_ne np]; exact upd_same) hl
            have np2 : p2 ≠ l := ne_of_none upd_same hl
            have h7 := h6.draw (m := 2) (by decide)
            have y7 := y6.mutL (o := .lst (drawN (drawN fl2 (names.length : Int)) 2).lst) hm h6.at_
            have d7 := drawV_in (drawN fl2 (names.length : Int)) (m := 2) (by decide)
            have e1 : (upd (upd (upd (upd H2 f (.lst (drawN fl2 (names.length : Int)).lst)) p (.tup [.str "cell", .str x])) p2 (.tup [.str "num", .int k])) l (.lst [.ref p, .ref p2])) p = some (.tup [.str "cell", .str x]) := by rw [upd_ne np1, upd_ne np, upd_same]
            have e2 : (upd (upd (upd (upd H2 f (.lst (drawN fl2 (names.length : Int)).lst)) p (.tup [.str "cell", .str x])) p2 (.tup [.str "num", .int k])) l (.lst [.ref p, .ref p2])) p2 = some (.tup [.str "num", .int k]) := by rw [upd_ne np2, upd_same]
            have yy : Tu _ _ := (Fr.refl (S := [f])).mutL (o := .lst (drawN (drawN fl2 (names.length : Int)) 2).lst) hm h6.at_ |>.tu
            refine ⟨_, rfl, f, _, 2, rfl, h6.at_, h6.ok, by decide, by decide, l, [.ref p, .ref p2], ?_⟩
            have dd : drawV (drawN fl2 (names.length : Int)) 2 = 0 ∨ drawV (drawN fl2 (names.length : Int)) 2 = 1 := by omega
            rcases dd with e | e
            · refine ⟨_, .ref p, rfl, by rw [e], SqL.of (by rw [upd_ne nl]; exact upd_same), rfl, q _ _ _ (.cell x) y7 h7 ⟨p, rfl, yy _ _ e1⟩ hx ?_⟩
              show (1 : Int) ≤ room
              omega
            · refine ⟨_, .ref p2, rfl, by rw [e], SqL.of (by rw [upd_ne nl]; exact upd_same), rfl, q _ _ _ (.num k) y7 h7 ⟨p2, rfl, yy _ _ e2⟩ ⟨k0, k1⟩ ?_⟩
              show (1 : Int) ≤ room
              omega
        · -- of two
          have hb := hb (by cases b with
            | false => rfl
            | true => exact absurd rfl e)
          have d1 := drawV_in fl1 (m := room - 2) (by omega)
          have h2 := hf1.draw (m := room - 2) (by omega)
          have y2 := x1.mutL (o := .lst (drawN fl1 (room - 2)).lst) hm hf1.at_
          have n2 := y2.keep _ _ nn hn
          refine ⟨_, rfl, _, rfl, _, _, rfl, rfl, f, fl1, room - 2, rfl, hf1.at_, hf1.ok, by omega, by omega, _, _, rfl, rfl, ?_⟩
          have d3 := drawV_in (drawN fl1 (room - 2)) (m := 5) (by decide)
          have h3 := h2.draw (m := 5) (by decide)
          have y3 := y2.mutL (o := .lst (drawN (drawN fl1 (room - 2)) 5).lst) hm h2.at_
          have n3 := y3.keep _ _ nn hn
          obtain ⟨ch, hch, _, ech⟩ := pickV ("+-*<=" : Str).cps.toList d3.1 (show _ < ((("+-*<=" : Str).cps.toList.length : Nat) : Int) by
            have e : (("+-*<=" : Str).cps.toList.length : Nat) = 5 := by decide +kernel
            rw [e]
            exact d3.2)
          refine ⟨_, rfl, f, _, 5, rfl, h2.at_, h2.ok, by decide, by decide, _, _, ch, rfl, rfl, (by decide +kernel), ech, ?_⟩
          have hs : (⟨#[ch]⟩ : Str) = "+" ∨ (⟨#[ch]⟩ : Str) = "-" ∨ (⟨#[ch]⟩ : Str) = "*" ∨ (⟨#[ch]⟩ : Str) = "<" ∨ (⟨#[ch]⟩ : Str) = "=" := by
            have e : ("+-*<=" : Str).cps.toList = [43, 45, 42, 60, 61] := by decide +kernel
            rw [e] at hch
            simp only [List.mem_cons, List.not_mem_nil, or_false] at hch
            rcases hch with rfl | rfl | rfl | rfl | rfl
            · exact .inl (by decide +kernel)
            · exact .inr (.inl (by decide +kernel))
            · exact .inr (.inr (.inl (by decide +kernel)))
            · exact .inr (.inr (.inr (.inl (by decide +kernel))))
            · exact .inr (.inr (.inr (.inr (by decide +kernel))))
          refine ⟨_, rfl, _, rfl, _, rfl, f, na, _, names, 1 + drawV fl1 (room - 2), rfl, h3, n3, hne, hn1, hn2, by omega, by omega, by omega, fun v1 H4 fl4 t1 x4 h4 r1 o1 p1 => ?_⟩
          have y4 := y3.trans x4
          have n4 := y4.keep _ _ nn hn
          refine ⟨_, rfl, _, rfl, _, rfl, _, rfl, _, rfl, _, _, rfl, rfl, _, rfl, _, _, rfl, rfl, f, na, _, names, room - 1 - (1 + drawV fl1 (room - 2)), rfl, h4, n4, hne, hn1, hn2, by omega, by omega, by omega, fun v2 H5 fl5 t2 x5 h5 r2 o2 p2 => ?_⟩
          have y5 := y4.trans x5
          refine ⟨sz4, fun p hp => ?_⟩
          refine q _ _ _ (.op ⟨#[ch]⟩ t1 t2) (y5.new hp) (h5.new hp) ⟨p, _, _, rfl, upd_same, (r1.mono x5.tu).mono (Tu.new hp), r2.mono (Tu.new hp)⟩ ⟨hs, o1, o2⟩ ?_
          show ((1 + t1.parts + t2.parts : Nat) : Int) ≤ room
          omega
end
end Kz
set_option Elab.async false
set_option linter.all false
set_option maxRecDepth 100000
set_option maxHeartbeats 4000000
/-! ZW4: rooms, readings, sures, small rows are drawn. -/
namespace Kz
open PySem PySem.Spec PyProof.Rows L2
def spRoom : Sp := fun vs H Q _ => ∃ (f w d : Addr) (fl : Fl) (W : Wd) (left heavy : Int) (fr : List (Key × V)), vs = [.ref f, .ref w] ∧ Gx H f w d fl W left heavy fr ∧
  ∀ r H' fl' heavy', Gx H' f w d fl' W left heavy' fr → Fr [f, w, d] H H' → 1 ≤ r → r ≤ 11 → Q (.int r) H'
abbrev noEnv : Env' := fun _ => none
def spRead : Sp := fun vs H Q _ => ∃ (f w d : Addr) (fl : Fl) (W : Wd) (left heavy : Int) (fr : List (Key × V)), vs = [.ref f, .ref w, .ref d] ∧ Gx H f w d fl W left heavy fr ∧ WOk W ∧
  ∀ p v x g H' fl' fr', Gx H' f w d fl' W left heavy fr' → Fr [f, w, d] H H' → H p = none → H' p = some (.lst [v]) → RS H' 0 v (.read x g) → x ∈ W.cells → g ∈ W.gauges → Q (.ref p) H'
def spSimple : Sp := fun vs H Q _ => ∃ (f w d : Addr) (fl : Fl) (W : Wd) (left heavy : Int) (fr : List (Key × V)), vs = [.ref f, .ref w, .ref d] ∧ Gx H f w d fl W left heavy fr ∧ WOk W ∧
  ∀ p v s H' fl' heavy' fr', Gx H' f w d fl' W left heavy' fr' → Fr [f, w, d] H H' → H p = none → H' p = some (.lst [v]) → RS H' 0 v s → Wf (· ∈ W.cells) (· ∈ W.gauges) noEnv 0 s → Q (.ref p) H'
def spSmall : Sp := fun vs H Q _ => ∃ (f w d : Addr) (fl : Fl) (W : Wd) (left heavy : Int) (fr : List (Key × V)), vs = [.ref f, .ref w, .ref d] ∧ Gx H f w d fl W left heavy fr ∧ WOk W ∧
  ∀ p v s H' fl' heavy' fr', Gx H' f w d fl' W (left - 1) heavy' fr' → Fr [f, w, d] H H' → H p = none → H' p = some (.lst [v]) → RS H' 0 v s → Wf (· ∈ W.cells) (· ∈ W.gauges) noEnv 0 s → Q (.ref p) H'
/-- a cut of texts -/
def cutL (ys : List Str) (lo hi : Option Int) : List Str := (ys.drop (HT.sIx ys.length 0 lo)).take (HT.sIx ys.length ys.length hi - HT.sIx ys.length 0 lo)
theorem cut_map (ys : List Str) (lo hi : Option Int) : cutV (ys.map V.str) lo hi = (cutL ys lo hi).map V.str := by
  unfold cutV cutL
  rw [List.length_map, ← List.map_drop, ← List.map_take]
theorem cutL_sub {ys : List Str} {lo hi : Option Int} : ∀ y ∈ cutL ys lo hi, y ∈ ys := fun y h => List.mem_of_mem_drop (List.mem_of_mem_take h)
theorem cutL_from (ys : List Str) (k : Nat) : cutL ys (some (k : Int)) none = ys.drop k := by
  unfold cutL
  rw [HT.sIx_nat, HT.sIx_none]
  by_cases h : k ≤ ys.length
  · rw [Nat.min_eq_left h, List.take_of_length_le (by rw [List.length_drop]; exact Nat.le_refl _)]
  · rw [Nat.min_eq_right (by omega), List.drop_of_length_le (Nat.le_refl _), List.drop_of_length_le (by omega), List.take_nil]
theorem cutL_to (ys : List Str) (k : Nat) : cutL ys none (some (k : Int)) = ys.take k := by
  unfold cutL
  rw [HT.sIx_nat, HT.sIx_none, List.drop_zero, Nat.sub_zero]
  by_cases h : k ≤ ys.length
  · rw [Nat.min_eq_left h]
  · rw [Nat.min_eq_right (by omega), List.take_of_length_le (Nat.le_refl _), List.take_of_length_le (by omega)]
section
variable {P : Program} {w : World} {K : PySem.W.Frag} {mg : Str → Option Value} {base : Heap}
theorem ok_room (T : Tp K mg) : Fx P w K mg base 2 "_law_room" ["_law_flow_here", "_law_world"] spRoom := by
  have F_l_draw : Fx P w K mg base 1 "_law_draw" ["_law_flow_here", "_law_many"] spDraw := ok_draw T
  refine fx_of T 27 18 rfl rfl sc_l_room (fun _ _ _ _ _ _ us hl => match us, hl with | [_, _], _ => rfl) (fun vs H Q E h => ?_) (fun f cdv A outer s H vs Q E hr h => ?_)
  · obtain ⟨f, w, d, fl, W, left, heavy, fr, rfl, _⟩ := h
    rfl
  · obtain ⟨f, w, d, fl, W, left, heavy, fr, rfl, g, q⟩ := h
    have hu := hu_of hr
    refine ⟨_, (pss_cons (ps_set (i := 2) sc_l_room.nd rfl (Or.inl rfl) (pe_F F_l_draw (hr.mono (by omega)) (by rfl) (pa_cons (pv 0) (pa_cons pe_int pa_nil))))
    (pss_cons (ps_if (PW.pt (pw_and (pt_cmpR op_lt (pv 2) pe_int (nomark _)) (pw_and1 (pt_cmpR op_gt (pe_dget hu (pv 1) pe_str (fun _ _ => rfl)) pe_int (nomark _))))) (pss_cons (ps_dput hu (pv 1) pe_str (pe_op op_sub (pe_dget hu (pv 1) pe_str (fun _ _ => rfl)) pe_int) rfl)
      (pss_one (ps_ret (pe_ix ix_list (pe_lst (pa_cons pe_int (pa_cons pe_int pa_nil))) (pv 2) (fun _ _ => rfl)))))
     pss_nil)
    (pss_one (ps_ret (pe_ix ix_list (pe_lst (pa_cons pe_int (pa_cons pe_int pa_nil))) (pe_callTy call_int1 (by rfl) T.n_int (by decide +kernel) (pa_cons (pe_cmpR op_eq (pv 2) pe_int (nomark _)) pa_nil)) (fun _ _ => rfl)))))), ?_⟩
    refine ⟨_, rfl, f, fl, 8, rfl, g.fl.at_, g.fl.ok, by decide, by decide, ?_⟩
    have d1 := drawV_in fl (m := 8) (by decide)
    have g1 := g.draw (m := 8) (by decide)
    have x1 : Fr [f, w, d] H _ := g.frf (o := .lst (drawN fl 8).lst)
    dsimp only [gName]
    refine if_cut (fun b H1 => H1 = upd H f (.lst (drawN fl 8).lst) ∧ (b = true → drawV fl 8 < 2)) (fun Q' hQ => ?_) (fun b H1 hP => ?_)
    · refine ⟨_, rfl, _, _, rfl, rfl, _, rfl, ite2 (fun e => ?_) (fun e => ?_)⟩
      · refine ⟨_, rfl, w, _, rfl, g1.wv.gY, _, _, rfl, rfl, _, rfl, hQ _ _ ⟨rfl, fun _ => of_decide_eq_true e⟩⟩
      · exact hQ _ _ ⟨rfl, fun z => by cases z⟩
    · obtain ⟨rfl, hb⟩ := hP
      refine ite2 (fun e => ?_) (fun e => ?_)
      · obtain ⟨kvs, hp, hv⟩ := g1.wv.setY (heavy - 1)
        have g2 := g1.world hv
        have x2 := x1.trans (g1.frw (o := .dK kvs))
        refine ⟨_, rfl, w, _, rfl, g1.wv.gY, _, _, rfl, rfl, _, rfl, w, _, rfl, hp, sz2, fun l hl => ?_⟩
        have g3 := g2.new (o := .lst [.int 9, .int 11]) hl
        have x3 := x2.new (o := .lst [.int 9, .int 11]) hl
        have hd := hb e
        have dd : drawV fl 8 = 0 ∨ drawV fl 8 = 1 := by omega
        refine ⟨_, rfl, l, [.int 9, .int 11], ?_⟩
        rcases dd with e | e
        · exact ⟨_, .int 9, rfl, by rw [e], SqL.of upd_same, rfl, q 9 _ _ _ g3 x3 (by decide) (by decide)⟩
        · exact ⟨_, .int 11, rfl, by rw [e], SqL.of upd_same, rfl, q 11 _ _ _ g3 x3 (by decide) (by decide)⟩
      · refine ⟨sz2, fun l hl => ?_⟩
        have g3 := g1.new (o := .lst [.int 3, .int 5]) hl
        have x3 := x1.new (o := .lst [.int 3, .int 5]) hl
        refine ⟨_, rfl, rfl, .inr ⟨_, rfl, l, [.int 3, .int 5], ?_⟩⟩
        by_cases c : V.int (drawV fl 8) = V.int 7
        · rw [decide_eq_true c]
          exact ⟨_, .int 5, rfl, rfl, SqL.of upd_same, rfl, q 5 _ _ _ g3 x3 (by decide) (by decide)⟩
        · rw [decide_eq_false c]
          exact ⟨_, .int 3, rfl, rfl, SqL.of upd_same, rfl, q 3 _ _ _ g3 x3 (by decide) (by decide)⟩
theorem ok_read (T : Tp K mg) : Fx P w K mg base 2 "_law_read" ["_law_flow_here", "_law_world", "_law_fresh"] spRead := by
  have F_l_draw : Fx P w K mg base 1 "_law_draw" ["_law_flow_here", "_law_many"] spDraw := ok_draw T
  refine fx_of T 29 20 rfl rfl sc_l_read (fun _ _ _ _ _ _ us hl => match us, hl with | [_, _, _], _ => rfl) (fun vs H Q E h => ?_) (fun f cdv A outer s H vs Q E hr h => ?_)
  · obtain ⟨f, w, d, fl, W, left, heavy, fr, rfl, _⟩ := h
    rfl
  · obtain ⟨f, w, d, fl, W, left, heavy, fr, rfl, g, wo, q⟩ := h
    have hu := hu_of hr
    refine ⟨_, (pss_cons (ps_set (i := 3) sc_l_read.nd rfl (Or.inl rfl) (pe_ix ix_list (pe_dget hu (pv 1) pe_str (fun _ _ => rfl)) (pe_F F_l_draw (hr.mono (by omega)) (by rfl) (pa_cons (pv 0) (pa_cons (pe_callB call_len_seq (by rfl) T.n_len PySem.boot_len (pa_cons (pe_dget hu (pv 1) pe_str (fun _ _ => rfl)) pa_nil)) pa_nil))) (fun _ _ => rfl)))
    (pss_cons (ps_dput hu (pv 2) (pv 3) pe_bl rfl)
    (pss_one (ps_ret (pe_lst (pa_cons (pe_tup (pa_cons pe_str (pa_cons (pv 3) (pa_cons (pe_ix ix_list (pe_dget hu (pv 1) pe_str (fun _ _ => rfl)) (pe_F F_l_draw (hr.mono (by omega)) (by rfl) (pa_cons (pv 0) (pa_cons (pe_callB call_len_seq (by rfl) T.n_len PySem.boot_len (pa_cons (pe_dget hu (pv 1) pe_str (fun _ _ => rfl)) pa_nil)) pa_nil))) (fun _ _ => rfl)) pa_nil)))) pa_nil)))))), ?_⟩
    have c1 := wo.c1
    have c2 := wo.c2
    have k1 := wo.g1
    have k2 := wo.g2
    have d1 := drawV_in fl (m := (W.cells.length : Int)) (by omega)
    have g1 := g.draw (m := (W.cells.length : Int)) (by omega)
    have x1 : Fr [f, w, d] H _ := g.frf (o := .lst (drawN fl (W.cells.length : Int)).lst)
    obtain ⟨x, hx, ex⟩ := pickS W.cells d1.1 d1.2
    refine ⟨_, rfl, w, _, rfl, g.wv.gC, _, rfl, _, rfl, w, _, rfl, g.wv.gC, W.aC, _, rfl, .inl (SqL.of g.ws.cells), f, fl, (W.cells.length : Int), by rw [lenS]; rfl, g.fl.at_, g.fl.ok, by omega, by omega, W.aC, _, _, _, rfl, rfl, SqL.of g1.ws.cells, ex, ?_⟩
    -- fresh[x] = True
    have fo2 := g1.fo.put hx (.bl true)
    have g2 := g1.fresh fo2
    have x2 := x1.trans (g1.frd (o := .dK (putK fr (Sum.inr x) (.bl true))))
    have fl2 : fr.length ≤ 5 := by
      obtain ⟨xs, e, nd, hxs⟩ := g.fo.names
      have e2 := congrArg List.length e
      rw [List.length_map, List.length_map] at e2
      have := nodup_le nd hxs
      omega
    refine ⟨_, rfl, _, rfl, d, _, rfl, DPut.k (k := Sum.inr x) g1.fa (small1000 (by omega)), ?_⟩
    have d3 := drawV_in (drawN fl (W.cells.length : Int)) (m := (W.gauges.length : Int)) (by omega)
    have g3 := g2.draw (m := (W.gauges.length : Int)) (by omega)
    have x3 := x2.trans (g2.frf (o := .lst (drawN (drawN fl (W.cells.length : Int)) (W.gauges.length : Int)).lst))
    obtain ⟨y, hy, ey⟩ := pickS W.gauges d3.1 d3.2
    refine ⟨_, rfl, _, rfl, w, _, rfl, g2.wv.gG, _, rfl, _, rfl, w, _, rfl, g2.wv.gG, W.aG, _, rfl, .inl (SqL.of g2.ws.gauges), f, _, (W.gauges.length : Int), by rw [lenS]; rfl, g2.fl.at_, g2.fl.ok, by omega, by omega, W.aG, _, _, _, rfl, rfl, SqL.of g3.ws.gauges, ey, sz3, fun p hp => ?_⟩
    refine ⟨sz1, fun l hl => ?_⟩
    have x4 := x3.new (o := .tup [.str "read", .str x, .str y]) hp
    refine q l (.ref p) x y _ _ _ ((g3.new hp).new hl) (x4.new hl) (x4.back _ hl) upd_same ⟨p, rfl, by rw [upd_ne (ne_of_none upd_same hl)]; exact upd_same⟩ hx hy
theorem ok_sure (T : Tp K mg) : Fx P w K mg base 3 "_law_sure" ["_law_flow_here", "_law_world", "_law_fresh"] spSimple := by
  have F_l_draw : Fx P w K mg base 1 "_law_draw" ["_law_flow_here", "_law_many"] spDraw := ok_draw T
  have F_l_read : Fx P w K mg base 2 "_law_read" ["_law_flow_here", "_law_world", "_law_fresh"] spRead := ok_read T
  refine fx_of T 28 19 rfl rfl sc_l_sure (fun _ _ _ _ _ _ us hl => match us, hl with | [_, _, _], _ => rfl) (fun vs H Q E h => ?_) (fun f cdv A outer s H vs Q E hr h => ?_)
  · obtain ⟨f, w, d, fl, W, left, heavy, fr, rfl, _⟩ := h
    rfl
  · obtain ⟨f, w, d, fl, W, left, heavy, fr, rfl, g, wo, q⟩ := h
    have hu := hu_of hr
    refine ⟨_, (pss_cons (ps_set (i := 3) sc_l_sure.nd rfl (Or.inl rfl) (pe_callB (call_sortedD rfl) (by rfl) T.n_sorted (by decide +kernel) (pa_cons (pv 2) pa_nil)))
    (pss_cons (ps_if (pt_cmpR op_eq (pe_callB call_len_seq (by rfl) T.n_len PySem.boot_len (pa_cons (pv 3) pa_nil)) pe_int (nomark _)) (pss_one (ps_ret (pe_F F_l_read (hr.mono (by omega)) (by rfl) (pa_cons (pv 0) (pa_cons (pv 1) (pa_cons (pv 2) pa_nil))))))
     pss_nil)
    (pss_cons (ps_par (i := 4) (j := 5) rfl sc_l_sure.nd rfl rfl (by decide) rfl rfl (pa_cons (pe_F F_l_draw (hr.mono (by omega)) (by rfl) (pa_cons (pv 0) (pa_cons (pe_callB call_len_seq (by rfl) T.n_len PySem.boot_len (pa_cons (pv 3) pa_nil)) pa_nil))) (pa_cons (pe_op op_add pe_int (pe_F F_l_draw (hr.mono (by omega)) (by rfl) (pa_cons (pv 0) (pa_cons (pe_callB (call_min2 rfl) (by rfl) T.n_min (by decide +kernel) (pa_cons pe_int (pa_cons (pe_callB call_len_seq (by rfl) T.n_len PySem.boot_len (pa_cons (pv 3) pa_nil)) pa_nil))) pa_nil)))) pa_nil)) (by rfl))
    (pss_cons (ps_set (i := 6) sc_l_sure.nd rfl (Or.inl rfl) (pe_op op_add (pe_dget hu (pv 1) pe_str (fun _ _ => rfl)) (pe_op op_mul (pe_F F_l_draw (hr.mono (by omega)) (by rfl) (pa_cons (pv 0) (pa_cons (pe_op op_sub pe_int (pe_dget hu (pv 1) pe_str (fun _ _ => rfl))) pa_nil))) (pe_F F_l_draw (hr.mono (by omega)) (by rfl) (pa_cons (pv 0) (pa_cons pe_int pa_nil))))))
    (pss_one (ps_ret (pe_lst (pa_cons (pe_tup (pa_cons pe_str (pa_cons (pe_callTy call_tuple_of (by rfl) T.n_tuple (by decide +kernel) (pa_cons (pe_slice sl_list (pe_op op_cat (pe_slice sl_list (pv 3) (po_some (pv 4)) po_none) (pe_slice sl_list (pv 3) po_none (po_some (pv 4)))) po_none (po_some (pv 5))) pa_nil)) (pa_cons (pv 6) pa_nil)))) pa_nil)))))))), ?_⟩
    obtain ⟨xs, e, nd, hxs⟩ := g.fo.names
    have hxl := nodup_le nd hxs
    have c2 := wo.c2
    refine ⟨_, rfl, d, fr, xs, rfl, .inl g.fa, e, by omega, fun ys l hperm _ hl => ?_⟩
    have hyl := hperm.length_eq
    have hys : ∀ y ∈ ys, y ∈ W.cells := fun y hy => hxs y (hperm.mem_iff.mp hy)
    have g1 := g.new (o := .lst (ys.map V.str)) hl
    have x1 : Fr [f, w, d] H _ := Fr.refl.new (o := .lst (ys.map V.str)) hl
    have nlf : l ≠ f := (ne_of_none g.fl.at_ hl).symm
    have nlw : l ≠ w := by
      obtain ⟨kvs, ek⟩ := g.wv.at_
      exact (ne_of_none ek hl).symm
    have nld : l ≠ d := (ne_of_none g.fa hl).symm
    have nl : l ∉ [f, w, d] := fun z => by
      simp only [List.mem_cons, List.not_mem_nil, or_false] at z
      rcases z with z | z | z
      · exact nlf z
      · exact nlw z
      · exact nld z
    refine ⟨_, rfl, l, _, rfl, .inl (SqL.of upd_same), rfl, _, rfl, ?_⟩
    refine ite2 (fun e => ?_) (fun e => ?_)
    · refine ⟨_, rfl, _, rfl, _, rfl, f, w, d, fl, W, left, heavy, fr, rfl, g1, wo, fun p v x y H2 fl2 fr2 g2 x2 np ep rs hx hy => ?_⟩
      exact q p v (.read x y) H2 fl2 heavy fr2 g2 (x1.trans x2) (x1.back _ np) ep rs ⟨hx, hy⟩
    · have hpos : 1 ≤ ys.length := by
        have e2 : ¬ (((ys.map V.str).length : Nat) : Int) = 0 := fun z => e (decide_eq_true (congrArg V.int z))
        rw [List.length_map] at e2
        omega
      have d1 := drawV_in fl (m := (ys.length : Int)) (by omega)
      have g2 := g1.draw (m := (ys.length : Int)) (by omega)
      have y2 : Fr [f, w, d] (upd H l (.lst (ys.map V.str))) _ := g1.frf (o := .lst (drawN fl (ys.length : Int)).lst)
      have lL : ∀ {H2}, Fr [f, w, d] (upd H l (.lst (ys.map V.str))) H2 → SqL K H2 l (ys.map V.str) := fun x => SqL.of (x.keep _ _ nl upd_same)
      obtain ⟨at_, ea⟩ : ∃ k : Nat, drawV fl (ys.length : Int) = (k : Int) := ⟨(drawV fl (ys.length : Int)).toNat, by omega⟩
      refine ⟨_, rfl, _, rfl, l, _, rfl, .inl (lL Fr.refl), f, fl, (ys.length : Int), by rw [lenS]; rfl, g1.fl.at_, g1.fl.ok, by omega, by omega, ?_⟩
      refine ⟨_, rfl, _, rfl, l, _, rfl, .inl (lL y2), _, _, rfl, ?_⟩
      rw [lenS]
      obtain ⟨mm, em, m1, m4, ml⟩ : ∃ m : Int, (if (ys.length : Int) < 4 then (ys.length : Int) else 4) = m ∧ 1 ≤ m ∧ m ≤ 4 ∧ m ≤ ys.length := ⟨_, rfl, by split <;> omega, by split <;> omega, by split <;> omega⟩
      rw [em]
      have d3 := drawV_in (drawN fl (ys.length : Int)) (m := mm) (by omega)
      have g3 := g2.draw (m := mm) (by omega)
      have y3 := y2.trans (g2.frf (o := .lst (drawN (drawN fl (ys.length : Int)) mm).lst))
      obtain ⟨mn, en⟩ : ∃ k : Nat, 1 + drawV (drawN fl (ys.length : Int)) mm = (k : Int) := ⟨(1 + drawV (drawN fl (ys.length : Int)) mm).toNat, by omega⟩
      refine ⟨f, _, mm, rfl, g2.fl.at_, g2.fl.ok, by omega, by omega, _, _, rfl, rfl, _, _, rfl, ?_⟩
      dsimp only
      rw [ea, en]
      -- the age
      have a0 := wo.a0
      have a1 := wo.a1
      have d4 := drawV_in (drawN (drawN fl (ys.length : Int)) mm) (m := 201 - W.age) (by omega)
      have g4 := g3.draw (m := 201 - W.age) (by omega)
      have y4 := y3.trans (g3.frf (o := .lst (drawN (drawN (drawN fl (ys.length : Int)) mm) (201 - W.age)).lst))
      have d5 := drawV_in (drawN (drawN (drawN fl (ys.length : Int)) mm) (201 - W.age)) (m := 2) (by decide)
      have g5 := g4.draw (m := 2) (by decide)
      have y5 := y4.trans (g4.frf (o := .lst (drawN (drawN (drawN (drawN fl (ys.length : Int)) mm) (201 - W.age)) 2).lst))
      refine ⟨_, rfl, w, _, rfl, g3.wv.gE, _, rfl, _, rfl, w, _, rfl, g3.wv.gE, _, _, rfl, rfl, f, _, _, rfl, g3.fl.at_, g3.fl.ok, by omega, by omega, _, rfl, f, _, _, rfl, g4.fl.at_, g4.fl.ok, by decide, by decide, _, _, rfl, rfl, .inr (by omega), _, _, rfl, rfl, ?_⟩
      have hprod : 0 ≤ drawV (drawN (drawN fl (ys.length : Int)) mm) (201 - W.age) * drawV (drawN (drawN (drawN fl (ys.length : Int)) mm) (201 - W.age)) 2 ∧ drawV (drawN (drawN fl (ys.length : Int)) mm) (201 - W.age) * drawV (drawN (drawN (drawN fl (ys.length : Int)) mm) (201 - W.age)) 2 ≤ 200 := by
        have dd : drawV (drawN (drawN (drawN fl (ys.length : Int)) mm) (201 - W.age)) 2 = 0 ∨ drawV (drawN (drawN (drawN fl (ys.length : Int)) mm) (201 - W.age)) 2 = 1 := by omega
        rcases dd with e | e <;> rw [e] <;> omega
      generalize drawV (drawN (drawN fl (ys.length : Int)) mm) (201 - W.age) * drawV (drawN (drawN (drawN fl (ys.length : Int)) mm) (201 - W.age)) 2 = pr at hprod ⊢
      -- the row
      refine ⟨_, rfl, _, rfl, _, rfl, l, _, rfl, lL y5, fun p1 hp1 => ?_⟩
      have y6 := y5.new (o := .lst (cutV (ys.map V.str) (some (at_ : Int)) none)) hp1
      have g6 := g5.new (o := .lst (cutV (ys.map V.str) (some (at_ : Int)) none)) hp1
      refine ⟨_, rfl, _, rfl, _, rfl, l, _, rfl, lL y6, fun p2 hp2 => ?_⟩
      have y7 := y6.new (o := .lst (cutV (ys.map V.str) none (some (at_ : Int)))) hp2
      have g7 := g6.new (o := .lst (cutV (ys.map V.str) none (some (at_ : Int)))) hp2
      have n12 : p1 ≠ p2 := ne_of_none upd_same hp2
      rw [cut_map, cut_map, cutL_from, cutL_to] at *
      refine ⟨p1, p2, _, _, rfl, rfl, by rw [upd_ne n12]; exact upd_same, upd_same, ?_, fun p3 hp3 => ?_⟩
      · rw [List.length_map, List.length_map, List.length_drop, List.length_take]
        exact small40 (by omega)
      have y8 := y7.new (o := .lst ((ys.drop at_).map V.str ++ (ys.take at_).map V.str)) hp3
      have g8 := g7.new (o := .lst ((ys.drop at_).map V.str ++ (ys.take at_).map V.str)) hp3
      rw [← List.map_append] at *
      refine ⟨_, rfl, _, rfl, p3, _, rfl, SqL.of upd_same, fun p4 hp4 => ?_⟩
      rw [cut_map, cutL_to] at *
      have y9 := y8.new (o := .lst (((ys.drop at_ ++ ys.take at_).take mn).map V.str)) hp4
      have g9 := g8.new (o := .lst (((ys.drop at_ ++ ys.take at_).take mn).map V.str)) hp4
      refine ⟨p4, _, rfl, .inl ⟨SqL.of upd_same, fun p5 hp5 => ?_⟩⟩
      have y10 := y9.new (o := .tup (((ys.drop at_ ++ ys.take at_).take mn).map V.str)) hp5
      have g10 := g9.new (o := .tup (((ys.drop at_ ++ ys.take at_).take mn).map V.str)) hp5
      refine ⟨_, rfl, sz3, fun p6 hp6 => ?_⟩
      have y11 := y10.new (o := .tup [.str "sure", .ref p5, .int (W.age + pr)]) hp6
      have g11 := g10.new (o := .tup [.str "sure", .ref p5, .int (W.age + pr)]) hp6
      refine ⟨sz1, fun p7 hp7 => ?_⟩
      have xx : Fr [f, w, d] H _ := x1.trans y11
      have hl1 : ((ys.drop at_ ++ ys.take at_).take mn).length ≤ 4 := by
        rw [List.length_take]
        omega
      have hl0 : (ys.drop at_ ++ ys.take at_).take mn ≠ [] := fun z => by
        have e := congrArg List.length z
        rw [List.length_take, List.length_append, List.length_drop, List.length_take] at e
        have e : min mn (ys.length - at_ + min at_ ys.length) = 0 := e
        omega
      refine q p7 (.ref p6) (.sure ((ys.drop at_ ++ ys.take at_).take mn) (W.age + pr)) _ _ _ _ (g11.new hp7) (xx.new hp7) (xx.back _ hp7) upd_same ⟨p6, p5, rfl, ?_, ?_⟩ ⟨fun y hy => ?_, hl0, hl1, ?_, ?_⟩
      · rw [upd_ne (ne_of_none upd_same hp7)]
        exact upd_same
      · rw [upd_ne (ne_of_none (by rw [upd_ne (ne_of_none upd_same hp6)]; exact upd_same) hp7), upd_ne (ne_of_none upd_same hp6)]
        exact upd_same
      · rcases List.mem_append.mp (List.mem_of_mem_take hy) with z | z
        · exact hys y (List.mem_of_mem_drop z)
        · exact hys y (List.mem_of_mem_take z)
      · omega
      · show W.age + pr < 1000000
        omega
theorem Gx.neC {H : Hp} {f w d : Addr} {fl : Fl} {W : Wd} {left heavy : Int} {fr : List (Key × V)} (g : Gx H f w d fl W left heavy fr) : W.aC ≠ f := (g.sep _ (.head _)).1
theorem ok_small (T : Tp K mg) : Fx P w K mg base 14 "_law_small" ["_law_flow_here", "_law_world", "_law_fresh"] spSmall := by
  have F_l_draw : Fx P w K mg base 1 "_law_draw" ["_law_flow_here", "_law_many"] spDraw := ok_draw T
  have F_l_read : Fx P w K mg base 2 "_law_read" ["_law_flow_here", "_law_world", "_law_fresh"] spRead := ok_read T
  have F_l_sure : Fx P w K mg base 3 "_law_sure" ["_law_flow_here", "_law_world", "_law_fresh"] spSimple := ok_sure T
  have F_l_room : Fx P w K mg base 2 "_law_room" ["_law_flow_here", "_law_world"] spRoom := ok_room T
  have F_l_term : Fx P w K mg base 13 "_law_term" ["_law_flow_here", "_law_names_here", "_law_room_here"] (spTerm 11) := ok_term T 11
  refine fx_of T 30 21 rfl rfl sc_l_small (fun _ _ _ _ _ _ us hl => match us, hl with | [_, _, _], _ => rfl) (fun vs H Q E h => ?_) (fun f cdv A outer s H vs Q E hr h => ?_)
  · obtain ⟨f, w, d, fl, W, left, heavy, fr, rfl, _⟩ := h
    rfl
  · obtain ⟨f, w, d, fl, W, left, heavy, fr, rfl, g, wo, q⟩ := h
    have hu := hu_of hr
    refine ⟨_, (pss_cons (ps_set (i := 3) sc_l_small.nd rfl (Or.inl rfl) (pe_F F_l_draw (hr.mono (by omega)) (by rfl) (pa_cons (pv 0) (pa_cons pe_int pa_nil))))
    (pss_cons (ps_dput hu (pv 1) pe_str (pe_op op_sub (pe_dget hu (pv 1) pe_str (fun _ _ => rfl)) pe_int) rfl)
    (pss_cons (ps_if (pt_cmpR op_lt (pv 3) pe_int (nomark _)) (pss_cons (ps_set (i := 4) sc_l_small.nd rfl (Or.inl rfl) (pe_ix ix_list (pe_dget hu (pv 1) pe_str (fun _ _ => rfl)) (pe_F F_l_draw (hr.mono (by omega)) (by rfl) (pa_cons (pv 0) (pa_cons (pe_callB call_len_seq (by rfl) T.n_len PySem.boot_len (pa_cons (pe_dget hu (pv 1) pe_str (fun _ _ => rfl)) pa_nil)) pa_nil))) (fun _ _ => rfl)))
      (pss_cons (ps_expr (pe_dpop2 (pv 2) (pv 4) pe_non ⟨rfl, rfl, rfl, rfl⟩))
      (pss_one (ps_ret (pe_lst (pa_cons (pe_tup (pa_cons pe_str (pa_cons (pv 4) (pa_cons (pe_F F_l_term (hr.mono (by omega)) (by rfl) (pa_cons (pv 0) (pa_cons (pe_dget hu (pv 1) pe_str (fun _ _ => rfl)) (pa_cons (pe_F F_l_room (hr.mono (by omega)) (by rfl) (pa_cons (pv 0) (pa_cons (pv 1) pa_nil))) pa_nil)))) pa_nil)))) pa_nil))))))
     pss_nil)
    (pss_cons (ps_if (pt_cmpR op_lt (pv 3) pe_int (nomark _)) (pss_one (ps_ret (pe_lst (pa_cons (pe_tup (pa_cons pe_str (pa_cons (pe_F F_l_term (hr.mono (by omega)) (by rfl) (pa_cons (pv 0) (pa_cons (pe_dget hu (pv 1) pe_str (fun _ _ => rfl)) (pa_cons (pe_F F_l_room (hr.mono (by omega)) (by rfl) (pa_cons (pv 0) (pa_cons (pv 1) pa_nil))) pa_nil)))) pa_nil))) pa_nil))))
     pss_nil)
    (pss_cons (ps_if (pt_cmpR op_lt (pv 3) pe_int (nomark _)) (pss_one (ps_ret (pe_F F_l_read (hr.mono (by omega)) (by rfl) (pa_cons (pv 0) (pa_cons (pv 1) (pa_cons (pv 2) pa_nil))))))
     pss_nil)
    (pss_one (ps_ret (pe_F F_l_sure (hr.mono (by omega)) (by rfl) (pa_cons (pv 0) (pa_cons (pv 1) (pa_cons (pv 2) pa_nil))))))))))), ?_⟩
    have c1 := wo.c1
    have c2 := wo.c2
    refine ⟨_, rfl, f, fl, 9, rfl, g.fl.at_, g.fl.ok, by decide, by decide, ?_⟩
    have g1 := g.draw (m := 9) (by decide)
    have x1 : Fr [f, w, d] H _ := g.frf (o := .lst (drawN fl 9).lst)
    obtain ⟨kvs, hp, hv⟩ := g1.wv.setL (left - 1)
    have g2 := g1.world hv
    have x2 := x1.trans (g1.frw (o := .dK kvs))
    refine ⟨_, rfl, w, _, rfl, g1.wv.gL, _, _, rfl, rfl, _, rfl, w, _, rfl, hp, ?_⟩
    clear hp hv g1 x1
    generalize upd (upd H f (.lst (drawN fl 9).lst)) w (.dK kvs) = H2 at g2 x2 ⊢
    generalize drawN fl 9 = fl2 at g2 ⊢
    -- a set
    refine ⟨_, rfl, _, _, rfl, rfl, _, rfl, ite2 (fun e => ?_) (fun e => ?_)⟩
    · have d3 := drawV_in fl2 (m := (W.cells.length : Int)) (by omega)
      have g3 := g2.draw (m := (W.cells.length : Int)) (by omega)
      have x3 := x2.trans (g2.frf (o := .lst (drawN fl2 (W.cells.length : Int)).lst))
      obtain ⟨x, hx, ex⟩ := pickS W.cells d3.1 d3.2
      refine ⟨_, rfl, w, _, rfl, g2.wv.gC, _, rfl, _, rfl, w, _, rfl, g2.wv.gC, W.aC, _, rfl, .inl (SqL.of g2.ws.cells), f, fl2, (W.cells.length : Int), by rw [lenS]; rfl, g2.fl.at_, g2.fl.ok, by omega, by omega, W.aC, _, _, _, rfl, rfl, SqL.of g3.ws.cells, ex, ?_⟩
      -- fresh.pop(x, None)
      dsimp only [gName]
      refine drop_cut (fun _ H4 => ∃ fr', Gx H4 f w d (drawN fl2 (W.cells.length : Int)) W (left - 1) heavy fr' ∧ Fr [f, w, d] H H4) (fun Q' hQ => ?_) (fun _ H4 hP => ?_)
      · refine ⟨_, rfl, d, rfl, .inl ⟨fr, .inl g3.fa⟩, _, rfl, fr, Sum.inr x, g3.fa, rfl, fun v _ => ?_, fun _ => ?_⟩
        · exact hQ _ _ ⟨_, g3.fresh (g3.fo.drop _), x3.trans g3.frd⟩
        · exact hQ _ _ ⟨_, g3, x3⟩
      · obtain ⟨fr4, g4, x4⟩ := hP
        refine ⟨_, rfl, _, rfl, _, rfl, w, _, rfl, g4.wv.gC, _, rfl, _, rfl, f, w, d, _, W, _, heavy, _, rfl, g4, fun r H5 fl5 heavy5 g5 x5 r1 r2 => ?_⟩
        refine ⟨f, W.aC, fl5, W.cells, r, rfl, g5.fl, g5.ws.cells, g5.neC, c1, by omega, r1, r2, by omega, fun v H6 fl6 t x6 h6 rt ok pt => ?_⟩
        have g6 := g5.flow x6 h6
        have y6 := (x4.trans x5).trans (x6.mono sub3f)
        refine ⟨sz3, fun p hp => ⟨sz1, fun l hl => ?_⟩⟩
        have y7 := y6.new (o := .tup [.str "set", .str x, v]) hp
        refine q l (.ref p) (.set x t) _ _ _ _ ((g6.new hp).new hl) (y7.new hl) (y7.back _ hl) upd_same ⟨p, v, rfl, by rw [upd_ne (ne_of_none upd_same hl)]; exact upd_same, (rt.mono (Tu.new hp)).mono (Tu.new hl)⟩ ⟨hx, ok, by omega⟩
    · refine ⟨_, rfl, _, _, rfl, rfl, _, rfl, ite2 (fun e => ?_) (fun e => ?_)⟩
      · -- a tell
        refine ⟨_, rfl, _, rfl, w, _, rfl, g2.wv.gC, _, rfl, _, rfl, f, w, d, _, W, _, heavy, _, rfl, g2, fun r H5 fl5 heavy5 g5 x5 r1 r2 => ?_⟩
        refine ⟨f, W.aC, fl5, W.cells, r, rfl, g5.fl, g5.ws.cells, g5.neC, c1, by omega, r1, r2, by omega, fun v H6 fl6 t x6 h6 rt ok pt => ?_⟩
        have g6 := g5.flow x6 h6
        have y6 := (x2.trans x5).trans (x6.mono sub3f)
        refine ⟨sz2, fun p hp => ⟨sz1, fun l hl => ?_⟩⟩
        have y7 := y6.new (o := .tup [.str "tell", v]) hp
        refine q l (.ref p) (.tell t) _ _ _ _ ((g6.new hp).new hl) (y7.new hl) (y7.back _ hl) upd_same ⟨p, v, rfl, by rw [upd_ne (ne_of_none upd_same hl)]; exact upd_same, (rt.mono (Tu.new hp)).mono (Tu.new hl)⟩ ⟨ok, by omega⟩
      · refine ⟨_, rfl, _, _, rfl, rfl, _, rfl, ite2 (fun e => ?_) (fun e => ?_)⟩
        · refine ⟨_, rfl, _, rfl, _, rfl, f, w, d, _, W, _, heavy, _, rfl, g2, wo, fun p v x y H3 fl3 fr3 g3 x3 np ep rs hx hy => ?_⟩
          exact q p v (.read x y) H3 fl3 heavy fr3 g3 (x2.trans x3) (x2.back _ np) ep rs ⟨hx, hy⟩
        · refine ⟨_, rfl, _, rfl, _, rfl, f, w, d, _, W, _, heavy, _, rfl, g2, wo, fun p v s H3 fl3 heavy3 fr3 g3 x3 np ep rs wf => ?_⟩
          exact q p v s H3 fl3 heavy3 fr3 g3 (x2.trans x3) (x2.back _ np) ep rs wf
end
end Kz
set_option Elab.async false
set_option linter.all false
set_option maxRecDepth 100000
set_option maxHeartbeats 4000000
/-! ZW5: shares, bodies are drawn. -/
namespace Kz
open PySem PySem.Spec PyProof.Rows L2
/-- a list of statements comes back, drawn at depth D from the room l -/
def LstPost (f w d : Addr) (W : Wd) (D : Nat) (H : Hp) (l : Int) (Q : VK) : Prop :=
  ∀ p vs b sz dd H' fl' l' heavy' fr', Gx H' f w d fl' W l' heavy' fr' → Fr [f, w, d] H H' → H p = none → H' p = some (.lst vs) → vs.length ≤ 5 → RL H' (4 - D) vs b → Bo W (Pc W D) (9 - D) sz dd b → StepOk D l l' sz dd → Q (.ref p) H'
def spLst (D : Nat) (R : Int → Prop) : Sp := fun vs H Q _ => ∃ (f w d : Addr) (fl : Fl) (W : Wd) (left heavy : Int) (fr : List (Key × V)), vs = [.ref f, .ref w, .ref d, .int D] ∧ R left ∧ Gx H f w d fl W left heavy fr ∧ WOk W ∧ HOk W ∧ 0 ≤ left ∧ LstPost f w d W D H left Q
abbrev spForked (D : Nat) : Sp := spLst D fun _ => D < 2
abbrev spRound (D : Nat) : Sp := spLst D fun _ => D < 2
abbrev spKept (D : Nat) : Sp := spLst D fun l => D = 0 ∧ 6 < l
def spAgain (D : Nat) : Sp := fun vs H Q _ => ∃ (f w d : Addr) (fl : Fl) (W : Wd) (left heavy : Int) (fr : List (Key × V)), vs = [.ref f, .ref w, .ref d] ∧ Gx H f w d fl W left heavy fr ∧ WOk W ∧ HOk W ∧ 0 ≤ left ∧ LstPost f w d W D H left Q
def spBody (D : Nat) : Sp := fun vs H Q _ => ∃ (f w d : Addr) (fl : Fl) (W : Wd) (left heavy : Int) (fr : List (Key × V)), vs = [.ref f, .ref w, .ref d, .int D] ∧ Gx H f w d fl W left heavy fr ∧ WOk W ∧ HOk W ∧ 0 ≤ left ∧ (1 ≤ D → left ≤ 7) ∧
  ∀ p vs b sz dd H' fl' l' heavy' fr', Gx H' f w d fl' W l' heavy' fr' → Fr [f, w, d] H H' → H p = none → H' p = some (.tup vs) → vs.length ≤ 40 → RL H' (4 - D) vs b → Bo W (Pc W D) (9 - D) sz dd b → BodyOk D left l' sz dd → Q (.ref p) H'
def spShare (D : Nat) : Sp := fun vs H Q _ => ∃ (f w d : Addr) (fl : Fl) (W : Wd) (left heavy : Int) (fr : List (Key × V)), vs = [.ref f, .ref w, .ref d, .int D] ∧ Gx H f w d fl W left heavy fr ∧ WOk W ∧ HOk W ∧
  ∀ p vs b sz dd H' fl' l' heavy' fr', Gx H' f w d fl' W l' heavy' fr' → Fr [f, w, d] H H' → H p = none → H' p = some (.tup vs) → vs.length ≤ 40 → RL H' (4 - D) vs b → Bo W (Pc W D) (9 - D) sz dd b → ShareOk D left l' sz dd → Q (.ref p) H'
abbrev pFwd4 : List Str := ["_law_flow_here", "_law_world", "_law_fresh", "_law_deep"]
abbrev pFwd3 : List Str := ["_law_flow_here", "_law_world", "_law_fresh"]
section
variable {P : Program} {w : World} {K : PySem.W.Frag} {mg : Str → Option Value} {base : Heap}
theorem ok_share (T : Tp K mg) {D k : Nat} (hD : D ≤ 2) (hD1 : 1 ≤ D) (hk : 1 ≤ k) (F_l_body : Fx P w K mg base k "_law_body" pFwd4 (spBody D)) : Fx P w K mg base (k + 1) "_law_share" pFwd4 (spShare D) := by
  have F_l_draw : Fx P w K mg base 1 "_law_draw" ["_law_flow_here", "_law_many"] spDraw := ok_draw T
  refine fx_of T 31 22 rfl rfl sc_l_share (fun _ _ _ _ _ _ us hl => match us, hl with | [_, _, _, _], _ => rfl) (fun vs H Q E h => ?_) (fun f cdv A outer s H vs Q E hr h => ?_)
  · obtain ⟨f, w, d, fl, W, left, heavy, fr, rfl, _⟩ := h
    rfl
  · obtain ⟨f, w, d, fl, W, left, heavy, fr, rfl, g, wo, ho, q⟩ := h
    have hu := hu_of hr
    refine ⟨_, (pss_cons (ps_set (i := 4) sc_l_share.nd rfl (Or.inl rfl) (pe_dget hu (pv 1) pe_str (fun _ _ => rfl)))
    (pss_cons (ps_set (i := 5) sc_l_share.nd rfl (Or.inl rfl) (pe_callB (call_max2 rfl) (by rfl) T.n_max (by decide +kernel) (pa_cons pe_int (pa_cons (pe_callB (call_min2 rfl) (by rfl) T.n_min (by decide +kernel) (pa_cons (pv 4) (pa_cons (pe_op op_add pe_int (pe_F F_l_draw (hr.mono (by omega)) (by rfl) (pa_cons (pv 0) (pa_cons pe_int pa_nil)))) pa_nil))) pa_nil))))
    (pss_cons (ps_dput hu (pv 1) pe_str (pv 5) rfl)
    (pss_cons (ps_set (i := 6) sc_l_share.nd rfl (Or.inl rfl) (pe_F F_l_body (hr.mono (by omega)) (by rfl) (pa_cons (pv 0) (pa_cons (pv 1) (pa_cons (pv 2) (pa_cons (pv 3) pa_nil))))))
    (pss_cons (ps_dput hu (pv 1) pe_str (pe_op op_add (pe_op op_sub (pv 4) (pv 5)) (pe_dget hu (pv 1) pe_str (fun _ _ => rfl))) rfl)
    (pss_one (ps_ret (pv 6)))))))), ?_⟩
    refine ⟨_, rfl, w, _, rfl, g.wv.gL, ?_⟩
    have d1 := drawV_in fl (m := 5) (by decide)
    have g1 := g.draw (m := 5) (by decide)
    have x1 : Fr [f, w, d] H _ := g.frf (o := .lst (drawN fl 5).lst)
    refine ⟨_, rfl, _, rfl, f, fl, 5, rfl, g.fl.at_, g.fl.ok, by decide, by decide, _, _, rfl, rfl, _, _, rfl, _, _, rfl, ?_⟩
    obtain ⟨sh, esh, s0, s7, sl, sn⟩ : ∃ sh : Int, (if (if 3 + drawV fl 5 < left then 3 + drawV fl 5 else left) > 0 then (if 3 + drawV fl 5 < left then 3 + drawV fl 5 else left) else 0) = sh ∧ 0 ≤ sh ∧ sh ≤ 7 ∧ (0 < left → sh ≤ left) ∧ (left ≤ 0 → sh = 0) :=
      ⟨_, rfl, by (repeat' split) <;> omega, by (repeat' split) <;> omega, fun _ => by (repeat' split) <;> omega, fun _ => by (repeat' split) <;> omega⟩
    rw [esh]
    obtain ⟨kvs, hp, hv⟩ := g1.wv.setL sh
    have g2 := g1.world hv
    have x2 := x1.trans (g1.frw (o := .dK kvs))
    refine ⟨_, rfl, _, rfl, w, _, rfl, hp, ?_⟩
    refine ⟨_, rfl, _, rfl, _, rfl, _, rfl, f, w, d, _, W, sh, heavy, fr, rfl, g2, wo, ho, s0, fun _ => s7, fun p vs b sz dd H3 fl3 l3 heavy3 fr3 g3 x3 np ep hln rl bo ok => ?_⟩
    obtain ⟨kvs3, hp3, hv3⟩ := g3.wv.setL (left - sh + l3)
    have g4 := g3.world hv3
    have x4 := (x2.trans x3).trans (g3.frw (o := .dK kvs3))
    refine ⟨_, rfl, _, rfl, _, _, rfl, rfl, _, rfl, w, _, rfl, g3.wv.gL, _, _, rfl, rfl, _, rfl, w, _, rfl, hp3, ?_⟩
    have tu := (g3.frw (o := .dK kvs3)).tu
    refine ⟨_, rfl, q p vs b sz dd _ _ _ _ _ g4 x4 (x2.back _ np) (tu _ _ ep) hln (rl.mono tu) bo (ShareOk.of hD s0 sl sn ok)⟩
theorem fx_lst_none (T : Tp K mg) {k D : Nat} {R : Int → Prop} (hR : ∀ l, ¬ R l) : Fx P w K mg base (k + 1) "_law_forked" pFwd4 (spLst D R) ∧ Fx P w K mg base (k + 1) "_law_round" pFwd4 (spLst D R) ∧ Fx P w K mg base (k + 1) "_law_kept" pFwd4 (spLst D R) := by
  refine ⟨?_, ?_, ?_⟩
  · refine fx_of T 32 23 rfl rfl sc_l_forked (fun _ _ _ _ _ _ us hl => match us, hl with | [_, _, _, _], _ => rfl) (fun vs H Q E h => ?_) (fun f cdv A outer s H vs Q E hr h => ?_)
    · obtain ⟨f, w, d, fl, W, left, heavy, fr, rfl, _⟩ := h
      rfl
    · obtain ⟨f, w, d, fl, W, left, heavy, fr, rfl, z, _⟩ := h
      exact (hR _ z).elim
  · refine fx_of T 33 24 rfl rfl sc_l_round (fun _ _ _ _ _ _ us hl => match us, hl with | [_, _, _, _], _ => rfl) (fun vs H Q E h => ?_) (fun f cdv A outer s H vs Q E hr h => ?_)
    · obtain ⟨f, w, d, fl, W, left, heavy, fr, rfl, _⟩ := h
      rfl
    · obtain ⟨f, w, d, fl, W, left, heavy, fr, rfl, z, _⟩ := h
      exact (hR _ z).elim
  · refine fx_of T 35 26 rfl rfl sc_l_kept (fun _ _ _ _ _ _ us hl => match us, hl with | [_, _, _, _], _ => rfl) (fun vs H Q E h => ?_) (fun f cdv A outer s H vs Q E hr h => ?_)
    · obtain ⟨f, w, d, fl, W, left, heavy, fr, rfl, _⟩ := h
      rfl
    · obtain ⟨f, w, d, fl, W, left, heavy, fr, rfl, z, _⟩ := h
      exact (hR _ z).elim
def bodyN : Nat → Nat
  | 0 => 8
  | 1 => 4
  | _ => 3
/-- between two turns of a body's drawing -/
def BodyPv (f w d fo : Addr) (W : Wd) (D : Nat) (left : Int) (H0 : Hp) (i : Nat) (σ : L2.St) (H : Hp) : Prop :=
  ∃ y5 y6 vs b sz dd fl l heavy fr, σ = [some (V.ref f), some (V.ref w), some (V.ref d), some (V.int D), some (V.ref fo), y5, y6] ∧ Gx H f w d fl W l heavy fr ∧ Fr [f, w, d] H0 H ∧ H fo = some (.lst vs) ∧ vs.length ≤ 5 * i ∧
    RL H (4 - D) vs b ∧ Bo W (Pc W D) (9 - D) sz dd b ∧ BodyOk D left l sz dd
theorem ok_body (T : Tp K mg) {D k : Nat} (hD : D ≤ 2) (hk : 15 ≤ k) (F_l_kept : Fx P w K mg base k "_law_kept" pFwd4 (spKept D)) (F_l_forked : Fx P w K mg base k "_law_forked" pFwd4 (spForked D))
    (F_l_round : Fx P w K mg base k "_law_round" pFwd4 (spRound D)) (F_l_again : Fx P w K mg base 15 "_law_again" pFwd3 (spAgain D)) : Fx P w K mg base (k + 1) "_law_body" pFwd4 (spBody D) := by
  have F_l_draw : Fx P w K mg base 1 "_law_draw" ["_law_flow_here", "_law_many"] spDraw := ok_draw T
  have F_l_small : Fx P w K mg base 14 "_law_small" pFwd3 spSmall := ok_small T
  refine fx_of T 36 27 rfl rfl sc_l_body (fun _ _ _ _ _ _ us hl => match us, hl with | [_, _, _, _], _ => rfl) (fun vs H Q E h => ?_) (fun f cdv A outer s H vs Q E hr h => ?_)
  · obtain ⟨f, w, d, fl, W, left, heavy, fr, rfl, _⟩ := h
    rfl
  · obtain ⟨f, w, d, fl, W, left, heavy, fr, rfl, g, wo, ho, hl0, hl7, q⟩ := h
    have hu := hu_of hr
    refine ⟨_, (pss_cons (ps_set (i := 4) sc_l_body.nd rfl (Or.inl rfl) (pe_lst pa_nil))
    (pss_cons (ps_for PassesOwn.never rfl (pi_range1 (by rfl) T.n_range (pa_cons (pe_ix ix_list (pe_lst (pa_cons pe_int (pa_cons pe_int (pa_cons pe_int pa_nil)))) (pv 3) (fun _ _ => rfl)) pa_nil)) (pg_name (i := 5) sc_l_body.nd rfl (Or.inl rfl)) (pss_cons (ps_set (i := 6) sc_l_body.nd rfl (Or.inl rfl) (pe_F F_l_draw (hr.mono (by omega)) (by rfl) (pa_cons (pv 0) (pa_cons pe_int pa_nil))))
      (pss_cons (ps_if (pt_cmpR op_lt (pe_dget hu (pv 1) pe_str (fun _ _ => rfl)) pe_int (nomark _)) (pss_one ps_break)
       pss_nil)
      (pss_cons (ps_dput hu (pv 1) pe_str (pe_op op_sub (pe_dget hu (pv 1) pe_str (fun _ _ => rfl)) pe_int) rfl)
      (pss_one (ps_if (PW.pt (pw_and (pt_cmpR op_eq (pv 6) pe_int (nomark _)) (pw_and (pt_cmpR op_lt (pv 3) pe_int (nomark _)) (pw_and (pt_cmpR op_gt (pe_dget hu (pv 1) pe_str (fun _ _ => rfl)) pe_int (nomark _)) (pw_and1 (pt_cmpR op_eq (pe_F F_l_draw (hr.mono (by omega)) (by rfl) (pa_cons (pv 0) (pa_cons pe_int pa_nil))) pe_int (nomark _))))))) (pss_one (ps_expr (pe_bm PySem.F.plainAttrs_list PySem.F.slot_list_extend PySem.F.type_list_extend mt_extend (pv 4) (pa_cons (pe_F F_l_kept (hr.mono (by omega)) (by rfl) (pa_cons (pv 0) (pa_cons (pv 1) (pa_cons (pv 2) (pa_cons (pv 3) pa_nil))))) pa_nil))))
       (pss_one (ps_if (PW.pt (pw_and (pt_cmpR op_eq (pv 6) pe_int (nomark _)) (pw_and1 (pt_cmpR op_lt (pv 3) pe_int (nomark _))))) (pss_one (ps_expr (pe_bm PySem.F.plainAttrs_list PySem.F.slot_list_extend PySem.F.type_list_extend mt_extend (pv 4) (pa_cons (pe_F F_l_forked (hr.mono (by omega)) (by rfl) (pa_cons (pv 0) (pa_cons (pv 1) (pa_cons (pv 2) (pa_cons (pv 3) pa_nil))))) pa_nil))))
        (pss_one (ps_if (PW.pt (pw_and (pt_cmpR op_eq (pv 6) pe_int (nomark _)) (pw_and1 (pt_cmpR op_lt (pv 3) pe_int (nomark _))))) (pss_one (ps_expr (pe_bm PySem.F.plainAttrs_list PySem.F.slot_list_extend PySem.F.type_list_extend mt_extend (pv 4) (pa_cons (pe_F F_l_round (hr.mono (by omega)) (by rfl) (pa_cons (pv 0) (pa_cons (pv 1) (pa_cons (pv 2) (pa_cons (pv 3) pa_nil))))) pa_nil))))
         (pss_one (ps_if (pt_cmpR op_eq (pv 6) pe_int (nomark _)) (pss_one (ps_expr (pe_bm PySem.F.plainAttrs_list PySem.F.slot_list_extend PySem.F.type_list_extend mt_extend (pv 4) (pa_cons (pe_F F_l_again (hr.mono (by omega)) (by rfl) (pa_cons (pv 0) (pa_cons (pv 1) (pa_cons (pv 2) pa_nil)))) pa_nil))))
          (pss_one (ps_expr (pe_bm PySem.F.plainAttrs_list PySem.F.slot_list_extend PySem.F.type_list_extend mt_extend (pv 4) (pa_cons (pe_F F_l_small (hr.mono (by omega)) (by rfl) (pa_cons (pv 0) (pa_cons (pv 1) (pa_cons (pv 2) pa_nil)))) pa_nil))))))))))))))))
    (pss_one (ps_ret (pe_callTy call_tuple_of (by rfl) T.n_tuple (by decide +kernel) (pa_cons (pv 4) pa_nil)))))), ?_⟩
    refine ⟨Nat.zero_le _, fun fo hfo => ?_⟩
    have nf : fo ∉ [f, w, d] := fun z => by
      simp only [List.mem_cons, List.not_mem_nil, or_false] at z
      rcases z with rfl | rfl | rfl
      · rw [g.fl.at_] at hfo; cases hfo
      · obtain ⟨kv, e⟩ := g.wv.at_
        rw [e] at hfo; cases hfo
      · rw [g.fa] at hfo; cases hfo
    have g0 := g.new (o := .lst []) hfo
    refine ⟨sz3, fun l3 hl3 => ?_⟩
    have g1 := g0.new (o := .lst [.int 8, .int 4, .int 3]) hl3
    have nl3 : fo ≠ l3 := ne_of_none upd_same hl3
    have x1 : Fr [f, w, d] H _ := (Fr.refl.new (o := .lst []) hfo).new (o := .lst [.int 8, .int 4, .int 3]) hl3
    have at3 : atI [V.int 8, V.int 4, V.int 3] (D : Int) = some (.int (bodyN D : Nat)) := by
      have hD : D = 0 ∨ D = 1 ∨ D = 2 := by omega
      rcases hD with rfl | rfl | rfl <;> rfl
    have bN : bodyN D ≤ 8 := by
      have hD : D = 0 ∨ D = 1 ∨ D = 2 := by omega
      rcases hD with rfl | rfl | rfl <;> decide
    refine ⟨_, rfl, l3, _, _, _, rfl, rfl, SqL.of upd_same, at3, (bodyN D : Nat), rfl, by omega, by omega, for_range (lo := 0) (n := bodyN D) (BodyPv f w d fo W D left H) ?_ (fun i σ H2 hi hP => ?_) (fun σ H2 hP => ?_)⟩
    · exact ⟨_, _, [], [], 0, 0, fl, left, heavy, fr, rfl, g1, x1, by rw [upd_ne nl3]; exact upd_same, Nat.le_refl _, .nil, Bo.nil, BodyOk.start hl0⟩
    · obtain ⟨y5, y6, vs, b, sz, dd, fl2, l, heavy2, fr2, rfl, g2, x2, efo, hvs, rl, bo, bk⟩ := hP
      -- way
      have g3 := g2.draw (m := 10) (by decide)
      have x3 := x2.trans (g2.frf (o := .lst (drawN fl2 10).lst))
      refine ⟨_, rfl, f, fl2, 10, rfl, g2.fl.at_, g2.fl.ok, by decide, by decide, ?_⟩
      refine ⟨_, rfl, w, _, rfl, g3.wv.gL, _, _, rfl, rfl, _, rfl, ite2 (fun e => ?_) (fun e => ?_)⟩
      · -- break
        refine ⟨.ref fo, rfl, fo, vs, rfl, .inl ⟨SqL.of ((g2.frf (o := .lst (drawN fl2 10).lst)).keep _ _ nf efo), fun p hp => ?_⟩⟩
        have x4 := x3.new (o := .tup vs) hp
        have tu := ((g2.frf (o := .lst (drawN fl2 10).lst)).new (o := .tup vs) hp).tu
        exact q p vs b sz dd _ _ _ _ _ (g3.new hp) x4 (x3.back _ hp) upd_same (by omega) (rl.mono tu) bo bk
      · have hl1 : 1 ≤ l := by
          have e : ¬ l < 1 := fun z => e (decide_eq_true z)
          omega
        have e3 := (g2.frf (o := .lst (drawN fl2 10).lst)).keep _ _ nf efo
        have r3 := rl.mono (g2.frf (o := .lst (drawN fl2 10).lst)).tu
        obtain ⟨kvs, hp, hv⟩ := g3.wv.setL (l - 1)
        have g4 := g3.world hv
        have y4 := g3.frw (o := .dK kvs)
        have x4 := x3.trans y4
        have e4 := y4.keep _ _ nf e3
        have r4 := r3.mono y4.tu
        refine ⟨_, rfl, w, _, rfl, g3.wv.gL, _, _, rfl, rfl, _, rfl, w, _, rfl, hp, ?_⟩
        clear g3 x3 e3 r3 hp hv y4 g2 x2 efo rl
        generalize upd (upd H2 f (.lst (drawN fl2 10).lst)) w (.dK kvs) = H4 at g4 x4 e4 r4 ⊢
        generalize drawN fl2 10 = fl4 at g4 ⊢
        -- a turn's end
        have fin : ∀ (D1 : Ends) (σ2 : L2.St) (p : Addr) (vs' : List V) (b' : List Sm) (sz' dd' : Nat) (H5 : Hp) (fl5 : Fl) (l5 heavy5 : Int) (fr5 : List (Key × V)), D1.nx = BodyPv f w d fo W D left H (i + 1) → (∃ z5 z6, σ2 = [some (V.ref f), some (V.ref w), some (V.ref d), some (V.int D), some (V.ref fo), z5, z6]) →
            Gx H5 f w d fl5 W l5 heavy5 fr5 → Fr [f, w, d] H4 H5 → H4 p = none → H5 p = some (.lst vs') → vs'.length ≤ 5 → RL H5 (4 - D) vs' b' → Bo W (Pc W D) (9 - D) sz' dd' b' → StepOk D (l - 1) l5 sz' dd' →
            ∃ l b xs zs, V.ref fo = .ref l ∧ [V.ref p] = [.ref b] ∧ H5 l = some (.lst xs) ∧ H5 b = some (.lst zs) ∧ xs.length + zs.length ≤ sizeLine ∧ D1.nx σ2 (upd H5 l (.lst (xs ++ zs))) := by
          intro D1 σ2 p vs' b' sz' dd' H5 fl5 l5 heavy5 fr5 eD hσ g5 x5 np ep hvs' r5 bo5 ok
          obtain ⟨z5, z6, rfl⟩ := hσ
          have e5 := x5.keep _ _ nf e4
          refine ⟨fo, p, vs, vs', rfl, rfl, e5, ep, small40 (by omega), ?_⟩
          rw [eD]
          have x6 : Fr [f, w, d] H (upd H5 fo (.lst (vs ++ vs'))) := (x4.trans x5).own hfo e5
          have y6 : Fr [fo] H5 (upd H5 fo (.lst (vs ++ vs'))) := Fr.refl.mutL (.head _) e5
          have t6 := y6.tu
          have g6 : Gx (upd H5 fo (.lst (vs ++ vs'))) f w d fl5 W l5 heavy5 fr5 := by
            have nfo : ∀ a, a ∈ W.addrs → a ≠ fo := fun a ha z => by
              obtain ⟨o, eo⟩ := g.ws.some a ha
              rw [z, hfo] at eo
              cases eo
            have m1 : f ∉ [fo] := fun z => nf (by rw [← List.mem_singleton.mp z]; exact .head _)
            have m2 : w ∉ [fo] := fun z => nf (by rw [← List.mem_singleton.mp z]; exact mem3w)
            have m3 : d ∉ [fo] := fun z => nf (by rw [← List.mem_singleton.mp z]; exact mem3d)
            exact ⟨g5.fl.keep y6 m1, g5.ws.mono y6 fun a ha z => nfo a ha (List.mem_singleton.mp z), g5.wv.keep y6 m2, y6.keep _ _ m3 g5.fa, g5.fo, g5.sep, g5.dw⟩
          refine ⟨z5, z6, vs ++ vs', b ++ b', sz + sz', dd + dd', fl5, l5, heavy5, fr5, rfl, g6, x6, upd_same, ?_, ?_, bo.app bo5, bk.step hD hl1 ok⟩
          · rw [List.length_append]
            omega
          · exact pd_app ((r4.mono x5.tu).mono t6) (r5.mono t6)
        have hl0' : 0 ≤ l - 1 := by omega
        -- way == 6 and deep < 2 and left > 6 and draw == 0
        try dsimp only [gName]
        refine if_cut (fun c H5 => ∃ fl5, Gx H5 f w d fl5 W (l - 1) heavy2 fr2 ∧ Fr [f, w, d] H4 H5 ∧ (c = true → D < 2 ∧ 6 < l - 1)) (fun Q' hQ => ?_) (fun c H5 hP => ?_)
        · refine ⟨_, rfl, rfl, _, rfl, ite2 (fun _ => ?_) (fun _ => hQ _ _ ⟨_, g4, Fr.refl, fun z => by cases z⟩)⟩
          refine ⟨_, rfl, _, _, rfl, rfl, _, rfl, ite2 (fun e1 => ?_) (fun _ => hQ _ _ ⟨_, g4, Fr.refl, fun z => by cases z⟩)⟩
          have h1 : (D : Int) < 2 := of_decide_eq_true e1
          refine ⟨_, rfl, w, _, rfl, g4.wv.gL, _, _, rfl, rfl, _, rfl, ite2 (fun e2 => ?_) (fun _ => hQ _ _ ⟨_, g4, Fr.refl, fun z => by cases z⟩)⟩
          have h2 : 6 < l - 1 := of_decide_eq_true e2
          refine ⟨_, rfl, f, fl4, 2, rfl, g4.fl.at_, g4.fl.ok, by decide, by decide, rfl, _, rfl, hQ _ _ ⟨_, g4.draw (by decide), g4.frf, fun _ => ⟨by omega, h2⟩⟩⟩
        · obtain ⟨fl5, g5, x5, hc⟩ := hP
          have fin2 := fun (D1 : Ends) (σ2 : L2.St) (p : Addr) (vs' : List V) (b' : List Sm) (sz' dd' : Nat) (H6 : Hp) (fl6 : Fl) (l6 heavy6 : Int) (fr6 : List (Key × V)) eD hσ g6 (x6 : Fr [f, w, d] H5 H6) (np : H5 p = none) ep h5 r6 b6 ok => fin D1 σ2 p vs' b' sz' dd' H6 fl6 l6 heavy6 fr6 eD hσ g6 (x5.trans x6) (x5.back _ np) ep h5 r6 b6 ok
          have hmx : SqL K H5 fo vs := SqL.of (x5.keep _ _ nf e4)
          refine ite2 (fun e => ?_) (fun e => ?_)
          · obtain ⟨h1, h2⟩ := hc e
            have hD0 : D = 0 := by
              rcases Nat.eq_zero_or_pos D with z | z
              · exact z
              · have := hl7 z
                have := bk.le
                omega
            refine ⟨_, rfl, .inl ⟨rfl, _, hmx⟩, _, rfl, _, rfl, _, rfl, _, rfl, f, w, d, fl5, W, _, _, _, rfl, ⟨hD0, h2⟩, g5, wo, ho, hl0', fun p vs' b' sz' dd' H6 fl6 l6 heavy6 fr6 g6 x6 np ep h5 r6 b6 ok => ?_⟩
            exact fin2 _ _ p vs' b' sz' dd' H6 fl6 l6 heavy6 fr6 rfl ⟨_, _, rfl⟩ g6 x6 np ep h5 r6 b6 ok
          · try dsimp only [gName]
            refine if_cut (fun c H6 => H6 = H5 ∧ (c = true → D < 2)) (fun Q' hQ => ?_) (fun c H6 hP => ?_)
            · refine ⟨_, rfl, rfl, _, rfl, ite2 (fun _ => ?_) (fun _ => hQ _ _ ⟨rfl, fun z => by cases z⟩)⟩
              refine ⟨_, rfl, _, _, rfl, rfl, _, rfl, hQ _ _ ⟨rfl, fun e1 => ?_⟩⟩
              have h1 : (D : Int) < 2 := of_decide_eq_true e1
              omega
            · obtain ⟨eH, hc⟩ := hP
              rw [eH]
              clear eH
              refine ite2 (fun e => ?_) (fun e => ?_)
              · refine ⟨_, rfl, .inl ⟨rfl, _, hmx⟩, _, rfl, _, rfl, _, rfl, _, rfl, f, w, d, fl5, W, _, _, _, rfl, hc e, g5, wo, ho, hl0', fun p vs' b' sz' dd' H6 fl6 l6 heavy6 fr6 g6 x6 np ep h5 r6 b6 ok => ?_⟩
                exact fin2 _ _ p vs' b' sz' dd' H6 fl6 l6 heavy6 fr6 rfl ⟨_, _, rfl⟩ g6 x6 np ep h5 r6 b6 ok
              · try dsimp only [gName]
                refine if_cut (fun c H6 => H6 = H5 ∧ (c = true → D < 2)) (fun Q' hQ => ?_) (fun c H6 hP => ?_)
                · refine ⟨_, rfl, rfl, _, rfl, ite2 (fun _ => ?_) (fun _ => hQ _ _ ⟨rfl, fun z => by cases z⟩)⟩
                  refine ⟨_, rfl, _, _, rfl, rfl, _, rfl, hQ _ _ ⟨rfl, fun e1 => ?_⟩⟩
                  have h1 : (D : Int) < 2 := of_decide_eq_true e1
                  omega
                · obtain ⟨eH, hc⟩ := hP
                  rw [eH]
                  clear eH
                  refine ite2 (fun e => ?_) (fun e => ?_)
                  · refine ⟨_, rfl, .inl ⟨rfl, _, hmx⟩, _, rfl, _, rfl, _, rfl, _, rfl, f, w, d, fl5, W, _, _, _, rfl, hc e, g5, wo, ho, hl0', fun p vs' b' sz' dd' H6 fl6 l6 heavy6 fr6 g6 x6 np ep h5 r6 b6 ok => ?_⟩
                    exact fin2 _ _ p vs' b' sz' dd' H6 fl6 l6 heavy6 fr6 rfl ⟨_, _, rfl⟩ g6 x6 np ep h5 r6 b6 ok
                  · refine ⟨_, rfl, rfl, _, rfl, ite2 (fun _ => ?_) (fun _ => ?_)⟩
                    · refine ⟨_, rfl, .inl ⟨rfl, _, hmx⟩, _, rfl, _, rfl, _, rfl, f, w, d, fl5, W, _, _, _, rfl, g5, wo, ho, hl0', fun p vs' b' sz' dd' H6 fl6 l6 heavy6 fr6 g6 x6 np ep h5 r6 b6 ok => ?_⟩
                      exact fin2 _ _ p vs' b' sz' dd' H6 fl6 l6 heavy6 fr6 rfl ⟨_, _, rfl⟩ g6 x6 np ep h5 r6 b6 ok
                    · refine ⟨_, rfl, .inl ⟨rfl, _, hmx⟩, _, rfl, _, rfl, _, rfl, f, w, d, fl5, W, _, _, _, rfl, g5, wo, fun p v s H6 fl6 heavy6 fr6 g6 x6 np ep rs wf => ?_⟩
                      exact fin2 _ _ p [v] [s] 1 1 H6 fl6 _ heavy6 fr6 rfl ⟨_, _, rfl⟩ g6 x6 np ep (by decide : 1 ≤ 5) (.cons (rs.up (Nat.zero_le _)) .nil) (Bo.small wo wf fun _ z => z.sub) (StepOk.small hD hl0' (by omega))
    · obtain ⟨y5, y6, vs, b, sz, dd, fl2, l, heavy2, fr2, rfl, g2, x2, efo, hvs, rl, bo, bk⟩ := hP
      refine ⟨.ref fo, rfl, fo, vs, rfl, .inl ⟨SqL.of efo, fun p hp => ?_⟩⟩
      exact q p vs b sz dd _ _ _ _ _ (g2.new hp) (x2.new hp) (x2.back _ hp) upd_same (by omega) (rl.mono (Tu.new hp)) bo bk
end
end Kz
set_option Elab.async false
set_option linter.all false
set_option maxRecDepth 100000
set_option maxHeartbeats 4000000
/-! ZW6: rounds, forks are drawn. -/
namespace Kz
open PySem PySem.Spec PyProof.Rows L2
section
variable {P : Program} {w : World} {K : PySem.W.Frag} {mg : Str → Option Value} {base : Heap}
theorem ok_round (T : Tp K mg) {D k : Nat} (hD : D < 2) (hk : 1 ≤ k) (F_l_share : Fx P w K mg base k "_law_share" pFwd4 (spShare (D + 1))) : Fx P w K mg base (k + 1) "_law_round" pFwd4 (spRound D) := by
  have F_l_draw : Fx P w K mg base 1 "_law_draw" ["_law_flow_here", "_law_many"] spDrawC := ok_drawC T
  refine fx_of T 33 24 rfl rfl sc_l_round (fun _ _ _ _ _ _ us hl => match us, hl with | [_, _, _, _], _ => rfl) (fun vs H Q E h => ?_) (fun f cdv A outer s H vs Q E hr h => ?_)
  · obtain ⟨f, w, d, fl, W, left, heavy, fr, rfl, _⟩ := h
    rfl
  · obtain ⟨f, w, d, fl, W, left, heavy, fr, rfl, _, g, wo, ho, hl0, q⟩ := h
    have hu := hu_of hr
    refine ⟨_, (pss_cons (ps_par3 (i := 4) (j := 5) (l := 6) rfl sc_l_round.nd rfl rfl rfl (by decide) (by decide) (by decide) rfl rfl rfl (pa_cons (pe_tupC (pa_cons pe_str (pa_cons (pe_ix ix_list (pe_dget hu (pv 1) pe_str (fun _ _ => rfl)) (pv 3) (fun _ _ => rfl)) pa_nil))) (pa_cons (pe_F F_l_draw (hr.mono (by omega)) (by rfl) (pa_cons (pv 0) (pa_cons pe_int pa_nil))) (pa_cons (pe_tupC (pa_cons pe_str (pa_cons (pe_op op_add pe_int (pe_F F_l_draw (hr.mono (by omega)) (by rfl) (pa_cons (pv 0) (pa_cons pe_int pa_nil)))) pa_nil))) pa_nil))) (by rfl))
    (pss_cons (ps_expr (pe_bm0 PySem.F.plainAttrs_dict PySem.F.slot_dict_clear PySem.F.type_dict_clear mtd_clear (pv 2)))
    (pss_cons (ps_if (pt_cmpR op_eq (pv 5) pe_int (nomark _)) (pss_one (ps_ret (pe_lstC (pa_cons (pe_tupC (pa_cons pe_str (pa_cons (pe_tupC (pa_cons pe_str (pa_cons pe_int pa_nil))) (pa_cons (pe_tupC pa_nil) pa_nil)))) pa_nil))))
     pss_nil)
    (pss_cons (ps_dput hu (pv 1) pe_str (pe_op op_sub (pe_dget hu (pv 1) pe_str (fun _ _ => rfl)) pe_int) rfl)
    (pss_cons (ps_par (i := 7) (j := 8) rfl sc_l_round.nd rfl rfl (by decide) rfl rfl (pa_cons (pe_F F_l_share (hr.mono (by omega)) (by rfl) (pa_cons (pv 0) (pa_cons (pv 1) (pa_cons (pe_dnC pe_dnewK) (pa_cons (pe_op op_add (pv 3) pe_int) pa_nil))))) (pa_cons (pe_ix ix_list (pe_dget hu (pv 1) pe_str (fun _ _ => rfl)) (pe_F F_l_draw (hr.mono (by omega)) (by rfl) (pa_cons (pv 0) (pa_cons (pe_callB call_len_seq (by rfl) T.n_len PySem.boot_len (pa_cons (pe_dget hu (pv 1) pe_str (fun _ _ => rfl)) pa_nil)) pa_nil))) (fun _ _ => rfl)) pa_nil)) (by rfl))
    (pss_cons (ps_if (pt_cmpR op_lt (pv 5) pe_int (nomark _)) (pss_cons (ps_set (i := 9) sc_l_round.nd rfl (Or.inl rfl) (pe_tupC (pa_cons (pe_tupC (pa_cons pe_str (pa_cons (pe_ix ix_tup (pv 4) pe_int (fun _ _ => rfl)) (pa_cons (pe_tupC (pa_cons pe_str (pa_cons pe_str (pa_cons (pv 4) (pa_cons (pe_tupC (pa_cons pe_str (pa_cons pe_int pa_nil))) pa_nil))))) pa_nil)))) pa_nil)))
      (pss_one (ps_ret (pe_lstC (pa_cons (pe_tupC (pa_cons pe_str (pa_cons (pe_ix ix_tup (pv 4) pe_int (fun _ _ => rfl)) (pa_cons (pv 6) pa_nil)))) (pa_cons (pe_tupC (pa_cons pe_str (pa_cons (pv 4) (pa_cons (pe_ix ix_list (pe_lstC (pa_cons (pe_op op_catC (pv 7) (pv 9)) (pa_cons (pe_op op_catC (pv 9) (pv 7)) pa_nil))) (pe_F F_l_draw (hr.mono (by omega)) (by rfl) (pa_cons (pv 0) (pa_cons pe_int pa_nil))) (fun _ _ => rfl)) pa_nil)))) pa_nil))))))
     pss_nil)
    (pss_cons (ps_set (i := 10) sc_l_round.nd rfl (Or.inl rfl) (pe_tupC (pa_cons pe_str (pa_cons pe_str (pa_cons (pe_tupC (pa_cons pe_str (pa_cons (pv 8) pa_nil))) (pa_cons (pe_tupC (pa_cons pe_str (pa_cons (pe_ix ix_list (pe_lstC (pa_cons pe_int (pa_cons pe_int pa_nil))) (pe_F F_l_draw (hr.mono (by omega)) (by rfl) (pa_cons (pv 0) (pa_cons pe_int pa_nil))) (fun _ _ => rfl)) pa_nil))) pa_nil))))))
    (pss_cons (ps_par (i := 11) (j := 12) rfl sc_l_round.nd rfl rfl (by decide) rfl rfl (pa_cons (pe_tupC (pa_cons pe_str (pa_cons pe_str (pa_cons (pe_tupC (pa_cons pe_str (pa_cons pe_str (pa_cons (pv 4) (pa_cons (pv 6) pa_nil))))) (pa_cons (pv 10) pa_nil))))) (pa_cons (pe_tupC (pa_cons (pe_tupC (pa_cons pe_str (pa_cons (pe_ix ix_tup (pv 4) pe_int (fun _ _ => rfl)) (pa_cons (pe_tupC (pa_cons pe_str (pa_cons pe_str (pa_cons (pv 4) (pa_cons (pe_tupC (pa_cons pe_str (pa_cons pe_int pa_nil))) pa_nil))))) pa_nil)))) pa_nil)) pa_nil)) (by rfl))
    (pss_one (ps_ret (pe_lstC (pa_cons (pe_tupC (pa_cons pe_str (pa_cons (pe_ix ix_tup (pv 4) pe_int (fun _ _ => rfl)) (pa_cons (pe_tupC (pa_cons pe_str (pa_cons pe_int pa_nil))) pa_nil)))) (pa_cons (pe_tupC (pa_cons pe_str (pa_cons (pv 11) (pa_cons (pe_ix ix_list (pe_lstC (pa_cons (pe_op op_catC (pv 7) (pv 12)) (pa_cons (pe_op op_catC (pv 12) (pv 7)) pa_nil))) (pe_F F_l_draw (hr.mono (by omega)) (by rfl) (pa_cons (pv 0) (pa_cons pe_int pa_nil))) (fun _ _ => rfl)) pa_nil)))) pa_nil))))))))))))), ?_⟩
    have c1 := wo.c1
    have c2 := wo.c2
    obtain ⟨c, ec, hc, hcP, hcU⟩ := ctr_at wo (show D < 3 by omega)
    have eci : atI (W.counters.map V.str) (D : Int) = some (.str c) := atI_nat (by rw [List.getElem?_map, ec]; rfl)
    -- c, form, turns
    refine ⟨_, rfl, w, _, rfl, g.wv.gK, _, rfl, W.aK, _, _, _, rfl, rfl, SqL.of g.ws.counters, eci, sz2, fun pc H1 n1 x1 e1 => ?_⟩
    have g1 := g.ext x1
    refine ⟨_, rfl, f, fl, 6, rfl, g1.fl, by decide, by decide, fun form H2 fl2 f0 f1 h2 x2 => ?_⟩
    have g2 := g1.flow x2 h2
    refine ⟨_, rfl, f, fl2, 2, rfl, g2.fl, by decide, by decide, fun tn H3 fl3 t0 t1 h3 x3 => ⟨_, _, rfl, rfl, sz2, fun pt H4 n4 x4 e4 => ?_⟩⟩
    have g3 := g2.flow x3 h3
    have g4 := g3.ext x4
    have y4 : Fr [f, w, d] H H4 := ((x1.e3.trans x2.f3).trans x3.f3).trans x4.e3
    have rc : RT H4 (.ref pc) (.cell c) := ⟨pc, rfl, x4.tups _ _ (x3.tups _ _ (x2.tups _ _ e1))⟩
    have rt : RT H4 (.ref pt) (.num (1 + tn)) := ⟨pt, rfl, e4⟩
    refine ⟨_, _, _, rfl, ?_⟩
    clear h2 h3 g1 g2 g3 e1 e4 n1 n4 x1 x2 x3 x4
    -- fresh.clear()
    refine ⟨_, rfl, .inr (.inr (.inl ⟨rfl, .inl ⟨_, g4.fa⟩⟩)), d, fr, rfl, rfl, g4.fa, ?_⟩
    have g5 := g4.fresh (FrOk.nil W)
    have x5 : Fr [d] H4 (upd H4 d (.dK [])) := Fr.refl.mutD (.head _) g4.fa
    generalize upd H4 d (.dK []) = H5 at g5 x5 ⊢
    have y5 := y4.trans x5.d3
    have rc := rc.mono x5.tu
    have rt := rt.mono x5.tu
    clear y4 g4 x5
    refine ⟨_, rfl, rfl, _, rfl, ite2 (fun e => ?_) (fun e => ?_)⟩
    · -- a round that never goes
      refine ⟨sz2, fun p1 H6 n6 x6 e6 => ⟨Nat.zero_le _, fun p2 H7 n7 x7 e7 => ⟨sz3, fun p3 H8 n8 x8 e8 => ⟨sz1, fun p4 H9 n9 x9 e9 => ?_⟩⟩⟩⟩
      have x69 : Fr [] H5 H9 := ((x6.trans x7).trans x8).trans x9
      have y9 := y5.trans x69.e3
      refine q p4 [.ref p3] [.wh (.num 0) []] 1 1 H9 _ _ _ _ (g5.ext x69) y9 (y5.back _ ((x6.trans (x7.trans x8)).back _ n9)) e9 (by decide : 1 ≤ 5) (.cons ?_ .nil) ((Bo.never).up (by omega)) (StepOk.never hD hl0)
      have e4D : 4 - D = (3 - D) + 1 := by omega
      rw [e4D]
      exact ⟨p3, _, p2, [], rfl, x9.tups _ _ e8, ⟨p1, rfl, x9.tups _ _ (x8.tups _ _ (x7.tups _ _ e6))⟩, x9.tups _ _ (x8.tups _ _ e7), .nil⟩
    · -- left - 2
      obtain ⟨kvs, hp, hv⟩ := g5.wv.setL (left - 2)
      have g6 := g5.world hv
      have x6 : Fr [w] H5 (upd H5 w (.dK kvs)) := let ⟨_, e⟩ := g5.wv.at_; Fr.refl.mutD (.head _) e
      refine ⟨_, rfl, w, _, rfl, g5.wv.gL, _, _, rfl, rfl, _, rfl, w, _, rfl, hp, ?_⟩
      clear hp hv
      generalize upd H5 w (.dK kvs) = H6 at g6 x6 ⊢
      have y6 := y5.trans x6.w3
      have rc := rc.mono x6.tu
      have rt := rt.mono x6.tu
      clear y5 g5 x6
      -- the body
      refine ⟨_, rfl, _, rfl, fun nd H7 n7 x7 e7 => ?_⟩
      have g7 := g6.ext x7
      have g7n : Gx H7 f w nd fl3 W (left - 2) heavy [] := g6.newD n7 x7 e7 (FrOk.nil W)
      refine ⟨_, rfl, _, _, rfl, rfl, f, w, nd, _, W, _, _, _, rfl, g7n, wo, ho, fun pb vb b szb db H8 fl8 l8 heavy8 fr8 g8 x8 n8 e8 lb rb bb sb => ?_⟩
      obtain ⟨g8d, x68⟩ := Gx.back g7 n7 ⟨_, g6.fa⟩ x7.e3 x8 g8
      have y8 := y6.trans x68
      have rc := rc.mono x68.tu
      have rt := rt.mono x68.tu
      have e43 : 4 - (D + 1) = 3 - D := by omega
      have e98 : 9 - (D + 1) = 8 - D := by omega
      rw [e43] at rb
      rw [e98] at bb
      clear g8 g7n g7 x7 e7 n7 x68 g6 y6
      -- x
      refine ⟨_, rfl, w, _, rfl, g8d.wv.gC, _, rfl, _, rfl, w, _, rfl, g8d.wv.gC, W.aC, _, rfl, .inl (SqL.of g8d.ws.cells), f, fl8, (W.cells.length : Int), by rw [lenS]; rfl, g8d.fl, by omega, by omega, fun xv H9 fl9 v0 v1 h9 x9 => ?_⟩
      have g9 := g8d.flow x9 h9
      have y9 := y8.trans x9.f3
      have rc := rc.mono x9.tu
      have rt := rt.mono x9.tu
      have rb := rb.mono x9.tu
      have e9 := x9.tups _ _ e8
      obtain ⟨x, hx, ex⟩ := pickS W.cells v0 v1
      refine ⟨W.aC, _, _, _, rfl, rfl, SqL.of g9.ws.cells, ex, _, _, rfl, ?_⟩
      clear x9 h9 y8 e8 g8d
      obtain ⟨pc', epc, ec9⟩ : ∃ a, V.ref pc = .ref a ∧ H9 a = some (.tup [.str "cell", .str c]) := rc
      cases epc
      have rc : RT H9 (.ref pc) (.cell c) := ⟨pc, rfl, ec9⟩
      refine ⟨_, rfl, _, _, rfl, rfl, _, rfl, ite2 (fun _ => ?_) (fun _ => ?_)⟩
      · -- down
        refine ⟨_, rfl, pc, _, 1, .str c, rfl, rfl, SqT.of ec9, rfl, _, rfl, sz2, fun p1 Ha na xa ea => ⟨sz4, fun p2 Hb nb xb eb => ⟨sz3, fun p3 Hc nc xc ec => ⟨sz1, fun p4 Hd nd xd ed => ?_⟩⟩⟩⟩
        have x9d : Fr [] H9 Hd := ((xa.trans xb).trans xc).trans xd
        have rl : RS Hd 0 (.ref p3) (sLess c) := ⟨p3, _, rfl, xd.tups _ _ ec, ⟨p2, _, _, rfl, xd.tups _ _ (xc.tups _ _ eb), rc.mono x9d.tu, ⟨p1, rfl, xd.tups _ _ (xc.tups _ _ (xb.tups _ _ ea))⟩⟩⟩
        have gd := g9.ext x9d
        have yd := y9.trans x9d.e3
        have rc := rc.mono x9d.tu
        have rt := rt.mono x9d.tu
        have rb := rb.mono x9d.tu
        have e9 := x9d.tups _ _ e9
        have ec9 := x9d.tups _ _ ec9
        clear xa ea na xb eb nb xc ec nc xd x9d g9 y9
        refine ⟨_, rfl, pc, _, 1, .str c, rfl, rfl, SqT.of ec9, rfl, _, rfl, sz3, fun p5 He ne xe ee => ?_⟩
        have e9 := xe.tups _ _ e9
        have ed := xe.tups _ _ ed
        have ec9 := xe.tups _ _ ec9
        have fin : ∀ (body : List Sm) (pw : Addr) (vw : List V) (H' : Hp) (fl' : Fl) (p7 p8 : Addr), Rnd b (sLess c) body → Gx H' f w d fl' W l8 heavy8 [] → Fr [f, w, d] H H' → H p8 = none → H' p8 = some (.lst [.ref p5, .ref p7]) → H' p5 = some (.tup [.str "set", .str c, .ref pt]) → H' p7 = some (.tup [.str "while", .ref pc, .ref pw]) → H' pw = some (.tup vw) → RL H' (3 - D) vw body →
            RT H' (.ref pc) (.cell c) → RT H' (.ref pt) (.num (1 + tn)) → Q (.ref p8) H' := by
          intro body pw vw H' fl' p7 p8 hr g' y' n' e8 h5 h7 hw rw' rc' rt'
          refine q p8 _ [.set c (.num (1 + tn)), .wh (.cell c) body] _ _ H' fl' l8 heavy8 [] g' y' n' e8 (by decide : 2 ≤ 5) ?_ ?_ (StepOk.round hD hl0 sb)
          · have e4D : 4 - D = (3 - D) + 1 := by omega
            rw [e4D]
            exact .cons ⟨p5, _, rfl, h5, rt'⟩ (.cons ⟨p7, _, pw, vw, rfl, h7, rc', hw, rw'⟩ .nil)
          · have e9D : 9 - D = (8 - D) + 1 := by omega
            rw [e9D]
            exact Bo.down (by omega) hc hcP (by unfold NN; omega) (bb.mono hcU (Nat.le_refl _) (Nat.le_refl _) (Nat.le_refl _)) hr
        refine ⟨_, rfl, _, rfl, _, rfl, pb, p4, vb, _, rfl, rfl, e9, ed, small40 (by show vb.length + 1 ≤ 1000; omega), fun p6 Hf xf ef => ?_⟩
        have e9 := xf.tups _ _ e9
        have ed := xf.tups _ _ ed
        refine ⟨_, rfl, _, rfl, p4, pb, _, vb, rfl, rfl, ed, e9, small40 (by show 1 + vb.length ≤ 1000; omega), fun p7 Hg xg eg => ?_⟩
        have ef := xg.tups _ _ ef
        refine ⟨sz2, fun l Hh nh xh eh => ?_⟩
        have x9h : Fr [] Hd Hh := ((xe.trans xf).trans xg).trans xh
        refine ⟨_, rfl, f, _, 2, rfl, (gd.ext x9h).fl, by decide, by decide, fun v Hi fli v0 v1 hi xi => ?_⟩
        have gi := (gd.ext x9h).flow xi hi
        have yi := (yd.trans x9h.e3).trans xi.f3
        have tu : Tu Hd Hi := x9h.tu.trans xi.tu
        have el : Hi l = some (.lst [.ref p6, .ref p7]) := xi.keep _ _ (fun z => by
          have := (gd.ext (xe.trans (xf.trans xg))).fl.at_
          rw [← List.mem_singleton.mp z, nh] at this
          cases this) eh
        have rs1 : RS Hi (3 - D) (.ref p3) (sLess c) := (rl.mono tu).up (Nat.zero_le _)
        have rb' := rb.mono tu
        have e5 : Hi p5 = some (.tup [.str "set", .str c, .ref pt]) := xi.tups _ _ (xh.tups _ _ (xg.tups _ _ (xf.tups _ _ ee)))
        refine ix2_cut el v0 v1 (fun _ => ⟨sz3, fun p8 Hj nj xj ej => ⟨sz2, fun p9 Hk nk xk ek => ?_⟩⟩) (fun _ => ⟨sz3, fun p8 Hj nj xj ej => ⟨sz2, fun p9 Hk nk xk ek => ?_⟩⟩)
        · have xjk : Fr [] Hi Hk := xj.trans xk
          exact fin (b ++ [sLess c]) p6 _ Hk _ p8 p9 (.inl rfl) (gi.ext xjk) (yi.trans xjk.e3) (yi.back _ (xj.back _ nk)) ek (xjk.tups _ _ e5) (xk.tups _ _ ej) (xjk.tups _ _ (xi.tups _ _ (xh.tups _ _ ef)))
            (pd_app (rb'.mono xjk.tu) (.cons (rs1.mono xjk.tu) .nil)) (rc.mono (tu.trans xjk.tu)) (rt.mono (tu.trans xjk.tu))
        · have xjk : Fr [] Hi Hk := xj.trans xk
          exact fin (sLess c :: b) p7 _ Hk _ p8 p9 (.inr rfl) (gi.ext xjk) (yi.trans xjk.e3) (yi.back _ (xj.back _ nk)) ek (xjk.tups _ _ e5) (xk.tups _ _ ej) (xjk.tups _ _ (xi.tups _ _ (xh.tups _ _ eg)))
            (.cons (rs1.mono xjk.tu) (rb'.mono xjk.tu)) (rc.mono (tu.trans xjk.tu)) (rt.mono (tu.trans xjk.tu))
      · -- up
        dsimp only [tNext]
        refine asg_cut (fun v Hc => ∃ (pl : Addr) (l : Int) (flc : Fl), v = .ref pl ∧ (l = 3 ∨ l = 500000) ∧ RT Hc (.ref pl) (.op "<" (.cell x) (.num l)) ∧ Gx Hc f w d flc W l8 heavy8 [] ∧ Fr [f] H9 Hc) (fun Q' hQ => ?_) (fun v Hc hP => ?_)
        · refine ⟨_, rfl, sz2, fun q1 Ha na xa ea => ⟨sz2, fun l1 Hb nb xb eb => ?_⟩⟩
          have xab : Fr [] H9 Hb := xa.trans xb
          refine ⟨_, rfl, f, _, 2, rfl, (g9.ext xab).fl, by decide, by decide, fun d1 Hc flc d10 d11 hc' xc => ?_⟩
          have gc := (g9.ext xab).flow xc hc'
          have ea' : Hc q1 = some (.tup [.str "cell", .str x]) := xc.tups _ _ (xb.tups _ _ ea)
          have eb' : Hc l1 = some (.lst [.int 3, .int 500000]) := xc.keep _ _ (fun z => by
            have := (g9.ext xa).fl.at_
            rw [← List.mem_singleton.mp z, nb] at this
            cases this) eb
          have low : ∀ (l : Int), l = 3 ∨ l = 500000 → 2 ≤ sizeLine ∧ ∀ p H', Hc p = none → Fr [] Hc H' → H' p = some (.tup [.str "num", .int l]) → (4 ≤ sizeLine ∧ ∀ p2 H2, H' p2 = none → Fr [] H' H2 → H2 p2 = some (.tup [.str "op", .str "<", .ref q1, .ref p]) → Q' (.ref p2) H2) := by
            intro l hl
            refine ⟨sz2, fun p H' n' x' e' => ⟨sz4, fun p2 H2 n2 x2 e2 => hQ _ _ ⟨p2, l, _, rfl, hl, ?_, gc.ext (x'.trans x2), ((xab.mono fun _ h => nomatch h).trans xc).trans ((x'.trans x2).mono fun _ h => nomatch h)⟩⟩⟩
            exact ⟨p2, _, _, rfl, e2, ⟨q1, rfl, x2.tups _ _ (x'.tups _ _ ea')⟩, ⟨p, rfl, x2.tups _ _ e'⟩⟩
          exact ix2_cut eb' d10 d11 (fun _ => low 3 (.inl rfl)) (fun _ => low 500000 (.inr rfl))
        · obtain ⟨pl, l, flc, rfl, hl, rlit, gc, xc⟩ := hP
          have yc := y9.trans xc.f3
          have rc := rc.mono xc.tu
          have rt := rt.mono xc.tu
          have rb := rb.mono xc.tu
          have e9 := xc.tups _ _ e9
          have ec9 := xc.tups _ _ ec9
          clear xc g9 y9
          -- test, more
          refine ⟨_, rfl, _, rfl, sz4, fun p1 Hd nd1 xd1 ed1 => ⟨_, rfl, sz4, fun p2 He ne xe ee => ⟨_, rfl, ?_⟩⟩⟩
          refine ⟨pc, _, 1, .str c, rfl, rfl, SqT.of (xe.tups _ _ (xd1.tups _ _ ec9)), rfl, _, rfl, sz2, fun p3 Hf nf xf ef => ⟨sz4, fun p4 Hg ng xg eg => ⟨sz3, fun p5 Hh nh xh eh => ⟨sz1, fun p6 Hi ni xi ei => ⟨_, _, rfl, ?_⟩⟩⟩⟩⟩
          have x3i : Fr [] He Hi := ((xf.trans xg).trans xh).trans xi
          have xci : Fr [] Hc Hi := (xd1.trans xe).trans x3i
          have rtest : RT Hi (.ref p2) (.op "*" (.op "<" (.cell c) (.num (1 + tn))) (.op "<" (.cell x) (.num l))) :=
            ⟨p2, _, _, rfl, x3i.tups _ _ ee, ⟨p1, _, _, rfl, x3i.tups _ _ (xe.tups _ _ ed1), rc.mono xci.tu, rt.mono xci.tu⟩, rlit.mono xci.tu⟩
          have rm : RS Hi 0 (.ref p5) (sMore c) := ⟨p5, _, rfl, xi.tups _ _ eh, ⟨p4, _, _, rfl, xi.tups _ _ (xh.tups _ _ eg), rc.mono xci.tu, ⟨p3, rfl, xi.tups _ _ (xh.tups _ _ (xg.tups _ _ ef))⟩⟩⟩
          have gi := gc.ext xci
          have yi := yc.trans xci.e3
          have rb := rb.mono xci.tu
          have e9 := xci.tups _ _ e9
          have ec9 := xci.tups _ _ ec9
          clear xf xg xh xi x3i xci ef eg eh nf ng nh ni xd1 xe ed1 ee nd1 ne rlit rc rt gc yc
          -- the statements
          refine ⟨_, rfl, pc, _, 1, .str c, rfl, rfl, SqT.of ec9, rfl, sz2, fun p7 Hj nj xj ej => ⟨sz3, fun p8 Hk nk xk ek => ?_⟩⟩
          have xik : Fr [] Hi Hk := xj.trans xk
          have r7 : RT Hk (.ref p7) (.num 0) := ⟨p7, rfl, xk.tups _ _ ej⟩
          have e9 := xik.tups _ _ e9
          have ei := xik.tups _ _ ei
          have rtest := rtest.mono xik.tu
          have rm := rm.mono xik.tu
          have rb := rb.mono xik.tu
          have gk := gi.ext xik
          have yk := yi.trans xik.e3
          clear xj xk xik gi yi nj nk ej
          have fin : ∀ (body : List Sm) (pw : Addr) (vw : List V) (H' : Hp) (fl' : Fl) (p9 p10 : Addr), Rnd b (sMore c) body → Gx H' f w d fl' W l8 heavy8 [] → Fr [f, w, d] H H' → H p10 = none → H' p10 = some (.lst [.ref p8, .ref p9]) → H' p8 = some (.tup [.str "set", .str c, .ref p7]) → H' p9 = some (.tup [.str "while", .ref p2, .ref pw]) → H' pw = some (.tup vw) → RL H' (3 - D) vw body →
              RT H' (.ref p7) (.num 0) → RT H' (.ref p2) (.op "*" (.op "<" (.cell c) (.num (1 + tn))) (.op "<" (.cell x) (.num l))) → Q (.ref p10) H' := by
            intro body pw vw H' fl' p9 p10 hr g' y' n' e10 h8 h9 hw rw' r7' rt'
            refine q p10 _ [.set c (.num 0), .wh (.op "*" (.op "<" (.cell c) (.num (1 + tn))) (.op "<" (.cell x) (.num l))) body] _ _ H' fl' l8 heavy8 [] g' y' n' e10 (by decide : 2 ≤ 5) ?_ ?_ (StepOk.round hD hl0 sb)
            · have e4D : 4 - D = (3 - D) + 1 := by omega
              rw [e4D]
              exact .cons ⟨p8, _, rfl, h8, r7'⟩ (.cons ⟨p9, _, pw, vw, rfl, h9, rt', hw, rw'⟩ .nil)
            · have e9D : 9 - D = (8 - D) + 1 := by omega
              rw [e9D]
              exact Bo.rise (by omega) hl hc hx hcP (by unfold NN; omega) (bb.mono hcU (Nat.le_refl _) (Nat.le_refl _) (Nat.le_refl _)) hr
          refine ⟨_, rfl, _, rfl, _, rfl, pb, p6, vb, _, rfl, rfl, e9, ei, small40 (by show vb.length + 1 ≤ 1000; omega), fun pf Hf xf ef => ?_⟩
          have e9 := xf.tups _ _ e9
          have ei := xf.tups _ _ ei
          refine ⟨_, rfl, _, rfl, p6, pb, _, vb, rfl, rfl, ei, e9, small40 (by show 1 + vb.length ≤ 1000; omega), fun pg Hg xg eg => ?_⟩
          have ef := xg.tups _ _ ef
          refine ⟨sz2, fun ll Hh nh xh eh => ?_⟩
          have xkh : Fr [] Hk Hh := (xf.trans xg).trans xh
          refine ⟨_, rfl, f, _, 2, rfl, (gk.ext xkh).fl, by decide, by decide, fun v Hl fll v0 v1 hl' xl => ?_⟩
          have gl := (gk.ext xkh).flow xl hl'
          have yl := (yk.trans xkh.e3).trans xl.f3
          have tu : Tu Hk Hl := xkh.tu.trans xl.tu
          have el : Hl ll = some (.lst [.ref pf, .ref pg]) := xl.keep _ _ (fun z => by
            have := (gk.ext (xf.trans xg)).fl.at_
            rw [← List.mem_singleton.mp z, nh] at this
            cases this) eh
          have rs1 : RS Hl (3 - D) (.ref p5) (sMore c) := (rm.mono tu).up (Nat.zero_le _)
          have rb' := rb.mono tu
          have e8 := tu _ _ ek
          refine ix2_cut el v0 v1 (fun _ => ⟨sz3, fun p9 Hm nm xm em => ⟨sz2, fun p10 Hn nn xn en => ?_⟩⟩) (fun _ => ⟨sz3, fun p9 Hm nm xm em => ⟨sz2, fun p10 Hn nn xn en => ?_⟩⟩)
          · have xjk : Fr [] Hl Hn := xm.trans xn
            exact fin (b ++ [sMore c]) pf _ Hn _ p9 p10 (.inl rfl) (gl.ext xjk) (yl.trans xjk.e3) (yl.back _ (xm.back _ nn)) en (xjk.tups _ _ e8) (xn.tups _ _ em) (xjk.tups _ _ (xl.tups _ _ (xh.tups _ _ ef)))
              (pd_app (rb'.mono xjk.tu) (.cons (rs1.mono xjk.tu) .nil)) (r7.mono (tu.trans xjk.tu)) (rtest.mono (tu.trans xjk.tu))
          · have xjk : Fr [] Hl Hn := xm.trans xn
            exact fin (sMore c :: b) pg _ Hn _ p9 p10 (.inr rfl) (gl.ext xjk) (yl.trans xjk.e3) (yl.back _ (xm.back _ nn)) en (xjk.tups _ _ e8) (xn.tups _ _ em) (xjk.tups _ _ (xl.tups _ _ (xh.tups _ _ eg)))
              (.cons (rs1.mono xjk.tu) (rb'.mono xjk.tu)) (r7.mono (tu.trans xjk.tu)) (rtest.mono (tu.trans xjk.tu))
end
end Kz
set_option Elab.async false
set_option linter.all false
set_option maxRecDepth 100000
set_option maxHeartbeats 4000000
/-! ZW7: forks are drawn. -/
namespace Kz
open PySem PySem.Spec PyProof.Rows L2
/-- an arm that was drawn -/
def Arm (W : Wd) (D : Nat) (H : Hp) (p : Addr) (b : List Sm) (l l' : Int) (sz dd : Nat) : Prop := ∃ vs, H p = some (.tup vs) ∧ RL H (3 - D) vs b ∧ Bo W (Pc W (D + 1)) (8 - D) sz dd b ∧ ShareOk (D + 1) l l' sz dd
theorem Arm.mono {W : Wd} {D : Nat} {H H' : Hp} {p : Addr} {b : List Sm} {l l' : Int} {sz dd : Nat} (t : Tu H H') : Arm W D H p b l l' sz dd → Arm W D H' p b l l' sz dd := fun ⟨vs, h1, h2, h3⟩ => ⟨vs, t _ _ h1, h2.mono t, h3⟩
def Arms (W : Wd) (D : Nat) (H : Hp) (left : Int) : Nat → List V → Int → Prop
  | 0, acc, l => acc = [] ∧ l = left
  | 1, acc, l => ∃ p b sz dd, acc = [.ref p] ∧ Arm W D H p b left l sz dd
  | _, acc, l => ∃ p1 b1 sz1 dd1 l1 p2 b2 sz2 dd2, acc = [.ref p1, .ref p2] ∧ Arm W D H p1 b1 left l1 sz1 dd1 ∧ Arm W D H p2 b2 l1 l sz2 dd2
def ForkPv (f w d s0 s1 ls D : Addr) (W : Wd) (dp : Nat) (left : Int) (Hb Hc : Hp) (fr : List (Key × V)) (i : Nat) (H : Hp) : Prop :=
  ∃ fl l heavy acc fr0 fr1, Gx H f w d fl W l heavy fr ∧ Fr [f, w, d] Hb H ∧ H ls = some (.lst [.ref s0, .ref s1]) ∧ H s0 = some (.dK fr0) ∧ FrOk W fr0 ∧ H s1 = some (.dK fr1) ∧ FrOk W fr1 ∧ H D = some (.lst acc) ∧ Arms W dp H left i acc l ∧ Tu Hc H
section
variable {P : Program} {w : World} {K : PySem.W.Frag} {mg : Str → Option Value} {base : Heap}
theorem ok_forked (T : Tp K mg) {D k : Nat} (hD : D < 2) (hk : 13 ≤ k) (F_l_share : Fx P w K mg base k "_law_share" pFwd4 (spShare (D + 1))) : Fx P w K mg base (k + 1) "_law_forked" pFwd4 (spForked D) := by
  have F_l_term : Fx P w K mg base 13 "_law_term" ["_law_flow_here", "_law_names_here", "_law_room_here"] (spTerm 11) := ok_term T 11
  have F_l_room : Fx P w K mg base 2 "_law_room" ["_law_flow_here", "_law_world"] spRoom := ok_room T
  refine fx_of T 32 23 rfl rfl sc_l_forked (fun _ _ _ _ _ _ us hl => match us, hl with | [_, _, _, _], _ => rfl) (fun vs H Q E h => ?_) (fun f cdv A outer s H vs Q E hr h => ?_)
  · obtain ⟨f, w, d, fl, W, left, heavy, fr, rfl, _⟩ := h
    rfl
  · obtain ⟨f, w, d, fl, W, left, heavy, fr, rfl, _, g, wo, ho, hl0, q⟩ := h
    have hu := hu_of hr
    refine ⟨_, (pss_cons (ps_set (i := 4) sc_l_forked.nd rfl (Or.inl rfl) (pe_F F_l_term (hr.mono (by omega)) (by rfl) (pa_cons (pv 0) (pa_cons (pe_dget hu (pv 1) pe_str (fun _ _ => rfl)) (pa_cons (pe_F F_l_room (hr.mono (by omega)) (by rfl) (pa_cons (pv 0) (pa_cons (pv 1) pa_nil))) pa_nil)))))
    (pss_cons (ps_set (i := 5) sc_l_forked.nd rfl (Or.inr rfl) (pe_lstC (pa_cons (pe_callTy call_dictC (by rfl) T.n_dict (by decide +kernel) (pa_cons (pv 2) pa_nil)) (pa_cons (pe_callTy call_dictC (by rfl) T.n_dict (by decide +kernel) (pa_cons (pv 2) pa_nil)) pa_nil))))
    (pss_cons (ps_setLc (i := 6) (own := [("_law_k", 8)]) rfl sc_l_forked.nd rfl rfl (sw_true rfl rfl rfl (by decide +kernel)) (pi_range1 (by rfl) T.n_range (pa_cons pe_int pa_nil)) (blkOk_by (own := [("_law_k", 8)]) (N := N_l_forked) (sc := defScope s_l_forked) (by decide +kernel)) (fun _ _ _ _ _ => (pg_name (i := 8) sc_l_forked.nd rfl (Or.inl rfl))) (fun _ _ _ _ _ => pts_nil) (fun _ _ _ _ _ => (pe_F F_l_share (hr.mono (by omega)) (by rfl) (pa_cons (pv 0) (pa_cons (pv 1) (pa_cons (pe_ix (ix_listB (K := K) rfl) (pv 5) (pv 8) (fun _ _ => rfl)) (pa_cons (pe_op op_add (pv 3) pe_int) pa_nil)))))))
    (pss_cons (ps_expr (pe_bm0 PySem.F.plainAttrs_dict PySem.F.slot_dict_clear PySem.F.type_dict_clear mtd_clear (pv 2)))
    (pss_cons (ps_lock (ps_for PassesOwn.never rfl (pi_keys (pe_ix ix_list (pv 5) pe_int (fun _ _ => rfl))) (pg_name (i := 7) sc_l_forked.nd rfl (Or.inl rfl)) (pss_one (ps_if (pt_cmp (pc_din hu (pv 7) (pe_ix ix_list (pv 5) pe_int (fun _ _ => rfl))) (by rfl)) (pss_one (ps_dput hu (pv 2) (pv 7) pe_bl rfl))
       pss_nil))))
    (pss_one (ps_ret (pe_lstC (pa_cons (pe_tupC (pa_cons pe_str (pa_cons (pv 4) (pa_cons (pe_ix ix_list (pv 6) pe_int (fun _ _ => rfl)) (pa_cons (pe_ix ix_list (pv 6) pe_int (fun _ _ => rfl)) pa_nil))))) pa_nil))))))))), ?_⟩
    have c1 := wo.c1
    have c2 := wo.c2
    refine ⟨_, rfl, _, rfl, w, _, rfl, g.wv.gC, _, rfl, _, rfl, f, w, d, fl, W, left, heavy, fr, rfl, g, fun r H1 fl1 heavy1 g1 x1 r1 r11 => ⟨f, W.aC, fl1, W.cells, r, rfl, g1.fl, g1.ws.cells, (g1.sep _ (.head _)).1, c1, by omega, r1, r11, by omega, fun v H2 fl2 t x2 h2 rt tok tp => ?_⟩⟩
    have g2 := g1.flow x2 h2
    have x02 := x1.trans x2.f3
    clear g1 x1 x2 h2
    -- two dicts
    refine ⟨_, rfl, d, fr, rfl, g2.fa, fun s0 H3 n0 x3 e3 => ?_⟩
    have g3 := g2.ext x3
    refine ⟨_, rfl, d, fr, rfl, g3.fa, fun s1 H4 n1 x4 e4 => ⟨sz2, fun ls H5 nl x5 e5 => ?_⟩⟩
    have g4 := g3.ext x4
    have g5 := g4.ext x5
    have es0 : H5 s0 = some (.dK fr) := x5.keep _ _ (fun z => nomatch z) (x4.keep _ _ (fun z => nomatch z) e3)
    have es1 : H5 s1 = some (.dK fr) := x5.keep _ _ (fun z => nomatch z) e4
    have rt := rt.mono ((x3.trans x4).trans x5).tu
    have x25 : Fr [] H2 H5 := (x3.trans x4).trans x5
    have x05 := x02.trans x25.e3
    have ap0 := g2.apart n0
    have ap1 := g3.apart n1
    have apl := g4.apart nl
    have n01 : s0 ≠ s1 := ne_of_none e3 n1
    have n0l : s0 ≠ ls := ne_of_none (x4.keep _ _ (fun z => nomatch z) e3) nl
    have n1l : s1 ≠ ls := ne_of_none e4 nl
    -- none of the two at first
    have b0 : H s0 = none := x02.back _ n0
    have b1 : H s1 = none := (x02.trans x3.e3).back _ n1
    clear g2 g3 g4 x3 x4 x5 x25 n0 n1 nl e3 e4 x02
    refine ⟨2, rfl, by decide, by decide, fun L hL => ?_⟩
    have nL0 : s0 ≠ L := ne_of_none es0 hL
    have nL1 : s1 ≠ L := ne_of_none es1 hL
    have nLl : ls ≠ L := ne_of_none e5 hL
    have apL := g5.apart hL
    have m3 : ∀ {x : Addr}, Apart x f w d W → ∀ {y : Addr}, x ≠ y → x ∉ [f, w, y] := fun a y h z => by
      have := a.n3
      simp only [List.mem_cons, List.not_mem_nil, or_false, not_or] at z this
      rcases z with z | z | z
      · exact this.1 z
      · exact this.2.1 z
      · exact h z
    have nd0 : d ≠ s0 := fun z => ap0.n3 (by rw [← z]; exact mem3d)
    have nd1 : d ≠ s1 := fun z => ap1.n3 (by rw [← z]; exact mem3d)
    have nw0 : s0 ≠ w := fun z => ap0.n3 (by rw [z]; exact mem3w)
    have nw1 : s1 ≠ w := fun z => ap1.n3 (by rw [z]; exact mem3w)
    have e43 : 4 - (D + 1) = 3 - D := by omega
    have e98 : 9 - (D + 1) = 8 - D := by omega
    -- behind a share with a dict of its own
    have aft : ∀ (s : Addr) (H6 H7 : Hp) (fl6 fl7 : Fl) (l6 l7 v6 v7 : Int) (fr6 frs : List (Key × V)), H s = none → Gx H6 f w d fl6 W l6 v6 fr6 → Fr [f, w, s] H6 H7 → Gx H7 f w s fl7 W l7 v7 frs → Fr [f, w, d] H H6 → Gx H7 f w d fl7 W l7 v7 fr6 ∧ Fr [f, w, d] H H7 :=
      fun s H6 H7 fl6 fl7 l6 l7 v6 v7 fr6 frs ns g6 x67 g7 x06 => Gx.back g6 ns ⟨_, g.fa⟩ x06 x67 g7
    have bL : H L = none := x05.back _ hL
    have app : ∀ (H7 : Hp) (fl7 : Fl) (l7 v7 : Int) (fr7 : List (Key × V)) (acc acc' : List V), Gx H7 f w d fl7 W l7 v7 fr7 → Fr [f, w, d] H H7 → H7 L = some (.lst acc) → Gx (upd H7 L (.lst acc')) f w d fl7 W l7 v7 fr7 ∧ Fr [f, w, d] H (upd H7 L (.lst acc')) ∧ Tu H7 (upd H7 L (.lst acc')) :=
      fun H7 fl7 l7 v7 fr7 acc acc' g7 x7 e => ⟨g7.own apL e trivial, x7.own bL e, (Fr.refl.mutL (S := [L]) (.head _) e).tu⟩
    refine lc_range (lo := 0) (n := 2) (ForkPv f w d s0 s1 ls L W D left H H5 fr) ?_ (fun i H6 hi hP => ?_) (fun H6 hP => ?_)
    · obtain ⟨ga, xa⟩ : Gx (upd H5 L (.lst [])) f w d fl2 W left heavy1 fr ∧ Fr [f, w, d] H (upd H5 L (.lst [])) := ⟨g5.new hL, x05.new hL⟩
      exact ⟨fl2, left, heavy1, [], fr, fr, ga, xa, by rw [upd_ne nLl]; exact e5, by rw [upd_ne nL0]; exact es0, g.fo, by rw [upd_ne nL1]; exact es1, g.fo, upd_same, (show ([] : List V) = [] ∧ left = left from ⟨rfl, rfl⟩), Tu.new hL⟩
    · obtain ⟨fl6, l6, v6, acc, fr0, fr1, g6, x6, els, e0, fo0, e1, fo1, eL, ar, tu6⟩ := hP
      have ii : i = 0 ∨ i = 1 := by omega
      rcases ii with rfl | rfl
      · obtain ⟨rfl, rfl⟩ := ar
        have gs : Gx H6 f w s0 fl6 W l6 v6 fr0 := g6.other e0 fo0 ap0.nw nw0
        refine ⟨rfl, ?_⟩
        dsimp only [tYes]
        rw [if_pos rfl]
        refine ⟨_, rfl, _, rfl, _, rfl, _, rfl, ls, _, 0, .ref s0, rfl, rfl, SqL.of els, rfl, _, rfl, _, _, rfl, rfl, f, w, s0, fl6, W, l6, v6, fr0, rfl, gs, wo, ho, fun p vs b sz dd H7 fl7 l7 v7 fr7 g7 x7 np ep hln rl bo sh => ?_⟩
        obtain ⟨g7d, x07⟩ := aft s0 H6 H7 _ _ _ _ _ _ _ _ b0 g6 x7 g7 x6
        have eL7 := x7.keep _ _ (m3 apL (Ne.symm nL0)) eL
        obtain ⟨g8, x8, t8⟩ := app H7 _ _ _ _ [] [.ref p] g7d x07 eL7
        refine ⟨[], eL7, Nat.zero_lt_succ _, fl7, l7, v7, [.ref p], fr7, fr1, g8, x8, ?_, ?_, g7.fo, ?_, fo1, upd_same, ⟨p, b, sz, dd, rfl, vs, t8 _ _ ep, ?_, ?_, sh⟩, (tu6.trans x7.tu).trans t8⟩
        · rw [upd_ne nLl]; exact x7.keep _ _ (m3 apl (Ne.symm n0l)) els
        · rw [upd_ne nL0]; exact g7.fa
        · rw [upd_ne nL1]; exact x7.keep _ _ (m3 ap1 (Ne.symm n01)) e1
        · rw [← e43]; exact rl.mono t8
        · rw [← e98]; exact bo
      · obtain ⟨p1, b1', sa1, dd1, rfl, ar⟩ := ar
        have gs : Gx H6 f w s1 fl6 W l6 v6 fr1 := g6.other e1 fo1 ap1.nw nw1
        refine ⟨rfl, ?_⟩
        dsimp only [tYes]
        rw [if_pos rfl]
        refine ⟨_, rfl, _, rfl, _, rfl, _, rfl, ls, _, 1, .ref s1, rfl, rfl, SqL.of els, rfl, _, rfl, _, _, rfl, rfl, f, w, s1, fl6, W, l6, v6, fr1, rfl, gs, wo, ho, fun p vs b sz dd H7 fl7 l7 v7 fr7 g7 x7 np ep hln rl bo sh => ?_⟩
        obtain ⟨g7d, x07⟩ := aft s1 H6 H7 _ _ _ _ _ _ _ _ b1 g6 x7 g7 x6
        have eL7 := x7.keep _ _ (m3 apL (Ne.symm nL1)) eL
        obtain ⟨g8, x8, t8⟩ := app H7 _ _ _ _ _ [.ref p1, .ref p] g7d x07 eL7
        refine ⟨[.ref p1], eL7, sz2, fl7, l7, v7, [.ref p1, .ref p], fr0, fr7, g8, x8, ?_, ?_, fo0, ?_, g7.fo, upd_same, ⟨p1, b1', sa1, dd1, l6, p, b, sz, dd, rfl, (ar.mono x7.tu).mono t8, vs, t8 _ _ ep, ?_, ?_, sh⟩, (tu6.trans x7.tu).trans t8⟩
        · rw [upd_ne nLl]; exact x7.keep _ _ (m3 apl (Ne.symm n1l)) els
        · rw [upd_ne nL0]; exact x7.keep _ _ (m3 ap0 n01) e0
        · rw [upd_ne nL1]; exact g7.fa
        · rw [← e43]; exact rl.mono t8
        · rw [← e98]; exact bo
    · obtain ⟨fl6, l6, v6, acc, fr0, fr1, g6, x6, els, e0, fo0, e1, fo1, eL, ⟨p1, b1', sa1, dd1, l1, p2, b2, sa2, dd2, rfl, ar1, ar2⟩, tu6⟩ := hP
      -- fresh.clear()
      refine ⟨_, rfl, .inr (.inr (.inl ⟨rfl, .inl ⟨_, g6.fa⟩⟩)), d, fr, rfl, rfl, g6.fa, ?_⟩
      have g7 := g6.fresh (FrOk.nil W)
      have y7 : Fr [d] H6 (upd H6 d (.dK [])) := Fr.refl.mutD (.head _) g6.fa
      have nd : ∀ {x : Addr}, Apart x f w d W → x ∉ [d] := fun a z => a.n3 (by rw [List.mem_singleton.mp z]; exact mem3d)
      have e0 := y7.keep _ _ (nd ap0) e0
      have e1 := y7.keep _ _ (nd ap1) e1
      have els := y7.keep _ _ (nd apl) els
      have eL := y7.keep _ _ (nd apL) eL
      have ar1 := ar1.mono y7.tu
      have ar2 := ar2.mono y7.tu
      have x7 := x6.trans y7.d3
      have rt := rt.mono (tu6.trans y7.tu)
      clear g6 x6 y7
      generalize upd H6 d (.dK []) = H7 at g7 x7 e0 e1 els eL ar1 ar2 rt ⊢
      -- what stands in both
      refine ⟨s0, .dK fr0, e0, trivial, fun od => ?_⟩
      have g8 : Gx (upd H7 s0 (.frz od (.dK fr0))) f w d fl6 W l6 v6 [] := g7.own ap0 e0 trivial
      have y8 : Fr [s0] H7 (upd H7 s0 (.frz od (.dK fr0))) := Fr.refl.mutD (.head _) e0
      have ns : ∀ {x : Addr}, x ≠ s0 → x ∉ [s0] := fun h z => h (List.mem_singleton.mp z)
      have l0 : upd H7 s0 (.frz od (.dK fr0)) s0 = some (.frz od (.dK fr0)) := upd_same
      have l1 := y8.keep _ _ (ns (Ne.symm n01)) e1
      have lls := y8.keep _ _ (ns (Ne.symm n0l)) els
      refine ⟨_, rfl, ls, _, 0, .ref s0, rfl, rfl, SqL.of lls, rfl, s0, od, rfl, .inl ⟨fr0, l0, for_it walk_keys
        (fun i σ H' => ∃ y y8, σ = [some (V.ref f), some (V.ref w), some (V.ref d), some (V.int D), some v, some (V.ref ls), some (V.ref L), y, y8] ∧ ∃ frx, Gx H' f w d fl6 W l6 v6 frx ∧ Fr [d] (upd H7 s0 (.frz od (.dK fr0))) H') ⟨_, _, rfl, [], g8, Fr.refl⟩
        (fun i σ H' hi hP => ?_) (fun i x σ H' H'' hi hP hY => ?_) (fun σ H' hP => ?_)⟩⟩
      · obtain ⟨_, _, _, frx, gx, xx⟩ := hP
        exact xx.keep _ _ (nd ap0) l0
      · obtain ⟨z7, z8, rfl, frx, gx, xx⟩ := hP
        obtain ⟨rfl, k, u, ek, rfl⟩ := hY
        obtain ⟨z, ez, hz⟩ := fo0.in_ (k, u) (List.mem_of_getElem? ek)
        have ez : k = Sum.inr z := ez
        subst ez
        refine ⟨_, rfl, _, rfl, ls, _, 1, .ref s1, rfl, rfl, SqL.of (xx.keep _ _ (nd apl) lls), rfl, s1, _, rfl, DGet.k (k := Sum.inr z) (xx.keep _ _ (nd ap1) l1), _, rfl, ite2 (fun _ => ?_) (fun _ => ⟨_, _, rfl, _, gx, xx⟩)⟩
        refine ⟨_, rfl, _, rfl, d, _, rfl, gx.put wo z _, _, _, rfl, _, gx.fresh (gx.fo.put hz _), xx.mutD (.head _) gx.fa⟩
      · obtain ⟨z7, z8, rfl, frx, gx, xx⟩ := hP
        have h0 := xx.keep _ _ (nd ap0) l0
        refine ⟨h0, ?_⟩
        have g9 : Gx (upd H' s0 (.dK fr0)) f w d fl6 W l6 v6 frx := gx.own ap0 h0 trivial
        have y9 : Fr [s0] H' (upd H' s0 (.dK fr0)) := Fr.refl.mutT (.head _) h0 trivial
        have eL9 := y9.keep _ _ (ns (Ne.symm nL0)) (xx.keep _ _ (nd apL) (y8.keep _ _ (ns (Ne.symm nL0)) eL))
        have x9 : Fr [f, w, d] H (upd H' s0 (.dK fr0)) := ((x7.own b0 e0).trans xx.d3).own b0 h0
        have tu : Tu H7 (upd H' s0 (.dK fr0)) := (y8.tu.trans xx.tu).trans y9.tu
        clear gx xx g8 y8 y9 g7 x7 l1 lls l0 h0
        generalize upd H' s0 (.dK fr0) = H9 at g9 eL9 x9 tu ⊢
        refine ⟨_, rfl, _, rfl, L, _, 0, .ref p1, rfl, rfl, SqL.of eL9, rfl, _, rfl, L, _, 1, .ref p2, rfl, rfl, SqL.of eL9, rfl, sz4, fun pt Ha na xa ea => ⟨Kz.sz1, fun pl Hb nb xb eb => ?_⟩⟩
        have xab : Fr [] H9 Hb := xa.trans xb
        obtain ⟨va, h1, h2, h3, h4⟩ := ar1.mono (tu.trans xab.tu)
        obtain ⟨vb, k1, k2, k3, k4⟩ := ar2.mono (tu.trans xab.tu)
        refine q pl [.ref pt] [.ite t b1' b2] _ _ Hb _ l6 v6 frx (g9.ext xab) (x9.trans xab.e3) (x9.back _ (xa.back _ nb)) eb (by decide : 1 ≤ 5) ?_ ?_ (StepOk.fork hD hl0 h4 k4)
        · have e4D : 4 - D = (3 - D) + 1 := by omega
          rw [e4D]
          exact .cons ⟨pt, v, p1, p2, va, vb, rfl, xb.tups _ _ ea, rt.mono (tu.trans xab.tu), h1, h2, k1, k2⟩ .nil
        · have e9D : 9 - D = (8 - D) + 1 := by omega
          rw [e9D]
          exact Bo.ite (tok.imp fun _ z => .inl z) (by omega) (by unfold NN; omega) (h3.mono (fun _ z => z.le (Nat.le_succ D)) (Nat.le_refl _) (Nat.le_refl _) (Nat.le_refl _)) (k3.mono (fun _ z => z.le (Nat.le_succ D)) (Nat.le_refl _) (Nat.le_refl _) (Nat.le_refl _))
end
end Kz
set_option Elab.async false
set_option linter.all false
set_option maxRecDepth 100000
set_option maxHeartbeats 4000000
/-! ZW8: times and calls are drawn. -/
namespace Kz
open PySem PySem.Spec PyProof.Rows L2
/-- the rows of a round of small rows -/
structure InSt (f w d ps pg li : Addr) (W : Wd) (H : Hp) (fl : Fl) (l v : Int) (fr : List (Key × V)) (vs : List V) (gs : List Str) (vsI : List V) : Prop where
  g : Gx H f w d fl W l v fr
  es : H ps = some (.lst vs)
  eg : H pg = some (.lst (gs.map V.str))
  ei : H li = some (.lst vsI)
  nps : ps ∉ [f, w, d]
  npg : pg ∉ [f, w, d]
  nli : li ∉ [f, w, d]
  ln : vsI.length ≤ 4
  ne : vsI ≠ []
/-- statements that may be handed out for r rows, and what they set -/
structure AgSt (f w d ps pg : Addr) (W : Wd) (H : Hp) (fl : Fl) (l v : Int) (fr : List (Key × V)) (vs : List V) (b : List Sm) (gs : List Str) (r : Int) (n m gm : Nat) : Prop where
  g : Gx H f w d fl W l v fr
  es : H ps = some (.lst vs)
  ln : vs.length ≤ 1
  rl : RL H m vs b
  bo : ∃ sz dd, Bo W (Pc W 2) n sz dd b ∧ (sz : Int) ≤ r ∧ (dd : Int) ≤ 2 * r
  eg : H pg = some (.lst (gs.map V.str))
  np : pg ∉ [f, w, d]
  gl : gs.length ≤ gm
  r0 : 0 ≤ r
theorem Hl.at_ {W : Wd} {H : Hp} (s : Ws H W) {hv : List V} {d : Int} (eh : H W.aH = some (.lst hv)) (hp : Paired (RH H hN) hv (W.hs.map fun h => (h.name, h.body))) (h0 : 0 ≤ d) (h1 : d < (hv.length : Int)) :
    ∃ (h : Hl) (t q : Addr), h ∈ W.hs ∧ atI hv d = some (.ref t) ∧ H t = some (.tup [.str h.name, .ref q]) ∧ ∃ a kvs, H W.aA = some (.dK kvs) ∧ valV kvs (Sum.inr h.name : Key) = some (.ref a) ∧ H a = some (.tup [.ref h.ga, .int h.rows, .bl h.rounds]) ∧ H h.ga = some (.lst (h.gone.map V.str)) := by
  obtain ⟨v, hv1, hv2, hv3⟩ := pickV hv h0 h1
  obtain ⟨y, hy, rv⟩ := pd_at hp hv2
  obtain ⟨h, hh, rfl⟩ := List.mem_map.mp (List.mem_of_getElem? hy)
  obtain ⟨t, q, bv, rfl, e1, _⟩ := rv
  obtain ⟨kvs, ek, _, hk⟩ := s.about
  obtain ⟨a, e2, e3, e4⟩ := (hk h hh).ex
  exact ⟨h, t, q, hh, hv3, e1, a, kvs, ek, e2, e3, e4⟩
section
variable {P : Program} {w : World} {K : PySem.W.Frag} {mg : Str → Option Value} {base : Heap}
theorem ok_again (T : Tp K mg) {D : Nat} (hD : D ≤ 2) : Fx P w K mg base 15 "_law_again" pFwd3 (spAgain D) := by
  have F_l_draw : Fx P w K mg base 1 "_law_draw" ["_law_flow_here", "_law_many"] spDrawC := ok_drawC T
  have F_l_small : Fx P w K mg base 14 "_law_small" pFwd3 spSmall := ok_small T
  have F_l_term : Fx P w K mg base 13 "_law_term" ["_law_flow_here", "_law_names_here", "_law_room_here"] (spTerm 11) := ok_term T 11
  refine fx_of T 34 25 rfl rfl sc_l_again (fun _ _ _ _ _ _ us hl => match us, hl with | [_, _, _], _ => rfl) (fun vs H Q E h => ?_) (fun f cdv A outer s H vs Q E hr h => ?_)
  · obtain ⟨f, w, d, fl, W, left, heavy, fr, rfl, _⟩ := h
    rfl
  · obtain ⟨f, w, d, fl, W, left, heavy, fr, rfl, g, wo, ho, hl0, q⟩ := h
    have hu := hu_of hr
    refine ⟨_, (pss_cons (ps_asg (pe_tupC (pa_cons (pe_lstC pa_nil) (pa_cons (pe_lstC pa_nil) (pa_cons pe_int (pa_cons pe_bl pa_nil))))) (pg_tup rfl (pgs_cons (pg_name (i := 3) sc_l_again.nd rfl (Or.inl rfl)) (pgs_cons (pg_name (i := 4) sc_l_again.nd rfl (Or.inl rfl)) (pgs_cons (pg_name (i := 5) sc_l_again.nd rfl (Or.inl rfl)) (pgs_cons (pg_name (i := 6) sc_l_again.nd rfl (Or.inl rfl)) pgs_nil))))))
    (pss_cons (ps_set (i := 7) sc_l_again.nd rfl (Or.inl rfl) (pe_F F_l_draw (hr.mono (by omega)) (by rfl) (pa_cons (pv 0) (pa_cons pe_int pa_nil))))
    (pss_cons (ps_if (PW.pt (pw_and (pt_cmpR op_gt (pe_callB call_len_seq (by rfl) T.n_len PySem.boot_len (pa_cons (pe_dget hu (pv 1) pe_str (fun _ _ => rfl)) pa_nil)) pe_int (nomark _)) (pw_and1 (pt_cmpR op_gt (pv 7) pe_int (nomark _))))) (pss_cons (ps_set (i := 8) sc_l_again.nd rfl (Or.inl rfl) (pe_ix ix_tup (pe_ix ix_list (pe_dget hu (pv 1) pe_str (fun _ _ => rfl)) (pe_F F_l_draw (hr.mono (by omega)) (by rfl) (pa_cons (pv 0) (pa_cons (pe_callB call_len_seq (by rfl) T.n_len PySem.boot_len (pa_cons (pe_dget hu (pv 1) pe_str (fun _ _ => rfl)) pa_nil)) pa_nil))) (fun _ _ => rfl)) pe_int (fun _ _ => rfl)))
      (pss_cons (ps_asg (pe_dget hu (pe_dget hu (pv 1) pe_str (fun _ _ => rfl)) (pv 8) (fun _ _ => rfl)) (pg_tup rfl (pgs_cons (pg_name (i := 4) sc_l_again.nd rfl (Or.inl rfl)) (pgs_cons (pg_name (i := 5) sc_l_again.nd rfl (Or.inl rfl)) (pgs_cons (pg_name (i := 6) sc_l_again.nd rfl (Or.inl rfl)) pgs_nil)))))
      (pss_one (ps_expr (pe_bm PySem.F.plainAttrs_list PySem.F.slot_list_append PySem.F.type_list_append mt_append (pv 3) (pa_cons (pe_tupC (pa_cons pe_str (pa_cons (pv 8) pa_nil))) pa_nil))))))
     pss_nil)
    (pss_cons (ps_if (pt_cmpR op_lt (pv 7) pe_int (nomark _)) (pss_cons (ps_asg (pe_tupC (pa_cons (pe_op op_add pe_int (pe_F F_l_draw (hr.mono (by omega)) (by rfl) (pa_cons (pv 0) (pa_cons pe_int pa_nil)))) (pa_cons (pe_dnC pe_dnewK) (pa_cons (pe_lstC pa_nil) (pa_cons (pe_dget hu (pv 1) pe_str (fun _ _ => rfl)) pa_nil))))) (pg_tup rfl (pgs_cons (pg_name (i := 9) sc_l_again.nd rfl (Or.inl rfl)) (pgs_cons (pg_name (i := 10) sc_l_again.nd rfl (Or.inl rfl)) (pgs_cons (pg_name (i := 11) sc_l_again.nd rfl (Or.inl rfl)) (pgs_cons (pg_name (i := 12) sc_l_again.nd rfl (Or.inl rfl)) pgs_nil))))))
      (pss_cons (ps_dput hu (pv 1) pe_str pe_int rfl)
      (pss_cons (ps_for PassesOwn.never rfl (pi_range1 (by rfl) T.n_range (pa_cons (pe_ix ix_list (pe_lstC (pa_cons pe_int (pa_cons (pe_op op_add pe_int (pe_F F_l_draw (hr.mono (by omega)) (by rfl) (pa_cons (pv 0) (pa_cons pe_int pa_nil)))) pa_nil))) (pe_callTy call_int1 (by rfl) T.n_int (by decide +kernel) (pa_cons (pe_cmpR op_eq (pv 7) pe_int (nomark _)) pa_nil)) (fun _ _ => rfl)) pa_nil)) (pg_name (i := 13) sc_l_again.nd rfl (Or.inl rfl)) (pss_one (ps_expr (pe_bm PySem.F.plainAttrs_list PySem.F.slot_list_extend PySem.F.type_list_extend mt_extend (pv 11) (pa_cons (pe_F F_l_small (hr.mono (by omega)) (by rfl) (pa_cons (pv 0) (pa_cons (pv 1) (pa_cons (pv 10) pa_nil)))) pa_nil)))))
      (pss_cons (ps_dput hu (pv 1) pe_str (pv 12) rfl)
      (pss_cons (ps_set (i := 4) sc_l_again.nd rfl (Or.inl rfl) (pe_op op_catL (pv 4) (pe_lc (own := [("_law_one", 17)]) rfl sc_l_again.nd (pi_list (pv 11)) (blkOk_by (own := [("_law_one", 17)]) (N := N_l_again) (sc := defScope s_l_again) (by decide +kernel)) (fun _ _ _ _ _ => (pg_name (i := 17) sc_l_again.nd rfl (Or.inl rfl))) (fun _ _ _ _ _ => (pts_one (pt_cmpR (op_in_seqB (K := K) rfl) (pe_ix (ix_tupB (K := K) rfl) (pv 17) pe_int (fun _ _ => rfl)) (pe_tupC (pa_cons pe_str (pa_cons pe_str pa_nil))) (by rfl)))) (fun _ _ _ _ _ => (pe_ix (ix_tupB (K := K) rfl) (pv 17) pe_int (fun _ _ => rfl))))))
      (pss_cons (ps_par (i := 14) (j := 7) rfl sc_l_again.nd rfl rfl (by decide) rfl rfl (pa_cons (pe_ix ix_list (pe_dget hu (pv 1) pe_str (fun _ _ => rfl)) pe_int (fun _ _ => rfl)) (pa_cons (pe_F F_l_draw (hr.mono (by omega)) (by rfl) (pa_cons (pv 0) (pa_cons pe_int pa_nil))) pa_nil)) (by rfl))
      (pss_cons (ps_if (pt_cmpR op_eq (pv 7) pe_int (nomark _)) (pss_one (ps_set (i := 11) sc_l_again.nd rfl (Or.inl rfl) (pe_lstC (pa_cons (pe_tupC (pa_cons pe_str (pa_cons (pe_F F_l_term (hr.mono (by omega)) (by rfl) (pa_cons (pv 0) (pa_cons (pe_dget hu (pv 1) pe_str (fun _ _ => rfl)) (pa_cons pe_int pa_nil)))) (pa_cons (pe_callTy call_tupC (by rfl) T.n_tuple (by decide +kernel) (pa_cons (pv 11) pa_nil)) (pa_cons (pe_tupC pa_nil) pa_nil))))) pa_nil))))
       pss_nil)
      (pss_cons (ps_if (pt_cmpR op_eq (pv 7) pe_int (nomark _)) (pss_cons (ps_set (i := 15) sc_l_again.nd rfl (Or.inl rfl) (pe_tupC (pa_cons pe_str (pa_cons (pv 14) (pa_cons (pe_tupC (pa_cons pe_str (pa_cons pe_str (pa_cons (pe_tupC (pa_cons pe_str (pa_cons (pv 14) pa_nil))) (pa_cons (pe_tupC (pa_cons pe_str (pa_cons pe_int pa_nil))) pa_nil))))) pa_nil)))))
        (pss_one (ps_par (i := 11) (j := 6) rfl sc_l_again.nd rfl rfl (by decide) rfl rfl (pa_cons (pe_lstC (pa_cons (pe_tupC (pa_cons pe_str (pa_cons (pv 14) (pa_cons (pe_tupC (pa_cons pe_str (pa_cons pe_int pa_nil))) pa_nil)))) (pa_cons (pe_tupC (pa_cons pe_str (pa_cons (pe_tupC (pa_cons pe_str (pa_cons (pv 14) pa_nil))) (pa_cons (pe_callTy call_tupC (by rfl) T.n_tuple (by decide +kernel) (pa_cons (pe_op op_catL (pv 11) (pe_lstC (pa_cons (pv 15) pa_nil))) pa_nil)) pa_nil)))) pa_nil))) (pa_cons pe_bl pa_nil)) (by rfl))))
       pss_nil)
      (pss_cons (ps_set (i := 5) sc_l_again.nd rfl (Or.inl rfl) (pe_op op_mul (pv 9) (pe_op op_add pe_int (pv 5))))
      (pss_one (ps_set (i := 3) sc_l_again.nd rfl (Or.inl rfl) (pe_lstC (pa_cons (pe_tupC (pa_cons pe_str (pa_cons (pv 9) (pa_cons (pe_callTy call_tupC (by rfl) T.n_tuple (by decide +kernel) (pa_cons (pe_op op_catL (pv 11) (pv 3)) pa_nil)) pa_nil)))) pa_nil)))))))))))))
     pss_nil)
    (pss_cons (ps_if (PW.pt (pw_or (pt_cmpR op_gt (pv 5) (pe_dget hu (pv 1) pe_str (fun _ _ => rfl)) (nomark _)) (pw_or1 (pt_cmpR (op_eqNil hr.units) (pv 3) (pe_lstC pa_nil) (nomark _))))) (pss_one (ps_ret (pe_F F_l_small (hr.mono (by omega)) (by rfl) (pa_cons (pv 0) (pa_cons (pv 1) (pa_cons (pv 2) pa_nil))))))
     pss_nil)
    (pss_cons (ps_for PassesOwn.never rfl (pi_list (pe_callTy (call_listD rfl) (by rfl) T.n_list (by decide +kernel) (pa_cons (pv 2) pa_nil))) (pg_name (i := 16) sc_l_again.nd rfl (Or.inl rfl)) (pss_one (ps_if (PW.pt (pw_or (pt_val (pv 6)) (pw_or1 (pt_cmpR op_in_seq (pv 16) (pv 4) (by rfl))))) (pss_one (ps_expr (pe_dpop1 (pv 2) (pv 16) ⟨rfl, rfl, rfl, rfl⟩)))
       pss_nil)))
    (pss_cons (ps_dput hu (pv 1) pe_str (pe_op op_sub (pe_dget hu (pv 1) pe_str (fun _ _ => rfl)) (pv 5)) rfl)
    (pss_one (ps_ret (pv 3)))))))))), ?_⟩
    refine ⟨Nat.zero_le _, fun ps H1 n1 x1 e1 => ⟨Nat.zero_le _, fun pg H2 n2 x2 e2 => ⟨sz4, fun p4 H3 n3 x3 e3 => ⟨p4, _, rfl, SqT.of e3, rfl, _, _, rfl, _, _, rfl, _, _, rfl, _, _, rfl, rfl, ?_⟩⟩⟩⟩
    have g3 := ((g.ext x1).ext x2).ext x3
    have x03 : Fr [f, w, d] H H3 := ((x1.trans x2).trans x3).e3
    have es := x3.keep _ _ (fun z => nomatch z) (x2.keep _ _ (fun z => nomatch z) e1)
    have eg := x3.keep _ _ (fun z => nomatch z) e2
    have aps := g.apart n1
    have nsg : ps ≠ pg := ne_of_none e1 n2
    clear n2 n3 x1 x2 x3 e1 e2 e3 p4
    refine ⟨_, rfl, f, fl, 3, rfl, g3.fl, by decide, by decide, fun form H4 fl4 f0 f1 h4 x4 => ?_⟩
    have g4 := g3.flow x4 h4
    have x04 := x03.trans x4.f3
    have es := x4.keep _ _ (fun z => aps.n3 (by rw [List.mem_singleton.mp z]; exact .head _)) es
    have eg := x4.keep _ _ (fun z => by
      have := List.mem_singleton.mp z
      subst this
      have := g3.fl.at_
      rw [eg] at this
      cases this) eg
    clear h4 x4 g3 x03
    -- a call
    try dsimp only [tNext]
    refine seq_cut (fun σ' H5 => ∃ pg r ro y8 y9 y10 y11 y12 y13 y14 y15 y16 y17 fl5 vs b gs, σ' = [some (V.ref f), some (V.ref w), some (V.ref d), some (V.ref ps), some (V.ref pg), some (V.int r), some (V.bl ro), some (V.int form), y8, y9, y10, y11, y12, y13, y14, y15, y16, y17] ∧ AgSt f w d ps pg W H5 fl5 left heavy fr vs b gs r 6 0 20 ∧ Fr [f, w, d] H H5) (fun D' hQ _ _ _ => ?_) (fun σ' H5 hP => ?_)
    · have npg : pg ∉ [f, w, d] := fun z => by
        simp only [List.mem_cons, List.not_mem_nil, or_false] at z
        rcases z with z | z | z
        · subst z; rw [g4.fl.at_] at eg; cases eg
        · subst z; obtain ⟨kv, e⟩ := g4.wv.at_; rw [e] at eg; cases eg
        · subst z; rw [g4.fa] at eg; cases eg
      have nil : AgSt f w d ps pg W H4 fl4 left heavy fr [] [] [] 0 6 0 20 := ⟨g4, es, Nat.zero_le _, .nil, ⟨0, 0, Bo.nil, Int.le_refl 0, Int.le_refl 0⟩, eg, npg, Nat.zero_le _, Int.le_refl 0⟩
      obtain ⟨hv, eh, hp⟩ := g4.ws.helpers
      have hvl : hv.length ≤ 3 := by have e := hp.length; rw [List.length_map] at e; have := wo.hl; omega
      try dsimp only [gName]
      refine if_cut (fun c H5 => H5 = H4 ∧ (c = true → 0 < hv.length)) (fun Q' hQ' => ?_) (fun c H5 hP => ?_)
      · refine ⟨_, rfl, w, _, rfl, g4.wv.gH, W.aH, hv, rfl, .inl (SqL.of eh), _, _, rfl, rfl, _, rfl, ite2 (fun c => ?_) (fun _ => hQ' _ _ ⟨rfl, fun z => by cases z⟩)⟩
        have c : 0 < hv.length := by have : (0 : Int) < (hv.length : Int) := of_decide_eq_true c; omega
        exact ⟨_, rfl, _, _, rfl, rfl, _, rfl, hQ' _ _ ⟨rfl, fun _ => c⟩⟩
      · obtain ⟨eH, hc⟩ := hP
        rw [eH]
        refine ite2 (fun e => ?_) (fun _ => hQ _ _ ⟨pg, 0, false, _, _, _, _, _, _, _, _, _, _, fl4, [], [], [], rfl, nil, x04⟩)
        have hc := hc e
        refine ⟨_, rfl, w, _, rfl, g4.wv.gH, _, rfl, _, rfl, w, _, rfl, g4.wv.gH, W.aH, hv, rfl, .inl (SqL.of eh), f, fl4, (hv.length : Int), rfl, g4.fl, by omega, by omega, fun dv H6 fl6 d0 d1 h6 x6 => ?_⟩
        have g6 := g4.flow x6 h6
        have eh6 : H6 W.aH = some (.lst hv) := x6.keep _ _ (fun z => (g4.sep W.aH (.tail _ (.tail _ (.tail _ (.head _))))).1 (List.mem_singleton.mp z)) eh
        obtain ⟨h, t, qb, hh, edv, et, a, kvs, ek, ekv, ea, ega⟩ := Hl.at_ g6.ws eh6 (Paired.mapP hp fun _ _ z => z.mono x6.tu) d0 d1
        have es6 := x6.keep _ _ (fun z => aps.n3 (by rw [List.mem_singleton.mp z]; exact .head _)) es
        have x06 := x04.trans x6.f3
        refine ⟨W.aH, hv, dv, .ref t, rfl, rfl, SqL.of eh6, edv, t, _, 0, .str h.name, rfl, rfl, SqT.of et, rfl, _, rfl, w, _, rfl, g6.wv.gA, _, rfl, W.aA, .ref a, rfl, dget ek ekv, a, _, rfl, SqT.of ea, rfl, _, _, rfl, _, _, rfl, _, _, rfl, rfl, ?_⟩
        refine ⟨_, rfl, .inl ⟨rfl, _, SqL.of es6⟩, _, rfl, sz2, fun pc H7 n7 x7 e7 => ?_⟩
        have es7 := x7.keep _ _ (fun z => nomatch z) es6
        have g7 := g6.ext x7
        have x07 := x06.trans x7.e3
        refine ⟨ps, [], .ref pc, rfl, rfl, es7, Nat.zero_lt_succ _, ?_⟩
        have x8 : Fr [ps] H7 (upd H7 ps (.lst ([] ++ [.ref pc]))) := Fr.refl.mutL (.head _) es7
        have g8 : Gx (upd H7 ps (.lst ([] ++ [.ref pc]))) f w d fl6 W left heavy fr := g7.own aps es7 trivial
        have hga : h.ga ∈ W.addrs := .tail _ (.tail _ (.tail _ (.tail _ (.tail _ (List.mem_map.mpr ⟨h, hh, rfl⟩)))))
        obtain ⟨hr1, hr2, hbo, hgl, _⟩ := ho.all h hh
        refine hQ _ _ ⟨h.ga, h.rows, h.rounds, _, _, _, _, _, _, _, _, _, _, fl6, [.ref pc], [.call h.name], h.gone, rfl, ⟨g8, upd_same, Nat.le_refl _, .cons ⟨pc, rfl, x8.tups _ _ e7⟩ .nil, ⟨_, _, Bo.call (envH_at ho.nd hh) (by decide) hbo, by omega, by omega⟩, x8.keep _ _ (fun z => aps.nw _ hga (List.mem_singleton.mp z)) (x7.keep _ _ (fun z => nomatch z) ega), g6.nin _ hga, by omega, by omega⟩, x07.own n1 es7⟩
    · obtain ⟨pg, r, ro, y8, y9, y10, y11, y12, y13, y14, y15, y16, y17, fl5, vs, b, gs, rfl, ag, x05⟩ := hP
      clear es eg nsg g4 x04
      refine seq_cut (fun σ' H6 => ∃ ps pg r ro fm y8 y9 y10 y11 y12 y13 y14 y15 y16 y17 fl6 l6 v6 vs b gs, σ' = [some (V.ref f), some (V.ref w), some (V.ref d), some (V.ref ps), some (V.ref pg), some (V.int r), some (V.bl ro), some (V.int fm), y8, y9, y10, y11, y12, y13, y14, y15, y16, y17] ∧ AgSt f w d ps pg W H6 fl6 l6 v6 fr vs b gs r 7 2 30 ∧ Fr [f, w, d] H H6 ∧ l6 ≤ left ∧ H ps = none) (fun D' hQ _ _ _ => ?_) (fun σ' H6 hP => ?_)
      · refine ⟨_, rfl, _, _, rfl, rfl, _, rfl, ite2 (fun c => ?_) (fun _ => ?_)⟩
        · have aps5 := aps
          refine ⟨_, rfl, f, fl5, 3, rfl, ag.g.fl, by decide, by decide, fun t H6 fl6 t0 t1 h6 x6 => ⟨_, _, rfl, rfl, fun nd H7 n7 x7 e7 => ⟨Nat.zero_le _, fun li H8 n8 x8 e8 => ⟨_, rfl, w, _, rfl, (((ag.g.flow x6 h6).ext x7).ext x8).wv.gY, sz4, fun p9 H9 n9 x9 e9 => ⟨p9, _, rfl, SqT.of e9, rfl, _, _, rfl, _, _, rfl, _, _, rfl, _, _, rfl, rfl, ?_⟩⟩⟩⟩⟩
          have g6 := ag.g.flow x6 h6
          have x69 : Fr [] H6 H9 := (x7.trans x8).trans x9
          have g9 := g6.ext x69
          have apd := g6.apart n7
          have apl := (g6.ext x7).apart n8
          have ndl : nd ≠ li := ne_of_none e7 n8
          have es6 := x6.keep _ _ (fun z => aps.n3 (by rw [List.mem_singleton.mp z]; exact .head _)) ag.es
          have eg6 := x6.keep _ _ (fun z => ag.np (by rw [List.mem_singleton.mp z]; exact .head _)) ag.eg
          have nps : ps ≠ nd := ne_of_none es6 n7
          have npg : pg ≠ nd := ne_of_none eg6 n7
          have nps2 : ps ≠ li := ne_of_none (x7.keep _ _ (fun z => nomatch z) es6) n8
          have npg2 : pg ≠ li := ne_of_none (x7.keep _ _ (fun z => nomatch z) eg6) n8
          have ed9 : H9 nd = some (.dK []) := x9.keep _ _ (fun z => nomatch z) (x8.keep _ _ (fun z => nomatch z) e7)
          have el9 : H9 li = some (.lst []) := x9.keep _ _ (fun z => nomatch z) e8
          have bnd : H nd = none := (x05.trans x6.f3).back _ n7
          have bli : H li = none := ((x05.trans x6.f3).trans x7.e3).back _ n8
          have ndd : d ≠ nd := fun z => apd.n3 (by rw [← z]; exact mem3d)
          have nld : d ≠ li := fun z => apl.n3 (by rw [← z]; exact mem3d)
          have gn : Gx H9 f w nd fl6 W left heavy [] := g9.other ed9 (FrOk.nil W) apd.nw fun z => apd.n3 (by rw [z]; exact mem3w)
          obtain ⟨kvs, hp, hv⟩ := gn.wv.setY 0
          have g10 := gn.world hv
          have y10 : Fr [f, w] H5 (upd H9 w (.dK kvs)) := ((x6.mono fun a h => by rw [List.mem_singleton.mp h]; exact .head _).trans (x69.mono fun _ h => nomatch h)).trans (let ⟨_, e⟩ := gn.wv.at_; Fr.refl.mutD (.tail _ (.head _)) e)
          have ed10 : upd H9 w (.dK kvs) d = some (.dK fr) := by rw [upd_ne ag.g.dw]; exact g9.fa
          have el10 : upd H9 w (.dK kvs) li = some (.lst []) := by rw [upd_ne (fun z => apl.n3 (by rw [z]; exact mem3w))]; exact el9
          refine ⟨_, rfl, w, _, rfl, hp, ?_⟩
          clear hp hv gn el9 ed9 g9 x69 g6 x7 x8 x9 e7 e8 e9 n9 n8 n7 h6 x6 es6 eg6
          generalize upd H9 w (.dK kvs) = H10 at g10 y10 ed10 el10 ⊢
          have fd := ag.g.fd
          have dw := ag.g.dw
          refine ⟨_, rfl, f, fl6, 3, rfl, g10.fl, by decide, by decide, fun t2 H11 fl11 u0 u1 h11 x11 => ⟨_, _, rfl, rfl, sz2, fun l2 H12 n12 x12 e12 => ?_⟩⟩
          have g12 := (g10.flow x11 h11).ext x12
          have y12 : Fr [f, w] H5 H12 := (y10.trans (x11.mono fun a h => by rw [List.mem_singleton.mp h]; exact .head _)).trans (x12.mono fun _ h => nomatch h)
          have ed12 := x12.keep _ _ (fun z => nomatch z) (x11.keep _ _ (fun z => fd (List.mem_singleton.mp z).symm) ed10)
          have el12 := x12.keep _ _ (fun z => nomatch z) (x11.keep _ _ (fun z => apl.n3 (by rw [List.mem_singleton.mp z]; exact .head _)) el10)
          have m2 : ∀ {a : Addr}, a ∉ [f, w, d] → a ∉ [f, w] := fun h z => h (by
            simp only [List.mem_cons, List.not_mem_nil, or_false] at z ⊢
            rcases z with z | z <;> simp [z])
          have es12 := y12.keep _ _ (m2 aps.n3) ag.es
          have eg12 := y12.keep _ _ (m2 ag.np) ag.eg
          have rl12 := ag.rl.mono y12.tu
          have x12' : Fr [f, w, d] H H12 := x05.trans (y12.mono fun a h => by
            simp only [List.mem_cons, List.not_mem_nil, or_false] at h ⊢
            rcases h with h | h <;> simp [h])
          obtain ⟨N, hN, eN⟩ : ∃ N : Nat, (1 ≤ N ∧ N ≤ 4) ∧ atI [V.int 1, V.int (2 + t2)] (if decide (V.int form = V.int 0) = true then 1 else 0) = some (V.int (N : Int)) := by
            by_cases c : V.int form = V.int 0
            · rw [decide_eq_true c]
              refine ⟨(2 + t2).toNat, ⟨by omega, by omega⟩, ?_⟩
              rw [if_pos rfl, at1, Int.toNat_of_nonneg (by omega)]
            · rw [decide_eq_false c]
              exact ⟨1, ⟨by decide, by decide⟩, by rw [if_neg (by decide), at0]; rfl⟩
          clear h11 x11 x12 n12 ed10 el10 y10 g10 y12
          refine ⟨_, rfl, rfl, .inr ⟨_, rfl, l2, _, _, .int N, rfl, rfl, SqL.of e12, eN, N, rfl, by omega, by omega, for_range (lo := 0) (n := N)
            (fun i σ' H' => ∃ z13, σ' = [some (V.ref f), some (V.ref w), some (V.ref d), some (V.ref ps), some (V.ref pg), some (V.int r), some (V.bl ro), some (V.int form), y8, some (V.int (1 + t)), some (V.ref nd), some (V.ref li), some (V.int heavy), z13, y14, y15, y16, y17] ∧
              ∃ fl' v' frn vsI bI, Gx H' f w nd fl' W (left - i) v' frn ∧ H' d = some (.dK fr) ∧ H' ps = some (.lst vs) ∧ H' pg = some (.lst (gs.map V.str)) ∧ H' li = some (.lst vsI) ∧ vsI.length = i ∧ RL H' 0 vsI bI ∧ Bo W (· ∈ W.counters) 0 i i bI ∧ Fr [f, w, d] H H' ∧ Tu H12 H') ?_ (fun i σ' H' hi hP => ?_) (fun σ' H' hP => ?_)⟩⟩
          · exact ⟨_, rfl, fl11, 0, [], [], [], by rw [show left - ((0 : Nat) : Int) = left by omega]; exact g12, ed12, es12, eg12, el12, rfl, .nil, Bo.nil, x12', Tu.refl⟩
          · obtain ⟨z13, rfl, fl', v', frn, vsI, bI, g', ed', es', eg', el', ln', rl', bo', x', tu'⟩ := hP
            refine ⟨_, rfl, .inl ⟨rfl, _, SqL.of el'⟩, _, rfl, _, rfl, _, rfl, f, w, nd, fl', W, left - i, v', frn, rfl, g', wo, fun p u sm H7 fl7 v7 fr7 g7 x7 np ep rs wf => ?_⟩
            have k3 : ∀ {a : Addr}, a ∉ [f, w, d] → a ≠ nd → a ∉ [f, w, nd] := fun h h2 z => by
              simp only [List.mem_cons, List.not_mem_nil, or_false] at z h
              rcases z with z | z | z
              · exact h (.inl z)
              · exact h (.inr (.inl z))
              · exact h2 z
            have el7 := x7.keep _ _ (k3 apl.n3 (Ne.symm ndl)) el'
            have ed7 : H7 d = some (.dK fr) := x7.keep _ _ (fun z => by
              simp only [List.mem_cons, List.not_mem_nil, or_false] at z
              rcases z with z | z | z
              · exact fd z.symm
              · exact dw z
              · exact ndd z) ed'
            have apl' : Apart li f w nd W := ⟨k3 apl.n3 (Ne.symm ndl), apl.nw⟩
            have y8 : Fr [li] H7 (upd H7 li (.lst (vsI ++ [u]))) := Fr.refl.mutL (.head _) el7
            have nl : ∀ {a : Addr}, a ≠ li → a ∉ [li] := fun h z => h (List.mem_singleton.mp z)
            refine ⟨li, p, vsI, [u], rfl, rfl, el7, ep, small40 (by show vsI.length + 1 ≤ 1000; omega), _, rfl, fl7, v7, fr7, vsI ++ [u], bI ++ [sm], ?_, y8.keep _ _ (nl nld) ed7, y8.keep _ _ (nl nps2) (x7.keep _ _ (k3 aps.n3 nps) es'), y8.keep _ _ (nl npg2) (x7.keep _ _ (k3 ag.np npg) eg'), upd_same, ?_, ?_, ?_, ?_, (tu'.trans x7.tu).trans y8.tu⟩
            · rw [show left - ((i + 1 : Nat) : Int) = left - i - 1 by omega]
              exact g7.own apl' el7 trivial
            · rw [List.length_append, ln']; rfl
            · exact pd_app ((rl'.mono x7.tu).mono y8.tu) (.cons (rs.mono y8.tu) .nil)
            · exact bo'.app (Bo.small wo wf fun _ z => z)
            · refine (x'.step x7 fun a z => ?_).own bli el7
              simp only [List.mem_cons, List.not_mem_nil, or_false] at z ⊢
              rcases z with z | z | z
              · exact .inl (.inl z)
              · exact .inl (.inr (.inl z))
              · exact .inr (by rw [z]; exact bnd)
          · obtain ⟨z13, rfl, fl', v', frn, vsI, bI, g', ed', es', eg', el', ln', rl', bo', x', tu'⟩ := hP
            have rl0 := rl12.mono tu'
            have gd : Gx H' f w d fl' W (left - N) v' fr := g'.other ed' ag.g.fo (fun b hb => (ag.g.sep b hb).2.2) dw
            clear g' ed' tu' rl12 g12 ed12 es12 eg12 el12 x12' e12 eN
            -- heavy again
            obtain ⟨kvs, hp, hv⟩ := gd.wv.setY heavy
            have g1 := gd.world hv
            have y1 : Fr [w] H' (upd H' w (.dK kvs)) := let ⟨_, e⟩ := gd.wv.at_; Fr.refl.mutD (.head _) e
            refine ⟨_, rfl, _, rfl, w, _, rfl, hp, ?_⟩
            have nw : ∀ {a : Addr}, a ∉ [f, w, d] → a ∉ [w] := fun h z => h (by rw [List.mem_singleton.mp z]; exact mem3w)
            have es1 := y1.keep _ _ (nw aps.n3) es'
            have eg1 := y1.keep _ _ (nw ag.np) eg'
            have el1 := y1.keep _ _ (nw apl.n3) el'
            have rl1 := rl'.mono y1.tu
            have rl0 := rl0.mono y1.tu
            have x1' := x'.trans y1.w3
            clear hp hv gd y1 es' eg' el' rl' x'
            generalize upd H' w (.dK kvs) = Ha at g1 es1 eg1 el1 rl1 rl0 x1' ⊢
            -- gone
            refine ⟨_, rfl, _, rfl, li, rfl, ⟨_, SqL.of el1⟩, ?_⟩
            refine gone_lc (j := 17) ?_ el1 rl1 (by omega) fun L Hb gs2 nL xL eL hL => ?_
            · exact (by decide : 17 < 18)
            refine ⟨pg, L, _, _, rfl, rfl, xL.keep _ _ (fun z => nomatch z) eg1, eL, small40 (by rw [List.length_map, List.length_map]; have := ag.gl; omega), fun pg2 Hc n2 x2 e2 => ?_⟩
            have xac : Fr [] Ha Hc := xL.trans x2
            rw [← List.map_append] at e2
            have g2 := g1.ext xac
            have g2a := g1.ext xL
            have nnil : ∀ {a : Addr}, a ∉ ([] : List Addr) := fun z => nomatch z
            have es2 := xac.keep _ _ nnil es1
            have el2 := xac.keep _ _ nnil el1
            have rl2 := rl1.mono xac.tu
            have rl0 := rl0.mono xac.tu
            have x2' := x1'.trans xac.e3
            have np2 : pg2 ∉ [f, w, d] := nin3 (o := .lst []) g2a n2
            have gl2 : (gs ++ gs2).length ≤ 30 := by rw [List.length_append]; have := ag.gl; omega
            clear xac xL x2 eL n2 g2a g1 es1 eg1 el1 rl1 x1'
            -- the counter, the form
            obtain ⟨c, ec, hc, hcP, hcU⟩ := ctr_at wo (show 2 < 3 by decide)
            have eci : atI (W.counters.map V.str) 2 = some (.str c) := atI_nat (j := 2) (by rw [List.getElem?_map, ec]; rfl)
            refine ⟨_, rfl, w, _, rfl, g2.wv.gK, W.aK, _, 2, .str c, rfl, rfl, SqL.of g2.ws.counters, eci, _, rfl, f, fl', 6, rfl, g2.fl, by decide, by decide, fun fm H3 fl3 f20 f21 h3 x3 => ⟨_, _, rfl, ?_⟩⟩
            have nf : ∀ {a : Addr}, a ∉ [f, w, d] → a ∉ [f] := fun h z => h (by rw [List.mem_singleton.mp z]; exact .head _)
            have ins : InSt f w d ps pg2 li W H3 fl3 (left - N) heavy fr vs (gs ++ gs2) vsI := ⟨g2.flow x3 h3, x3.keep _ _ (nf aps.n3) es2, x3.keep _ _ (nf np2) e2, x3.keep _ _ (nf apl.n3) el2, aps.n3, np2, apl.n3, by omega, fun z => by rw [z] at ln'; have ln' : 0 = N := ln'; omega⟩
            have rl3 := rl2.mono x3.tu
            have rl0 := rl0.mono x3.tu
            have x3' := x2'.trans x3.f3
            clear g2 es2 el2 rl2 x2' x3 h3 e2
            have boN : Bo W (· ∈ W.counters) 0 4 4 bI := bo'.mono (fun _ z => z) (Nat.le_refl _) hN.2 hN.2
            clear bo' ec eci
            -- an if
            dsimp only [tNext]
            refine seq_cut (fun σ' Hq => ∃ li' flq vsq bq, σ' = [some (V.ref f), some (V.ref w), some (V.ref d), some (V.ref ps), some (V.ref pg2), some (V.int r), some (V.bl ro), some (V.int fm), y8, some (V.int (1 + t)), some (V.ref nd), some (V.ref li'), some (V.int heavy), z13, some (V.str c), y15, y16, y17] ∧
              InSt f w d ps pg2 li' W Hq flq (left - N) heavy fr vs (gs ++ gs2) vsq ∧ RL Hq 1 vsq bq ∧ (Bo W (Pc W 2) 1 5 5 bq ∧ (fm ≠ 0 → RL Hq 0 vsq bq ∧ Bo W (· ∈ W.counters) 0 4 4 bq)) ∧ RL Hq 0 vs b ∧ Fr [f, w, d] H Hq) (fun D1 hQ1 _ _ _ => ?_) (fun σ' Hq hP => ?_)
            · have no : Bo W (Pc W 2) 1 5 5 bI ∧ (fm ≠ 0 → RL H3 0 vsI bI ∧ Bo W (· ∈ W.counters) 0 4 4 bI) := ⟨boN.mono (fun _ z => z.sub) (by decide) (by decide) (by decide), fun _ => ⟨rl3, boN⟩⟩
              refine ⟨_, rfl, rfl, _, rfl, ite2 (fun ef => ?_) (fun _ => hQ1 _ _ ⟨li, fl3, vsI, bI, rfl, ins, rl3.up (by decide), no, rl0, x3'⟩)⟩
              have ef : fm = 0 := by have := of_decide_eq_true ef; injection this
              refine ⟨_, rfl, _, rfl, w, _, rfl, ins.g.wv.gC, f, W.aC, fl3, W.cells, 3, rfl, ins.g.fl, ins.g.ws.cells, (ins.g.sep _ (.head _)).1, wo.c1, by have := wo.c2; omega, by decide, by decide, by decide, fun v H4 fl4 tm x4 h4 rt tok tp => ?_⟩
              have g4 := ins.g.flow x4 h4
              have el4 := x4.keep _ _ (nf ins.nli) ins.ei
              refine ⟨_, rfl, li, vsI, rfl, el4, fun lt H5 n5 x5 e5 => ⟨Nat.zero_le _, fun l0 H6 n6 x6 e6 => ⟨sz4, fun pt H7 n7 x7 e7 => ⟨sz1, fun lq H8 n8 x8 e8 => ?_⟩⟩⟩⟩
              have x48 : Fr [] H4 H8 := ((x5.trans x6).trans x7).trans x8
              have y38 : Fr [f] H3 H8 := x4.trans (x48.mono fun _ z => nomatch z)
              refine hQ1 _ _ ⟨lq, fl4, [.ref pt], [.ite tm bI []], rfl, ⟨g4.ext x48, y38.keep _ _ (nf ins.nps) ins.es, y38.keep _ _ (nf ins.npg) ins.eg, e8, ins.nps, ins.npg, nin3 (o := .lst []) (((g4.ext x5).ext x6).ext x7) n8, (by decide : 1 ≤ 4), fun z => by cases z⟩, ?_, ⟨?_, fun z => absurd ef z⟩, rl0.mono y38.tu, x3'.trans y38.f3⟩
              · exact .cons ⟨pt, v, lt, l0, vsI, [], rfl, x8.tups _ _ e7, rt.mono x48.tu, x8.tups _ _ (x7.tups _ _ (x6.tups _ _ e5)), rl3.mono y38.tu, x8.tups _ _ (x7.tups _ _ e6), .nil⟩ .nil
              · exact Bo.ite (tok.imp fun _ z => .inl z) (by omega) (by decide) (boN.mono (fun _ z => z.sub) (Nat.le_refl _) (Nat.le_refl _) (Nat.le_refl _)) Bo.nil
            · obtain ⟨li', flq, vsq, bq, rfl, ins', rlq, ⟨boq, raw⟩, rl0, xq⟩ := hP
              clear ins rl3 boN x3' apl ndl
              -- a round
              refine seq_cut (fun σ' Hq => ∃ li' ro' z15 flq vsq bq, σ' = [some (V.ref f), some (V.ref w), some (V.ref d), some (V.ref ps), some (V.ref pg2), some (V.int r), some (V.bl ro'), some (V.int fm), y8, some (V.int (1 + t)), some (V.ref nd), some (V.ref li'), some (V.int heavy), z13, some (V.str c), z15, y16, y17] ∧
                InSt f w d ps pg2 li' W Hq flq (left - N) heavy fr vs (gs ++ gs2) vsq ∧ RL Hq 1 vsq bq ∧ Bo W (Pc W 2) 1 7 14 bq ∧ RL Hq 0 vs b ∧ Fr [f, w, d] H Hq) (fun D1 hQ1 _ _ _ => ?_) (fun σ' Hr hP => ?_)
              · refine ⟨_, rfl, rfl, _, rfl, ite2 (fun ef => ?_) (fun _ => hQ1 _ _ ⟨li', ro, _, flq, vsq, bq, rfl, ins', rlq, boq.mono (fun _ z => z) (Nat.le_refl _) (by decide) (by decide), rl0, xq⟩)⟩
                have ef : fm = 1 := by have := of_decide_eq_true ef; injection this
                obtain ⟨rq0, bq0⟩ := raw (by omega)
                refine ⟨_, rfl, _, rfl, sz2, fun p1 Ha na xa ea => ⟨sz2, fun p2 Hb nb xb eb => ⟨sz4, fun p3 Hc nc xc ec => ⟨sz3, fun p4 Hd nd xd ed => ?_⟩⟩⟩⟩
                have xqd : Fr [] Hq Hd := ((xa.trans xb).trans xc).trans xd
                have rs : RS Hd 0 (.ref p4) (sLess c) := ⟨p4, _, rfl, ed, ⟨p3, _, _, rfl, xd.tups _ _ ec, ⟨p1, rfl, xd.tups _ _ (xc.tups _ _ (xb.tups _ _ ea))⟩, ⟨p2, rfl, xd.tups _ _ (xc.tups _ _ eb)⟩⟩⟩
                refine ⟨_, rfl, sz2, fun q1 He ne xe ee => ⟨sz3, fun q2 Hf nf xf ef => ⟨_, rfl, sz2, fun q3 Hg ng xg eg => ⟨_, rfl, _, rfl, sz1, fun q4 Hh nh xh eh => ?_⟩⟩⟩⟩
                have xqh : Fr [] Hq Hh := (((xqd.trans xe).trans xf).trans xg).trans xh
                refine ⟨li', q4, vsq, _, rfl, rfl, xqh.keep _ _ (fun z => nomatch z) ins'.ei, eh, small40 (by have := ins'.ln; show vsq.length + 1 ≤ 1000; omega), fun q5 Hi ni xi ei => ⟨q5, _, rfl, ei, fun q6 Hj nj xj ej => ⟨sz3, fun q7 Hk nk xk ek => ⟨sz2, fun q8 Hl nl xl el => ⟨_, _, rfl, ?_⟩⟩⟩⟩⟩
                have xdl : Fr [] Hd Hl := (((((((xe.trans xf).trans xg).trans xh).trans xi).trans xj).trans xk).trans xl)
                have xfl : Fr [] Hf Hl := (((((xg.trans xh).trans xi).trans xj).trans xk).trans xl)
                have xql := xqd.trans xdl
                have nn : ∀ {a : Addr}, a ∉ ([] : List Addr) := fun z => nomatch z
                refine hQ1 _ _ ⟨q8, true, _, flq, _, [.set c (.num 2), .wh (.cell c) (bq ++ [sLess c])], rfl, ⟨ins'.g.ext xql, xql.keep _ _ nn ins'.es, xql.keep _ _ nn ins'.eg, el, ins'.nps, ins'.npg, ?_, (by decide : 2 ≤ 4), fun z => by cases z⟩, ?_, Bo.down (.inr rfl) hc hcP (by decide) (bq0.mono (fun y hy => by
                  rcases hy with hy | hy
                  · exact hy.sub
                  · rw [hy]; exact hc) (Nat.le_refl _) (Nat.le_refl _) (Nat.le_refl _)) (.inl rfl), rl0.mono xql.tu, xq.trans xql.e3⟩
                · exact nin3 (o := .lst []) (ins'.g.ext (xqd.trans (((((((xe.trans xf).trans xg).trans xh).trans xi).trans xj).trans xk)))) nl
                · refine .cons ⟨q2, _, rfl, xfl.tups _ _ ef, ⟨q1, rfl, xfl.tups _ _ (xf.tups _ _ ee)⟩⟩ (.cons ⟨q7, .ref q3, q6, _, rfl, xl.tups _ _ ek, ⟨q3, rfl, (((((xh.trans xi).trans xj).trans xk).trans xl)).tups _ _ eg⟩, xl.tups _ _ (xk.tups _ _ ej), pd_app (rq0.mono xql.tu) (.cons (rs.mono xdl.tu) .nil)⟩ .nil)
              · obtain ⟨li', ro', z15, flq, vsq, bq, rfl, ins, rlq, boq, rl0, xr⟩ := hP
                refine ⟨_, rfl, _, rfl, _, _, rfl, rfl, _, _, rfl, rfl, .inl ⟨by omega, by omega⟩, ?_⟩
                refine ⟨_, rfl, _, rfl, _, rfl, li', ps, vsq, vs, rfl, rfl, ins.ei, ins.es, small40 (by have := ins.ln; have := ag.ln; omega), fun lc Ha na xa ea => ⟨lc, _, rfl, ea, fun lt Hb nb xb eb => ⟨sz3, fun pt Hc nc xc ec => ⟨sz1, fun ps' Hd nd' xd ed => ?_⟩⟩⟩⟩
                have xrd : Fr [] Hr Hd := ((xa.trans xb).trans xc).trans xd
                have nn : ∀ {a : Addr}, a ∉ ([] : List Addr) := fun z => nomatch z
                obtain ⟨sz, dd, bo, hs, hd⟩ := ag.bo
                have r0 := ag.r0
                have bt := Bo.times (k := 1 + t) (W := W) (P := Pc W 2) (n := 6) (sz := 7 + sz) (d := 14 + dd) (b := bq ++ b) (by omega) (by omega) (fun z => by
                  have z := (List.append_eq_nil_iff.mp z).1
                  rw [z] at rlq
                  cases rlq
                  exact ins.ne rfl) (by decide) ((boq.up (by decide)).app bo)
                have x0d : Fr [f, w, d] H Hd := xr.trans xrd.e3
                have x0c : Fr [f, w, d] H Hc := xr.trans ((xa.trans xb).trans xc).e3
                refine hQ _ _ ⟨ps', pg2, (1 + t) * (8 + r), ro', fm, _, _, _, _, _, _, _, _, _, _, flq, left - N, heavy, [.ref pt], [.times (1 + t) (bq ++ b)], gs ++ gs2, rfl, ⟨ins.g.ext xrd, ed, Nat.le_refl _, ?_, ⟨_, _, bt, ?_, ?_⟩, xrd.keep _ _ nn ins.eg, ins.npg, gl2, ?_⟩, x0d, by omega, x0c.back _ nd'⟩
                · exact .cons ⟨pt, lt, _, rfl, xd.tups _ _ ec, xd.tups _ _ (xc.tups _ _ eb), pd_app (rlq.mono xrd.tu) ((rl0.mono xrd.tu).up (by decide))⟩ .nil
                · have tt : t = 0 ∨ t = 1 ∨ t = 2 := by omega
                  rcases tt with rfl | rfl | rfl
                  · show (((1 * (7 + sz) : Nat) : Int)) ≤ 1 * (8 + r); omega
                  · show (((2 * (7 + sz) : Nat) : Int)) ≤ 2 * (8 + r); omega
                  · show (((3 * (7 + sz) : Nat) : Int)) ≤ 3 * (8 + r); omega
                · have tt : t = 0 ∨ t = 1 ∨ t = 2 := by omega
                  rcases tt with rfl | rfl | rfl
                  · show (((1 * (14 + dd) : Nat) : Int)) ≤ 2 * (1 * (8 + r)); omega
                  · show (((2 * (14 + dd) : Nat) : Int)) ≤ 2 * (2 * (8 + r)); omega
                  · show (((3 * (14 + dd) : Nat) : Int)) ≤ 2 * (3 * (8 + r)); omega
                · exact Int.mul_nonneg (by omega) (by omega)
        · obtain ⟨sz, dd, bo, hs, hd⟩ := ag.bo
          exact hQ _ _ ⟨ps, pg, r, ro, form, _, _, _, _, _, _, _, _, _, _, fl5, left, heavy, vs, b, gs, rfl, ⟨ag.g, ag.es, ag.ln, ag.rl.up (by decide), ⟨sz, dd, bo.up (by decide), hs, hd⟩, ag.eg, ag.np, by have := ag.gl; omega, ag.r0⟩, x05, Int.le_refl _, n1⟩
      · obtain ⟨ps', pg', r', ro', fm, z8, z9, z10, z11, z12, z13, z14, z15, z16, z17, fl6, l6, v6, vs', b', gs', rfl, ag', x06, hl6, nps'⟩ := hP
        clear ag x05
        -- nothing of it
        try dsimp only [gName]
        refine if_cut (fun c H7 => Gx H7 f w d fl6 W l6 v6 fr ∧ Fr [] H6 H7 ∧ (c = false → r' ≤ l6)) (fun Q' hQ => ?_) (fun c H7 hP => ?_)
        · refine ⟨_, rfl, _, rfl, w, _, rfl, ag'.g.wv.gL, _, _, rfl, rfl, _, rfl, ite2 (fun _ => hQ _ _ ⟨ag'.g, Fr.refl, fun z => by cases z⟩) (fun c => ?_)⟩
          have c : r' ≤ l6 := by
            have c : ¬ r' > l6 := fun z => c (decide_eq_true z)
            omega
          refine ⟨_, rfl, Nat.zero_le _, fun p0 H7 n7 x7 e7 => ⟨ps', p0, vs', rfl, rfl, SqL.of (x7.keep _ _ (fun z => nomatch z) ag'.es), SqL.of e7, _, rfl, hQ _ _ ⟨ag'.g.ext x7, x7, fun _ => c⟩⟩⟩
        · obtain ⟨g7, x7, hc⟩ := hP
          have nn : ∀ {a : Addr}, a ∉ ([] : List Addr) := fun z => nomatch z
          refine ite2 (fun _ => ?_) (fun e => ?_)
          · -- a small row
            refine ⟨_, rfl, _, rfl, _, rfl, f, w, d, fl6, W, l6, v6, fr, rfl, g7, wo, fun p u sm H8 fl8 v8 fr8 g8 x8 np ep rs wf => ?_⟩
            have x08 := (x06.trans x7.e3).trans x8
            exact q p [u] [sm] 1 1 H8 fl8 (l6 - 1) v8 fr8 g8 x08 ((x06.trans x7.e3).back _ np) ep (by decide : 1 ≤ 5) (.cons (rs.up (Nat.zero_le _)) .nil) (Bo.small wo wf fun _ z => z.sub) (StepOk.small hD hl0 (by omega))
          · have hr6 : r' ≤ l6 := hc (by cases c with
              | true => exact absurd rfl e
              | false => rfl)
            obtain ⟨sz, dd, bo, hs, hd⟩ := ag'.bo
            have es7 := x7.keep _ _ nn ag'.es
            have eg7 := x7.keep _ _ nn ag'.eg
            have rl7 := ag'.rl.mono x7.tu
            have x07 := x06.trans x7.e3
            have np7 : H7 ps' = some (.lst vs') := es7
            have nd : ∀ {a : Addr}, a ∉ [f, w, d] → a ∉ [d] := fun h z => h (by rw [List.mem_singleton.mp z]; exact mem3d)
            have aps' := g.apart nps'
            refine ⟨_, rfl, d, fr, rfl, .inl g7.fa, fun lk hlk => ⟨lk, rfl, ⟨_, SqL.of upd_same⟩, for_list (xs := fr.map fun kv => kV kv.1)
              (fun i σ' H' => ∃ z16, σ' = [some (V.ref f), some (V.ref w), some (V.ref d), some (V.ref ps'), some (V.ref pg'), some (V.int r'), some (V.bl ro'), some (V.int fm), z8, z9, z10, z11, z12, z13, z14, z15, z16, z17] ∧
                ∃ frx, Gx H' f w d fl6 W l6 v6 frx ∧ Fr [d] (upd H7 lk (.lst (fr.map fun kv => kV kv.1))) H' ∧ ∀ j ≥ i, ∀ kv, fr[j]? = some kv → ∃ u, valV frx kv.1 = some u) ?_ (fun i σ' H' hi hP => ?_) (fun i x σ' H' hx hP => ?_) (fun σ' H' hP => ?_)⟩⟩
            · exact ⟨_, rfl, fr, g7.new hlk, Fr.refl, fun j _ kv hj => val_mem (List.mem_of_getElem? hj)⟩
            · obtain ⟨_, _, _, _, xx, _⟩ := hP
              exact SqL.of (xx.keep _ _ (fun z => (ne_of_none g7.fa hlk).symm (List.mem_singleton.mp z)) upd_same)
            · obtain ⟨z, rfl, frx, gx, xx, hv⟩ := hP
              rw [List.getElem?_map] at hx
              obtain ⟨kv, ek, rfl⟩ := Option.map_eq_some_iff.mp hx
              obtain ⟨y, ey, hy⟩ := g7.fo.in_ kv (List.mem_of_getElem? ek)
              obtain ⟨u, eu⟩ := hv i (Nat.le_refl i) kv ek
              have eg' := xx.keep _ _ (nd ag'.np) (upd_lock (u := .lst (fr.map fun kv => kV kv.1)) (ne_of_none eg7 hlk).symm eg7)
              have more : ∃ z16, ([some (V.ref f), some (V.ref w), some (V.ref d), some (V.ref ps'), some (V.ref pg'), some (V.int r'), some (V.bl ro'), some (V.int fm), z8, z9, z10, z11, z12, z13, z14, z15, some (kV kv.1), z17] : L2.St) = [some (V.ref f), some (V.ref w), some (V.ref d), some (V.ref ps'), some (V.ref pg'), some (V.int r'), some (V.bl ro'), some (V.int fm), z8, z9, z10, z11, z12, z13, z14, z15, z16, z17] ∧
                ∃ frx, Gx H' f w d fl6 W l6 v6 frx ∧ Fr [d] (upd H7 lk (.lst (fr.map fun kv => kV kv.1))) H' ∧ ∀ j ≥ i + 1, ∀ kv, fr[j]? = some kv → ∃ u, valV frx kv.1 = some u := ⟨_, rfl, frx, gx, xx, fun j hj kv e => hv j (by omega) kv e⟩
              have pop : ∀ H'' : Hp, H'' = upd H' d (.dK (dropK frx kv.1)) → ∃ z16, ([some (V.ref f), some (V.ref w), some (V.ref d), some (V.ref ps'), some (V.ref pg'), some (V.int r'), some (V.bl ro'), some (V.int fm), z8, z9, z10, z11, z12, z13, z14, z15, some (kV kv.1), z17] : L2.St) = [some (V.ref f), some (V.ref w), some (V.ref d), some (V.ref ps'), some (V.ref pg'), some (V.int r'), some (V.bl ro'), some (V.int fm), z8, z9, z10, z11, z12, z13, z14, z15, z16, z17] ∧
                ∃ frx, Gx H'' f w d fl6 W l6 v6 frx ∧ Fr [d] (upd H7 lk (.lst (fr.map fun kv => kV kv.1))) H'' ∧ ∀ j ≥ i + 1, ∀ kv, fr[j]? = some kv → ∃ u, valV frx kv.1 = some u := fun H'' e => by
                subst e
                refine ⟨_, rfl, _, gx.fresh (gx.fo.drop _), xx.mutD (.head _) gx.fa, fun j hj kv2 e2 => ?_⟩
                obtain ⟨u2, eu2⟩ := hv j (by omega) kv2 e2
                refine ⟨u2, ?_⟩
                rw [val_drop]
                · exact eu2
                · intro z
                  have hnd := g7.fo.nd
                  have l1 : i < (fr.map (·.1)).length := by rw [List.length_map]; exact (List.getElem?_eq_some_iff.mp ek).1
                  have l2 : j < (fr.map (·.1)).length := by rw [List.length_map]; exact (List.getElem?_eq_some_iff.mp e2).1
                  have q1 : (fr.map (·.1))[i] = kv.1 := by rw [List.getElem_map]; exact congrArg Prod.fst (List.getElem?_eq_some_iff.mp ek).2
                  have q2 : (fr.map (·.1))[j] = kv2.1 := by rw [List.getElem_map]; exact congrArg Prod.fst (List.getElem?_eq_some_iff.mp e2).2
                  have := (List.getElem_inj hnd).mp (show (fr.map (·.1))[i] = (fr.map (·.1))[j] by rw [q1, q2, z])
                  omega
              try dsimp only [gName]
              refine if_cut (fun c H8 => H8 = H') (fun Q' hQ => ?_) (fun c H8 hP => ?_)
              · refine ⟨_, rfl, _, rfl, ite2 (fun _ => hQ _ _ rfl) (fun _ => ?_)⟩
                refine ⟨_, rfl, _, rfl, pg', _, rfl, .inl (SqL.of eg'), by rw [ey]; rfl, flat_strs _, _, rfl, hQ _ _ rfl⟩
              · rw [hP]
                refine ite2 (fun _ => ?_) (fun _ => more)
                exact ⟨_, rfl, d, rfl, .inl ⟨_, .inl gx.fa⟩, _, rfl, frx, kv.1, u, gx.fa, rfl, eu, pop _ rfl⟩
            · obtain ⟨z, rfl, frx, gx, xx, _⟩ := hP
              obtain ⟨kvs, hp, hv⟩ := gx.wv.setL (l6 - r')
              have g9 := gx.world hv
              have y9 : Fr [w] H' (upd H' w (.dK kvs)) := let ⟨_, e⟩ := gx.wv.at_; Fr.refl.mutD (.head _) e
              refine ⟨_, rfl, w, _, rfl, gx.wv.gL, _, rfl, _, _, rfl, rfl, _, rfl, w, _, rfl, hp, ?_⟩
              have z7 : Fr [f, w, d] H7 (upd H' w (.dK kvs)) := ((Fr.refl.new hlk).trans xx.d3).trans y9.w3
              refine ⟨_, rfl, q ps' vs' b' sz dd _ fl6 (l6 - r') v6 frx g9 (x07.trans z7) nps' (z7.keep _ _ aps'.n3 es7) (by have := ag'.ln; omega) ((rl7.mono z7.tu).up (by omega)) (bo.mono (fun _ z => z.le hD) (by omega) (Nat.le_refl _) (Nat.le_refl _)) (StepOk.again hD hl0 hl6 ag'.r0 hr6 hs hd)⟩
end
end Kz
set_option Elab.async false
set_option linter.all false
set_option maxRecDepth 100000
set_option maxHeartbeats 4000000
/-! ZW9: what is kept over rounds is drawn. -/
namespace Kz
open PySem PySem.Spec PyProof.Rows L2
def kd : Nat → Nat
  | 0 => 0
  | n + 1 => 2 * (kd n + 3) + 6
/-- the counters from i on -/
def Pd (W : Wd) (i : Nat) : Str → Prop := fun x => x ∈ W.counters.drop i
theorem Pd.sub {W : Wd} {i : Nat} {x : Str} (h : Pd W i x) : x ∈ W.counters := List.mem_of_mem_drop h
theorem pd_ctr {W : Wd} (wo : WOk W) {i : Nat} (h : i < 3) : ∃ c, W.counters[i]? = some c ∧ c ∈ W.counters ∧ ¬ Pd W (i + 1) c ∧ ∀ y, (Pd W (i + 1) y ∨ y = c) → Pd W i y := by
  have hl : i < W.counters.length := by rw [wo.k]; exact h
  have nd := (List.nodup_append.mp wo.nd).2.1
  have e : W.counters.drop i = W.counters[i] :: W.counters.drop (i + 1) := List.drop_eq_getElem_cons hl
  have nd2 : (W.counters[i] :: W.counters.drop (i + 1)).Nodup := by rw [← e]; exact nd.sublist (List.drop_sublist i _)
  refine ⟨W.counters[i], List.getElem?_eq_getElem hl, List.getElem_mem hl, (List.nodup_cons.mp nd2).1, fun y hy => ?_⟩
  unfold Pd
  rw [e]
  rcases hy with hy | hy
  · exact List.mem_cons_of_mem _ hy
  · rw [hy]; exact List.mem_cons_self
/-- what stands while rounds are put around it -/
structure KpSt (f w d : Addr) (W : Wd) (H0 H : Hp) (fl : Fl) (l v : Int) (fr : List (Key × V)) (ta pu pt : Addr) (x gg : Str) : Prop where
  g : Gx H f w d fl W l v fr
  fr : Fr [f, w, d] H0 H
  ra : H ta = some (.tup [.str "read", .str x, .str gg])
  ru : RS H 0 (.ref pu) (.sure [x] 200)
  rt : RS H 0 (.ref pt) (.tell (.cell x))
/-- a list of statements -/
structure KpL (f w d : Addr) (W : Wd) (H : Hp) (p : Addr) (P : Str → Prop) (m n sz dd : Nat) (vs : List V) (b : List Sm) : Prop where
  e : H p = some (.lst vs)
  np : p ∉ [f, w, d]
  ln : vs.length ≤ m
  rl : RL H n vs b
  bo : Bo W P n sz dd b
section
variable {f w d p : Addr} {W : Wd} {H0 H H' : Hp} {fl fl' : Fl} {l v : Int} {fr : List (Key × V)} {ta pu pt : Addr} {x gg : Str} {P : Str → Prop} {m n sz dd : Nat} {vs : List V} {b : List Sm} {v' : V}
theorem KpSt.ext (k : KpSt f w d W H0 H fl l v fr ta pu pt x gg) (y : Fr [] H H') : KpSt f w d W H0 H' fl l v fr ta pu pt x gg := ⟨k.g.ext y, k.fr.trans y.e3, y.tups _ _ k.ra, k.ru.mono y.tu, k.rt.mono y.tu⟩
theorem KpSt.flow (k : KpSt f w d W H0 H fl l v fr ta pu pt x gg) (y : Fr [f] H H') (h : FlAt H' f fl') : KpSt f w d W H0 H' fl' l v fr ta pu pt x gg := ⟨k.g.flow y h, k.fr.trans y.f3, y.tups _ _ k.ra, k.ru.mono y.tu, k.rt.mono y.tu⟩
theorem KpL.ext (k : KpL f w d W H p P m n sz dd vs b) (y : Fr [] H H') : KpL f w d W H' p P m n sz dd vs b := ⟨y.keep _ _ (fun z => nomatch z) k.e, k.np, k.ln, k.rl.mono y.tu, k.bo⟩
theorem KpL.flow (k : KpL f w d W H p P m n sz dd vs b) (y : Fr [f] H H') : KpL f w d W H' p P m n sz dd vs b := ⟨y.keep _ _ (fun z => k.np (by rw [List.mem_singleton.mp z]; exact .head _)) k.e, k.np, k.ln, k.rl.mono y.tu, k.bo⟩
theorem KpSt.own {vs2 : List V} (k : KpSt f w d W H0 H fl l v fr ta pu pt x gg) (a : Apart p f w d W) (n : H0 p = none) (e : H p = some (.lst vs)) : KpSt f w d W H0 (upd H p (.lst vs2)) fl l v fr ta pu pt x gg :=
  have y : Fr [p] H (upd H p (.lst vs2)) := Fr.refl.mutL (.head _) e
  ⟨k.g.own a e trivial, k.fr.own n e, y.tups _ _ k.ra, k.ru.mono y.tu, k.rt.mono y.tu⟩
theorem KpL.own {q : Addr} {vs2 vs3 : List V} (k : KpL f w d W H p P m n sz dd vs b) (h : p ≠ q) (e : H q = some (.lst vs2)) : KpL f w d W (upd H q (.lst vs3)) p P m n sz dd vs b :=
  have y : Fr [q] H (upd H q (.lst vs3)) := Fr.refl.mutL (.head _) e
  ⟨y.keep _ _ (fun z => h (List.mem_singleton.mp z)) k.e, k.np, k.ln, k.rl.mono y.tu, k.bo⟩
theorem KpL.one {s : Sm} (e : H p = some (.lst [v'])) (np : p ∉ [f, w, d]) (r : RS H 0 v' s) (bo : Bo W P 0 1 1 [s]) : KpL f w d W H p P 1 0 1 1 [v'] [s] := ⟨e, np, Nat.le_refl _, .cons r .nil, bo⟩
theorem KpL.cat {q q2 : Addr} {m2 sz2 dd2 : Nat} {vs2 : List V} {b2 : List Sm} (k : KpL f w d W H p P m n sz dd vs b) (k2 : KpL f w d W H q P m2 n sz2 dd2 vs2 b2) (y : Fr [] H H') (nq : q2 ∉ [f, w, d]) (e : H' q2 = some (.lst (vs ++ vs2))) : KpL f w d W H' q2 P (m + m2) n (sz + sz2) (dd + dd2) (vs ++ vs2) (b ++ b2) :=
  ⟨e, nq, by rw [List.length_append]; have := k.ln; have := k2.ln; omega, pd_app (k.rl.mono y.tu) (k2.rl.mono y.tu), k.bo.app k2.bo⟩
theorem KpL.le {P' : Str → Prop} {m' n' sz' dd' : Nat} (k : KpL f w d W H p P m n sz dd vs b) (hP : ∀ y, P' y → P y) (h1 : m ≤ m') (h2 : n ≤ n') (h3 : sz ≤ sz') (h4 : dd ≤ dd') : KpL f w d W H p P' m' n' sz' dd' vs b :=
  ⟨k.e, k.np, Nat.le_trans k.ln h1, k.rl.up h2, k.bo.mono hP h2 h3 h4⟩
end
section
variable {P : Program} {w : World} {K : PySem.W.Frag} {mg : Str → Option Value} {base : Heap}
theorem ok_kept (T : Tp K mg) : Fx P w K mg base 14 "_law_kept" pFwd4 (spKept 0) := by
  have F_l_draw : Fx P w K mg base 1 "_law_draw" ["_law_flow_here", "_law_many"] spDrawC := ok_drawC T
  have F_l_read : Fx P w K mg base 2 "_law_read" ["_law_flow_here", "_law_world", "_law_fresh"] spRead := ok_read T
  have F_l_term : Fx P w K mg base 13 "_law_term" ["_law_flow_here", "_law_names_here", "_law_room_here"] (spTerm 11) := ok_term T 11
  refine fx_of T 35 26 rfl rfl sc_l_kept (fun _ _ _ _ _ _ us hl => match us, hl with | [_, _, _, _], _ => rfl) (fun vs H Q E h => ?_) (fun f cdv A outer s H vs Q E hr h => ?_)
  · obtain ⟨f, w, d, fl, W, left, heavy, fr, rfl, _⟩ := h
    rfl
  · obtain ⟨f, w, d, fl, W, left, heavy, fr, rfl, hl6, g, wo, ho, hl0, q⟩ := h
    have hu := hu_of hr
    refine ⟨_, (pss_cons (ps_par (i := 4) (j := 5) rfl sc_l_kept.nd rfl rfl (by decide) rfl rfl (pa_cons (pe_ix ix_list (pe_F F_l_read (hr.mono (by omega)) (by rfl) (pa_cons (pv 0) (pa_cons (pv 1) (pa_cons (pe_dnC pe_dnewK) pa_nil)))) pe_int (fun _ _ => rfl)) (pa_cons (pe_lstC pa_nil) pa_nil)) (by rfl))
    (pss_cons (ps_asg (pe_tupC (pa_cons (pe_tupC (pa_cons pe_str (pa_cons (pe_tupC (pa_cons (pe_ix ix_tup (pv 4) pe_int (fun _ _ => rfl)) pa_nil)) (pa_cons pe_int pa_nil)))) (pa_cons (pe_op op_sub (pe_dget hu (pv 1) pe_str (fun _ _ => rfl)) pe_int) (pa_cons (pe_tupC (pa_cons pe_str (pa_cons (pe_tupC (pa_cons pe_str (pa_cons (pe_ix ix_tup (pv 4) pe_int (fun _ _ => rfl)) pa_nil))) pa_nil))) pa_nil)))) (pg_tup rfl (pgs_cons (pg_name (i := 6) sc_l_kept.nd rfl (Or.inl rfl)) (pgs_cons (pg_sub (pv 1) pe_str (set_dK hu)) (pgs_cons (pg_name (i := 7) sc_l_kept.nd rfl (Or.inl rfl)) pgs_nil)))))
    (pss_cons (ps_for PassesOwn.never rfl (pi_range2 (by rfl) T.n_range (pa_cons (pv 3) (pa_cons (pe_callB (call_min2 rfl) (by rfl) T.n_min (by decide +kernel) (pa_cons pe_int (pa_cons (pe_op op_add (pe_op op_add (pv 3) pe_int) (pe_F F_l_draw (hr.mono (by omega)) (by rfl) (pa_cons (pv 0) (pa_cons pe_int pa_nil)))) pa_nil))) pa_nil))) (pg_name (i := 8) sc_l_kept.nd rfl (Or.inl rfl)) (pss_cons (ps_set (i := 9) sc_l_kept.nd rfl (Or.inl rfl) (pe_tupC (pa_cons pe_str (pa_cons (pe_ix ix_list (pe_dget hu (pv 1) pe_str (fun _ _ => rfl)) (pv 8) (fun _ _ => rfl)) pa_nil))))
      (pss_cons (ps_set (i := 10) sc_l_kept.nd rfl (Or.inl rfl) (pe_tupC (pa_cons pe_str (pa_cons (pe_ix ix_tup (pv 9) pe_int (fun _ _ => rfl)) (pa_cons (pe_tupC (pa_cons pe_str (pa_cons pe_str (pa_cons (pv 9) (pa_cons (pe_tupC (pa_cons pe_str (pa_cons pe_int pa_nil))) pa_nil))))) pa_nil)))))
      (pss_cons (ps_setLc (i := 11) (own := [("_law_turn", 13)]) rfl sc_l_kept.nd rfl rfl (sw_true rfl rfl rfl (by decide +kernel)) (pi_range1 (by rfl) T.n_range (pa_cons (pe_F F_l_draw (hr.mono (by omega)) (by rfl) (pa_cons (pv 0) (pa_cons pe_int pa_nil))) pa_nil)) (blkOk_by (own := [("_law_turn", 13)]) (N := N_l_kept) (sc := defScope s_l_kept) (by decide +kernel)) (fun _ _ _ _ _ => (pg_name (i := 13) sc_l_kept.nd rfl (Or.inl rfl))) (fun _ _ _ _ _ => pts_nil) (fun _ _ _ _ _ => (pe_tupC (pa_cons pe_str (pa_cons (pe_F F_l_term (hr.mono (by omega)) (by rfl) (pa_cons (pv 0) (pa_cons (pe_dget hu (pv 1) pe_str (fun _ _ => rfl)) (pa_cons pe_int pa_nil)))) pa_nil)))))
      (pss_cons (ps_set (i := 12) sc_l_kept.nd rfl (Or.inl rfl) (pe_ix ix_list (pe_lstC (pa_cons (pe_op op_catL (pe_op op_catL (pv 11) (pe_lstC (pa_cons (pv 4) pa_nil))) (pv 5)) (pa_cons (pe_op op_catL (pe_op op_catL (pe_lstC (pa_cons (pv 4) pa_nil)) (pv 5)) (pv 11)) (pa_cons (pe_op op_catL (pe_op op_catL (pe_op op_catL (pe_lstC (pa_cons (pv 6) pa_nil)) (pv 11)) (pe_lstC (pa_cons (pv 4) pa_nil))) (pv 5)) pa_nil)))) (pe_F F_l_draw (hr.mono (by omega)) (by rfl) (pa_cons (pv 0) (pa_cons pe_int pa_nil))) (fun _ _ => rfl)))
      (pss_cons (ps_set (i := 12) sc_l_kept.nd rfl (Or.inl rfl) (pe_ix ix_list (pe_lstC (pa_cons (pe_op op_catL (pv 12) (pe_lstC (pa_cons (pv 10) pa_nil))) (pa_cons (pe_op op_catL (pe_lstC (pa_cons (pv 10) pa_nil)) (pv 12)) pa_nil))) (pe_F F_l_draw (hr.mono (by omega)) (by rfl) (pa_cons (pv 0) (pa_cons pe_int pa_nil))) (fun _ _ => rfl)))
      (pss_one (ps_set (i := 5) sc_l_kept.nd rfl (Or.inl rfl) (pe_lstC (pa_cons (pe_tupC (pa_cons pe_str (pa_cons (pe_ix ix_tup (pv 9) pe_int (fun _ _ => rfl)) (pa_cons (pe_tupC (pa_cons pe_str (pa_cons (pe_op op_add pe_int (pe_F F_l_draw (hr.mono (by omega)) (by rfl) (pa_cons (pv 0) (pa_cons pe_int pa_nil)))) pa_nil))) pa_nil)))) (pa_cons (pe_tupC (pa_cons pe_str (pa_cons (pv 9) (pa_cons (pe_callTy call_tupC (by rfl) T.n_tuple (by decide +kernel) (pa_cons (pv 12) pa_nil)) pa_nil)))) pa_nil)))))))))))
    (pss_cons (ps_expr (pe_bm0 PySem.F.plainAttrs_dict PySem.F.slot_dict_clear PySem.F.type_dict_clear mtd_clear (pv 2)))
    (pss_cons (ps_dput hu (pv 2) (pe_ix ix_tup (pv 4) pe_int (fun _ _ => rfl)) pe_bl rfl)
    (pss_one (ps_ret (pe_op op_catL (pe_op op_catL (pe_lstC (pa_cons (pv 4) pa_nil)) (pv 5)) (pe_ix ix_list (pe_lstC (pa_cons (pe_lstC (pa_cons (pv 6) pa_nil)) (pa_cons (pe_lstC (pa_cons (pv 7) pa_nil)) (pa_cons (pe_lstC (pa_cons (pv 6) (pa_cons (pv 7) pa_nil))) (pa_cons (pe_lstC pa_nil) pa_nil))))) (pe_F F_l_draw (hr.mono (by omega)) (by rfl) (pa_cons (pv 0) (pa_cons pe_int pa_nil))) (fun _ _ => rfl)))))))))), ?_⟩
    -- the reading kept
    refine ⟨_, rfl, _, rfl, fun nd H1 n1 x1 e1 => ?_⟩
    have gn := g.newD n1 x1 e1 (FrOk.nil W)
    refine ⟨f, w, nd, fl, W, left, heavy, [], rfl, gn, wo, fun lp v x gg H2 fl2 fr2 g2 x2 np ep rs hx hg => ?_⟩
    obtain ⟨gd, x02⟩ := Gx.back (g.ext x1) n1 ⟨_, g.fa⟩ x1.e3 x2 g2
    obtain ⟨ta, rfl, eta⟩ := rs
    refine ⟨lp, _, 0, .ref ta, rfl, rfl, SqL.of ep, at0, Nat.zero_le _, fun fo H3 n3 x3 e3 => ⟨_, _, rfl, ?_⟩⟩
    have eta := x3.tups _ _ eta
    have g3 := gd.ext x3
    have x03 := x02.trans x3.e3
    have nfo : fo ∉ [f, w, d] := nin3 (o := .lst []) gd n3
    have xw : x ∈ W.cells := hx
    clear gn x1 g2 x2 x02 gd ep np x3 n3 n1 e1
    -- sure, the room, tell
    refine ⟨_, rfl, ta, _, 1, .str x, rfl, rfl, SqT.of eta, at1, sz1, fun p1 Ha na xa ea => ⟨sz3, fun pu Hb nb xb eb => ⟨_, rfl, w, _, rfl, ((g3.ext xa).ext xb).wv.gL, _, _, rfl, rfl, _, rfl, ta, _, 1, .str x, rfl, rfl, SqT.of (xb.tups _ _ (xa.tups _ _ eta)), at1, sz2, fun p2 Hc nc xc ec => ⟨sz2, fun pt Hd nd' xd ed => ⟨sz3, fun p5 He ne xe ee => ?_⟩⟩⟩⟩⟩
    have x3e : Fr [] H3 He := (((xa.trans xb).trans xc).trans xd).trans xe
    have ge := g3.ext x3e
    obtain ⟨kvs, hp, hv⟩ := ge.wv.setL (left - 18)
    have g5 := ge.world hv
    have y5 := ge.frw (o := .dK kvs)
    refine ⟨p5, _, rfl, SqT.of ee, rfl, _, _, rfl, _, _, rfl, _, rfl, w, _, rfl, hp, _, _, rfl, rfl, ?_⟩
    have k5 : KpSt f w d W H (upd He w (.dK kvs)) fl2 (left - 18) heavy fr ta pu pt x gg := by
      refine ⟨g5, (x03.trans x3e.e3).trans y5, y5.tups _ _ (x3e.tups _ _ eta), ?_, ?_⟩
      · exact ⟨pu, p1, rfl, y5.tups _ _ (xe.tups _ _ (xd.tups _ _ (xc.tups _ _ eb))), y5.tups _ _ (xe.tups _ _ (xd.tups _ _ (xc.tups _ _ (xb.tups _ _ ea))))⟩
      · exact ⟨pt, .ref p2, rfl, y5.tups _ _ (xe.tups _ _ ed), ⟨p2, rfl, y5.tups _ _ (xe.tups _ _ (xd.tups _ _ ec))⟩⟩
    have f5 : KpL f w d W (upd He w (.dK kvs)) fo (Pd W 0) 0 0 0 0 [] [] := by
      have n1 : fo ≠ w := fun z => nfo (by rw [z]; exact mem3w)
      exact ⟨by rw [upd_ne n1]; exact x3e.keep _ _ (fun z => nomatch z) e3, nfo, Nat.le_refl _, .nil, Bo.nil⟩
    clear hp hv g5 y5 ge x3e ee ed ec eb ea xa xb xc xd xe na nb nc nd' ne g3 x03 e3 eta nfo
    generalize upd He w (.dK kvs) = H5 at k5 f5 ⊢
    -- the rounds
    have cc := wo.c2
    refine ⟨_, rfl, _, rfl, _, _, rfl, rfl, _, rfl, f, fl2, 3, rfl, k5.g.fl, by decide, by decide, fun n3 H6 fl6 u0 u1 h6 x6 => ⟨_, _, rfl, rfl, _, _, rfl, ?_⟩⟩
    obtain ⟨N, eN, hN⟩ : ∃ N : Nat, (if ((0 : Nat) : Int) + 1 + n3 < 3 then ((0 : Nat) : Int) + 1 + n3 else 3) = (N : Int) ∧ N ≤ 3 := ⟨(if ((0 : Nat) : Int) + 1 + n3 < 3 then ((0 : Nat) : Int) + 1 + n3 else 3).toNat, by split <;> omega, by split <;> omega⟩
    rw [eN]
    refine ⟨_, _, rfl, ⟨by decide, by decide, by omega, by omega⟩, ?_⟩
    rw [show ((N : Int) - ((0 : Nat) : Int)).toNat = N by omega]
    have k6 := k5.flow x6 h6
    have f6 := f5.flow x6
    clear k5 f5 h6 x6 eN
    refine for_range (lo := ((0 : Nat) : Int)) (n := N) (fun i σ' H' => ∃ fo z8 z9 z10 z11 z12 z13, σ' = [some (V.ref f), some (V.ref w), some (V.ref d), some (V.int ((0 : Nat) : Int)), some (V.ref ta), some (V.ref fo), some (V.ref pu), some (V.ref pt), z8, z9, z10, z11, z12, z13] ∧
      ∃ fl' vsF bF, KpSt f w d W H H' fl' (left - 18) heavy fr ta pu pt x gg ∧ KpL f w d W H' fo (Pd W i) 2 i (6 * i) (kd i) vsF bF) ?_ (fun i σ' H' hi hP => ?_) (fun σ' H' hP => ?_)
    · exact ⟨fo, _, _, _, _, _, _, rfl, fl6, [], [], k6, f6.le (fun _ z => z) (by decide) (by decide) (by decide) (by decide)⟩
    · obtain ⟨fo, z8, z9, z10, z11, z12, z13, rfl, fl7, vsF, bF, k7, f7⟩ := hP
      clear k6 f6
      obtain ⟨c, ec, hc, hcP, hcU⟩ := pd_ctr wo (show i < 3 by omega)
      have eci : atI (W.counters.map V.str) (((0 : Nat) : Int) + (i : Int)) = some (.str c) := by
        rw [show ((0 : Nat) : Int) + (i : Int) = (i : Int) by omega]
        exact atI_nat (by rw [List.getElem?_map, ec]; rfl)
      refine ⟨_, rfl, w, _, rfl, k7.g.wv.gK, _, rfl, W.aK, _, _, .str c, rfl, rfl, SqL.of k7.g.ws.counters, eci, sz2, fun pc Ha na xa ea => ?_⟩
      refine ⟨_, rfl, pc, _, 1, .str c, rfl, rfl, SqT.of ea, at1, _, rfl, sz2, fun q1 Hb nb xb eb => ⟨sz4, fun q2 Hc nc xc ec' => ⟨sz3, fun pl Hd nd' xd ed => ?_⟩⟩⟩
      have xad : Fr [] H' Hd := ((xa.trans xb).trans xc).trans xd
      have k8 := k7.ext xad
      have f8 := f7.ext xad
      have epc := xd.tups _ _ (xc.tups _ _ (xb.tups _ _ ea))
      have rc : RT Hd (.ref pc) (.cell c) := ⟨pc, rfl, epc⟩
      have rl : RS Hd 0 (.ref pl) (sLess c) := ⟨pl, _, rfl, ed, ⟨q2, _, _, rfl, xd.tups _ _ ec', rc, ⟨q1, rfl, xd.tups _ _ (xc.tups _ _ eb)⟩⟩⟩
      clear k7 f7 xad xa xb xc xd ea eb ec' ed na nb nc nd' ec eci
      -- some tells
      refine ⟨_, rfl, f, fl7, 2, rfl, k8.g.fl, by decide, by decide, fun n2 H9 fl9 v0 v1 h9 x9 => ⟨n2, rfl, by omega, by omega, fun L hL => ?_⟩⟩
      have k9 := k8.flow x9 h9
      have f9 := f8.flow x9
      have tu9 := x9.tu
      have aL := k9.g.apart hL
      have bL : H L = none := k9.fr.back _ hL
      have nfL : fo ≠ L := ne_of_none f9.e hL
      clear k8 f8 h9 x9
      refine lc_range (lo := 0) (n := n2.toNat) (fun j H' => ∃ fl' vsS bS, KpSt f w d W H H' fl' (left - 18) heavy fr ta pu pt x gg ∧ KpL f w d W H' fo (Pd W i) 2 i (6 * i) (kd i) vsF bF ∧ KpL f w d W H' L (· ∈ W.counters) j 0 j j vsS bS ∧ Tu Hd H') ?_ (fun j H' hj hP => ?_) (fun H' hP => ?_)
      · refine ⟨fl9, [], [], ⟨k9.g.new hL, k9.fr.new hL, Tu.new hL _ _ k9.ra, k9.ru.mono (Tu.new hL), k9.rt.mono (Tu.new hL)⟩, f9.ext (Fr.refl.new hL), ⟨upd_same, aL.n3, Nat.le_refl _, .nil, Bo.nil⟩, tu9.trans (Tu.new hL)⟩
      · obtain ⟨fl', vsS, bS, k', f', s', tu'⟩ := hP
        refine ⟨rfl, ?_⟩
        dsimp only [tYes]
        rw [if_pos rfl]
        refine ⟨_, rfl, _, rfl, w, _, rfl, k'.g.wv.gC, f, W.aC, fl', W.cells, 3, rfl, k'.g.fl, k'.g.ws.cells, (k'.g.sep _ (.head _)).1, wo.c1, by omega, by decide, by decide, by decide, fun v Hb flb tm xb hb rt tok tp => ⟨sz2, fun p2 Hc nc xc ec => ?_⟩⟩
        have kc := (k'.flow xb hb).ext xc
        have fc := (f'.flow xb).ext xc
        have sc := (s'.flow xb).ext xc
        refine ⟨vsS, sc.e, small1000 (by have := sc.ln; omega), flb, vsS ++ [.ref p2], bS ++ [.tell tm], kc.own aL bL sc.e, fc.own nfL sc.e, ?_, ((tu'.trans xb.tu).trans xc.tu).trans (Fr.refl.mutL (S := [L]) (.head _) sc.e).tu⟩
        have yL : Fr [L] Hc (upd Hc L (.lst (vsS ++ [.ref p2]))) := Fr.refl.mutL (.head _) sc.e
        refine ⟨upd_same, aL.n3, by rw [List.length_append]; have := sc.ln; show vsS.length + 1 ≤ j + 1; omega, pd_app (sc.rl.mono yL.tu) (.cons ⟨p2, v, rfl, yL.tups _ _ ec, (rt.mono xc.tu).mono yL.tu⟩ .nil), sc.bo.app (Bo.small wo ⟨tok, by omega⟩ fun _ z => z)⟩
      · obtain ⟨fl', vsS, bS, k', f', s', tu'⟩ := hP
        have rl := rl.mono tu'
        have rc := rc.mono tu'
        have epc := tu' _ _ epc
        have s' : KpL f w d W H' L (Pd W i) 1 0 1 1 vsS bS := s'.le (fun _ z => z.sub) (by omega) (by omega) (by omega) (by omega)
        clear k9 f9 tu9 tu' aL bL nfL hL
        have wfA : Wf (· ∈ W.cells) (· ∈ W.gauges) noEnv 0 (.read x gg) := ⟨xw, hg⟩
        have boA : Bo W (Pd W i) 0 1 1 [.read x gg] := Bo.small wo wfA fun _ z => z.sub
        have wfU : Wf (· ∈ W.cells) (· ∈ W.gauges) noEnv 0 (.sure [x] 200) := ⟨fun y hy => by rw [List.mem_singleton.mp hy]; exact xw, by simp, (by decide : 1 ≤ 4), (by decide : (0 : Int) ≤ 200), (by decide : (200 : Int) < WD)⟩
        have boU : Bo W (Pd W i) 0 1 1 [.sure [x] 200] := Bo.small wo wfU fun _ z => z.sub
        dsimp only [gName, tNext]
        refine asg_cut (fun u Hz => ∃ (lb : Addr) (flz : Fl) (vsB : List V) (bB : List Sm), u = .ref lb ∧ KpSt f w d W H Hz flz (left - 18) heavy fr ta pu pt x gg ∧ KpL f w d W Hz lb (Pd W i) 5 i (3 + 6 * i) (3 + kd i) vsB bB ∧ Tu H' Hz) (fun Q' hQ => ?_) (fun u Hz hP => ?_)
        · have np : ∀ {Hx : Hp} {p : Addr}, Fr [] H' Hx → Hx p = none → p ∉ [f, w, d] := fun y n => nin3 (o := .lst []) (k'.g.ext y) n
          have up0 : ∀ {Hx : Hp} {p : Addr} {m sz dd : Nat} {vs : List V} {b : List Sm}, KpL f w d W Hx p (Pd W i) m 0 sz dd vs b → KpL f w d W Hx p (Pd W i) m i sz dd vs b := fun k => k.le (fun _ z => z) (Nat.le_refl _) (Nat.zero_le _) (Nat.le_refl _) (Nat.le_refl _)
          have mx : ∀ {n : Nat}, n ≤ 20 → n ≤ sizeLine := fun h => small40 (by omega)
          -- some, anew, found
          refine ⟨_, rfl, _, rfl, sz1, fun l1 H1 m1 y1 e1 => ?_⟩
          have a1 : KpL f w d W H1 l1 (Pd W i) 1 0 1 1 [.ref ta] [.read x gg] := KpL.one e1 (np Fr.refl m1) ⟨ta, rfl, (k'.ext y1).ra⟩ boA
          refine ⟨L, l1, _, _, rfl, rfl, (s'.ext y1).e, e1, mx (by have := s'.ln; show vsS.length + 1 ≤ 20; omega), fun l2 H2 m2 y2 e2 => ?_⟩
          have a2 := (s'.ext y1).cat a1 y2 (np y1 m2) e2
          have t2 : Fr [] H' H2 := y1.trans y2
          refine ⟨_, rfl, l2, fo, _, _, rfl, rfl, e2, (f'.ext t2).e, mx (by have := a2.ln; have := f'.ln; omega), fun l3 H3 m3 y3 e3 => ?_⟩
          have a3 := (up0 a2).cat (f'.ext t2) y3 (np t2 m3) e3
          have t3 : Fr [] H' H3 := t2.trans y3
          clear a1 a2 y1 y2 y3 e1 e2 e3 m1 m2 m3 t2
          -- anew, found, some
          refine ⟨_, rfl, sz1, fun l4 H4 m4 y4 e4 => ⟨_, rfl, ?_⟩⟩
          have t4 : Fr [] H' H4 := t3.trans y4
          have a4 : KpL f w d W H4 l4 (Pd W i) 1 0 1 1 [.ref ta] [.read x gg] := KpL.one e4 (np t3 m4) ⟨ta, rfl, (k'.ext t4).ra⟩ boA
          refine ⟨l4, fo, _, _, rfl, rfl, e4, (f'.ext t4).e, mx (by have := f'.ln; show 1 + vsF.length ≤ 20; omega), fun l5 H5 m5 y5 e5 => ⟨_, rfl, ?_⟩⟩
          have t5 : Fr [] H' H5 := t4.trans y5
          have a5 := (up0 a4).cat (f'.ext t4) y5 (np t4 m5) e5
          refine ⟨l5, L, _, _, rfl, rfl, e5, (s'.ext t5).e, mx (by have := a5.ln; have := s'.ln; omega), fun l6 H6 m6 y6 e6 => ?_⟩
          have t6 : Fr [] H' H6 := t5.trans y6
          have a6 := a5.cat (up0 (s'.ext t5)) y6 (np t5 m6) e6
          have a3 := a3.ext ((y4.trans y5).trans y6)
          clear a4 a5 y4 y5 y6 e4 e5 e6 m4 m5 m6 t5 t4 t3
          -- sure, some, anew, found
          refine ⟨_, rfl, sz1, fun l7 H7 m7 y7 e7 => ⟨_, rfl, ?_⟩⟩
          have t7 : Fr [] H' H7 := t6.trans y7
          have a7 : KpL f w d W H7 l7 (Pd W i) 1 0 1 1 [.ref pu] [.sure [x] 200] := KpL.one e7 (np t6 m7) (k'.ext t7).ru boU
          refine ⟨l7, L, _, _, rfl, rfl, e7, (s'.ext t7).e, mx (by have := s'.ln; show 1 + vsS.length ≤ 20; omega), fun l8 H8 m8 y8 e8 => ⟨_, rfl, sz1, fun l9 H9 m9 y9 e9 => ?_⟩⟩
          have t8 : Fr [] H' H8 := t7.trans y8
          have t9 : Fr [] H' H9 := t8.trans y9
          have a8 := (a7.cat (s'.ext t7) y8 (np t7 m8) e8).ext y9
          have a9 : KpL f w d W H9 l9 (Pd W i) 1 0 1 1 [.ref ta] [.read x gg] := KpL.one e9 (np t8 m9) ⟨ta, rfl, (k'.ext t9).ra⟩ boA
          refine ⟨l8, l9, _, _, rfl, rfl, a8.e, e9, mx (by have := a8.ln; have := a9.ln; omega), fun l10 Ha ma ya ea => ⟨_, rfl, ?_⟩⟩
          have ta' : Fr [] H' Ha := t9.trans ya
          have aa := a8.cat a9 ya (np t9 ma) ea
          refine ⟨l10, fo, _, _, rfl, rfl, ea, (f'.ext ta').e, mx (by have := aa.ln; have := f'.ln; omega), fun l11 Hb mb yb eb => ⟨sz3, fun ll Hc mc yc ec => ?_⟩⟩
          have ab := (up0 aa).cat (f'.ext ta') yb (np ta' mb) eb
          have tc : Fr [] H' Hc := (ta'.trans yb).trans yc
          have z6c : Fr [] H6 Hc := ((((y7.trans y8).trans y9).trans ya).trans yb).trans yc
          have a3 := a3.ext z6c
          have a6 := a6.ext z6c
          have ab := ab.ext yc
          have nll := np (ta'.trans yb) mc
          clear a7 a8 a9 aa y7 y8 y9 ya yb yc e7 e8 e9 ea eb m7 m8 m9 ma mb mc t6 t7 t8 t9 ta' z6c
          refine ⟨_, rfl, f, fl', 3, rfl, (k'.ext tc).g.fl, by decide, by decide, fun u Hd fld u0 u1 hd xd => ?_⟩
          have kd' := (k'.ext tc).flow xd hd
          have tud : Tu H' Hd := tc.tu.trans xd.tu
          have ed : Hd ll = some (.lst [.ref l3, .ref l6, .ref l11]) := xd.keep _ _ (fun z => nll (by rw [List.mem_singleton.mp z]; exact .head _)) ec
          have a3 := a3.flow xd
          have a6 := a6.flow xd
          have ab := ab.flow xd
          refine ix3_cut ed u0 u1 (hQ _ _ ⟨l3, fld, _, _, rfl, kd', a3.le (fun _ z => z) (by decide) (Nat.le_refl _) (by omega) (by omega), tud⟩) (hQ _ _ ⟨l6, fld, _, _, rfl, kd', a6.le (fun _ z => z) (by decide) (Nat.le_refl _) (by omega) (by omega), tud⟩) (hQ _ _ ⟨l11, fld, _, _, rfl, kd', ab.le (fun _ z => z) (by decide) (Nat.le_refl _) (by omega) (by omega), tud⟩)
        · obtain ⟨lb, flz, vsB, bB, rfl, kz, bz, tuz⟩ := hP
          have rl := rl.mono tuz
          have rc := rc.mono tuz
          have epc := tuz _ _ epc
          clear k' f' s' tuz
          dsimp only [gName, tNext]
          refine asg_cut (fun u Hy => ∃ (lc : Addr) (fly : Fl) (vsC : List V) (bC : List Sm), u = .ref lc ∧ KpSt f w d W H Hy fly (left - 18) heavy fr ta pu pt x gg ∧ Hy lc = some (.lst vsC) ∧ lc ∉ [f, w, d] ∧ vsC.length ≤ 6 ∧ RL Hy i vsC bC ∧ Rnd bB (sLess c) bC ∧ Tu Hz Hy) (fun Q' hQ => ?_) (fun u Hy hP => ?_)
          · refine ⟨_, rfl, _, rfl, sz1, fun l1 H1 m1 y1 e1 => ?_⟩
            refine ⟨lb, l1, _, _, rfl, rfl, (bz.ext y1).e, e1, small40 (by have := bz.ln; show vsB.length + 1 ≤ 1000; omega), fun l2 H2 m2 y2 e2 => ⟨_, rfl, sz1, fun l3 H3 m3 y3 e3 => ⟨_, rfl, ?_⟩⟩⟩
            have t3 : Fr [] Hz H3 := (y1.trans y2).trans y3
            refine ⟨l3, lb, _, _, rfl, rfl, e3, (bz.ext t3).e, small40 (by have := bz.ln; show 1 + vsB.length ≤ 1000; omega), fun l4 H4 m4 y4 e4 => ⟨sz2, fun ll H5 m5 y5 e5 => ?_⟩⟩
            have t5 : Fr [] Hz H5 := (t3.trans y4).trans y5
            have nll : ll ∉ [f, w, d] := nin3 (o := .lst []) (kz.g.ext (t3.trans y4)) m5
            have nl2 : l2 ∉ [f, w, d] := nin3 (o := .lst []) (kz.g.ext y1) m2
            have nl4 : l4 ∉ [f, w, d] := nin3 (o := .lst []) (kz.g.ext t3) m4
            refine ⟨_, rfl, f, flz, 2, rfl, (kz.ext t5).g.fl, by decide, by decide, fun u Hd fld u0 u1 hd xd => ?_⟩
            have nf : ∀ {a : Addr}, a ∉ [f, w, d] → a ∉ [f] := fun h z => h (by rw [List.mem_singleton.mp z]; exact .head _)
            have kd' := (kz.ext t5).flow xd hd
            have tud : Tu Hz Hd := t5.tu.trans xd.tu
            have nn : ∀ {a : Addr}, a ∉ ([] : List Addr) := fun z => nomatch z
            have e2' := xd.keep _ _ (nf nl2) (((y3.trans y4).trans y5).keep _ _ nn e2)
            have e4' := xd.keep _ _ (nf nl4) (y5.keep _ _ nn e4)
            have rl' : RS Hd i (.ref pl) (sLess c) := (rl.mono tud).up (Nat.zero_le _)
            refine ix2_cut (xd.keep _ _ (nf nll) e5) u0 u1 (fun _ => hQ _ _ ⟨l2, fld, _, bB ++ [sLess c], rfl, kd', e2', nl2, by rw [List.length_append]; have := bz.ln; show vsB.length + 1 ≤ 6; omega, pd_app (bz.rl.mono tud) (.cons rl' .nil), .inl rfl, tud⟩)
              (fun _ => hQ _ _ ⟨l4, fld, _, sLess c :: bB, rfl, kd', e4', nl4, by have := bz.ln; show vsB.length + 1 ≤ 6; omega, .cons rl' (bz.rl.mono tud), .inr rfl, tud⟩)
          · obtain ⟨lc, fly, vsC, bC, rfl, ky, elc, nlc, lnC, rlC, rnd, tuy⟩ := hP
            have rc := rc.mono tuy
            have epc := tuy _ _ epc
            refine ⟨_, rfl, pc, _, 1, .str c, rfl, rfl, SqT.of epc, at1, _, rfl, f, fly, 2, rfl, ky.g.fl, by decide, by decide, fun tn Ha fla t0 t1 ha xa => ⟨_, _, rfl, rfl, sz2, fun q1 Hb nb xb eb => ⟨sz3, fun q2 Hc nc xc ec => ⟨_, rfl, _, rfl, ?_⟩⟩⟩⟩
            have ka := ky.flow xa ha
            have elc := xc.keep _ _ (fun z => nomatch z) (xb.keep _ _ (fun z => nomatch z) (xa.keep _ _ (fun z => nlc (by rw [List.mem_singleton.mp z]; exact .head _)) elc))
            refine ⟨lc, vsC, rfl, elc, fun lt Hd nd' xd ed => ⟨sz3, fun q3 He ne xe ee => ⟨sz2, fun fo' Hf nf' xf ef => ?_⟩⟩⟩
            have xbf : Fr [] Hb Hf := (((xc.trans xd).trans xe).trans xf)
            have xaf : Fr [] Ha Hf := xb.trans xbf
            have tyf : Tu Hy Hf := xa.tu.trans xaf.tu
            refine ⟨fo', _, _, _, _, _, _, rfl, fla, _, [.set c (.num (1 + tn)), .wh (.cell c) bC], ka.ext xaf, ef, nin3 (o := .lst []) (ka.g.ext (((xb.trans xc).trans xd).trans xe)) nf', Nat.le_refl _, ?_, ?_⟩
            · exact .cons (RS.up (show RS Hf 0 (.ref q2) (.set c (.num (1 + tn))) from ⟨q2, _, rfl, ((xd.trans xe).trans xf).tups _ _ ec, ⟨q1, rfl, xbf.tups _ _ eb⟩⟩) (Nat.zero_le _)) (.cons ⟨q3, .ref pc, lt, vsC, rfl, xf.tups _ _ ee, rc.mono tyf, xf.tups _ _ (xe.tups _ _ ed), rlC.mono tyf⟩ .nil)
            · exact (Bo.down (by omega) hc hcP (by unfold NN; omega) (bz.bo.mono hcU (Nat.le_refl _) (Nat.le_refl _) (Nat.le_refl _)) rnd).mono (fun _ z => z) (Nat.le_refl _) (by omega) (by show 2 * (3 + kd i) + 6 ≤ 2 * (kd i + 3) + 6; omega)
    · obtain ⟨fo, z8, z9, z10, z11, z12, z13, rfl, fl7, vsF, bF, k7, f7⟩ := hP
      -- fresh
      have nfd : fo ≠ d := fun z => f7.np (by rw [z]; exact mem3d)
      refine ⟨_, rfl, .inr (.inr (.inl ⟨rfl, .inl ⟨_, k7.g.fa⟩⟩)), d, fr, rfl, rfl, k7.g.fa, ?_⟩
      have g8 := k7.g.fresh (FrOk.nil W)
      have y8 : Fr [d] H' (upd H' d (.dK [])) := Fr.refl.mutD (.head _) k7.g.fa
      refine ⟨_, rfl, _, rfl, ta, _, 1, .str x, rfl, rfl, SqT.of (y8.tups _ _ k7.ra), at1, d, _, rfl, g8.put wo x _, ?_⟩
      have g9 := g8.fresh (g8.fo.put xw (.bl true))
      have y9 : Fr [d] H' (upd (upd H' d (.dK [])) d (.dK (putK [] (Sum.inr x) (.bl true)))) := y8.mutD (.head _) g8.fa
      have k9 : KpSt f w d W H (upd (upd H' d (.dK [])) d (.dK (putK [] (Sum.inr x) (.bl true)))) fl7 (left - 18) heavy (putK [] (Sum.inr x) (.bl true)) ta pu pt x gg := ⟨g9, k7.fr.trans y9.d3, y9.tups _ _ k7.ra, k7.ru.mono y9.tu, k7.rt.mono y9.tu⟩
      have f9 : KpL f w d W (upd (upd H' d (.dK [])) d (.dK (putK [] (Sum.inr x) (.bl true)))) fo (Pd W N) 2 N (6 * N) (kd N) vsF bF := ⟨y9.keep _ _ (fun z => nfd (List.mem_singleton.mp z)) f7.e, f7.np, f7.ln, f7.rl.mono y9.tu, f7.bo⟩
      clear k7 f7 g8 y8 g9 y9
      generalize upd (upd H' d (.dK [])) d (.dK (putK [] (Sum.inr x) (.bl true))) = H9 at k9 f9 ⊢
      have wfA : Wf (· ∈ W.cells) (· ∈ W.gauges) noEnv 0 (.read x gg) := ⟨xw, hg⟩
      have boA : Bo W (Pd W N) 0 1 1 [.read x gg] := Bo.small wo wfA fun _ z => z.sub
      have wfU : Wf (· ∈ W.cells) (· ∈ W.gauges) noEnv 0 (.sure [x] 200) := ⟨fun y hy => by rw [List.mem_singleton.mp hy]; exact xw, by simp, (by decide : 1 ≤ 4), (by decide : (0 : Int) ≤ 200), (by decide : (200 : Int) < WD)⟩
      have boU : Bo W (Pd W N) 0 1 1 [.sure [x] 200] := Bo.small wo wfU fun _ z => z.sub
      have wfT : Wf (· ∈ W.cells) (· ∈ W.gauges) noEnv 0 (.tell (.cell x)) := ⟨xw, (by decide : 1 ≤ 11)⟩
      have boT : Bo W (Pd W N) 0 1 1 [.tell (.cell x)] := Bo.small wo wfT fun _ z => z.sub
      have np : ∀ {Hx : Hp} {p : Addr}, Fr [] H9 Hx → Hx p = none → p ∉ [f, w, d] := fun y n => nin3 (o := .lst []) (k9.g.ext y) n
      have up0 : ∀ {Hx : Hp} {p : Addr} {m sz dd : Nat} {vs : List V} {b : List Sm}, KpL f w d W Hx p (Pd W N) m 0 sz dd vs b → KpL f w d W Hx p (Pd W N) m N sz dd vs b := fun k => k.le (fun _ z => z) (Nat.le_refl _) (Nat.zero_le _) (Nat.le_refl _) (Nat.le_refl _)
      refine ⟨_, rfl, sz1, fun l1 H1 m1 y1 e1 => ⟨_, rfl, ?_⟩⟩
      have a1 : KpL f w d W H1 l1 (Pd W N) 1 0 1 1 [.ref ta] [.read x gg] := KpL.one e1 (np Fr.refl m1) ⟨ta, rfl, (k9.ext y1).ra⟩ boA
      refine ⟨l1, fo, _, _, rfl, rfl, e1, (f9.ext y1).e, small40 (by have := f9.ln; show 1 + vsF.length ≤ 1000; omega), fun l2 H2 m2 y2 e2 => ?_⟩
      have t2 := y1.trans y2
      have a2 := (up0 a1).cat (f9.ext y1) y2 (np y1 m2) e2
      refine ⟨_, rfl, sz1, fun b1 H3 m3 y3 e3 => ⟨_, rfl, sz1, fun b2 H4 m4 y4 e4 => ⟨_, rfl, _, rfl, sz2, fun b3 H5 m5 y5 e5 => ⟨Nat.zero_le _, fun b4 H6 m6 y6 e6 => ⟨sz4, fun ll H7 m7 y7 e7 => ?_⟩⟩⟩⟩⟩
      have t3 : Fr [] H9 H3 := t2.trans y3
      have t4 : Fr [] H9 H4 := t3.trans y4
      have t5 : Fr [] H9 H5 := t4.trans y5
      have t6 : Fr [] H9 H6 := t5.trans y6
      have t7 : Fr [] H9 H7 := t6.trans y7
      have c1 : KpL f w d W H7 b1 (Pd W N) 2 0 2 2 [.ref pu] [.sure [x] 200] := ((KpL.one e3 (np t2 m3) (k9.ext t3).ru boU).ext (((y4.trans y5).trans y6).trans y7)).le (fun _ z => z) (by decide) (by decide) (by decide) (by decide)
      have c2 : KpL f w d W H7 b2 (Pd W N) 2 0 2 2 [.ref pt] [.tell (.cell x)] := ((KpL.one e4 (np t3 m4) (k9.ext t4).rt boT).ext ((y5.trans y6).trans y7)).le (fun _ z => z) (by decide) (by decide) (by decide) (by decide)
      have c3 : KpL f w d W H7 b3 (Pd W N) 2 0 2 2 [.ref pu, .ref pt] [.sure [x] 200, .tell (.cell x)] := KpL.ext ⟨e5, np t4 m5, Nat.le_refl _, .cons (k9.ext t5).ru (.cons (k9.ext t5).rt .nil), boU.app boT⟩ (y6.trans y7)
      have c4 : KpL f w d W H7 b4 (Pd W N) 2 0 2 2 [] [] := KpL.ext ⟨e6, np t5 m6, Nat.zero_le _, .nil, (Bo.nil (n := 0)).mono (fun _ z => z) (Nat.le_refl 0) (by decide) (by decide)⟩ y7
      have a2 := a2.ext ((((y3.trans y4).trans y5).trans y6).trans y7)
      have k7 := k9.ext t7
      have nll := np t6 m7
      clear k9 f9 y1 y2 y3 y4 y5 y6 y7 t2 t3 t4 t5 t6 t7 e1 e2 e3 e4 e5 e6 m1 m2 m3 m4 m5 m6 m7 a1 np up0
      refine ⟨_, rfl, f, fl7, 4, rfl, k7.g.fl, by decide, by decide, fun u Hd fld u0 u1 hd xd => ?_⟩
      have kd' := k7.flow xd hd
      have el : Hd ll = some (.lst [.ref b1, .ref b2, .ref b3, .ref b4]) := xd.keep _ _ (fun z => nll (by rw [List.mem_singleton.mp z]; exact .head _)) e7
      have fin : ∀ (bb : Addr) (vsT : List V) (bT : List Sm), KpL f w d W H7 bb (Pd W N) 2 0 2 2 vsT bT → rCatL K (.ref l2) (.ref bb) Hd Q := by
        intro bb vsT bT kT
        have a2 := a2.flow xd
        have kT := (kT.flow xd).le (fun _ z => z) (Nat.le_refl _) (Nat.zero_le N) (Nat.le_refl _) (Nat.le_refl _)
        refine ⟨l2, bb, _, _, rfl, rfl, a2.e, kT.e, small40 (by have := a2.ln; have := kT.ln; omega), fun p He ne xe ee => ?_⟩
        have kk := a2.cat kT xe (nin3 (o := .lst []) kd'.g ne) ee
        have ke := kd'.ext xe
        have nk : kd N ≤ 84 := by
          have hN : N = 0 ∨ N = 1 ∨ N = 2 ∨ N = 3 := by omega
          rcases hN with rfl | rfl | rfl | rfl <;> decide
        exact q p _ _ _ _ He fld (left - 18) heavy _ ke.g ke.fr (kd'.fr.back _ ne) ee kk.ln (kk.rl.up (by omega)) (kk.bo.mono (fun _ z => nomatch z) (by omega) (Nat.le_refl _) (Nat.le_refl _)) (StepOk.kept hl6.2 (by omega) (by omega))
      have uu : u = 0 ∨ u = 1 ∨ u = 2 ∨ u = 3 := by omega
      rcases uu with rfl | rfl | rfl | rfl
      · exact ⟨ll, _, 0, .ref b1, rfl, rfl, SqL.of el, rfl, fin b1 _ _ c1⟩
      · exact ⟨ll, _, 1, .ref b2, rfl, rfl, SqL.of el, rfl, fin b2 _ _ c2⟩
      · exact ⟨ll, _, 2, .ref b3, rfl, rfl, SqL.of el, rfl, fin b3 _ _ c3⟩
      · exact ⟨ll, _, 3, .ref b4, rfl, rfl, SqL.of el, rfl, fin b4 _ _ c4⟩
end
end Kz
set_option Elab.async false
set_option linter.all false
set_option maxRecDepth 100000
/-! ZWa: bodies, all levels. -/
namespace Kz
open PySem PySem.Spec PyProof.Rows L2
section
variable {P : Program} {w : World} {K : PySem.W.Frag} {mg : Str → Option Value} {base : Heap}
theorem Fx.up {j k : Nat} {x : Str} {ps : List Str} {sp : Sp} (F : Fx P w K mg base j x ps sp) (h : j ≤ k) : Fx P w K mg base k x ps sp :=
  let ⟨f, fd, h1, h2, h3, h4⟩ := F.ex
  ⟨f, fd, h1, h2, h3, h4.mono h⟩
theorem ok_body2 (T : Tp K mg) : Fx P w K mg base 16 "_law_body" pFwd4 (spBody 2) :=
  ok_body T (D := 2) (Nat.le_refl 2) (k := 15) (Nat.le_refl 15) (fx_lst_none T (k := 14) fun l z => absurd z.1 (by decide)).2.2 (fx_lst_none T (k := 14) fun l z => absurd z (by decide)).1 (fx_lst_none T (k := 14) fun l z => absurd z (by decide)).2.1 (ok_again T (Nat.le_refl 2))
theorem ok_share2 (T : Tp K mg) : Fx P w K mg base 17 "_law_share" pFwd4 (spShare 2) := ok_share T (D := 2) (by decide) (by decide) (by decide) (ok_body2 T)
theorem ok_body1 (T : Tp K mg) : Fx P w K mg base 19 "_law_body" pFwd4 (spBody 1) :=
  ok_body T (D := 1) (by decide) (k := 18) (by decide) (fx_lst_none T (k := 17) fun l z => absurd z.1 (by decide)).2.2 (ok_forked T (D := 1) (k := 17) (by decide) (by decide) (ok_share2 T)) (ok_round T (D := 1) (k := 17) (by decide) (by decide) (ok_share2 T)) (ok_again T (by decide))
theorem ok_share1 (T : Tp K mg) : Fx P w K mg base 20 "_law_share" pFwd4 (spShare 1) := ok_share T (D := 1) (by decide) (by decide) (by decide) (ok_body1 T)
theorem ok_body0 (T : Tp K mg) : Fx P w K mg base 22 "_law_body" pFwd4 (spBody 0) :=
  ok_body T (D := 0) (by decide) (k := 21) (by decide) ((ok_kept T).up (by decide)) (ok_forked T (D := 0) (k := 20) (by decide) (by decide) (ok_share1 T)) (ok_round T (D := 0) (k := 20) (by decide) (by decide) (ok_share1 T)) (ok_again T (by decide))
end
end Kz
set_option Elab.async false
set_option linter.all false
set_option maxRecDepth 100000
set_option maxHeartbeats 4000000
/-! ZNa: the sixteen names, plainly. -/
namespace Kz
open PySem PySem.Spec PyProof.Rows L2 TL
abbrev ofL (l : List Nat) : Str := ⟨l.toArray⟩
theorem ofL_inj {a b : List Nat} (h : ofL a = ofL b) : a = b := congrArg tl h
def forbS : List Str := ["set", "read", "from", "tell", "sure", "if", "else", "while", "times", "call", "end", "within", "helper", "gauges"]
def forbL : List (List Nat) := forbS.map tl
def letC (k : Nat) : Nat := 97 + k % 26
def insL (wl : List Nat) (at_ l : Nat) : List Nat := wl.take at_ ++ l :: wl.drop at_
def candL (wl : List Nat) (at_ first longer : Nat) (found : List (List Nat)) (k : Nat) : List Nat :=
  let l := letC (first + 7 * k)
  let n := insL wl at_ l
  if 0 < longer * (k % 2) ∧ n.length < 6 ∧ 0 < found.length then (found.getLastD []).take n.length ++ [l] else n
def stepL (wl : List Nat) (at_ first longer : Nat) (found : List (List Nat)) (k : Nat) : List (List Nat) :=
  let n := candL wl at_ first longer found k
  if n ∉ forbL ∧ n ∉ found ∧ found.length < 16 then found ++ [n] else found
def namesL (wl : List Nat) (at_ first longer : Nat) : Nat → List (List Nat)
  | 0 => []
  | k + 1 => stepL wl at_ first longer (namesL wl at_ first longer k) k
section
variable {wl : List Nat} {at_ first longer : Nat}
theorem insL_len (h : at_ ≤ wl.length) (l : Nat) : (insL wl at_ l).length = wl.length + 1 := by
  unfold insL
  rw [List.length_append, List.length_cons, List.length_take, List.length_drop]
  omega
theorem insL_at (h : at_ ≤ wl.length) {l m : Nat} (e : insL wl at_ l = insL wl at_ m) : l = m := by
  unfold insL at e
  have := List.append_cancel_left e
  injection this
theorem letC_inj {i j : Nat} (hi : i < 26) (hj : j < 26) (e : letC (first + 7 * i) = letC (first + 7 * j)) : i = j := by
  unfold letC at e
  omega
/-- what a candidate of the turn k looks like -/
def Shp (wl : List Nat) (at_ first k : Nat) (n : List Nat) : Prop :=
  ∃ j, j < k ∧ (n = insL wl at_ (letC (first + 7 * j)) ∨ (n.length = wl.length + 2 ∧ wl.length < 5 ∧ n.getLast? = some (letC (first + 7 * j))))
structure NInv (wl : List Nat) (at_ first longer k : Nat) (found lost : List (List Nat)) : Prop where
  nd : (found ++ lost).Nodup
  sh : ∀ n ∈ found ++ lost, Shp wl at_ first k n
  lo : ∀ n ∈ lost, n ∈ forbL
  fo : ∀ n ∈ found, n ∉ forbL
  le : found.length ≤ 16
  ct : found.length = 16 ∨ found.length + lost.length = k
theorem Shp.up {k m : Nat} {n : List Nat} (h : Shp wl at_ first k n) (l : k ≤ m) : Shp wl at_ first m n := let ⟨j, h1, h2⟩ := h; ⟨j, by omega, h2⟩
theorem Shp.len (hat : at_ ≤ wl.length) {k : Nat} {n : List Nat} (h : Shp wl at_ first k n) : n.length = wl.length + 1 ∨ (n.length = wl.length + 2 ∧ wl.length < 5) := by
  obtain ⟨j, _, e | ⟨e, e2, _⟩⟩ := h
  · left; rw [e, insL_len hat]
  · exact .inr ⟨e, e2⟩
theorem cand_shape (hat : at_ ≤ wl.length) {k : Nat} {found : List (List Nat)} (hf : ∀ n ∈ found, wl.length + 1 ≤ n.length) :
    candL wl at_ first longer found k = insL wl at_ (letC (first + 7 * k)) ∨ ((candL wl at_ first longer found k).length = wl.length + 2 ∧ wl.length < 5 ∧ (candL wl at_ first longer found k).getLast? = some (letC (first + 7 * k))) := by
  unfold candL
  dsimp only
  split
  · rename_i h
    right
    rw [insL_len hat] at h ⊢
    obtain ⟨_, h2, h3⟩ := h
    have hne : found ≠ [] := fun z => by rw [z] at h3; exact absurd h3 (by decide)
    have hm : found.getLastD [] ∈ found := by rw [List.getLastD_eq_getLast?, List.getLast?_eq_some_getLast hne]; exact List.getLast_mem hne
    have := hf _ hm
    refine ⟨?_, by omega, by rw [List.getLast?_append]; rfl⟩
    rw [List.length_append, List.length_take, List.length_singleton]
    omega
  · exact .inl rfl
theorem ninv_step (hat : at_ ≤ wl.length) {k : Nat} (hk : k < 26) {found lost : List (List Nat)} (h : NInv wl at_ first longer k found lost) : ∃ lost', NInv wl at_ first longer (k + 1) (stepL wl at_ first longer found k) lost' := by
  have hf : ∀ n ∈ found, wl.length + 1 ≤ n.length := fun n hn => by
    rcases (h.sh n (List.mem_append_left _ hn)).len hat with e | e <;> omega
  have cs := cand_shape (first := first) (longer := longer) hat (k := k) hf
  have shn : Shp wl at_ first (k + 1) (candL wl at_ first longer found k) := ⟨k, Nat.lt_succ_self k, cs⟩
  have new : candL wl at_ first longer found k ∉ found ++ lost := fun z => by
    obtain ⟨j, hj, q⟩ := h.sh _ z
    rcases cs with e | ⟨e, _, e2⟩ <;> rcases q with q | ⟨q, _, q2⟩
    · have := letC_inj (first := first) hk (by omega) (insL_at hat (e.symm.trans q))
      omega
    · have := insL_len hat (letC (first + 7 * k))
      rw [← e] at this
      omega
    · have := insL_len hat (letC (first + 7 * j))
      rw [← q] at this
      omega
    · have := letC_inj (first := first) hk (by omega) (Option.some.inj (e2.symm.trans q2))
      omega
  unfold stepL
  dsimp only
  generalize candL wl at_ first longer found k = n at shn new
  have sh' : ∀ m ∈ found ++ lost, Shp wl at_ first (k + 1) m := fun m hm => (h.sh m hm).up (Nat.le_succ k)
  have n1 : n ∉ found := fun z => new (List.mem_append_left _ z)
  have n2 : n ∉ lost := fun z => new (List.mem_append_right _ z)
  obtain ⟨d1, d2, d3⟩ := List.nodup_append.mp h.nd
  split
  · rename_i c
    obtain ⟨c1, c2, c3⟩ := c
    refine ⟨lost, ?_, fun m hm => ?_, h.lo, fun m hm => ?_, ?_, .inr ?_⟩
    · refine List.nodup_append.mpr ⟨List.nodup_append.mpr ⟨d1, by simp, fun a ha b hb e => ?_⟩, d2, fun a ha b hb e => ?_⟩
      · rw [List.mem_singleton.mp hb] at e
        exact n1 (e ▸ ha)
      · rcases List.mem_append.mp ha with q | q
        · exact d3 a q b hb e
        · rw [List.mem_singleton.mp q] at e
          exact n2 (e ▸ hb)
    · rcases List.mem_append.mp hm with q | q
      · rcases List.mem_append.mp q with q | q
        · exact sh' m (List.mem_append_left _ q)
        · rw [List.mem_singleton.mp q]; exact shn
      · exact sh' m (List.mem_append_right _ q)
    · rcases List.mem_append.mp hm with q | q
      · exact h.fo m q
      · rw [List.mem_singleton.mp q]; exact c1
    · rw [List.length_append, List.length_singleton]; omega
    · rw [List.length_append, List.length_singleton]
      have := h.ct
      omega
  · rename_i c
    by_cases full : found.length = 16
    · exact ⟨lost, h.nd, sh', h.lo, h.fo, h.le, .inl full⟩
    · have hle := h.le
      have hf : n ∈ forbL := Decidable.byContradiction fun z => c ⟨z, n1, by omega⟩
      refine ⟨n :: lost, ?_, fun m hm => ?_, fun m hm => ?_, h.fo, h.le, .inr ?_⟩
      · refine List.nodup_append.mpr ⟨d1, List.nodup_cons.mpr ⟨n2, d2⟩, fun a ha b hb e => ?_⟩
        rcases List.mem_cons.mp hb with q | q
        · exact n1 (q ▸ e ▸ ha)
        · exact d3 a ha b q e
      · rcases List.mem_append.mp hm with q | q
        · exact sh' m (List.mem_append_left _ q)
        · rcases List.mem_cons.mp q with q | q
          · rw [q]; exact shn
          · exact sh' m (List.mem_append_right _ q)
      · rcases List.mem_cons.mp hm with q | q
        · rw [q]; exact hf
        · exact h.lo m q
      · rw [List.length_cons]
        have := h.ct
        omega
theorem ninv (hat : at_ ≤ wl.length) : ∀ k, k ≤ 26 → ∃ lost, NInv wl at_ first longer k (namesL wl at_ first longer k) lost
  | 0, _ => ⟨[], List.nodup_nil, fun _ h => absurd h List.not_mem_nil, fun _ h => absurd h List.not_mem_nil, fun _ h => absurd h List.not_mem_nil, Nat.zero_le _, .inr rfl⟩
  | k + 1, h => let ⟨_, q⟩ := ninv hat k (by omega); ninv_step hat (by omega) q
theorem nodup_leL : ∀ {xs ys : List (List Nat)}, xs.Nodup → (∀ x ∈ xs, x ∈ ys) → xs.length ≤ ys.length
  | [], _, _, _ => Nat.zero_le _
  | x :: xs, ys, h, s => by
    have hx := s x List.mem_cons_self
    have q := nodup_leL (xs := xs) (ys := ys.erase x) (List.nodup_cons.mp h).2 fun y hy => (List.mem_erase_of_ne (show y ≠ x from fun e => (List.nodup_cons.mp h).1 (by rw [← e]; exact hy))).mpr (s y (List.mem_cons_of_mem _ hy))
    rw [List.length_erase_of_mem hx] at q
    have := List.length_pos_of_mem hx
    rw [List.length_cons]
    omega
theorem forb_few : ∀ L : Fin 6, (forbL.filter fun n => decide (n.length = L.val + 1) || decide (n.length = L.val + 2)).length ≤ 8 := by decide +kernel
theorem namesL_ok (hat : at_ ≤ wl.length) (hw : wl.length ≤ 5) : (namesL wl at_ first longer 26).length = 16 ∧ (namesL wl at_ first longer 26).Nodup ∧ ∀ n ∈ namesL wl at_ first longer 26, 1 ≤ n.length ∧ n.length ≤ 6 := by
  obtain ⟨lost, h⟩ := ninv (first := first) (longer := longer) hat 26 (Nat.le_refl 26)
  have d := (List.nodup_append.mp h.nd)
  refine ⟨?_, d.1, fun n hn => ?_⟩
  · rcases h.ct with e | e
    · exact e
    · have q := nodup_leL (ys := forbL.filter fun n => decide (n.length = wl.length + 1) || decide (n.length = wl.length + 2)) d.2.1 fun x hx => List.mem_filter.mpr ⟨h.lo x hx, by
        rcases (h.sh x (List.mem_append_right _ hx)).len hat with z | z
        · rw [z]; simp
        · rw [z.1]; simp⟩
      have q2 : (forbL.filter fun n => decide (n.length = wl.length + 1) || decide (n.length = wl.length + 2)).length ≤ 8 := forb_few ⟨wl.length, by omega⟩
      have := h.le
      omega
  · rcases (h.sh n (List.mem_append_left _ hn)).len hat with e | e <;> omega
end
end Kz
set_option Elab.async false
set_option linter.all false
set_option maxRecDepth 100000
set_option maxHeartbeats 4000000
/-! ZNb: names are drawn. -/
namespace Kz
open PySem PySem.Spec PyProof.Rows L2 TL
def digF : Nat → Fl → List Int × Fl
  | 0, f => ([], f)
  | n + 1, f => ((digF n f).1 ++ [drawV (digF n f).2 26], drawN (digF n f).2 26)
def wlF (f : Fl) : List Nat := (digF (drawV f 6).toNat (drawN f 6)).1.map fun d => letC d.toNat
def f2F (f : Fl) : Fl := (digF (drawV f 6).toNat (drawN f 6)).2
def atF (f : Fl) : Nat := (drawV (f2F f) ((wlF f).length + 1)).toNat
def f3F (f : Fl) : Fl := drawN (f2F f) ((wlF f).length + 1)
def firstF (f : Fl) : Nat := (drawV (f3F f) 26).toNat
def longerF (f : Fl) : Nat := (drawV (drawN (f3F f) 26) 2).toNat
def namesF (f : Fl) : List Str := (namesL (wlF f) (atF f) (firstF f) (longerF f) 26).map ofL
theorem digF_len : ∀ (n : Nat) (f : Fl), (digF n f).1.length = n
  | 0, _ => rfl
  | n + 1, f => by
    show ((digF n f).1 ++ [drawV (digF n f).2 26]).length = _
    rw [List.length_append, digF_len n f]
    rfl
theorem digF_in : ∀ (n : Nat) (f : Fl), ∀ d ∈ (digF n f).1, 0 ≤ d ∧ d < 26
  | 0, _, _, h => absurd h List.not_mem_nil
  | n + 1, f, d, h => by
    rcases List.mem_append.mp h with q | q
    · exact digF_in n f d q
    · rw [List.mem_singleton.mp q]
      exact drawV_in _ (by decide)
theorem wlF_len (f : Fl) : (wlF f).length ≤ 5 := by
  unfold wlF
  rw [List.length_map, digF_len]
  have := drawV_in f (m := 6) (by decide)
  omega
theorem atF_le (f : Fl) : atF f ≤ (wlF f).length := by
  have := drawV_in (f2F f) (m := (wlF f).length + 1) (by omega)
  unfold atF
  omega
theorem namesF_len (f : Fl) : (namesF f).length = 16 := by
  unfold namesF
  rw [List.length_map]
  exact (namesL_ok (atF_le f) (wlF_len f)).1
theorem nodup_ofL {l : List (List Nat)} (h : l.Nodup) : (l.map ofL).Nodup := by
  induction l with
  | nil => exact List.nodup_nil
  | cons a l ih =>
    rw [List.nodup_cons] at h
    rw [List.map_cons, List.nodup_cons]
    refine ⟨fun z => ?_, ih h.2⟩
    obtain ⟨b, hb, e⟩ := List.mem_map.mp z
    exact h.1 (ofL_inj e ▸ hb)
theorem namesF_nd (f : Fl) : (namesF f).Nodup := nodup_ofL (namesL_ok (atF_le f) (wlF_len f)).2.1
theorem namesF_short (f : Fl) : ∀ x ∈ namesF f, x.length ≤ 6 := fun x hx => by
  obtain ⟨n, hn, rfl⟩ := List.mem_map.mp hx
  rw [len_tl]
  exact ((namesL_ok (atF_le f) (wlF_len f)).2.2 n hn).2
abbrev abcS : Str := "abcdefghijklmnopqrstuvwxyz"
theorem abc_at : ∀ k : Fin 26, atI abcS.cps.toList ((k.val : Nat) : Int) = some (letC k.val) := by decide +kernel
theorem abc_len : abcS.length ≤ sizeLine := by decide +kernel
theorem abcI {d : Int} (h0 : 0 ≤ d) (h1 : d < 26) : atI abcS.cps.toList d = some (letC d.toNat) := by
  have q := abc_at ⟨d.toNat, by omega⟩
  rw [show ((d.toNat : Nat) : Int) = d by omega] at q
  exact q
theorem join_ones : ∀ l : List Nat, tl (Str.join Str.empty (l.map fun c => ofL [c])) = l
  | [] => rfl
  | [c] => rfl
  | c :: e :: r => by
    show tl (ofL [c] ++ Str.empty ++ Str.join Str.empty ((e :: r).map fun c => ofL [c])) = _
    rw [tl_append, tl_append, join_ones (e :: r)]
    rfl
theorem inV_strs {x : Str} : ∀ {l : List Str}, inV (.str x) (l.map V.str) = true ↔ x ∈ l
  | [] => by simp [inV]
  | y :: l => by
    show (eqV (.str y) (.str x) || inV (.str x) (l.map V.str)) = true ↔ _
    rw [Bool.or_eq_true, inV_strs (l := l), List.mem_cons]
    refine or_congr ?_ Iff.rfl
    show (y == x) = true ↔ _
    rw [beq_iff_eq]
    exact eq_comm
theorem cutS_to (z : Str) (k : Nat) : tl (cutS z none (some (k : Int))) = (tl z).take k := by
  show ((z.cps.toList.drop (HT.sIx z.length 0 none)).take (HT.sIx z.length z.length (some (k : Int)) - HT.sIx z.length 0 none)) = _
  rw [HT.sIx_nat, HT.sIx_none, List.drop_zero, Nat.sub_zero]
  have e : z.length = z.cps.toList.length := len_tl z
  rw [e]
  by_cases h : k ≤ z.cps.toList.length
  · rw [Nat.min_eq_left h]
  · rw [Nat.min_eq_right (by omega), List.take_of_length_le (Nat.le_refl _), List.take_of_length_le (show z.cps.toList.length ≤ k by omega)]
theorem cutS_from (z : Str) (k : Nat) : tl (cutS z (some (k : Int)) none) = (tl z).drop k := by
  show ((z.cps.toList.drop (HT.sIx z.length 0 (some (k : Int)))).take (HT.sIx z.length z.length none - HT.sIx z.length 0 (some (k : Int)))) = _
  rw [HT.sIx_nat, HT.sIx_none]
  have e : z.length = z.cps.toList.length := len_tl z
  rw [e]
  by_cases h : k ≤ z.cps.toList.length
  · rw [Nat.min_eq_left h, List.take_of_length_le (by rw [List.length_drop]; exact Nat.le_refl _)]
  · rw [Nat.min_eq_right (by omega), List.drop_of_length_le (Nat.le_refl _), List.drop_of_length_le (show z.cps.toList.length ≤ k by omega), List.take_nil]
def takS : List Str := ["set", "read", "from", "tell", "sure", "if", "else", "while", "times", "call", "end", "within", "helper"]
def spDrawX : Sp := fun vs H Q _ => ∃ (a : Addr) (f : Fl) (m : Int), vs = [.ref a, .int m] ∧ FlAt H a f ∧ 0 < m ∧ m < 1073741824 ∧ ∀ H', FlAt H' a (drawN f m) → Fr [a] H H' → Q (.int (drawV f m)) H'
def spNames : Sp := fun vs H Q _ => ∃ (a : Addr) (f : Fl), vs = [.ref a, .int 16] ∧ FlAt H a f ∧ ∀ p H' f', FlAt H' a f' → Fr [a] H H' → H p = none → H' p = some (.lst ((namesF f).map V.str)) → Q (.ref p) H'
section
variable {P : Program} {w : World} {K : PySem.W.Frag} {mg : Str → Option Value} {base : Heap}
theorem ok_drawX (T : Tp K mg) : Fx P w K mg base 1 "_law_draw" ["_law_flow_here", "_law_many"] spDrawX :=
  (ok_draw T).imp fun vs H Q E ⟨a, f, m, e, h, h0, h1, q⟩ => ⟨a, f, m, e, h.at_, h.ok, h0, h1, q _ (h.draw h0) (Fr.refl.mutL (.head _) h.at_)⟩
theorem ok_names (T : Tp K mg) : Fx P w K mg base 2 "_law_names" ["_law_flow_here", "_law_many"] spNames := by
  have F_l_draw : Fx P w K mg base 1 "_law_draw" ["_law_flow_here", "_law_many"] spDrawX := ok_drawX T
  refine fx_of T 25 16 rfl rfl sc_l_names (fun _ _ _ _ _ _ us hl => match us, hl with | [_, _], _ => rfl) (fun vs H Q E h => ?_) (fun f cdv A outer s H vs Q E hr h => ?_)
  · obtain ⟨f, fl, rfl, _⟩ := h
    rfl
  · obtain ⟨a, fl, rfl, hf, q⟩ := h
    have hu := hu_of hr
    refine ⟨_, (pss_cons (ps_set (i := 2) sc_l_names.nd rfl (Or.inr rfl) pe_str)
    (pss_cons (ps_set (i := 3) sc_l_names.nd rfl (Or.inl rfl) (pe_join pe_str (pe_lc (own := [("_law_j", 11)]) rfl sc_l_names.nd (pi_range1 (by rfl) T.n_range (pa_cons (pe_F F_l_draw (hr.mono (by omega)) (by rfl) (pa_cons (pv 0) (pa_cons pe_int pa_nil))) pa_nil)) (blkOk_by (own := [("_law_j", 11)]) (N := N_l_names) (sc := defScope s_l_names) (by decide +kernel)) (fun _ _ _ _ _ => (pg_name (i := 11) sc_l_names.nd rfl (Or.inl rfl))) (fun _ _ _ _ _ => pts_nil) (fun _ _ _ _ _ => (pe_ix ix_str (pv 2) (pe_F F_l_draw (hr.mono (by omega)) (by rfl) (pa_cons (pv 0) (pa_cons pe_int pa_nil))) (fun _ _ => rfl))))))
    (pss_cons (ps_par3 (i := 4) (j := 5) (l := 6) rfl sc_l_names.nd rfl rfl rfl (by decide) (by decide) (by decide) rfl rfl rfl (pa_cons (pe_F F_l_draw (hr.mono (by omega)) (by rfl) (pa_cons (pv 0) (pa_cons (pe_op op_add (pe_callB call_len_str (by rfl) T.n_len PySem.boot_len (pa_cons (pv 3) pa_nil)) pe_int) pa_nil))) (pa_cons (pe_F F_l_draw (hr.mono (by omega)) (by rfl) (pa_cons (pv 0) (pa_cons pe_int pa_nil))) (pa_cons (pe_F F_l_draw (hr.mono (by omega)) (by rfl) (pa_cons (pv 0) (pa_cons pe_int pa_nil))) pa_nil))) (by rfl))
    (pss_cons (ps_set (i := 7) sc_l_names.nd rfl (Or.inl rfl) (pe_lstC (pa_cons pe_str (pa_cons pe_str (pa_cons pe_str (pa_cons pe_str (pa_cons pe_str (pa_cons pe_str (pa_cons pe_str (pa_cons pe_str (pa_cons pe_str (pa_cons pe_str (pa_cons pe_str (pa_cons pe_str (pa_cons pe_str pa_nil)))))))))))))))
    (pss_cons (ps_set (i := 8) sc_l_names.nd rfl (Or.inl rfl) (pe_lstC pa_nil))
    (pss_cons (ps_for PassesOwn.never rfl (pi_range1 (by rfl) T.n_range (pa_cons pe_int pa_nil)) (pg_name (i := 9) sc_l_names.nd rfl (Or.inl rfl)) (pss_cons (ps_set (i := 10) sc_l_names.nd rfl (Or.inl rfl) (pe_op op_add_str (pe_op op_add_str (pe_slice sl_str (pv 3) po_none (po_some (pv 4))) (pe_ix ix_str (pv 2) (pe_op op_mod (pe_op op_add (pv 5) (pe_op op_mul pe_int (pv 9))) pe_int) (fun _ _ => rfl))) (pe_slice sl_str (pv 3) (po_some (pv 4)) po_none)))
      (pss_cons (ps_if (PW.pt (pw_and (pt_cmpR op_gt (pe_op op_mul (pv 6) (pe_op op_mod (pv 9) pe_int)) pe_int (nomark _)) (pw_and (pt_cmpR op_lt (pe_callB call_len_str (by rfl) T.n_len PySem.boot_len (pa_cons (pv 10) pa_nil)) pe_int (nomark _)) (pw_and1 (pt_cmpR op_gt (pe_callB call_len_seq (by rfl) T.n_len PySem.boot_len (pa_cons (pv 8) pa_nil)) pe_int (nomark _)))))) (pss_one (ps_set (i := 10) sc_l_names.nd rfl (Or.inl rfl) (pe_op op_add_str (pe_slice sl_str (pe_ix ix_list (pv 8) (pe_un un_neg pe_int) (fun _ _ => rfl)) po_none (po_some (pe_callB call_len_str (by rfl) T.n_len PySem.boot_len (pa_cons (pv 10) pa_nil)))) (pe_ix ix_str (pv 2) (pe_op op_mod (pe_op op_add (pv 5) (pe_op op_mul pe_int (pv 9))) pe_int) (fun _ _ => rfl)))))
       pss_nil)
      (pss_one (ps_if (PW.pt (pw_and (pt_cmpR op_notIn_seq (pv 10) (pe_op op_catL (pv 7) (pv 8)) (by rfl)) (pw_and (pt_cmpR op_ne (pv 10) pe_str (nomark _)) (pw_and1 (pt_cmpR op_lt (pe_callB call_len_seq (by rfl) T.n_len PySem.boot_len (pa_cons (pv 8) pa_nil)) (pv 1) (nomark _)))))) (pss_one (ps_expr (pe_bm PySem.F.plainAttrs_list PySem.F.slot_list_append PySem.F.type_list_append mt_append (pv 8) (pa_cons (pv 10) pa_nil))))
       pss_nil)))))
    (pss_one (ps_ret (pv 8))))))))), ?_⟩
    have d6 := drawV_in fl (m := 6) (by decide)
    -- the word
    refine ⟨⟨_, rfl⟩, _, rfl, a, fl, 6, rfl, hf, by decide, by decide, fun H1 h1 x1 => ?_⟩
    refine ⟨drawV fl 6, rfl, by omega, by omega, fun D hD => ?_⟩
    have nDa : D ≠ a := (ne_of_none h1.at_ hD).symm
    refine lc_range (lo := 0) (n := (drawV fl 6).toNat) (fun j H' => H' D = some (.lst ((digF j (drawN fl 6)).1.map fun d => V.str (ofL [letC d.toNat]))) ∧ FlAt H' a (digF j (drawN fl 6)).2 ∧ Fr [a] H H') ?_ (fun j H' hj hP => ?_) (fun H' hP => ?_)
    · exact ⟨upd_same, h1.new hD, x1.new hD⟩
    · obtain ⟨e', h', x'⟩ := hP
      refine ⟨rfl, ?_⟩
      dsimp only [tYes]
      rw [if_pos rfl]
      have dd := drawV_in (digF j (drawN fl 6)).2 (m := 26) (by decide)
      refine ⟨_, rfl, _, rfl, a, _, 26, rfl, h', by decide, by decide, fun H2 h2 x2 => ?_⟩
      have e2 := x2.keep _ _ (fun z => nDa (List.mem_singleton.mp z)) e'
      refine ⟨abcS, _, _, rfl, rfl, abc_len, abcI dd.1 dd.2, _, e2, ?_, ?_, ?_, ?_⟩
      · rw [List.length_map, digF_len]
        exact small1000 (by omega)
      · show upd H2 D _ D = _
        rw [upd_same]
        show _ = some (HO.lst (((digF j (drawN fl 6)).1 ++ [drawV (digF j (drawN fl 6)).2 26]).map _))
        rw [List.map_append]
        rfl
      · exact ⟨by rw [upd_ne (Ne.symm nDa)]; exact h2.at_, h2.ok⟩
      · exact (x'.trans x2).own (x1.back _ hD) e2
    · obtain ⟨e', h', x'⟩ := hP
      have ew : (digF (drawV fl 6).toNat (drawN fl 6)).1.map (fun d => V.str (ofL [letC d.toNat])) = ((wlF fl).map fun c => ofL [c]).map V.str := by
        unfold wlF
        rw [List.map_map, List.map_map]
        rfl
      rw [ew] at e'
      have hwl := wlF_len fl
      have tj : tl (Txt.join Str.empty ((wlF fl).map fun c => ofL [c])) = wlF fl := by
        show tl (Builtin.Str.glued Str.empty _) = _
        rw [PySem.StrLaws.glued_eq_join]
        exact join_ones _
      have sj : (((wlF fl).map fun c => ofL [c]).map (·.length)).sum + ((wlF fl).map fun c => ofL [c]).length * Str.empty.length ≤ 16777216 := by
        have e1 : ∀ l : List Nat, ((l.map fun c => ofL [c]).map (·.length)).sum = l.length := fun l => by
          induction l with
          | nil => rfl
          | cons c l ih =>
            rw [List.map_cons, List.map_cons, List.sum_cons, ih, List.length_cons]
            show 1 + _ = _
            omega
        rw [e1]
        show _ + _ * 0 ≤ _
        omega
      refine ⟨Str.empty, D, _, rfl, rfl, .inl (SqL.of e'), sj, ?_⟩
      generalize Txt.join Str.empty ((wlF fl).map fun c => ofL [c]) = word at tj ⊢
      have lw : word.length = (wlF fl).length := by rw [len_tl, tj]
      have wls : word.length ≤ sizeLine := small40 (by omega)
      clear sj ew e' h1 x1 hD nDa
      have h' : FlAt H' a (f2F fl) := h'
      refine ⟨_, rfl, _, rfl, word, rfl, wls, _, _, rfl, rfl, a, f2F fl, ((wlF fl).length : Int) + 1, by rw [lw]; rfl, h', by omega, by omega, fun H2 h2 x2 => ⟨_, rfl, a, f3F fl, 26, rfl, h2, by decide, by decide, fun H3 h3 x3 => ⟨_, rfl, a, drawN (f3F fl) 26, 2, rfl, h3, by decide, by decide, fun H4 h4 x4 => ⟨_, _, _, rfl, ?_⟩⟩⟩⟩
      have eat : drawV (f2F fl) (((wlF fl).length : Int) + 1) = (atF fl : Int) := by
        have := drawV_in (f2F fl) (m := ((wlF fl).length : Int) + 1) (by omega)
        unfold atF
        omega
      have efi : drawV (f3F fl) 26 = (firstF fl : Int) := by
        have := drawV_in (f3F fl) (m := 26) (by decide)
        unfold firstF
        omega
      have elo : drawV (drawN (f3F fl) 26) 2 = (longerF fl : Int) := by
        have := drawV_in (drawN (f3F fl) 26) (m := 2) (by decide)
        unfold longerF
        omega
      have lolt : longerF fl < 2 := by
        have := drawV_in (drawN (f3F fl) 26) (m := 2) (by decide)
        omega
      have filt : firstF fl < 26 := by
        have := drawV_in (f3F fl) (m := 26) (by decide)
        omega
      rw [eat, efi, elo]
      have hat := atF_le fl
      have x4' := ((x'.trans x2).trans x3).trans x4
      clear eat efi elo h2 h3 h' x' x2 x3 x4
      refine ⟨(by decide : 13 ≤ sizeLine), fun tk H5 n5 x5 e5 => ⟨Nat.zero_le _, fun fo H6 n6 x6 e6 => ⟨26, rfl, by decide, by decide, ?_⟩⟩⟩
      have ntf : tk ≠ fo := ne_of_none e5 n6
      have e5 : H6 tk = some (.lst (takS.map V.str)) := x6.keep _ _ (fun z => nomatch z) e5
      have nfa : fo ≠ a := (ne_of_none (h4.keep x5 fun z => nomatch z).at_ n6).symm
      have nta : tk ≠ a := (ne_of_none h4.at_ n5).symm
      have bfo : H fo = none := (x4'.trans (x5.mono fun _ z => nomatch z)).back _ n6
      have btk : H tk = none := x4'.back _ n5
      have x06 : Fr [a] H H6 := x4'.trans ((x5.trans x6).mono fun _ z => nomatch z)
      have h6 : FlAt H6 a _ := (h4.keep x5 fun z => nomatch z).keep x6 fun z => nomatch z
      clear h4 x4' x5 x6 n5 n6
      generalize drawN (drawN (f3F fl) 26) 2 = fe at h6
      generalize hat' : atF fl = at_ at hat ⊢
      generalize hfi : firstF fl = first at filt ⊢
      generalize hlo : longerF fl = longer at lolt ⊢
      refine for_range (lo := 0) (n := 26) (fun k σ' H' => ∃ y9 y10 y11, σ' = [some (V.ref a), some (V.int 16), some (V.str abcS), some (V.str word), some (V.int (at_ : Int)), some (V.int (first : Int)), some (V.int (longer : Int)), some (V.ref tk), some (V.ref fo), y9, y10, y11] ∧
        H' fo = some (.lst ((namesL (wlF fl) at_ first longer k).map fun n => V.str (ofL n))) ∧ H' tk = some (.lst (takS.map V.str)) ∧ FlAt H' a fe ∧ Fr [a] H H') ?_ (fun k σ' H' hk hP => ?_) (fun σ' H' hP => ?_)
      · exact ⟨_, _, _, rfl, e6, e5, h6, x06⟩
      · obtain ⟨y9, y10, y11, rfl, ef, et, h', x'⟩ := hP
        obtain ⟨lost, inv⟩ := ninv (first := first) (longer := longer) hat k (by omega)
        have fle := inv.le
        generalize hfd : namesL (wlF fl) at_ first longer k = found at inv fle ef
        have lin := insL_len hat (letC (first + 7 * k))
        dsimp only [gName]
        refine asg_cut (fun u H2 => u = .str (ofL (insL (wlF fl) at_ (letC (first + 7 * k)))) ∧ H2 = H') (fun Q' hQ => ?_) (fun u H2 hP => ?_)
        · refine ⟨_, rfl, _, rfl, _, rfl, word, rfl, wls, _, rfl, _, rfl, _, rfl, _, _, rfl, rfl, .inl ⟨by decide, by decide⟩, _, _, rfl, rfl, _, _, rfl, rfl, (show (0 : Int) < 26 by decide), ?_⟩
          have i0 := Int.emod_nonneg ((first : Int) + 7 * (0 + (k : Int))) (show (26 : Int) ≠ 0 by decide)
          have i1 := Int.emod_lt_of_pos ((first : Int) + 7 * (0 + (k : Int))) (show (0 : Int) < 26 by decide)
          have el : letC (((first : Int) + 7 * (0 + (k : Int))) % 26).toNat = letC (first + 7 * k) := by
            unfold letC
            omega
          have c1 := cutS_length word none (some (at_ : Int))
          have c2 := cutS_length word (some (at_ : Int)) none
          refine ⟨abcS, _, _, rfl, rfl, abc_len, abcI i0 i1, _, _, rfl, rfl, small40 (by show _ + 1 ≤ 1000; omega), ?_⟩
          refine ⟨_, rfl, _, rfl, _, rfl, word, rfl, wls, _, _, rfl, rfl, small40 (by rw [Str.length_append]; show _ + 1 + _ ≤ 1000; omega), hQ _ _ ⟨?_, rfl⟩⟩
          refine congrArg V.str (ext_tl ?_)
          rw [tl_append, tl_append, cutS_to, cutS_from, tj, el]
          show ((wlF fl).take at_ ++ [letC (first + 7 * k)]) ++ (wlF fl).drop at_ = (wlF fl).take at_ ++ letC (first + 7 * k) :: (wlF fl).drop at_
          rw [List.append_assoc]
          rfl
        · obtain ⟨rfl, rfl⟩ := hP
          have hln : (ofL (insL (wlF fl) at_ (letC (first + 7 * k)))).length = (wlF fl).length + 1 := by rw [len_tl]; exact lin
          have lns : (ofL (insL (wlF fl) at_ (letC (first + 7 * k)))).length ≤ sizeLine := small40 (by omega)
          -- the longer form
          dsimp only [gName, tNext]
          refine seq_cut (fun σ' H3 => H3 = H2 ∧ ∃ y9 y11, σ' = [some (V.ref a), some (V.int 16), some (V.str abcS), some (V.str word), some (V.int (at_ : Int)), some (V.int (first : Int)), some (V.int (longer : Int)), some (V.ref tk), some (V.ref fo), y9, some (V.str (ofL (candL (wlF fl) at_ first longer found k))), y11]) (fun D' hQ _ _ _ => ?_) (fun σ' H3 hP => ?_)
          · have cd : candL (wlF fl) at_ first longer found k = if 0 < longer * (k % 2) ∧ (insL (wlF fl) at_ (letC (first + 7 * k))).length < 6 ∧ 0 < found.length then (found.getLastD []).take (insL (wlF fl) at_ (letC (first + 7 * k))).length ++ [letC (first + 7 * k)] else insL (wlF fl) at_ (letC (first + 7 * k)) := rfl
            have lk : ((longer : Int) * ((0 + (k : Int)) % 2)) = ((longer * (k % 2) : Nat) : Int) := by
              rw [Int.zero_add]
              push_cast
              rfl
            try dsimp only [gName]
            refine if_cut (fun c H3 => H3 = H2 ∧ (c = true ↔ 0 < longer * (k % 2) ∧ (insL (wlF fl) at_ (letC (first + 7 * k))).length < 6 ∧ 0 < found.length)) (fun Q' hQ' => ?_) (fun c H3 hP => ?_)
            · refine ⟨_, rfl, _, rfl, _, _, rfl, rfl, (show (0 : Int) < 2 by decide), _, _, rfl, rfl, .inl ⟨by omega, by omega⟩, _, _, rfl, rfl, _, rfl, ?_⟩
              rw [lk]
              refine ite2 (fun c1 => ?_) (fun c1 => hQ' _ _ ⟨rfl, ⟨fun z => (nomatch z), fun z => absurd (decide_eq_true (show ((longer * (k % 2) : Nat) : Int) > 0 by omega)) c1⟩⟩)
              have c1 : ((longer * (k % 2) : Nat) : Int) > 0 := of_decide_eq_true c1
              refine ⟨_, rfl, _, rfl, lns, _, _, rfl, rfl, _, rfl, ite2 (fun c2 => ?_) (fun c2 => hQ' _ _ ⟨rfl, ⟨fun z => (nomatch z), fun z => absurd (decide_eq_true (show (((ofL (insL (wlF fl) at_ (letC (first + 7 * k)))).length : Nat) : Int) < 6 by have := z.2.1; omega)) c2⟩⟩)⟩
              have c2 : (((ofL (insL (wlF fl) at_ (letC (first + 7 * k)))).length : Nat) : Int) < 6 := of_decide_eq_true c2
              refine ⟨_, rfl, fo, _, rfl, .inl (SqL.of ef), _, _, rfl, rfl, _, rfl, hQ' _ _ ⟨rfl, ?_⟩⟩
              rw [decide_eq_true_eq, List.length_map]
              exact ⟨fun z => ⟨by omega, by omega, by omega⟩, fun z => by have := z.2.2; omega⟩
            · obtain ⟨rfl, hc⟩ := hP
              refine ite2 (fun c1 => ?_) (fun c1 => hQ _ _ ⟨rfl, some (.int (0 + (k : Int))), y11, ?_⟩)
              · have hh := hc.mp c1
                rw [if_pos hh] at cd
                have hne : found ≠ [] := fun z => by rw [z] at hh; exact absurd hh.2.2 (by decide)
                obtain ⟨fi, la, efl⟩ : ∃ fi la, found = fi ++ [la] := ⟨found.dropLast, found.getLast hne, (List.dropLast_concat_getLast hne).symm⟩
                have egl : found.getLastD [] = la := by rw [efl]; simp
                have lal : la.length ≤ 7 := by
                  have := (inv.sh la (List.mem_append_left _ (by rw [efl]; exact List.mem_append_right _ (List.mem_singleton.mpr rfl)))).len hat
                  omega
                have lals : (ofL la).length ≤ sizeLine := small40 (by rw [len_tl]; show la.length ≤ 1000; omega)
                have em1 : atI (found.map fun n => V.str (ofL n)) (-1) = some (.str (ofL la)) := by
                  rw [efl, List.map_append]
                  exact atI_last _ _
                refine ⟨_, rfl, _, rfl, fo, _, _, .str (ofL la), rfl, rfl, SqL.of ef, em1, _, rfl, _, rfl, lns, _, rfl, ofL la, rfl, lals, ?_⟩
                refine ⟨_, rfl, _, rfl, _, rfl, _, _, rfl, rfl, .inl ⟨by decide, by decide⟩, _, _, rfl, rfl, _, _, rfl, rfl, (show (0 : Int) < 26 by decide), ?_⟩
                have i0 := Int.emod_nonneg ((first : Int) + 7 * (0 + (k : Int))) (show (26 : Int) ≠ 0 by decide)
                have i1 := Int.emod_lt_of_pos ((first : Int) + 7 * (0 + (k : Int))) (show (0 : Int) < 26 by decide)
                have el : letC (((first : Int) + 7 * (0 + (k : Int))) % 26).toNat = letC (first + 7 * k) := by
                  unfold letC
                  omega
                have c3 := cutS_length (ofL la) none (some ((ofL (insL (wlF fl) at_ (letC (first + 7 * k)))).length : Int))
                have c4 : (ofL la).length = la.length := by rw [len_tl]
                refine ⟨abcS, _, _, rfl, rfl, abc_len, abcI i0 i1, _, _, rfl, rfl, small40 (by show _ + 1 ≤ 1000; omega), hQ _ _ ⟨rfl, some (.int (0 + (k : Int))), y11, ?_⟩⟩
                have ee : cutS (ofL la) none (some ((ofL (insL (wlF fl) at_ (letC (first + 7 * k)))).length : Int)) ++ ofL [letC (((first : Int) + 7 * (0 + (k : Int))) % 26).toNat] = ofL (candL (wlF fl) at_ first longer found k) := by
                  refine ext_tl ?_
                  rw [tl_append, cutS_to, el, cd, egl, len_tl]
                rw [← ee]
                rfl
              · rw [cd, if_neg (fun z => c1 (hc.mpr z))]
                rfl
          · obtain ⟨rfl, y9', y11', rfl⟩ := hP
            have hst : namesL (wlF fl) at_ first longer (k + 1) = if candL (wlF fl) at_ first longer found k ∉ forbL ∧ candL (wlF fl) at_ first longer found k ∉ found ∧ found.length < 16 then found ++ [candL (wlF fl) at_ first longer found k] else found := by
              show stepL (wlF fl) at_ first longer (namesL (wlF fl) at_ first longer k) k = _
              rw [hfd]
              rfl
            generalize candL (wlF fl) at_ first longer found k = n at hst ⊢
            have ecat : takS.map V.str ++ found.map (fun n => V.str (ofL n)) = (takS ++ found.map ofL).map V.str := by
              rw [List.map_append, List.map_map]
              rfl
            have mf : ofL n ∈ found.map ofL ↔ n ∈ found := ⟨fun z => by
              obtain ⟨m, hm, e⟩ := List.mem_map.mp z
              rw [← ofL_inj e]
              exact hm, fun z => List.mem_map.mpr ⟨n, z, rfl⟩⟩
            have mb : n ∈ forbL ↔ ofL n ∈ takS ∨ ofL n = "gauges" := by
              have e : n ∈ forbL ↔ ofL n ∈ forbS := ⟨fun z => by
                obtain ⟨m, hm, e⟩ := List.mem_map.mp z
                rw [← e]
                exact (mk_tl m).symm ▸ hm, fun z => List.mem_map.mpr ⟨ofL n, z, rfl⟩⟩
              rw [e]
              show ofL n ∈ takS ++ [("gauges" : Str)] ↔ _
              rw [List.mem_append, List.mem_singleton]
            try dsimp only [gName, tNext]
            refine if_cut (fun c H4 => Fr [] H3 H4 ∧ (c = true ↔ n ∉ forbL ∧ n ∉ found ∧ found.length < 16)) (fun Q' hQ' => ?_) (fun c H4 hP => ?_)
            · refine ⟨_, rfl, _, rfl, _, rfl, tk, fo, _, _, rfl, rfl, et, ef, small40 (by rw [List.length_map, List.length_map]; show 13 + _ ≤ 1000; omega), fun p Hp np xp ep => ?_⟩
              rw [ecat] at ep
              refine ⟨p, _, rfl, .inl (SqL.of ep), rfl, flat_strs _, _, rfl, ?_⟩
              have e1 : (if true = true then !inV (.str (ofL n)) ((takS ++ found.map ofL).map V.str) else inV (.str (ofL n)) ((takS ++ found.map ofL).map V.str)) = true ↔ ofL n ∉ takS ∧ n ∉ found := by
                rw [if_pos rfl, Bool.not_eq_true', ← Bool.not_eq_true, inV_strs, List.mem_append, not_or, mf]
              refine ite2 (fun c1 => ?_) (fun c1 => hQ' _ _ ⟨xp, ⟨fun z => (nomatch z), fun z => absurd (e1.mpr ⟨fun y => z.1 (mb.mpr (.inl y)), z.2.1⟩) c1⟩⟩)
              have c1 := e1.mp c1
              refine ⟨_, rfl, rfl, _, rfl, ite2 (fun c2 => ?_) (fun c2 => hQ' _ _ ⟨xp, ⟨fun z => (nomatch z), fun z => absurd ?_ c2⟩⟩)⟩
              · have c2 : ofL n ≠ "gauges" := fun z => by
                  rw [z] at c2
                  exact absurd c2 (by decide +kernel)
                refine ⟨_, rfl, fo, _, rfl, .inl (SqL.of (xp.keep _ _ (fun z => nomatch z) ef)), _, rfl, _, _, rfl, rfl, _, rfl, hQ' _ _ ⟨xp, ?_⟩⟩
                rw [decide_eq_true_eq, List.length_map, mb]
                exact ⟨fun z => ⟨fun y => y.elim c1.1 c2, c1.2, by omega⟩, fun z => by have := z.2.2; omega⟩
              · rw [Bool.not_eq_true', decide_eq_false_iff_not]
                intro y
                exact z.1 (mb.mpr (.inr (by injection y)))
            · obtain ⟨x4, hc⟩ := hP
              have ef4 := x4.keep _ _ (fun z => nomatch z) ef
              have et4 := x4.keep _ _ (fun z => nomatch z) et
              have h4 := h'.keep x4 fun z => nomatch z
              have x4' : Fr [a] H H4 := x'.trans (x4.mono fun _ z => nomatch z)
              refine ite2 (fun c1 => ?_) (fun c1 => ⟨_, _, _, rfl, ?_, et4, h4, x4'⟩)
              · have hh := hc.mp c1
                rw [if_pos hh] at hst
                refine ⟨_, rfl, .inl ⟨rfl, _, SqL.of ef4⟩, _, rfl, fo, _, _, rfl, rfl, ef4, small1000 (by rw [List.length_map]; omega), _, _, _, rfl, ?_, ?_, ?_, x4'.own bfo ef4⟩
                · rw [upd_same, hst, List.map_append]
                  rfl
                · rw [upd_ne ntf]; exact et4
                · exact ⟨by rw [upd_ne (Ne.symm nfa)]; exact h4.at_, h4.ok⟩
              · rw [hst, if_neg fun z => c1 (hc.mpr z)]
                exact ef4
      · obtain ⟨y9, y10, y11, rfl, ef, et, h', x'⟩ := hP
        refine ⟨_, rfl, q fo H' fe h' x' bfo ?_⟩
        rw [ef]
        show _ = some (HO.lst (((namesL (wlF fl) (atF fl) (firstF fl) (longerF fl) 26).map ofL).map V.str))
        rw [hat', hfi, hlo, List.map_map]
        rfl
end
end Kz
set_option Elab.async false
set_option linter.all false
set_option maxRecDepth 100000
set_option maxHeartbeats 4000000
set_option pp.maxSteps 2000
/-! ZWb: helpers are drawn. -/
namespace Kz
open PySem PySem.Spec PyProof.Rows L2
/-- the world with no dict of what is read -/
structure Gw (H : Hp) (f w : Addr) (fl : Fl) (W : Wd) (left heavy : Int) : Prop where
  fl : FlAt H f fl
  ws : Ws H W
  wv : Wv H w W left heavy
  sep : ∀ a ∈ W.addrs, a ≠ f ∧ a ≠ w
structure Apw (p f w : Addr) (W : Wd) : Prop where
  n2 : p ∉ [f, w]
  nw : ∀ b ∈ W.addrs, b ≠ p
section
variable {H H' : Hp} {f w d p : Addr} {fl fl' : Fl} {W : Wd} {l v : Int} {fr : List (Key × V)}
theorem Gx.gw (g : Gx H f w d fl W l v fr) : Gw H f w fl W l v := ⟨g.fl, g.ws, g.wv, fun a ha => ⟨(g.sep a ha).1, (g.sep a ha).2.1⟩⟩
theorem Gw.ext (g : Gw H f w fl W l v) (x : Fr [] H H') : Gw H' f w fl W l v :=
  have n : ∀ a : Addr, a ∉ ([] : List Addr) := fun _ z => by cases z
  ⟨g.fl.keep x (n _), g.ws.mono x fun _ _ => n _, g.wv.keep x (n _), g.sep⟩
theorem Gw.fw (g : Gw H f w fl W l v) : f ≠ w := let ⟨_, e⟩ := g.wv.at_; ne_of g.fl.at_ e (by intro z; cases z)
theorem Gw.flow (g : Gw H f w fl W l v) (x : Fr [f] H H') (h : FlAt H' f fl') : Gw H' f w fl' W l v :=
  ⟨h, g.ws.mono x fun a ha z => (g.sep a ha).1 (List.mem_singleton.mp z), g.wv.keep x fun z => g.fw (List.mem_singleton.mp z).symm, g.sep⟩
theorem Gw.apw (g : Gw H f w fl W l v) (h : H p = none) : Apw p f w W := by
  refine ⟨fun z => ?_, fun b hb z => ?_⟩
  · simp only [List.mem_cons, List.not_mem_nil, or_false] at z
    rcases z with rfl | rfl
    · rw [g.fl.at_] at h; cases h
    · obtain ⟨kv, e⟩ := g.wv.at_
      rw [e] at h; cases h
  · obtain ⟨o, e⟩ := g.ws.some b hb
    rw [z, h] at e
    cases e
theorem Gw.dict (g : Gw H f w fl W l v) (e : H p = some (.dK fr)) (fo : FrOk W fr) (a : Apw p f w W) : Gx H f w p fl W l v fr :=
  ⟨g.fl, g.ws, g.wv, e, fo, fun b hb => ⟨(g.sep b hb).1, (g.sep b hb).2, a.nw b hb⟩, fun z => a.n2 (by rw [z]; exact .tail _ (.head _))⟩
end
theorem Gw.own {H : Hp} {f w p : Addr} {fl : Fl} {W : Wd} {l v : Int} {o u : HO} (g : Gw H f w fl W l v) (m : Apw p f w W) (e : H p = some u) (nt : NoTup u) : Gw (upd H p o) f w fl W l v := by
  have x : Fr [p] H (upd H p o) := Fr.refl.mutT (.head _) e nt
  exact ⟨g.fl.keep x fun z => m.n2 (by rw [← List.mem_singleton.mp z]; exact .head _), g.ws.mono x fun a ha z => m.nw a ha (List.mem_singleton.mp z), g.wv.keep x fun z => m.n2 (by rw [← List.mem_singleton.mp z]; exact .tail _ (.head _)), g.sep⟩
/-- a list of statements, apart from f and w -/
structure KwL (f w : Addr) (W : Wd) (H : Hp) (p : Addr) (P : Str → Prop) (m k n sz dd : Nat) (vs : List V) (b : List Sm) : Prop where
  e : H p = some (.lst vs)
  np : p ∉ [f, w]
  ln : vs.length ≤ m
  rl : RL H k vs b
  bo : Bo W P n sz dd b
  ne : b ≠ []
section
variable {H H' : Hp} {f w p q q2 : Addr} {W : Wd} {P : Str → Prop} {m k n sz dd m2 sz2 dd2 : Nat} {vs vs2 : List V} {b b2 : List Sm}
theorem KwL.fr {S : List Addr} (x : KwL f w W H p P m k n sz dd vs b) (y : Fr S H H') (h : p ∉ S) : KwL f w W H' p P m k n sz dd vs b := ⟨y.keep _ _ h x.e, x.np, x.ln, x.rl.mono y.tu, x.bo, x.ne⟩
theorem KwL.ext (x : KwL f w W H p P m k n sz dd vs b) (y : Fr [] H H') : KwL f w W H' p P m k n sz dd vs b := x.fr y fun z => nomatch z
theorem KwL.flow (x : KwL f w W H p P m k n sz dd vs b) (y : Fr [f] H H') : KwL f w W H' p P m k n sz dd vs b := x.fr y fun z => x.np (by rw [List.mem_singleton.mp z]; exact .head _)
theorem KwL.cat (x : KwL f w W H p P m k n sz dd vs b) (x2 : KwL f w W H q P m2 k n sz2 dd2 vs2 b2) (y : Fr [] H H') (nq : q2 ∉ [f, w]) (e : H' q2 = some (.lst (vs ++ vs2))) : KwL f w W H' q2 P (m + m2) k n (sz + sz2) (dd + dd2) (vs ++ vs2) (b ++ b2) :=
  ⟨e, nq, by rw [List.length_append]; have := x.ln; have := x2.ln; omega, pd_app (x.rl.mono y.tu) (x2.rl.mono y.tu), x.bo.app x2.bo, fun z => x.ne (List.append_eq_nil_iff.mp z).1⟩
theorem KwL.le {P' : Str → Prop} {m' k' n' sz' dd' : Nat} (x : KwL f w W H p P m k n sz dd vs b) (hP : ∀ y, P' y → P y) (h1 : m ≤ m') (h2 : k ≤ k') (h3 : n ≤ n') (h4 : sz ≤ sz') (h5 : dd ≤ dd') : KwL f w W H p P' m' k' n' sz' dd' vs b :=
  ⟨x.e, x.np, Nat.le_trans x.ln h1, x.rl.up h2, x.bo.mono hP h3 h4 h5, x.ne⟩
end
abbrev Wd.with (W : Wd) (hs : List Hl) : Wd := { W with hs := hs }
theorem envH_app : ∀ {hs hs2 : List Hl} {f : Str} {b : List Sm}, envH hs f = some b → envH (hs ++ hs2) f = some b
  | [], _, _, _, h => by cases h
  | x :: r, hs2, f, b, h => by
    have h : (if f = x.name then some x.body else envH r f) = some b := h
    show (if f = x.name then some x.body else envH (r ++ hs2) f) = some b
    split at h
    · rename_i e
      rw [if_pos e]
      exact h
    · rename_i e
      rw [if_neg e]
      exact envH_app h
theorem Bo.env {W : Wd} {hs hs2 : List Hl} {P : Str → Prop} {n sz d : Nat} {b : List Sm} (x : Bo (W.with hs) P n sz d b) (hn : n ≤ NN) : Bo (W.with (hs ++ hs2)) P n sz d b := by
  have he : ∀ f b, envW (W.with hs) f = some b → envW (W.with (hs ++ hs2)) f = some b := fun f b h => envH_app h
  have e : plW (W.with (hs ++ hs2)) b = plW (W.with hs) b := plL_env he fun s hs => (x.wf s hs).up hn
  exact ⟨fun s hs => (x.wf s hs).imp (fun _ z => z) (fun _ z => z) he, by rw [e]; exact x.fit, by rw [e]; exact x.size⟩
/-- one helper more -/
theorem ws_add {H H1 : Hp} {W : Wd} {hs : List Hl} {h : Hl} {t q t2 : Addr} {hv vs : List V} {kvs : List (Key × V)} (s : Ws H (W.with hs)) (tu : Tu H H1) (eC : H1 W.aC = H W.aC) (eK : H1 W.aK = H W.aK) (eG : H1 W.aG = H W.aG) (ega : ∀ h ∈ hs, H1 h.ga = H h.ga)
    (eh : H W.aH = some (.lst hv)) (eh1 : H1 W.aH = some (.lst (hv ++ [.ref t]))) (ea : H W.aA = some (.dK kvs)) (ea1 : H1 W.aA = some (.dK (putK kvs (Sum.inr h.name) (.ref t2)))) (hl : kvs.length < 8) (nm : ∀ h' ∈ hs, h'.name ≠ h.name)
    (et : H1 t = some (.tup [.str h.name, .ref q])) (eq : H1 q = some (.tup vs)) (rl : RL H1 hN vs h.body) (et2 : H1 t2 = some (.tup [.ref h.ga, .int h.rows, .bl h.rounds])) (eg2 : H1 h.ga = some (.lst (h.gone.map V.str))) : Ws H1 (W.with (hs ++ [h])) := by
  refine ⟨eC.trans s.cells, eK.trans s.counters, eG.trans s.gauges, ⟨hv ++ [.ref t], eh1, ?_⟩, ⟨_, ea1, ?_, fun h' hh' => ?_⟩⟩
  · obtain ⟨hv2, e2, hp⟩ := s.helpers
    rw [show (W.with hs).aH = W.aH from rfl, eh] at e2
    cases e2
    rw [List.map_append]
    exact pd_app (Paired.mapP hp fun _ _ z => z.mono tu) (.cons ⟨t, q, vs, rfl, et, eq, rl⟩ .nil)
  · unfold putK
    split
    · rw [List.length_map]; omega
    · rw [List.length_append]; show kvs.length + 1 ≤ 8; omega
  · rcases List.mem_append.mp hh' with z | z
    · obtain ⟨kvs2, e2, _, hk⟩ := s.about
      rw [show (W.with hs).aA = W.aA from rfl, ea] at e2
      cases e2
      obtain ⟨a, q1, q2, q3⟩ := (hk h' z).ex
      exact ⟨a, by rw [valV_put, if_neg (fun e => nm h' z (Sum.inr.inj e))]; exact q1, tu _ _ q2, (ega h' z).trans q3⟩
    · rw [List.mem_singleton.mp z]
      exact ⟨t2, by rw [valV_put, if_pos rfl], et2, eg2⟩
def spHelpers : Sp := fun vs H Q _ => ∃ (f w wd : Addr) (fl : Fl) (W : Wd) (l v : Int) (words : List Str), vs = [.ref f, .ref w, .ref wd] ∧ Gw H f w fl W l v ∧ WOk W ∧ W.hs = [] ∧ H wd = some (.lst (words.map V.str)) ∧ words.length ≤ 3 ∧ words.Nodup ∧ wd ≠ f ∧ H W.aA = some (.dK []) ∧ (W.aH ≠ W.aC ∧ W.aH ≠ W.aK ∧ W.aH ≠ W.aG) ∧
  ∀ H' fl' hs l' v', Gw H' f w fl' (W.with hs) l' v' → Fr [f, w, W.aH, W.aA] H H' → WOk (W.with hs) → HOk (W.with hs) → (∀ h ∈ hs, h.name ∈ words) → Q .non H'
/-- between two turns -/
structure HpSt (f w : Addr) (W : Wd) (words : List Str) (i : Nat) (H : Hp) (fl : Fl) (l v : Int) (hs : List Hl) : Prop where
  g : Gw H f w fl (W.with hs) l v
  nm : hs.map (·.name) = words.take i
  ab : ∃ kvs : List (Key × V), H W.aA = some (.dK kvs) ∧ kvs.length ≤ i
  all : ∀ h ∈ hs, 1 ≤ h.rows ∧ h.rows ≤ 5 * (i : Int) ∧ h.gone.length ≤ 3 * i ∧ h.ga ≠ W.aH ∧ Bo (W.with hs) (Pc W 2) (2 * i - 1) h.rows.toNat (2 * h.rows.toNat) h.body ∧ h.body ≠ []
/-- within a turn -/
def HTn (f w : Addr) (W : Wd) (Ht : Hp) (form : Int) (p1 p2 pg pb : Addr) (r : Int) (m1 : Nat) (H : Hp) : Prop :=
  ∃ (fl : Fl) (l v : Int) (vs1 : List V) (b1 : List Sm) (vs2 : List V) (b2 : List Sm) (vs : List V) (bb : List Sm) (gs : List Str), Gw H f w fl W l v ∧ Fr [f, w] Ht H ∧ KwL f w W H p1 (· ∈ W.counters) m1 0 0 m1 m1 vs1 b1 ∧ KwL f w W H p2 (· ∈ W.counters) 1 0 0 1 1 vs2 b2 ∧
    H pg = some (.lst (gs.map V.str)) ∧ Ht pg = none ∧ gs.length ≤ 3 ∧ Ht pb = none ∧ pg ≠ pb ∧ KwL f w W H pb (Pc W 2) 3 1 1 r.toNat (2 * r.toNat) vs bb ∧ (1 ≤ r ∧ r ≤ 5) ∧
    (form = 0 → r = 4 ∧ ∃ t a b, bb = [.ite t a b] ∧ t.Ok (Cn W) ∧ t.parts ≤ 11 ∧ Bo W (Pc W 2) 0 2 2 a ∧ Bo W (Pc W 2) 0 1 1 b ∧ a.length ≤ 2)
/-- towards a turn's end -/
def HTe (f w : Addr) (W : Wd) (Ht : Hp) (i : Nat) (pg pb : Addr) (r : Int) (H : Hp) : Prop :=
  ∃ (fl : Fl) (l v : Int) (vs : List V) (bb : List Sm) (gs : List Str), Gw H f w fl W l v ∧ Fr [f, w] Ht H ∧ H pg = some (.lst (gs.map V.str)) ∧ Ht pg = none ∧ gs.length ≤ 3 * (i + 1) ∧ KwL f w W H pb (Pc W 2) 4 1 (2 * (i + 1) - 1) r.toNat (2 * r.toNat) vs bb ∧ 1 ≤ r ∧ r ≤ 5 * ((i : Int) + 1)
theorem par_cut {i j : Nat} {ta : TA} {D : Ends} {σ : L2.St} {H : Hp} (Pp : List V → Hp → Prop) (e : ∀ Q : List V → Hp → Prop, (∀ xs H1, Pp xs H1 → Q xs H1) → ta σ H Q) (k : ∀ xs H1, Pp xs H1 → ∃ v w, xs = [v, w] ∧ D.nx ((σ.set i (some v)).set j (some w)) H1) : tPar i j ta D σ H := e _ k
section
variable {P : Program} {w : World} {K : PySem.W.Frag} {mg : Str → Option Value} {base : Heap}
theorem ok_helpers (T : Tp K mg) : Fx P w K mg base 15 "_law_helpers" ["_law_flow_here", "_law_world", "_law_words"] spHelpers := by
  have F_l_draw : Fx P w K mg base 1 "_law_draw" ["_law_flow_here", "_law_many"] spDrawC := ok_drawC T
  have F_l_small : Fx P w K mg base 14 "_law_small" pFwd3 spSmall := ok_small T
  have F_l_term : Fx P w K mg base 13 "_law_term" ["_law_flow_here", "_law_names_here", "_law_room_here"] (spTerm 11) := ok_term T 11
  refine fx_of T 37 28 rfl rfl sc_l_helpers (fun _ _ _ _ _ _ us hl => match us, hl with | [_, _, _], _ => rfl) (fun vs H Q E h => ?_) (fun f cdv A outer s H vs Q E hr h => ?_)
  · obtain ⟨f, w, wd, fl, W, l, v, words, rfl, _⟩ := h
    rfl
  · obtain ⟨f, w, wd, fl, W, l, v, words, rfl, g, wo, whs, ewd, hwl, hwn, hwf, eA0, ⟨hC, hK, hG⟩, q⟩ := h
    have hu := hu_of hr
    refine ⟨_, (pss_one (ps_for PassesOwn.never rfl (pi_list (pe_slice sl_lstC (pv 2) po_none (po_some (pe_F F_l_draw (hr.mono (by omega)) (by rfl) (pa_cons (pv 0) (pa_cons pe_int pa_nil)))))) (pg_name (i := 3) sc_l_helpers.nd rfl (Or.inl rfl)) (pss_cons (ps_par3 (i := 4) (j := 5) (l := 6) rfl sc_l_helpers.nd rfl rfl rfl (by decide) (by decide) (by decide) rfl rfl rfl (pa_cons (pe_F F_l_draw (hr.mono (by omega)) (by rfl) (pa_cons (pv 0) (pa_cons pe_int pa_nil))) (pa_cons (pe_ix ix_list (pe_dget hu (pv 1) pe_str (fun _ _ => rfl)) pe_int (fun _ _ => rfl)) (pa_cons (pe_dnC pe_dnewK) pa_nil))) (by rfl))
      (pss_cons (ps_par (i := 7) (j := 8) rfl sc_l_helpers.nd rfl rfl (by decide) rfl rfl (pa_cons (pe_F F_l_small (hr.mono (by omega)) (by rfl) (pa_cons (pv 0) (pa_cons (pv 1) (pa_cons (pv 6) pa_nil)))) (pa_cons (pe_F F_l_small (hr.mono (by omega)) (by rfl) (pa_cons (pv 0) (pa_cons (pv 1) (pa_cons (pe_ix ix_list (pe_lstC (pa_cons (pv 6) (pa_cons (pe_dnC pe_dnewK) pa_nil))) (pe_callTy call_int1 (by rfl) T.n_int (by decide +kernel) (pa_cons (pe_cmpR op_lt (pv 4) pe_int (nomark _)) pa_nil)) (fun _ _ => rfl)) pa_nil)))) pa_nil)) (by rfl))
      (pss_cons (ps_if (pt_cmpR op_eq (pv 4) pe_int (nomark _)) (pss_one (ps_set (i := 7) sc_l_helpers.nd rfl (Or.inl rfl) (pe_op op_catL (pv 7) (pe_F F_l_small (hr.mono (by omega)) (by rfl) (pa_cons (pv 0) (pa_cons (pv 1) (pa_cons (pv 6) pa_nil)))))))
       pss_nil)
      (pss_cons (ps_setLc (i := 9) (own := [("_law_two", 16)]) rfl sc_l_helpers.nd rfl rfl (sw_true rfl rfl rfl (by decide +kernel)) (pi_list (pe_op op_catL (pv 7) (pv 8))) (blkOk_by (own := [("_law_two", 16)]) (N := N_l_helpers) (sc := defScope s_l_helpers) (by decide +kernel)) (fun _ _ _ _ _ => (pg_name (i := 16) sc_l_helpers.nd rfl (Or.inl rfl))) (fun _ _ _ _ _ => (pts_one (pt_cmpR (op_in_seqB (K := K) rfl) (pe_ix (ix_tupB (K := K) rfl) (pv 16) pe_int (fun _ _ => rfl)) (pe_tupC (pa_cons pe_str (pa_cons pe_str pa_nil))) (by rfl)))) (fun _ _ _ _ _ => (pe_ix (ix_tupB (K := K) rfl) (pv 16) pe_int (fun _ _ => rfl))))
      (pss_cons (ps_par3 (i := 10) (j := 11) (l := 12) rfl sc_l_helpers.nd rfl rfl rfl (by decide) (by decide) (by decide) rfl rfl rfl (pa_cons (pe_op op_catL (pv 7) (pv 8)) (pa_cons pe_int (pa_cons pe_bl pa_nil))) (by rfl))
      (pss_cons (ps_if (pt_cmpR op_eq (pv 4) pe_int (nomark _)) (pss_cons (ps_set (i := 13) sc_l_helpers.nd rfl (Or.inl rfl) (pe_F F_l_term (hr.mono (by omega)) (by rfl) (pa_cons (pv 0) (pa_cons (pe_dget hu (pv 1) pe_str (fun _ _ => rfl)) (pa_cons pe_int pa_nil)))))
        (pss_one (ps_par (i := 10) (j := 11) rfl sc_l_helpers.nd rfl rfl (by decide) rfl rfl (pa_cons (pe_lstC (pa_cons (pe_tupC (pa_cons pe_str (pa_cons (pv 13) (pa_cons (pe_callTy call_tupC (by rfl) T.n_tuple (by decide +kernel) (pa_cons (pv 7) pa_nil)) (pa_cons (pe_callTy call_tupC (by rfl) T.n_tuple (by decide +kernel) (pa_cons (pv 8) pa_nil)) pa_nil))))) pa_nil)) (pa_cons pe_int pa_nil)) (by rfl))))
       pss_nil)
      (pss_cons (ps_if (pt_cmpR op_eq (pv 4) pe_int (nomark _)) (pss_one (ps_par (i := 10) (j := 11) rfl sc_l_helpers.nd rfl rfl (by decide) rfl rfl (pa_cons (pe_lstC (pa_cons (pe_tupC (pa_cons pe_str (pa_cons pe_int (pa_cons (pe_callTy call_tupC (by rfl) T.n_tuple (by decide +kernel) (pa_cons (pe_op op_catL (pv 7) (pv 8)) pa_nil)) pa_nil)))) pa_nil)) (pa_cons pe_int pa_nil)) (by rfl)))
       pss_nil)
      (pss_cons (ps_if (pt_cmpR op_eq (pv 4) pe_int (nomark _)) (pss_cons (ps_set (i := 14) sc_l_helpers.nd rfl (Or.inl rfl) (pe_tupC (pa_cons pe_str (pa_cons (pv 5) (pa_cons (pe_tupC (pa_cons pe_str (pa_cons pe_str (pa_cons (pe_tupC (pa_cons pe_str (pa_cons (pv 5) pa_nil))) (pa_cons (pe_tupC (pa_cons pe_str (pa_cons pe_int pa_nil))) pa_nil))))) pa_nil)))))
        (pss_cons (ps_set (i := 10) sc_l_helpers.nd rfl (Or.inl rfl) (pe_op op_catL (pv 7) (pe_lstC (pa_cons (pe_tupC (pa_cons pe_str (pa_cons (pv 5) (pa_cons (pe_tupC (pa_cons pe_str (pa_cons (pe_op op_add pe_int (pe_F F_l_draw (hr.mono (by omega)) (by rfl) (pa_cons (pv 0) (pa_cons pe_int pa_nil)))) pa_nil))) pa_nil)))) pa_nil))))
        (pss_cons (ps_expr (pe_bm PySem.F.plainAttrs_list PySem.F.slot_list_append PySem.F.type_list_append mt_append (pv 10) (pa_cons (pe_tupC (pa_cons pe_str (pa_cons (pe_tupC (pa_cons pe_str (pa_cons (pv 5) pa_nil))) (pa_cons (pe_callTy call_tupC (by rfl) T.n_tuple (by decide +kernel) (pa_cons (pe_op op_catL (pv 8) (pe_lstC (pa_cons (pv 14) pa_nil))) pa_nil)) pa_nil)))) pa_nil)))
        (pss_one (ps_asg (pe_tupC (pa_cons pe_int (pa_cons pe_bl pa_nil))) (pg_tup rfl (pgs_cons (pg_name (i := 11) sc_l_helpers.nd rfl (Or.inl rfl)) (pgs_cons (pg_name (i := 12) sc_l_helpers.nd rfl (Or.inl rfl)) pgs_nil))))))))
       pss_nil)
      (pss_cons (ps_if (PW.pt (pw_and (pt_cmpR op_gt (pe_callB call_len_seq (by rfl) T.n_len PySem.boot_len (pa_cons (pe_dget hu (pv 1) pe_str (fun _ _ => rfl)) pa_nil)) pe_int (nomark _)) (pw_and1 (pt_cmpR op_eq (pe_F F_l_draw (hr.mono (by omega)) (by rfl) (pa_cons (pv 0) (pa_cons pe_int pa_nil))) pe_int (nomark _))))) (pss_cons (ps_set (i := 15) sc_l_helpers.nd rfl (Or.inl rfl) (pe_ix ix_tup (pe_ix ix_list (pe_dget hu (pv 1) pe_str (fun _ _ => rfl)) (pe_F F_l_draw (hr.mono (by omega)) (by rfl) (pa_cons (pv 0) (pa_cons (pe_callB call_len_seq (by rfl) T.n_len PySem.boot_len (pa_cons (pe_dget hu (pv 1) pe_str (fun _ _ => rfl)) pa_nil)) pa_nil))) (fun _ _ => rfl)) pe_int (fun _ _ => rfl)))
        (pss_cons (ps_if (PW.pt (pw_and (pt_cmpR op_eq (pv 4) pe_int (nomark _)) (pw_and1 (pt_cmpR op_eq (pe_F F_l_draw (hr.mono (by omega)) (by rfl) (pa_cons (pv 0) (pa_cons pe_int pa_nil))) pe_int (nomark _))))) (pss_one (ps_set (i := 10) sc_l_helpers.nd rfl (Or.inl rfl) (pe_lstC (pa_cons (pe_op op_catC (pe_op op_catC (pe_slice sl_tupC (pe_ix ix_list (pv 10) pe_int (fun _ _ => rfl)) po_none (po_some pe_int)) (pe_tupC (pa_cons (pe_op op_catC (pe_ix ix_tup (pe_ix ix_list (pv 10) pe_int (fun _ _ => rfl)) pe_int (fun _ _ => rfl)) (pe_tupC (pa_cons (pe_tupC (pa_cons pe_str (pa_cons (pv 15) pa_nil))) pa_nil))) pa_nil))) (pe_slice sl_tupC (pe_ix ix_list (pv 10) pe_int (fun _ _ => rfl)) (po_some pe_int) po_none)) pa_nil))))
         (pss_one (ps_expr (pe_bm PySem.F.plainAttrs_list PySem.F.slot_list_insert PySem.F.type_list_insert mt_insert (pv 10) (pa_cons (pe_ix ix_list (pe_lstC (pa_cons pe_int (pa_cons (pe_callB call_len_seq (by rfl) T.n_len PySem.boot_len (pa_cons (pv 10) pa_nil)) pa_nil))) (pe_F F_l_draw (hr.mono (by omega)) (by rfl) (pa_cons (pv 0) (pa_cons pe_int pa_nil))) (fun _ _ => rfl)) (pa_cons (pe_tupC (pa_cons pe_str (pa_cons (pv 15) pa_nil))) pa_nil))))))
        (pss_cons (ps_set (i := 9) sc_l_helpers.nd rfl (Or.inl rfl) (pe_op op_catL (pv 9) (pe_ix ix_tup (pe_dget hu (pe_dget hu (pv 1) pe_str (fun _ _ => rfl)) (pv 15) (fun _ _ => rfl)) pe_int (fun _ _ => rfl))))
        (pss_cons (ps_set (i := 11) sc_l_helpers.nd rfl (Or.inl rfl) (pe_op op_add (pv 11) (pe_ix ix_tup (pe_dget hu (pe_dget hu (pv 1) pe_str (fun _ _ => rfl)) (pv 15) (fun _ _ => rfl)) pe_int (fun _ _ => rfl))))
        (pss_one (ps_set (i := 12) sc_l_helpers.nd rfl (Or.inl rfl) (pe_or (pv 12) (pe_one (pe_ix ix_tup (pe_dget hu (pe_dget hu (pv 1) pe_str (fun _ _ => rfl)) (pv 15) (fun _ _ => rfl)) pe_int (fun _ _ => rfl))))))))))
       pss_nil)
      (pss_cons (ps_expr (pe_bm PySem.F.plainAttrs_list PySem.F.slot_list_append PySem.F.type_list_append mt_append (pe_dget hu (pv 1) pe_str (fun _ _ => rfl)) (pa_cons (pe_tupC (pa_cons (pv 3) (pa_cons (pe_callTy call_tupC (by rfl) T.n_tuple (by decide +kernel) (pa_cons (pv 10) pa_nil)) pa_nil))) pa_nil)))
      (pss_one (ps_dput hu (pe_dget hu (pv 1) pe_str (fun _ _ => rfl)) (pv 3) (pe_tupC (pa_cons (pv 9) (pa_cons (pv 11) (pa_cons (pv 12) pa_nil)))) rfl)))))))))))))), ?_⟩
    -- the words
    refine ⟨_, rfl, _, rfl, f, fl, 4, rfl, g.fl, by decide, by decide, fun d4 H1 fl1 d0 d1 h1 x1 => ?_⟩
    obtain ⟨dn, rfl⟩ : ∃ n : Nat, d4 = (n : Int) := ⟨d4.toNat, by omega⟩
    have g1 := g.flow x1 h1
    refine ⟨_, rfl, wd, _, rfl, x1.keep _ _ (fun z => hwf (List.mem_singleton.mp z)) ewd, fun lw H2 n2 x2 e2 => ⟨lw, rfl, ⟨_, SqL.of e2⟩, ?_⟩⟩
    rw [cut_map, cutL_to] at e2
    have g2 := g1.ext x2
    have alw := g1.apw n2
    have bH : W.aH ∈ W.addrs := .tail _ (.tail _ (.tail _ (.head _)))
    have bA : W.aA ∈ W.addrs := .tail _ (.tail _ (.tail _ (.tail _ (.head _))))
    have nlw : lw ∉ [f, w, W.aH, W.aA] := fun z => by
      simp only [List.mem_cons, List.not_mem_nil, or_false] at z
      rcases z with z | z | z | z
      · exact alw.n2 (by rw [z]; exact .head _)
      · exact alw.n2 (by rw [z]; exact .tail _ (.head _))
      · exact alw.nw _ bH z.symm
      · exact alw.nw _ bA z.symm
    have x02 : Fr [f, w, W.aH, W.aA] H H2 := (x1.mono fun a h => by rw [List.mem_singleton.mp h]; exact .head _).trans (x2.mono fun _ h => nomatch h)
    have wW : W.with [] = W := by
      show { W with hs := [] } = W
      rw [← whs]
    have st0 : HpSt f w W words 0 H2 fl1 l v [] := ⟨by rw [wW]; exact g2, rfl, ⟨[], x2.keep _ _ (fun z => nomatch z) (x1.keep _ _ (fun z => (g.sep _ bA).1 (List.mem_singleton.mp z)) eA0), Nat.le_refl _⟩, fun _ h => absurd h List.not_mem_nil⟩
    clear g1 x1 h1 x2 n2 g2
    refine for_list (xs := (words.take dn).map V.str) (fun i σ' H' => ∃ y3 y4 y5 y6 y7 y8 y9 y10 y11 y12 y13 y14 y15 y16, σ' = [some (V.ref f), some (V.ref w), some (V.ref wd), y3, y4, y5, y6, y7, y8, y9, y10, y11, y12, y13, y14, y15, y16] ∧
      ∃ fl l v hs, HpSt f w W words i H' fl l v hs ∧ Fr [f, w, W.aH, W.aA] H H' ∧ H' lw = some (.lst ((words.take dn).map V.str))) ?_ (fun i σ' H' hi hP => ?_) (fun i x σ' H' hx hP => ?_) (fun σ' H' hP => ?_)
    · exact ⟨_, _, _, _, _, _, _, _, _, _, _, _, _, _, rfl, fl1, l, v, [], st0, x02, e2⟩
    · obtain ⟨_, _, _, _, _, _, _, _, _, _, _, _, _, _, _, _, _, _, _, _, _, e⟩ := hP
      exact SqL.of e
    · obtain ⟨y3, y4, y5, y6, y7, y8, y9, y10, y11, y12, y13, y14, y15, y16, rfl, fl, l, v, hs, st, xt, elw⟩ := hP
      rw [List.getElem?_map] at hx
      obtain ⟨wd1, ewd1, rfl⟩ := Option.map_eq_some_iff.mp hx
      have hil : i < (words.take dn).length := (List.getElem?_eq_some_iff.mp ewd1).1
      have hil2 : i < 3 := by rw [List.length_take] at hil; omega
      have hln : hs.length ≤ 3 := by
        have e := congrArg List.length st.nm
        rw [List.length_map, List.length_take] at e
        omega
      have wo' : WOk (W.with hs) := ⟨wo.c1, wo.c2, wo.k, wo.g1, wo.g2, wo.nd, wo.a0, wo.a1, hln⟩
      obtain ⟨c, ec, hc, hcP, hcU⟩ := ctr_at wo' (show 2 < 3 by decide)
      have eci : atI ((W.with hs).counters.map V.str) 2 = some (.str c) := atI_nat (j := 2) (by rw [List.getElem?_map, ec]; rfl)
      have nnil : ∀ {a : Addr}, a ∉ ([] : List Addr) := fun z => nomatch z
      have bH' : W.aH ∈ (W.with hs).addrs := .tail _ (.tail _ (.tail _ (.head _)))
      have bA' : W.aA ∈ (W.with hs).addrs := .tail _ (.tail _ (.tail _ (.tail _ (.head _))))
      -- form, counter, dict
      refine ⟨_, rfl, f, fl, 4, rfl, st.g.fl, by decide, by decide, fun form Ha fla f0 f1 ha xa => ⟨_, rfl, w, _, rfl, (st.g.flow xa ha).wv.gK, W.aK, _, 2, .str c, rfl, rfl, SqL.of (st.g.flow xa ha).ws.counters, eci, fun nd Hb nb xb eb => ⟨_, _, _, rfl, ?_⟩⟩⟩
      have ga := st.g.flow xa ha
      have gb := ga.ext xb
      have and := ga.apw nb
      have bnd : H' nd = none := xa.back _ nb
      have xtb : Fr [f, w] H' Hb := (xa.mono fun a h => by rw [List.mem_singleton.mp h]; exact .head _).trans (xb.mono fun _ h => nomatch h)
      -- two small rows
      dsimp only [tNext]
      refine par_cut (fun xs Hz => ∃ (p1 p2 : Addr) (flz : Fl) (lz vz : Int) (vs1 : List V) (b1 : List Sm) (vs2 : List V) (b2 : List Sm) (frn : List (Key × V)), xs = [.ref p1, .ref p2] ∧ Gw Hz f w flz (W.with hs) lz vz ∧ Hz nd = some (.dK frn) ∧ FrOk (W.with hs) frn ∧ Fr [f, w] H' Hz ∧
        KwL f w (W.with hs) Hz p1 (· ∈ W.counters) 1 0 0 1 1 vs1 b1 ∧ p1 ≠ nd ∧ KwL f w (W.with hs) Hz p2 (· ∈ W.counters) 1 0 0 1 1 vs2 b2 ∧ p2 ≠ nd) (fun Q' hQ => ?_) (fun xs Hz hP => ?_)
      · refine ⟨_, rfl, _, rfl, _, rfl, f, w, nd, fla, W.with hs, l, v, [], rfl, gb.dict eb (FrOk.nil _) and, wo', fun p1 u1 s1 Hc flc vc frc gc xc np1 ep1 rs1 wf1 => ?_⟩
        have bp1 : H' p1 = none := xtb.back _ np1
        have xtc : Fr [f, w] H' Hc := xtb.step xc fun a h => by
          simp only [List.mem_cons, List.not_mem_nil, or_false] at h ⊢
          rcases h with h | h | h
          · exact .inl (.inl h)
          · exact .inl (.inr h)
          · exact .inr (by rw [h]; exact bnd)
        have n1d : p1 ≠ nd := (ne_of_none eb np1).symm
        have ap1 := gb.apw np1
        have k1 : KwL f w (W.with hs) Hc p1 (· ∈ W.counters) 1 0 0 1 1 [u1] [s1] := ⟨ep1, ap1.n2, Nat.le_refl _, .cons rs1 .nil, Bo.small wo' wf1 fun _ z => z, fun z => by cases z⟩
        refine ⟨_, rfl, _, rfl, _, rfl, fun nd2 Hd n2' xd ed => ⟨sz2, fun ln He ne xe ee => ⟨_, rfl, _, _, rfl, rfl, .inr ⟨_, rfl, ?_⟩⟩⟩⟩
        have xce : Fr [] Hc He := xd.trans xe
        have bnd2 : H' nd2 = none := xtc.back _ n2'
        have gce := gc.ext xce
        have ap2 := gc.gw.apw n2'
        have n12 : p1 ≠ nd2 := ne_of_none ep1 n2'
        have ndd : nd ≠ nd2 := ne_of_none gc.fa n2'
        have ed2 : He nd2 = some (.dK []) := xe.keep _ _ nnil ed
        have k1e := k1.ext xce
        have xte : Fr [f, w] H' He := xtc.trans (xce.mono fun _ h => nomatch h)
        have sm : ∀ (nx : Addr) (frx : List (Key × V)), H' nx = none → Gx He f w nx flc (W.with hs) (l - 1) vc frx → (nx = nd ∨ (nx ≠ nd ∧ He nd = some (.dK frc))) → p1 ≠ nx → (∃ o, He nx = some o) → tCall spSmall [] E0 (fun σ H Q => Q [.ref f, .ref w, .ref nx] H) [] He fun v H4 => Q' [.ref p1, v] H4 := by
          intro nx frx bnx gx hnx n1x hox
          refine ⟨f, w, nx, flc, W.with hs, l - 1, vc, frx, rfl, gx, wo', fun p2 u2 s2 Hf flf vf frf gf xf np2 ep2 rs2 wf2 => ?_⟩
          have ap := gx.gw.apw np2
          have n3 : p1 ∉ [f, w, nx] := fun z => by
            have := k1.np
            simp only [List.mem_cons, List.not_mem_nil, or_false, not_or] at z this
            rcases z with z | z | z
            · exact this.1 z
            · exact this.2 z
            · exact n1x z
          have xtf : Fr [f, w] H' Hf := xte.step xf fun a h => by
            simp only [List.mem_cons, List.not_mem_nil, or_false] at h ⊢
            rcases h with h | h | h
            · exact .inl (.inl h)
            · exact .inl (.inr h)
            · exact .inr (by rw [h]; exact bnx)
          have kk : ∃ frn, Hf nd = some (.dK frn) ∧ FrOk (W.with hs) frn := by
            rcases hnx with e | ⟨e, e2⟩
            · rw [← e]; exact ⟨frf, gf.fa, gf.fo⟩
            · refine ⟨frc, xf.keep _ _ (fun z => ?_) e2, gc.fo⟩
              have := and.n2
              simp only [List.mem_cons, List.not_mem_nil, or_false, not_or] at z this
              rcases z with z | z | z
              · exact this.1 z
              · exact this.2 z
              · exact e z.symm
          obtain ⟨frn, e1, e2⟩ := kk
          refine hQ _ _ ⟨p1, p2, flf, _, vf, _, _, [u2], [s2], frn, rfl, gf.gw, e1, e2, xtf, k1e.fr xf n3, n1d, ⟨ep2, ap.n2, Nat.le_refl _, .cons rs2 .nil, Bo.small wo' wf2 fun _ z => z, fun z => by cases z⟩, ?_⟩
          exact (ne_of_none (xce.keep _ _ nnil gc.fa) np2).symm
        by_cases cf : form < 2
        · rw [decide_eq_true cf]
          refine ⟨ln, _, _, .ref nd2, rfl, rfl, SqL.of ee, rfl, ?_⟩
          exact sm nd2 [] bnd2 (gce.gw.dict ed2 (FrOk.nil _) ap2) (.inr ⟨Ne.symm ndd, xce.keep _ _ nnil gc.fa⟩) n12 ⟨_, ed2⟩
        · rw [decide_eq_false cf]
          refine ⟨ln, _, _, .ref nd, rfl, rfl, SqL.of ee, rfl, ?_⟩
          exact sm nd frc bnd gce (.inl rfl) n1d ⟨_, gce.fa⟩
      · obtain ⟨p1, p2, flz, lz, vz, vs1, b1, vs2, b2, frn, rfl, gz, end_, fon, xz, k1, n1d, k2, n2d⟩ := hP
        refine ⟨_, _, rfl, ?_⟩
        clear ga gb xa ha xb eb xtb nb
        -- one row more
        dsimp only [tNext]
        refine seq_cut (fun σ' Hy => ∃ p1 m1 fly ly vy vs1 b1 vs2 b2, σ' = [some (V.ref f), some (V.ref w), some (V.ref wd), some (V.str wd1), some (V.int form), some (V.str c), some (V.ref nd), some (V.ref p1), some (V.ref p2), y9, y10, y11, y12, y13, y14, y15, y16] ∧
          Gw Hy f w fly (W.with hs) ly vy ∧ Fr [f, w] H' Hy ∧ KwL f w (W.with hs) Hy p1 (· ∈ W.counters) m1 0 0 m1 m1 vs1 b1 ∧ KwL f w (W.with hs) Hy p2 (· ∈ W.counters) 1 0 0 1 1 vs2 b2 ∧ m1 ≤ 2 ∧ (form ≠ 0 → m1 = 1)) (fun D' hQ _ _ _ => ?_) (fun σ' Hy hP => ?_)
        · refine ⟨_, rfl, rfl, _, rfl, ite2 (fun e => ?_) (fun _ => hQ _ _ ⟨p1, 1, flz, lz, vz, vs1, b1, vs2, b2, rfl, gz, xz, k1, k2, by decide, fun _ => rfl⟩)⟩
          have e : form = 0 := by have := of_decide_eq_true e; injection this
          refine ⟨_, rfl, _, rfl, _, rfl, _, rfl, f, w, nd, flz, W.with hs, lz, vz, frn, rfl, gz.dict end_ fon and, wo', fun p3 u3 s3 Ha fla va fra ga xa np ep rs wf => ?_⟩
          have n3 : ∀ {p : Addr}, p ∉ [f, w] → p ≠ nd → p ∉ [f, w, nd] := fun h1 h2 z => by
            simp only [List.mem_cons, List.not_mem_nil, or_false, not_or] at z h1
            rcases z with z | z | z
            · exact h1.1 z
            · exact h1.2 z
            · exact h2 z
          have k1a := k1.fr xa (n3 k1.np n1d)
          have k2a := k2.fr xa (n3 k2.np n2d)
          have k3 : KwL f w (W.with hs) Ha p3 (· ∈ W.counters) 1 0 0 1 1 [u3] [s3] := ⟨ep, (gz.apw np).n2, Nat.le_refl _, .cons rs .nil, Bo.small wo' wf fun _ z => z, fun z => by cases z⟩
          have xza : Fr [f, w] H' Ha := xz.step xa fun a h => by
            simp only [List.mem_cons, List.not_mem_nil, or_false] at h ⊢
            rcases h with h | h | h
            · exact .inl (.inl h)
            · exact .inl (.inr h)
            · exact .inr (by rw [h]; exact bnd)
          refine ⟨p1, p3, _, _, rfl, rfl, k1a.e, ep, small40 (by have := k1a.ln; show vs1.length + 1 ≤ 1000; omega), fun p4 Hb nb xb eb => ?_⟩
          exact hQ _ _ ⟨p4, 2, fla, _, va, _, _, vs2, b2, rfl, ga.gw.ext xb, xza.trans (xb.mono fun _ z => nomatch z), k1a.cat k3 xb (ga.gw.apw nb).n2 eb, k2a.ext xb, Nat.le_refl 2, fun z => absurd e z⟩
        · obtain ⟨p1, m1, fly, ly, vy, vs1, b1, vs2, b2, rfl, gy, xy, k1, k2, hm1, hm2⟩ := hP
          clear gz xz end_ fon
          -- what they set or read
          refine ⟨_, rfl, _, rfl, p1, p2, _, _, rfl, rfl, k1.e, k2.e, small40 (by have := k1.ln; have := k2.ln; omega), fun pc Ha na xa ea => ⟨pc, rfl, ⟨_, SqL.of ea⟩, ?_⟩⟩
          have l12 : (vs1 ++ vs2).length ≤ 3 := by rw [List.length_append]; have := k1.ln; have := k2.ln; omega
          refine gone_lc (j := 16) ?_ ea (RL.mono xa.tu (pd_app k1.rl k2.rl)) (by omega) fun pg Hb gs nb xb eb hgl => ?_
          · exact (by decide : 16 < 17)
          -- the body, the rows, no rounds
          refine ⟨_, rfl, _, rfl, p1, p2, _, _, rfl, rfl, (k1.ext (xa.trans xb)).e, (k2.ext (xa.trans xb)).e, small40 (by have := k1.ln; have := k2.ln; omega), fun pb Hc nc xc ec => ⟨_, _, _, rfl, ?_⟩⟩
          have x3 : Fr [] Hy Hc := (xa.trans xb).trans xc
          have gc := gy.ext x3
          have k1c := k1.ext x3
          have k2c := k2.ext x3
          have kb := (k1.ext (xa.trans xb)).cat (k2.ext (xa.trans xb)) xc ((gy.ext (xa.trans xb)).apw nc).n2 ec
          have xtc : Fr [f, w] H' Hc := xy.trans (x3.mono fun _ z => nomatch z)
          have egc := xc.keep _ _ nnil eb
          have bpg : H' pg = none := (xy.trans (xa.mono fun _ z => nomatch z)).back _ nb
          have bpb : H' pb = none := ((xy.trans (xa.mono fun _ z => nomatch z)).trans (xb.mono fun _ z => nomatch z)).back _ nc
          have ngb : pg ≠ pb := ne_of_none eb nc
          have gs3 : gs.length ≤ 3 := by omega
          clear gy xy xa xb ea na nb nc ec eb hgl l12
          clear x3
          -- by the form
          dsimp only [tNext]
          refine seq_cut (fun σ' Hz => ∃ (pb : Addr) (r : Int) (ro : Bool) (y13 y14 y15 y16 : Option V), σ' = [some (V.ref f), some (V.ref w), some (V.ref wd), some (V.str wd1), some (V.int form), some (V.str c), some (V.ref nd), some (V.ref p1), some (V.ref p2), some (V.ref pg), some (V.ref pb), some (V.int r), some (V.bl ro), y13, y14, y15, y16] ∧
            HTn f w (W.with hs) H' form p1 p2 pg pb r m1 Hz) (fun D' hQ _ _ _ => ?_) (fun σ' Hz hP => ?_)
          · refine ⟨_, rfl, rfl, _, rfl, ite2 (fun e => ?_) (fun e => ?_)⟩
            · have e : form = 0 := by have := of_decide_eq_true e; injection this
              refine ⟨_, rfl, _, rfl, w, _, rfl, gc.wv.gC, f, W.aC, fly, W.cells, 3, rfl, gc.fl, gc.ws.cells, (gc.sep _ (.head _)).1, wo.c1, by have := wo.c2; omega, by decide, by decide, by decide, fun vt Hd fld tm xd hd rt tok tp => ?_⟩
              have gd := gc.flow xd hd
              have k1d := k1c.flow xd
              have k2d := k2c.flow xd
              refine ⟨_, rfl, _, rfl, p1, _, rfl, k1d.e, fun t1 He ne xe ee => ⟨_, rfl, p2, _, rfl, (k2d.ext xe).e, fun t2 Hf nf xf ef => ⟨sz4, fun pt Hg ng xg eg => ⟨sz1, fun pb' Hh nh xh eh => ⟨_, _, rfl, ?_⟩⟩⟩⟩⟩
              have xdh : Fr [] Hd Hh := ((xe.trans xf).trans xg).trans xh
              have xch : Fr [f] Hc Hh := xd.trans (xdh.mono fun _ z => nomatch z)
              have b1o : Bo (W.with hs) (Pc W 2) 0 2 2 b1 := k1.bo.mono (fun _ z => z.sub) (Nat.le_refl _) hm1 hm1
              have b2o : Bo (W.with hs) (Pc W 2) 0 1 1 b2 := k2.bo.mono (fun _ z => z.sub) (Nat.le_refl _) (Nat.le_refl _) (Nat.le_refl _)
              have tok' : tm.Ok (Cn (W.with hs)) := tok.imp fun _ z => .inl z
              refine hQ _ _ ⟨pb', 4, false, _, _, _, _, rfl, fld, ly, vy, vs1, b1, vs2, b2, [.ref pt], [.ite tm b1 b2], gs, gd.ext xdh, xtc.trans (xch.mono fun a h => by rw [List.mem_singleton.mp h]; exact .head _), k1c.fr xch (fun z => k1.np (by rw [List.mem_singleton.mp z]; exact .head _)), k2c.fr xch (fun z => k2.np (by rw [List.mem_singleton.mp z]; exact .head _)), xch.keep _ _ (fun z => ?_) egc, bpg, gs3, ?_, ?_, ⟨eh, ((gd.ext ((xe.trans xf).trans xg)).apw nh).n2, (by decide : 1 ≤ 3), ?_, ?_, fun z => by cases z⟩, ⟨by decide, by decide⟩, fun _ => ⟨rfl, tm, b1, b2, rfl, tok', by omega, b1o, b2o, by have := k1.rl.length; have := k1.ln; omega⟩⟩
              · have q2 := st.g.fl.at_
                rw [List.mem_singleton.mp z] at bpg
                rw [bpg] at q2
                cases q2
              · exact (xtc.trans ((xd.trans (((xe.trans xf).trans xg).mono fun _ z => nomatch z)).mono fun a h => by rw [List.mem_singleton.mp h]; exact .head _)).back _ nh
              · refine ne_of_none ((xd.trans (((xe.trans xf).trans xg).mono fun _ z => nomatch z)).keep _ _ (fun z => ?_) egc) nh
                have q2 := st.g.fl.at_
                rw [List.mem_singleton.mp z] at bpg
                rw [bpg] at q2
                cases q2
              · exact .cons ⟨pt, vt, t1, t2, vs1, vs2, rfl, xh.tups _ _ eg, rt.mono xdh.tu, ((xf.trans xg).trans xh).tups _ _ ee, k1d.rl.mono xdh.tu, (xg.trans xh).tups _ _ ef, k2d.rl.mono xdh.tu⟩ .nil
              · exact (Bo.ite tok' (by omega) (by decide) b1o b2o).mono (fun _ z => z) (by decide) (by decide) (by decide)
            · have e : form ≠ 0 := fun z => e (by rw [z]; rfl)
              have hm := hm2 e
              subst hm
              exact hQ _ _ ⟨pb, 2, false, _, _, _, _, rfl, fly, ly, vy, vs1, b1, vs2, b2, _, _, gs, gc, xtc, k1c, k2c, egc, bpg, gs3, bpb, ngb, kb.le (fun _ z => z.sub) (by decide) (by decide) (by decide) (by decide) (by decide), ⟨by decide, by decide⟩, fun z => absurd z e⟩
          · obtain ⟨pb, r, ro, y13, y14, y15, y16, rfl, ht⟩ := hP
            clear gc k1c k2c kb xtc egc k1 k2 bpg gs3 bpb ngb
            have nfp : ∀ {p : Addr}, H' p = none → p ≠ f := fun h z => by
              have q2 := st.g.fl.at_
              rw [← z, h] at q2
              cases q2
            -- times
            refine seq_cut (fun σ' Hz => ∃ (pb : Addr) (r : Int) (ro : Bool) (y13 y14 y15 y16 : Option V), σ' = [some (V.ref f), some (V.ref w), some (V.ref wd), some (V.str wd1), some (V.int form), some (V.str c), some (V.ref nd), some (V.ref p1), some (V.ref p2), some (V.ref pg), some (V.ref pb), some (V.int r), some (V.bl ro), y13, y14, y15, y16] ∧
              HTn f w (W.with hs) H' form p1 p2 pg pb r m1 Hz) (fun D' hQ _ _ _ => ?_) (fun σ' Hz hP => ?_)
            · refine ⟨_, rfl, rfl, _, rfl, ite2 (fun e => ?_) (fun e => hQ _ _ ⟨pb, r, ro, _, _, _, _, rfl, ht⟩)⟩
              have e : form = 2 := by have := of_decide_eq_true e; injection this
              have hm := hm2 (by rw [e]; decide)
              obtain ⟨fl3, l3, v3, vs1, b1, vs2, b2, vs, bb, gs, gc, xtc, k1c, k2c, egc, bpg, gs3, _, _, _, _, _⟩ := ht
              refine ⟨_, rfl, _, rfl, p1, p2, _, _, rfl, rfl, k1c.e, k2c.e, small40 (by have := k1c.ln; have := k2c.ln; omega), fun pc Ha na xa ea => ⟨pc, _, rfl, ea, fun t1 Hb nb xb eb => ⟨sz3, fun pt Hc nc xc ec => ⟨sz1, fun pb' Hd nd' xd ed => ⟨_, _, rfl, ?_⟩⟩⟩⟩⟩
              have xzd : Fr [] Hz Hd := ((xa.trans xb).trans xc).trans xd
              have kc := k1c.cat k2c xa (gc.apw na).n2 ea
              refine hQ _ _ ⟨pb', 4, ro, _, _, _, _, rfl, fl3, l3, v3, vs1, b1, vs2, b2, [.ref pt], [.times 2 (b1 ++ b2)], gs, gc.ext xzd, xtc.trans (xzd.mono fun _ z => nomatch z), k1c.ext xzd, k2c.ext xzd, xzd.keep _ _ nnil egc, bpg, gs3, (xtc.trans (((xa.trans xb).trans xc).mono fun _ z => nomatch z)).back _ nd', ne_of_none (((xa.trans xb).trans xc).keep _ _ nnil egc) nd', ⟨ed, ((gc.ext ((xa.trans xb).trans xc)).apw nd').n2, (by decide : 1 ≤ 3), ?_, ?_, fun z => by cases z⟩, ⟨by decide, by decide⟩, fun z => absurd (z.symm.trans e) (by decide)⟩
              · exact .cons ⟨pt, t1, _, rfl, xd.tups _ _ ec, xd.tups _ _ (xc.tups _ _ eb), kc.rl.mono ((xb.trans xc).trans xd).tu⟩ .nil
              · exact (Bo.times (k := 2) (n := 0) (sz := 2) (d := 2) (by decide) (by decide) kc.ne (by decide) (kc.bo.mono (fun _ z => z.sub) (Nat.le_refl _) (by omega) (by omega))).mono (fun _ z => z) (by decide) (by decide) (by decide)
            · obtain ⟨pb, r, ro, y13, y14, y15, y16, rfl, ht⟩ := hP
              -- a round
              refine seq_cut (fun σ' Hz => ∃ (pb : Addr) (r : Int) (ro : Bool) (y13 y14 y15 y16 : Option V), σ' = [some (V.ref f), some (V.ref w), some (V.ref wd), some (V.str wd1), some (V.int form), some (V.str c), some (V.ref nd), some (V.ref p1), some (V.ref p2), some (V.ref pg), some (V.ref pb), some (V.int r), some (V.bl ro), y13, y14, y15, y16] ∧
                HTn f w (W.with hs) H' form p1 p2 pg pb r m1 Hz) (fun D' hQ _ _ _ => ?_) (fun σ' Hz hP => ?_)
              · refine ⟨_, rfl, rfl, _, rfl, ite2 (fun e => ?_) (fun e => hQ _ _ ⟨pb, r, ro, _, _, _, _, rfl, ht⟩)⟩
                have e : form = 1 := by have := of_decide_eq_true e; injection this
                have hm := hm2 (by rw [e]; decide)
                subst hm
                obtain ⟨fl3, l3, v3, vs1, b1, vs2, b2, vs, bb, gs, gc, xtc, k1c, k2c, egc, bpg, gs3, _, _, _, _, _⟩ := ht
                refine ⟨_, rfl, _, rfl, sz2, fun q1 Ha na xa ea => ⟨sz2, fun q2 Hb nb xb eb => ⟨sz4, fun q3 Hc nc xc ec' => ⟨sz3, fun q4 Hd nd' xd ed => ?_⟩⟩⟩⟩
                have xzd : Fr [] Hz Hd := ((xa.trans xb).trans xc).trans xd
                have rl : RS Hd 0 (.ref q4) (sLess c) := ⟨q4, _, rfl, ed, ⟨q3, _, _, rfl, xd.tups _ _ ec', ⟨q1, rfl, xd.tups _ _ (xc.tups _ _ (xb.tups _ _ ea))⟩, ⟨q2, rfl, xd.tups _ _ (xc.tups _ _ eb)⟩⟩⟩
                refine ⟨_, rfl, _, rfl, _, rfl, f, fl3, 2, rfl, (gc.ext xzd).fl, by decide, by decide, fun tn He fle t0 t1 he xe => ⟨_, _, rfl, rfl, sz2, fun n1 Hf nf xf ef => ⟨sz3, fun n2 Hg ng xg eg => ⟨sz1, fun n3 Hh nh xh eh => ?_⟩⟩⟩⟩
                have ge := (gc.ext xzd).flow xe he
                have xeh : Fr [] He Hh := (xf.trans xg).trans xh
                have gh := ge.ext xeh
                have k1h := ((k1c.ext xzd).flow xe).ext xeh
                have k2h := ((k2c.ext xzd).flow xe).ext xeh
                have rs2 : RS Hh 0 (.ref n2) (.set c (.num (1 + tn))) := ⟨n2, _, rfl, xh.tups _ _ eg, ⟨n1, rfl, xh.tups _ _ (xg.tups _ _ ef)⟩⟩
                have rl := (rl.mono xe.tu).mono xeh.tu
                have egh := xeh.keep _ _ nnil (xe.keep _ _ (fun z => nfp bpg (List.mem_singleton.mp z)) (xzd.keep _ _ nnil egc))
                have xth : Fr [f, w] H' Hh := (xtc.trans (xzd.mono fun _ z => nomatch z)).trans ((xe.mono fun a h => by rw [List.mem_singleton.mp h]; exact .head _).trans (xeh.mono fun _ z => nomatch z))
                clear gc k1c k2c egc xtc ge he xe xzd xeh xf xg xa xb xc xd ea eb ec' ed ef eg
                refine ⟨p1, n3, _, _, rfl, rfl, k1h.e, eh, small40 (by have := k1h.ln; show vs1.length + 1 ≤ 1000; omega), fun pb1 Hi ni xi ei => ?_⟩
                refine ⟨_, rfl, .inl ⟨rfl, _, SqL.of ei⟩, _, rfl, sz2, fun w1 Hj nj xj ej => ⟨_, rfl, _, rfl, sz1, fun w2 Hk nk xk ek => ?_⟩⟩
                have xik : Fr [] Hh Hk := (xi.trans xj).trans xk
                refine ⟨p2, w2, _, _, rfl, rfl, (k2h.ext xik).e, ek, small40 (by have := k2h.ln; show vs2.length + 1 ≤ 1000; omega), fun w3 Hl nl xl el => ⟨w3, _, rfl, el, fun w4 Hm nm xm em => ⟨sz3, fun w5 Hn nn xn en => ?_⟩⟩⟩
                have xin : Fr [] Hi Hn := (((xj.trans xk).trans xl).trans xm).trans xn
                have xhn : Fr [] Hh Hn := xi.trans xin
                have ein := xin.keep _ _ nnil ei
                have gn := gh.ext xhn
                have apb := gh.apw ni
                have bpb : H' pb1 = none := xth.back _ ni
                refine ⟨pb1, _, _, rfl, rfl, ein, small1000 (by rw [List.length_append]; have := k1h.ln; show vs1.length + 1 ≤ 1000; omega), ?_⟩
                have yu : Fr [pb1] Hn (upd Hn pb1 (.lst (vs1 ++ [.ref n2] ++ [.ref w5]))) := Fr.refl.mutL (.head _) ein
                have n1p : p1 ≠ pb1 := ne_of_none k1h.e ni
                have n2p : p2 ≠ pb1 := ne_of_none k2h.e ni
                have ngp : pg ≠ pb1 := ne_of_none egh ni
                refine ⟨sz2, fun pp Ho no xo eo => ⟨pp, _, rfl, SqT.of eo, rfl, _, _, rfl, _, _, rfl, rfl, ?_⟩⟩
                have tuO : Tu Hn Ho := yu.tu.trans xo.tu
                refine hQ _ _ ⟨pb1, 5, true, _, _, _, _, rfl, fle, l3, v3, vs1, b1, vs2, b2, _, b1 ++ [.set c (.num (1 + tn)), .wh (.cell c) (b2 ++ [sLess c])], gs, (gn.own apb ein trivial).ext xo, ((xth.trans (xhn.mono fun _ z => nomatch z)).own bpb ein).trans (xo.mono fun _ z => nomatch z),
                  ((k1h.ext xhn).fr yu fun z => n1p (List.mem_singleton.mp z)).ext xo, ((k2h.ext xhn).fr yu fun z => n2p (List.mem_singleton.mp z)).ext xo, xo.keep _ _ nnil (yu.keep _ _ (fun z => ngp (List.mem_singleton.mp z)) (xhn.keep _ _ nnil egh)), bpg, gs3, bpb, ngp, ⟨xo.keep _ _ nnil upd_same, apb.n2, ?_, ?_, ?_, fun z => by cases (List.append_eq_nil_iff.mp z).2⟩, ⟨by decide, by decide⟩, fun z => absurd (z.symm.trans e) (by decide)⟩
                · rw [List.length_append, List.length_append]
                  have := k1h.ln
                  show vs1.length + 1 + 1 ≤ 3
                  omega
                · rw [List.append_assoc]
                  refine pd_app ((RL.mono xhn.tu k1h.rl).mono tuO |>.up (Nat.zero_le 1)) (.cons ((RS.up rs2 (Nat.zero_le 1)).mono (xhn.tu.trans tuO)) (.cons ⟨w5, .ref w1, w4, _, rfl, tuO _ _ en, ⟨w1, rfl, tuO _ _ (xn.tups _ _ (xm.tups _ _ (xl.tups _ _ (xk.tups _ _ ej))))⟩, tuO _ _ (xn.tups _ _ em), pd_app ((RL.mono xhn.tu k2h.rl).mono tuO) (.cons (rl.mono (xhn.tu.trans tuO)) .nil)⟩ .nil))
                · have bd := Bo.down (k := 1 + tn) (P := Pc W 2) (n := 0) (sz := 1) (d := 1) (W := W.with hs) (by omega) hc hcP (by decide) (k2h.bo.mono (fun y hy => by
                    rcases hy with hy | hy
                    · exact hy.sub
                    · rw [hy]; exact hc) (Nat.le_refl _) (Nat.le_refl _) (Nat.le_refl _)) (.inl rfl)
                  exact (((k1h.bo.mono (fun _ z => z.sub) (Nat.zero_le 1) (Nat.le_refl _) (Nat.le_refl _)).app bd)).mono (fun _ z => z) (Nat.le_refl _) (by decide) (by decide)
              · obtain ⟨pb, r, ro, y13, y14, y15, y16, rfl, ht⟩ := hP
                -- a call ahead
                refine seq_cut (fun σ' Hz => ∃ (pg pb : Addr) (r : Int) (ro : Bool) (y15 : Option V), σ' = [some (V.ref f), some (V.ref w), some (V.ref wd), some (V.str wd1), some (V.int form), some (V.str c), some (V.ref nd), some (V.ref p1), some (V.ref p2), some (V.ref pg), some (V.ref pb), some (V.int r), some (V.bl ro), y13, y14, y15, y16] ∧
                  HTe f w (W.with hs) H' i pg pb r Hz) (fun D' hQ _ _ _ => ?_) (fun σ' Hz hP => ?_)
                · obtain ⟨fl3, l3, v3, vs1, b1, vs2, b2, vs, bb, gs, gc, xtc, _, _, egc, bpg, gs3, bpb, ngb, kb, ⟨r1, r5⟩, h0⟩ := ht
                  obtain ⟨hv, eh, hp⟩ := gc.ws.helpers
                  have hvl : hv.length = hs.length := by have e := hp.length; rw [List.length_map] at e; exact e
                  have hhi : hs.length ≤ i := by
                    have e := congrArg List.length st.nm
                    rw [List.length_map, List.length_take] at e
                    omega
                  try dsimp only [gName]
                  refine if_cut (fun c H5 => ∃ flx, Gw H5 f w flx (W.with hs) l3 v3 ∧ Fr [f] Hz H5 ∧ (c = true → 0 < hv.length)) (fun Q' hQ' => ?_) (fun cb H5 hP => ?_)
                  · refine ⟨_, rfl, w, _, rfl, gc.wv.gH, W.aH, hv, rfl, .inl (SqL.of eh), _, _, rfl, rfl, _, rfl, ite2 (fun c => ?_) (fun _ => hQ' _ _ ⟨fl3, gc, Fr.refl, fun z => by cases z⟩)⟩
                    have c : 0 < hv.length := by have : (0 : Int) < (hv.length : Int) := of_decide_eq_true c; omega
                    exact ⟨_, rfl, f, fl3, 2, rfl, gc.fl, by decide, by decide, fun dq Hd fld q0 q1 hd xd => ⟨rfl, _, rfl, hQ' _ _ ⟨fld, gc.flow xd hd, xd, fun _ => c⟩⟩⟩
                  · obtain ⟨fl5, g5, x5, hc5⟩ := hP
                    have egc5 := x5.keep _ _ (fun z => nfp bpg (List.mem_singleton.mp z)) egc
                    have kb5 := kb.flow x5
                    have xt5 : Fr [f, w] H' H5 := xtc.trans (x5.mono fun a h => by rw [List.mem_singleton.mp h]; exact .head _)
                    refine ite2 (fun e => ?_) (fun _ => hQ _ _ ⟨pg, pb, r, ro, _, rfl, fl5, l3, v3, vs, bb, gs, g5, xt5, egc5, bpg, by omega, kb5.le (fun _ z => z) (by decide) (by decide) (by omega) (Nat.le_refl _) (Nat.le_refl _), r1, by omega⟩)
                    have hc5 := hc5 e
                    have nHf : W.aH ≠ f := (g5.sep _ bH').1
                    have eh5 : H5 W.aH = some (.lst hv) := x5.keep _ _ (fun z => nHf (List.mem_singleton.mp z)) eh
                    refine ⟨_, rfl, w, _, rfl, g5.wv.gH, _, rfl, _, rfl, w, _, rfl, g5.wv.gH, W.aH, hv, rfl, .inl (SqL.of eh5), f, fl5, (hv.length : Int), rfl, g5.fl, by omega, by omega, fun dv H6 fl6 e0 e1 h6 x6 => ?_⟩
                    have g6 := g5.flow x6 h6
                    have eh6 : H6 W.aH = some (.lst hv) := x6.keep _ _ (fun z => nHf (List.mem_singleton.mp z)) eh5
                    obtain ⟨h, t, qb, hh, edv, et, at_, kvs, ek, ekv, ea, ega⟩ := Hl.at_ g6.ws eh6 (Paired.mapP hp fun _ _ z => z.mono (x5.tu.trans x6.tu)) e0 e1
                    refine ⟨W.aH, hv, dv, .ref t, rfl, rfl, SqL.of eh6, edv, t, _, 0, .str h.name, rfl, rfl, SqT.of et, rfl, ?_⟩
                    have egc6 := x6.keep _ _ (fun z => nfp bpg (List.mem_singleton.mp z)) egc5
                    have kb6 := kb5.flow x6
                    have xt6 : Fr [f, w] H' H6 := xt5.trans (x6.mono fun a h => by rw [List.mem_singleton.mp h]; exact .head _)
                    obtain ⟨hr1, hr2, hr3, hr4, hr5, _⟩ := st.all h hh
                    have i1 : 1 ≤ i := by
                      have := List.length_pos_of_mem hh
                      omega
                    have hga : h.ga ∈ (W.with hs).addrs := .tail _ (.tail _ (.tail _ (.tail _ (.tail _ (List.mem_map.mpr ⟨h, hh, rfl⟩)))))
                    have henv : envW (W.with hs) h.name = some h.body := envH_at (by rw [st.nm]; exact hwn.sublist (List.take_sublist _ _)) hh
                    have bcall : Bo (W.with hs) (Pc W 2) (2 * i - 1 + 1) h.rows.toNat (2 * h.rows.toNat) [.call h.name] := Bo.call henv (by unfold NN; omega) hr5
                    clear g5 x5 xt5 egc5 kb5 eh5 gc xtc egc kb eh x6 h6 et edv eh6
                    try dsimp only [gName]
                    refine seq_cut (fun σ' H7 => ∃ (pb' : Addr) (fl7 : Fl) (vs' : List V) (bb' : List Sm), σ' = [some (V.ref f), some (V.ref w), some (V.ref wd), some (V.str wd1), some (V.int form), some (V.str c), some (V.ref nd), some (V.ref p1), some (V.ref p2), some (V.ref pg), some (V.ref pb'), some (V.int r), some (V.bl ro), y13, y14, some (V.str h.name), y16] ∧
                      Gw H7 f w fl7 (W.with hs) l3 v3 ∧ Fr [f, w] H' H7 ∧ KwL f w (W.with hs) H7 pb' (Pc W 2) 4 1 (2 * (i + 1) - 1) (r.toNat + h.rows.toNat) (2 * (r.toNat + h.rows.toNat)) vs' bb' ∧ H7 W.aA = some (.dK kvs) ∧ H7 at_ = some (.tup [.ref h.ga, .int h.rows, .bl h.rounds]) ∧ H7 h.ga = some (.lst (h.gone.map V.str)) ∧ H7 pg = some (.lst (gs.map V.str))) (fun D1 hQ1 _ _ _ => ?_) (fun σ' H7 hP => ?_)
                    · try dsimp only [gName]
                      refine if_cut (fun c H7 => ∃ flx, Gw H7 f w flx (W.with hs) l3 v3 ∧ Fr [f] H6 H7 ∧ (c = true → form = 0)) (fun Q' hQ' => ?_) (fun cb H7 hP => ?_)
                      · refine ⟨_, rfl, rfl, _, rfl, ite2 (fun c => ?_) (fun _ => hQ' _ _ ⟨fl6, g6, Fr.refl, fun z => by cases z⟩)⟩
                        have c : form = 0 := by have := of_decide_eq_true c; injection this
                        exact ⟨_, rfl, f, fl6, 2, rfl, g6.fl, by decide, by decide, fun dq Hd fld q0 q1 hd xd => ⟨rfl, _, rfl, hQ' _ _ ⟨fld, g6.flow xd hd, xd, fun _ => c⟩⟩⟩
                      · obtain ⟨fl7, g7, x7, hcf⟩ := hP
                        have ek7 := x7.keep _ _ (fun z => (g6.sep _ bA').1 (List.mem_singleton.mp z)) ek
                        have ea7 := x7.tups _ _ ea
                        have ega7 := x7.keep _ _ (fun z => (g6.sep _ hga).1 (List.mem_singleton.mp z)) ega
                        have egc7 := x7.keep _ _ (fun z => nfp bpg (List.mem_singleton.mp z)) egc6
                        have kb7 := kb6.flow x7
                        have xt7 : Fr [f, w] H' H7 := xt6.trans (x7.mono fun a h => by rw [List.mem_singleton.mp h]; exact .head _)
                        clear ek ea ega egc6 kb6 xt6 g6 x7
                        refine ite2 (fun e => ?_) (fun e => ?_)
                        · -- into the if
                          obtain ⟨r4, tm, ba, bb2, rfl, tok, tp, boa, bob, lba⟩ := h0 (hcf e)
                          obtain ⟨eb7, npb, lnb, rlb, _, _⟩ := kb7
                          cases rlb with
                          | cons rs rn =>
                            cases rn
                            obtain ⟨pt, vt, ta, tb, va, vb, rfl, ept, rtt, eta, rla, etb, rlb⟩ := rs
                            refine ⟨_, rfl, pb, _, 0, .ref pt, rfl, rfl, SqL.of eb7, at0, _, rfl, pt, _, rfl, ept, fun s1 Ha xa ea => ?_⟩
                            refine ⟨_, rfl, pb, _, 0, .ref pt, rfl, rfl, SqL.of (xa.keep _ _ nnil eb7), at0, pt, _, 2, .ref ta, rfl, rfl, SqT.of (xa.tups _ _ ept), at2, _, rfl, sz2, fun c1 Hb nb xb eb => ⟨Kz.sz1, fun c2 Hc nc xc ec' => ?_⟩⟩
                            have xac : Fr [] H7 Hc := (xa.trans xb).trans xc
                            have lva : va.length ≤ 3 := by
                              have e1 := rla.length
                              omega
                            refine ⟨ta, c2, _, _, rfl, rfl, xac.tups _ _ eta, ec', small40 (by show va.length + 1 ≤ 1000; omega), fun c3 Hd xd ed => ⟨Kz.sz1, fun c4 He ne xe ee => ?_⟩⟩
                            refine ⟨s1, c4, _, _, rfl, rfl, xe.tups _ _ (xd.tups _ _ (xc.tups _ _ (xb.tups _ _ ea))), ee, (by decide : 2 + 1 ≤ sizeLine), fun c5 Hf xf ef => ?_⟩
                            have x7f : Fr [] H7 Hf := ((xac.trans xd).trans xe).trans xf
                            refine ⟨_, rfl, pb, _, 0, .ref pt, rfl, rfl, SqL.of (x7f.keep _ _ nnil eb7), at0, _, rfl, pt, _, rfl, x7f.tups _ _ ept, fun s2 Hg xg eg => ?_⟩
                            refine ⟨c5, s2, _, _, rfl, rfl, xg.tups _ _ ef, eg, (by decide : 3 + 1 ≤ sizeLine), fun c6 Hh xh eh => ⟨Kz.sz1, fun pb' Hi ni xi ei => ?_⟩⟩
                            have x7h : Fr [] H7 Hh := (x7f.trans xg).trans xh
                            have x7i : Fr [] H7 Hi := x7h.trans xi
                            have xdi : Fr [] Hd Hi := (((xe.trans xf).trans xg).trans xh).trans xi
                            have xbi : Fr [] Hb Hi := (xc.trans xd).trans xdi
                            refine hQ1 _ _ ⟨pb', fl7, [.ref c6], [.ite tm (ba ++ [.call h.name]) bb2], rfl, g7.ext x7i, xt7.trans (x7i.mono fun _ z => nomatch z), ⟨ei, ((g7.ext x7h).apw ni).n2, (by decide : 1 ≤ 4), ?_, ?_, fun z => by cases z⟩, x7i.keep _ _ nnil ek7, x7i.tups _ _ ea7, x7i.keep _ _ nnil ega7, x7i.keep _ _ nnil egc7⟩
                            · exact .cons ⟨c6, vt, c3, tb, _, vb, rfl, xi.tups _ _ eh, rtt.mono x7i.tu, xdi.tups _ _ ed, pd_app (RL.mono x7i.tu rla) (.cons ⟨c1, rfl, xbi.tups _ _ eb⟩ .nil), x7i.tups _ _ etb, RL.mono x7i.tu rlb⟩ .nil
                            · have bi := Bo.ite (t := tm) tok tp (n := 2 * i - 1 + 1) (by unfold NN; omega) ((boa.up (Nat.zero_le _)).app bcall) (bob.up (Nat.zero_le _))
                              exact bi.mono (fun _ z => z) (by omega) (by omega) (by omega)
                        · -- ahead or behind
                          refine ⟨_, rfl, .inl ⟨rfl, _, SqL.of kb7.e⟩, _, rfl, pb, _, rfl, .inl (SqL.of kb7.e), sz2, fun l2 Ha na xa ea => ?_⟩
                          refine ⟨_, rfl, f, fl7, 2, rfl, (g7.ext xa).fl, by decide, by decide, fun dq Hb flb q0 q1 hb xb => ?_⟩
                          have nl2 := (g7.apw na).n2
                          have ea' : Hb l2 = some (.lst [.int 0, .int (vs.length : Nat)]) := xb.keep _ _ (fun z => nl2 (by rw [List.mem_singleton.mp z]; exact .head _)) ea
                          have gb := (g7.ext xa).flow xb hb
                          have xtb : Fr [f, w] H' Hb := (xt7.trans (xa.mono fun _ z => nomatch z)).trans (xb.mono fun a h => by rw [List.mem_singleton.mp h]; exact .head _)
                          have kbb := (kb7.ext xa).flow xb
                          have ekb := xb.keep _ _ (fun z => (g7.sep _ bA').1 (List.mem_singleton.mp z)) (xa.keep _ _ nnil ek7)
                          have eab := xb.tups _ _ (xa.tups _ _ ea7)
                          have egab := xb.keep _ _ (fun z => (g7.sep _ hga).1 (List.mem_singleton.mp z)) (xa.keep _ _ nnil ega7)
                          have egcb := xb.keep _ _ (fun z => nfp bpg (List.mem_singleton.mp z)) (xa.keep _ _ nnil egc7)
                          have bl : vs.length ≤ 3 := kb7.ln
                          have fin : ∀ (j : Int), (j = 0 ∨ j = (vs.length : Nat)) → (2 ≤ sizeLine ∧ ∀ p H2, Hb p = none → Fr [] Hb H2 → H2 p = some (.tup [.str "call", .str h.name]) → ∃ (l : Addr) (xs : List V) (i : Int) (y : V), V.ref pb = .ref l ∧ [V.int j, .ref p] = [.int i, y] ∧ H2 l = some (.lst xs) ∧ xs.length < sizeLine ∧ 0 ≤ i ∧ i < 2 ^ 63 ∧
                              D1.nx [some (V.ref f), some (V.ref w), some (V.ref wd), some (V.str wd1), some (V.int form), some (V.str c), some (V.ref nd), some (V.ref p1), some (V.ref p2), some (V.ref pg), some (V.ref pb), some (V.int r), some (V.bl ro), y13, y14, some (V.str h.name), y16] (upd H2 l (.lst (xs.take i.toNat ++ [y] ++ xs.drop i.toNat)))) := by
                            intro j hj
                            refine ⟨sz2, fun p H2 np x2 e2 => ⟨pb, vs, j, .ref p, rfl, rfl, x2.keep _ _ nnil kbb.e, small1000 (by omega), by omega, by omega, ?_⟩⟩
                            have k2 := kbb.ext x2
                            have g2 := gb.ext x2
                            have apb : Apw pb f w (W.with hs) := ⟨kbb.np, fun b hb z => by
                              obtain ⟨o, eo⟩ := st.g.ws.some b hb
                              rw [z, bpb] at eo
                              cases eo⟩
                            have yu : Fr [pb] H2 (upd H2 pb (.lst (vs.take j.toNat ++ [.ref p] ++ vs.drop j.toNat))) := Fr.refl.mutL (.head _) k2.e
                            have npb : ∀ {a : Addr} {o : HO}, H' a = some o → a ∉ [pb] := fun e z => by
                              rw [List.mem_singleton.mp z, bpb] at e
                              cases e
                            have rc : RS (upd H2 pb (.lst (vs.take j.toNat ++ [.ref p] ++ vs.drop j.toNat))) 1 (.ref p) (.call h.name) := ⟨p, rfl, yu.tups _ _ e2⟩
                            have rb := (k2.rl).mono yu.tu
                            have xtu := (xtb.trans (x2.mono fun _ z => nomatch z)).own (o := .lst (vs.take j.toNat ++ [.ref p] ++ vs.drop j.toNat)) bpb k2.e
                            have both : ∃ bb', bb' ≠ [] ∧ RL (upd H2 pb (.lst (vs.take j.toNat ++ [.ref p] ++ vs.drop j.toNat))) 1 (vs.take j.toNat ++ [.ref p] ++ vs.drop j.toNat) bb' ∧ Bo (W.with hs) (Pc W 2) (2 * i - 1 + 1) (r.toNat + h.rows.toNat) (2 * r.toNat + 2 * h.rows.toNat) bb' := by
                              have kbo : Bo (W.with hs) (Pc W 2) (2 * i - 1 + 1) r.toNat (2 * r.toNat) bb := k2.bo.up (by omega)
                              rcases hj with e | e
                              · refine ⟨.call h.name :: bb, (fun z => by cases z), ?_, ?_⟩
                                · rw [e]
                                  exact .cons (by rw [e] at rc; exact rc) (by rw [e] at rb; exact rb)
                                · exact (bcall.app kbo).mono (fun _ z => z) (Nat.le_refl _) (by omega) (by omega)
                              · refine ⟨bb ++ [.call h.name], (fun z => by cases (List.append_eq_nil_iff.mp z).2), ?_, kbo.app bcall⟩
                                have e1 : vs.take j.toNat ++ [V.ref p] ++ vs.drop j.toNat = vs ++ [.ref p] := by
                                  rw [e, Int.toNat_natCast, List.take_length, List.drop_length, List.append_nil]
                                rw [e1] at rc rb ⊢
                                exact pd_app rb (.cons rc .nil)
                            obtain ⟨bb', ne', rb', bo'⟩ := both
                            refine hQ1 _ _ ⟨pb, flb, _, bb', rfl, g2.own apb k2.e trivial, xtu, ⟨upd_same, kbb.np, ?_, rb', bo'.mono (fun _ z => z) (by omega) (Nat.le_refl _) (by omega), ne'⟩, yu.keep _ _ ?_ (x2.keep _ _ nnil ekb), yu.tups _ _ (x2.tups _ _ eab), yu.keep _ _ ?_ (x2.keep _ _ nnil egab), yu.keep _ _ ?_ (x2.keep _ _ nnil egcb)⟩
                            · rw [List.length_append, List.length_append, List.length_take, List.length_drop]
                              show _ + 1 + _ ≤ 4
                              omega
                            · obtain ⟨o, eo⟩ := st.g.ws.some _ bA'
                              exact npb eo
                            · obtain ⟨o, eo⟩ := st.g.ws.some _ hga
                              exact npb eo
                            · exact fun z => ngb (List.mem_singleton.mp z)
                          exact ix2_cut ea' q0 q1 (fun _ => ⟨_, rfl, fin 0 (.inl rfl)⟩) (fun _ => ⟨_, rfl, fin (vs.length : Nat) (.inr rfl)⟩)
                    · obtain ⟨pb', fl7, vs', bb', rfl, g7, xt7, kb7, ek7, ea7, ega7, egc7⟩ := hP
                      have hgl : h.gone.length ≤ 3 * i := hr3
                      refine ⟨_, rfl, _, rfl, w, _, rfl, g7.wv.gA, _, rfl, W.aA, .ref at_, rfl, dget ek7 ekv, at_, _, 0, .ref h.ga, rfl, rfl, SqT.of ea7, at0, ?_⟩
                      refine ⟨pg, h.ga, _, _, rfl, rfl, egc7, ega7, small40 (by rw [List.length_map, List.length_map]; omega), fun pg2 Ha na xa ea => ?_⟩
                      rw [← List.map_append] at ea
                      have ga := g7.ext xa
                      have xta : Fr [f, w] H' Ha := xt7.trans (xa.mono fun _ z => nomatch z)
                      have eka := xa.keep _ _ nnil ek7
                      have eaa := xa.tups _ _ ea7
                      have fin : ∀ ro2 : Bool, D'.nx [some (V.ref f), some (V.ref w), some (V.ref wd), some (V.str wd1), some (V.int form), some (V.str c), some (V.ref nd), some (V.ref p1), some (V.ref p2), some (V.ref pg2), some (V.ref pb'), some (V.int (r + h.rows)), some (V.bl ro2), y13, y14, some (V.str h.name), y16] Ha := fun ro2 => by
                        have er : (r + h.rows).toNat = r.toNat + h.rows.toNat := by omega
                        exact hQ _ _ ⟨pg2, pb', r + h.rows, ro2, _, rfl, fl7, l3, v3, vs', bb', gs ++ h.gone, ga, xta, ea, xt7.back _ na, by rw [List.length_append]; omega, by rw [er]; exact kb7.ext xa, by omega, by omega⟩
                      refine ⟨_, rfl, _, rfl, w, _, rfl, ga.wv.gA, _, rfl, W.aA, .ref at_, rfl, dget eka ekv, at_, _, 1, .int h.rows, rfl, rfl, SqT.of eaa, at1, _, _, rfl, rfl, ?_⟩
                      refine ⟨_, rfl, _, rfl, ite2 (fun e => ?_) (fun _ => ?_)⟩
                      · exact fin true
                      · exact ⟨_, rfl, w, _, rfl, ga.wv.gA, _, rfl, W.aA, .ref at_, rfl, dget eka ekv, at_, _, 2, .bl h.rounds, rfl, rfl, SqT.of eaa, at2, fin h.rounds⟩
                · obtain ⟨pg, pb, r, ro, y15, rfl, hte⟩ := hP
                  obtain ⟨fl4, l4, v4, vs, bb, gs, g4, xt4, eg4, bpg, gl4, kb4, r1, r5⟩ := hte
                  obtain ⟨hv, eh, hp⟩ := g4.ws.helpers
                  have hvl : hv.length ≤ 3 := by have e := hp.length; rw [List.length_map] at e; have : (W.with hs).hs.length ≤ 3 := hln; omega
                  have nAw : W.aA ∉ [f, w] := fun z => by
                    have := st.g.sep _ bA'
                    simp only [List.mem_cons, List.not_mem_nil, or_false] at z
                    rcases z with z | z
                    · exact this.1 z
                    · exact this.2 z
                  obtain ⟨kvs, ekv, hkl⟩ := st.ab
                  have ek4 := xt4.keep _ _ nAw ekv
                  have nHA : W.aH ≠ W.aA := ne_of eh ek4 (by intro z; cases z)
                  refine ⟨_, rfl, w, _, rfl, g4.wv.gH, .inl ⟨rfl, _, SqL.of eh⟩, _, rfl, _, rfl, pb, vs, rfl, kb4.e, fun qa Ha na xa ea => ⟨sz2, fun t Hb nb xb eb => ?_⟩⟩
                  have x4b : Fr [] Hz Hb := xa.trans xb
                  have ehb := x4b.keep _ _ nnil eh
                  refine ⟨W.aH, hv, .ref t, rfl, rfl, ehb, small1000 (by omega), ?_⟩
                  have g4b := g4.ext x4b
                  have x4b' : Fr [f, w] H' Hb := xt4.trans (x4b.mono fun _ z => nomatch z)
                  have y1 : Fr [W.aH] Hb (upd Hb W.aH (.lst (hv ++ [.ref t]))) := Fr.refl.mutL (.head _) ehb
                  have egb := x4b.keep _ _ nnil eg4
                  have ekb := x4b.keep _ _ nnil ek4
                  have npH : pg ≠ W.aH := fun z => by
                    obtain ⟨o, eo⟩ := st.g.ws.some _ bH'
                    rw [z, eo] at bpg
                    cases bpg
                  have npA : pg ≠ W.aA := fun z => by
                    rw [z, ekv] at bpg
                    cases bpg
                  have npw : pg ≠ w := fun z => by
                    obtain ⟨kv, e⟩ := st.g.wv.at_
                    rw [z, e] at bpg
                    cases bpg
                  -- what is told of it
                  refine ⟨_, rfl, _, rfl, _, rfl, sz3, fun t2 Hd n2 xd ed => ?_⟩
                  have wv1 : Wv (upd Hb W.aH (.lst (hv ++ [.ref t]))) w (W.with hs) l4 v4 := g4b.wv.keep y1 fun z => (st.g.sep _ bH').2 (List.mem_singleton.mp z).symm
                  have wvd := wv1.keep xd nnil
                  have ekd : Hd W.aA = some (.dK kvs) := xd.keep _ _ nnil (y1.keep _ _ (fun z => nHA (List.mem_singleton.mp z).symm) ekb)
                  refine ⟨_, rfl, w, _, rfl, wvd.gA, _, rfl, W.aA, _, rfl, DPut.k (k := Sum.inr wd1) ekd (small1000 (by omega)), ?_⟩
                  have y2 : Fr [W.aA] Hd (upd Hd W.aA (.dK (putK kvs (Sum.inr wd1) (.ref t2)))) := Fr.refl.mutD (.head _) ekd
                  have tuF : Tu Hb (upd Hd W.aA (.dK (putK kvs (Sum.inr wd1) (.ref t2)))) := (y1.tu.trans xd.tu).trans y2.tu
                  have kp : ∀ {a : Addr} {o : HO}, a ≠ W.aH → a ≠ W.aA → Hb a = some o → upd Hd W.aA (.dK (putK kvs (Sum.inr wd1) (.ref t2))) a = some o := fun h1 h2 e => y2.keep _ _ (fun z => h2 (List.mem_singleton.mp z)) (xd.keep _ _ nnil (y1.keep _ _ (fun z => h1 (List.mem_singleton.mp z)) e))
                  have sC : ∀ {a : Addr} {xs : List V}, Hb a = some (.lst xs) → a ≠ W.aA := fun e => ne_of e ekb (by intro z; cases z)
                  have key : ∀ h' ∈ hs, h'.name ≠ wd1 := fun h' hh' z => by
                    have m : h'.name ∈ hs.map (·.name) := List.mem_map.mpr ⟨h', hh', rfl⟩
                    rw [st.nm, z] at m
                    have hwi : words[i]? = some wd1 := by
                      rw [List.getElem?_take] at ewd1
                      split at ewd1
                      · exact ewd1
                      · cases ewd1
                    obtain ⟨j, hj, ej⟩ := List.mem_iff_getElem.mp m
                    rw [List.getElem_take] at ej
                    have hj2 : j < i := by rw [List.length_take] at hj; omega
                    obtain ⟨hl, el⟩ := List.getElem?_eq_some_iff.mp hwi
                    have := (List.getElem_inj hwn).mp (ej.trans el.symm)
                    omega
                  have wsF := ws_add (h := ⟨wd1, bb, gs, pg, r, ro⟩) (t := t) (q := qa) (t2 := t2) (vs := vs) (kvs := kvs) (hv := hv) g4b.ws tuF ((kp (Ne.symm hC) (sC g4b.ws.cells) g4b.ws.cells).trans g4b.ws.cells.symm) ((kp (Ne.symm hK) (sC g4b.ws.counters) g4b.ws.counters).trans g4b.ws.counters.symm) ((kp (Ne.symm hG) (sC g4b.ws.gauges) g4b.ws.gauges).trans g4b.ws.gauges.symm)
                    (fun h' hh' => by
                      obtain ⟨kvs2, _, _, hk⟩ := g4b.ws.about
                      obtain ⟨_, _, _, q3⟩ := (hk h' hh').ex
                      exact (kp (st.all h' hh').2.2.2.1 (sC q3) q3).trans q3.symm)
                    ehb (y2.keep _ _ (fun z => nHA (List.mem_singleton.mp z)) (xd.keep _ _ nnil upd_same)) ekb upd_same (by omega) key (tuF _ _ eb) (tuF _ _ (xb.tups _ _ ea)) (RL.up (RL.mono (x4b.tu.trans tuF) kb4.rl) (by decide)) (y2.tups _ _ ed) (kp npH npA egb)
                  have gF : Gw (upd Hd W.aA (.dK (putK kvs (Sum.inr wd1) (.ref t2)))) f w fl4 (W.with (hs ++ [⟨wd1, bb, gs, pg, r, ro⟩])) l4 v4 := by
                    refine ⟨((g4b.fl.keep y1 fun z => (st.g.sep _ bH').1 (List.mem_singleton.mp z).symm).keep xd nnil).keep y2 fun z => (st.g.sep _ bA').1 (List.mem_singleton.mp z).symm, wsF, ⟨(wvd.keep y2 fun z => (st.g.sep _ bA').2 (List.mem_singleton.mp z).symm).ex⟩, fun a ha => ?_⟩
                    have ha : a ∈ W.aC :: W.aK :: W.aG :: W.aH :: W.aA :: (hs ++ [(⟨wd1, bb, gs, pg, r, ro⟩ : Hl)]).map Hl.ga := ha
                    rw [List.map_append, ← List.cons_append, ← List.cons_append, ← List.cons_append, ← List.cons_append, ← List.cons_append] at ha
                    rcases List.mem_append.mp ha with z | z
                    · exact st.g.sep a z
                    · rw [List.mem_singleton.mp z]
                      exact ⟨nfp bpg, npw⟩
                  have hwi : words[i]? = some wd1 := by
                    rw [List.getElem?_take] at ewd1
                    split at ewd1
                    · exact ewd1
                    · cases ewd1
                  refine ⟨_, _, _, _, _, _, _, _, _, _, _, _, _, _, rfl, fl4, l4, v4, _, ⟨gF, ?_, ⟨_, upd_same, ?_⟩, fun h' hh' => ?_⟩, ?_, ?_⟩
                  · rw [List.map_append, st.nm, List.take_add_one, hwi]
                    rfl
                  · unfold putK
                    split
                    · rw [List.length_map]; omega
                    · rw [List.length_append]; show kvs.length + 1 ≤ i + 1; omega
                  · rcases List.mem_append.mp hh' with z | z
                    · obtain ⟨q1, q2, q3, q4, q5, q6⟩ := st.all h' z
                      exact ⟨q1, by omega, by omega, q4, (q5.env (by unfold NN; omega)).mono (fun _ z => z) (by omega) (Nat.le_refl _) (Nat.le_refl _), q6⟩
                    · rw [List.mem_singleton.mp z]
                      exact ⟨r1, by push_cast; omega, gl4, npH, kb4.bo.env (by unfold NN; omega), kb4.ne⟩
                  · have m : ∀ {S : List Addr} {a b : Hp}, Fr S a b → (∀ x ∈ S, x = f ∨ x = w ∨ x = W.aH ∨ x = W.aA) → Fr [f, w, W.aH, W.aA] a b := fun y h => y.mono fun x hx => by
                      simp only [List.mem_cons, List.not_mem_nil, or_false]
                      exact h x hx
                    refine ((((xt.trans (m x4b' fun x hx => ?_)).trans (m y1 fun x hx => ?_)).trans (m xd fun _ z => nomatch z)).trans (m y2 fun x hx => ?_))
                    · simp only [List.mem_cons, List.not_mem_nil, or_false] at hx
                      rcases hx with e | e
                      · exact .inl e
                      · exact .inr (.inl e)
                    · exact .inr (.inr (.inl (List.mem_singleton.mp hx)))
                    · exact .inr (.inr (.inr (List.mem_singleton.mp hx)))
                  · have n4 := nlw
                    simp only [List.mem_cons, List.not_mem_nil, or_false, not_or] at n4
                    exact kp n4.2.2.1 n4.2.2.2 (x4b'.keep _ _ (fun z => by
                      simp only [List.mem_cons, List.not_mem_nil, or_false] at z
                      rcases z with z | z
                      · exact n4.1 z
                      · exact n4.2.1 z) elw)
    · obtain ⟨y3, y4, y5, y6, y7, y8, y9, y10, y11, y12, y13, y14, y15, y16, rfl, fl, l, v, hs, st, xt, elw⟩ := hP
      have hl : hs.length ≤ 3 := by
        have e := congrArg List.length st.nm
        rw [List.length_map, List.length_take] at e
        omega
      have i3 : ((words.take dn).map V.str).length ≤ 3 := by rw [List.length_map, List.length_take]; omega
      refine q H' fl hs l v st.g xt ⟨wo.c1, wo.c2, wo.k, wo.g1, wo.g2, wo.nd, wo.a0, wo.a1, hl⟩ ⟨?_, fun h hh => ?_⟩ (fun h hh => ?_)
      · rw [show (W.with hs).hs = hs from rfl, st.nm]
        exact hwn.sublist (List.take_sublist _ _)
      · obtain ⟨h1, h2, h3, _, h5, h6⟩ := st.all h hh
        exact ⟨h1, by omega, h5.mono (fun _ z => z) (by omega) (Nat.le_refl _) (Nat.le_refl _), by omega, h6⟩
      · have e : h.name ∈ hs.map (·.name) := List.mem_map.mpr ⟨h, hh, rfl⟩
        rw [st.nm] at e
        exact List.mem_of_mem_take e
end
end Kz
set_option Elab.async false
set_option linter.all false
set_option maxRecDepth 100000
/-! ZCv5: d.update(e) of two dicts. -/
namespace Kz
open PySem PySem.Spec PyProof.Rows L2
section
variable {X : Cx}
def rDUpd : V → List V → Hp → VK → Prop := fun x vs H Q => ∃ (a b : Addr) (kvs more : List (Key × V)), x = .ref a ∧ vs = [.ref b] ∧ a ≠ b ∧ H a = some (.dK kvs) ∧ H b = some (.dK more) ∧ kvs.length + more.length ≤ 1000 ∧ Q .non (upd H a (.dK (mergeK kvs more)))
theorem mtd_update : MtR X "dict.update" rDUpd := by
  intro pins s σ H x vs v us Q I rx rv h
  obtain ⟨a, b, kvs, more, ex, ev, hab, ha, hb, hl, q⟩ := h
  subst ex
  subst ev
  obtain rfl : v = Value.ref a := rx
  obtain ⟨u, rfl, ru⟩ := vals1 rv
  obtain rfl : u = Value.ref b := ru
  obtain ⟨z, hd, ws, rel, dd⟩ := dk_of I.hok ha
  obtain ⟨z2, hd2, ws2, rel2, dd2⟩ := dk_of I.hok hb
  have l1 := rel.length
  have l2 := rel2.length
  refine call_meetsIn PySem.F.slot_dict_update dd.typeIs PySem.F.entry_dict_update (PySem.F.args_dict_update_2 _ _) (meets_dict_update (mixKind X.prog X.w) a b hab hd2) ⟨ws, ws2, dd, dd2, Nat.le_trans (by rw [← l1, ← l2]; exact hl) (by decide), fun h' dd' _ hs => ?_⟩
  have he : ∃ q, h'.get? a = some q := let ⟨q, _, _, hq, _⟩ := dd'; ⟨q, hq⟩
  have hm := KV.merge rel2 rel
  have lm : (mergeK kvs more).length ≤ sizeLine := by
    rw [hm.length]
    have := merged_length_le ws ws2
    exact Nat.le_trans (Nat.le_trans this (by rw [← l1, ← l2]; exact hl)) (by decide)
  exact ⟨.non, _, d_write (t' := s.toks) I (by rw [ha]; exact True.intro) hs he (dk_new lm hd hm dd'), rfl, q⟩
end
end Kz
set_option Elab.async false
set_option linter.all false
set_option maxRecDepth 100000
/-! ZCv6: tuple(xs) with its object known; dict(t) of such a tuple of pairs. -/
namespace Kz
open PySem PySem.Spec PyProof.Rows L2
section
variable {X : Cx}
def rTupF (K : PySem.W.Frag) : List V → Hp → VK → Prop := fun vs H Q => ∃ p ys, vs = [.ref p] ∧ SqL K H p ys ∧ ∀ l H', H l = none → Fr [] H H' → TnO H' l ys → Q (.ref l) H'
theorem call_tupF : CallR X (.type "tuple") (rTupF X.K) := by
  intro pins s σ H xs us Q I r h
  obtain ⟨p, ys, rfl, hq, q⟩ := h
  obtain ⟨u, rfl, rx⟩ := vals1 r
  cases rx
  obtain ⟨its, r', pl, hz⟩ := I.list hq
  have hlen := r'.length
  refine call_tuple_list pl.isList (fun h' kp => ?_) (by simp only [List.size_toArray] <;> omega)
  have I1 : Inv X pins σ H { s with heap := h' } := I.kept (t' := s.toks) kp
  have hn : H h'.objs.size = none := I1.hok.fresh (Nat.le_refl _)
  have I2 : Inv X pins σ (upd H h'.objs.size (.frz { cls := .type "tuple", data := .seq its.toArray } (.tup ys))) { s with heap := h'.push { cls := .type "tuple", data := .seq its.toArray } } :=
    I1.laid (t' := s.toks) (fun b o e => Heap.get?_push_of_some _ e) (Nat.le_refl _) (show ObjOk X.prog X.w _ _ _ (.frz _ (.tup ys)) from ⟨Heap.get?_push_size _ rfl, hz, its, r', IsTup.new _ _⟩)
  exact ⟨.ref h'.objs.size, _, I2, rfl, q _ _ hn (Fr.refl.new hn) ⟨_, upd_same, rfl, rfl⟩⟩
/-- the pairs, the keys as values -/
theorem pairs_of2 {pins : List (Addr × Obj)} {σ : L2.St} {H : Hp} {s : Shared} (I : Inv X pins σ H s) : ∀ {ps : List Addr} {kvs : List (Key × V)}, Paired (fun p kv => SqT X.K H p [kV kv.1, kv.2]) ps kvs →
    ∃ (prs : List (Key × Value)) (pvs : List (Value × Value)), KV kvs prs ∧ prs.length = ps.length ∧ pvs.length = ps.length ∧ ∀ (j : Nat) (k v : Value), pvs[j]? = some (k, v) → ∃ (b : Addr) (key : Key), ps[j]? = some b ∧ s.heap.IsTuple b #[k, v] ∧ prs[j]? = some (key, v) ∧ (mixKind X.prog X.w).is key k = true
  | _, _, .nil => ⟨[], [], .nil, rfl, rfl, fun j k v e => by simp at e⟩
  | _, _, .cons (a := p) (b := kv) h t => by
    obtain ⟨prs, pvs, r, hl, hl2, hp⟩ := pairs_of2 I t
    obtain ⟨its, rv, ht, _⟩ := I.tuple h
    obtain ⟨u, y, ei, ru, ry⟩ := vals2 rv
    subst ei
    refine ⟨(kv.1, y) :: prs, (u, y) :: pvs, .cons ⟨rfl, ry⟩ r, by simp [hl], by simp [hl2], fun j k v e => ?_⟩
    cases j with
    | zero =>
      have e : (u, y) = (k, v) := by simpa using e
      cases e
      exact ⟨p, kv.1, rfl, ht, rfl, kV_is ru⟩
    | succ j =>
      obtain ⟨b, key, e1, e2, e3, e4⟩ := hp j k v (by simpa using e)
      exact ⟨b, key, by simpa using e1, e2, by simpa using e3, e4⟩
/-- dict(t) of a tuple of pairs -/
def rDictT (K : PySem.W.Frag) : List V → Hp → VK → Prop := fun vs H Q => ∃ (a : Addr) (ps : List Addr) (kvs : List (Key × V)), vs = [.ref a] ∧ TnO H a (ps.map V.ref) ∧ Paired (fun p kv => SqT K H p [kV kv.1, kv.2]) ps kvs ∧ ∀ p H', H p = none → Fr [] H H' → H' p = some (.dK (mergeK [] kvs)) → Q (.ref p) H'
theorem call_dictPT (hcalm : X.calm = true) : CallR X (.type "dict") (rDictT X.K) := by
  intro pins s σ H xs us Q I r h
  obtain ⟨a, ps, kvs, rfl, ⟨o, ha, hc, hd⟩, hp, q⟩ := h
  obtain ⟨u, rfl, rx⟩ := vals1 r
  cases rx
  obtain ⟨hg, hz, its, rv, ⟨o', ho', _, n, hdat⟩⟩ := I.hok a _ ha
  rw [hg] at ho'
  cases ho'
  have ei := refs_at rv
  subst ei
  rw [List.length_map] at hz
  obtain ⟨prs, pvs, rel, hl, hl2, hpr⟩ := pairs_of2 I hp
  refine PySem.call_dict_pairs (knd := mixKind X.prog X.w) (kvs := prs) (PairArg.tuple a (ps.map Value.ref).toArray (fun j => ps.getD j 0) pvs) (I.ok.hd hcalm) ⟨⟨o, n, hg, hc, hd, hdat⟩, by simp [hl2], fun j k v e => ?_⟩ ⟨by rw [hl, hl2], fun i key v e => ?_⟩ (by rw [hl2]; exact hz) fun h' tk hd' k => ?_
  · obtain ⟨b, key, e1, e2, _, _⟩ := hpr j k v e
    have eb : ps.getD j 0 = b := by rw [List.getD_eq_getElem?_getD, e1]; rfl
    exact ⟨by simp [e1], .inl (by show s.heap.IsTuple (ps.getD j 0) #[k, v]; rw [eb]; exact e2)⟩
  · obtain ⟨b, key2, _, _, e3, e4⟩ := hpr i key v e
    exact ⟨key2, e3, e4⟩
  · have hm : (s.heap.objs.size == sysModules) = false := beq_eq_false_iff_ne.mpr (Nat.ne_of_gt I.big)
    have hlen : (mergeK [] kvs).length ≤ sizeLine := by
      refine Nat.le_trans (length_mergeK kvs []) ?_
      rw [List.length_nil, Nat.zero_add, rel.length, hl]
      exact hz
    have hn : H s.heap.objs.size = none := I.hok.fresh (Nat.le_refl _)
    exact ⟨.ref s.heap.objs.size, upd H s.heap.objs.size (.dK (mergeK [] kvs)), I.laid (t' := tk) (fun b o e => k b o (fun z => nomatch z) e) (Nat.le_refl _) (show ObjOk X.prog X.w _ _ _ (.dK (mergeK [] kvs)) from ⟨hlen, hm, merged [] prs, KV.merge rel .nil, hd'⟩), rfl, q _ _ hn (Fr.refl.new hn) upd_same⟩
end
end Kz
set_option Elab.async false
set_option linter.all false
set_option maxRecDepth 100000
set_option maxHeartbeats 4000000
/-! ZPg: programs, plainly. -/
namespace Kz
open PySem
def envL : List (Str × List Sm) → Env'
  | [] => fun _ => none
  | h :: r => fun f => if f = h.1 then some h.2 else envL r f
theorem envL_envH : ∀ hs : List Hl, envL (hs.map fun h => (h.name, h.body)) = envH hs
  | [] => rfl
  | h :: r => by
    funext f
    show (if f = h.name then some h.body else envL (r.map fun h => (h.name, h.body)) f) = if f = h.name then some h.body else envH r f
    rw [envL_envH r]
abbrev plP (P : Prg) : Pl := plL (plS (envL P.helpers) NN) P.body
/-- from the beginning, all cells 0: behind it in t steps -/
def Start (t : Nat) (p : Pl) : Prop := ∀ (rows : List Rw) (bh m : Nat), Has rows 0 (p.lay 0 bh) → (∀ c, Vok c → Hal rows m bh c) → Hal rows (m + t) (p.ent 0 bh) fun _ => 0
theorem vok0 : Vok fun _ => 0 := fun _ => ⟨Int.le_refl 0, (by decide : (0 : Int) < WD)⟩
theorem Start.fit {t : Nat} {p : Pl} (h : Fit (fun _ => False) t p) : Start t p := fun rows bh m hs q => h rows 0 bh _ m hs vok0 fun c v _ => q c v
theorem Start.mono {t t' : Nat} {p : Pl} (h : Start t p) (l : t ≤ t') : Start t' p := fun rows bh m hs q => (h rows bh m hs q).mono (by omega)
theorem Start.app {t d : Nat} {p q : Pl} (hp : Start t p) (hq : Fit (fun _ => False) d q) : Start (t + d) (p.app q) := fun rows bh m hs k => by
  rw [Pl.lay_app] at hs
  obtain ⟨h1, h2⟩ := hs.app
  rw [Pl.lay_len] at h2
  rw [Pl.ent_app, show m + (t + d) = (m + d) + t by omega]
  exact hp rows _ (m + d) h1 fun c v => hq rows _ bh c m h2 v fun c' v' _ => k c' v'
theorem Start.wh {d : Nat} {x : Str} {b q : Pl} (hq : Fit (fun _ => False) d q) : Start (1 + d) (.wh (.cell x) b q) := fun rows bh m hs k => by
  rw [Pl.lay_wh] at hs
  obtain ⟨h0, h1⟩ := hs.cons
  rw [ent_wh, show m + (1 + d) = (m + d) + 1 by omega]
  refine hal_ite h0 ?_
  rw [if_neg (show ¬ (Tm.cell x).worth (fun _ => 0) ≠ 0 from fun z => z rfl)]
  have h2 := h1.app.2
  rw [Pl.lay_len] at h2
  exact hq rows _ bh _ m h2 vok0 fun c v _ => k c v
/-- a program that is drawn -/
structure PgOk (ws : List Str) (P : Prg) (t s : Nat) : Prop where
  g1 : 1 ≤ P.gauges.length
  g2 : P.gauges.length ≤ 4
  gw : ∀ g ∈ P.gauges, g ∈ ws
  hn : (P.helpers.map (·.1)).Nodup
  hl : P.helpers.length ≤ 3
  hw : ∀ h ∈ P.helpers, h.1 ∈ ws
  hb : ∀ h ∈ P.helpers, ∀ s ∈ h.2, Wf (· ∈ ws) (· ∈ P.gauges) (envL P.helpers) 9 s
  bw : ∀ s ∈ P.body, Wf (· ∈ ws) (· ∈ P.gauges) (envL P.helpers) 12 s
  st : Start t (plP P)
  sz : (plP P).size ≤ s
  bl : P.body.length ≤ 41 + (t - 217)
  ne : ∀ h ∈ P.helpers, h.2 ≠ []
  hs : ∀ h ∈ P.helpers, (plL (plS (envL P.helpers) NN) h.2).size ≤ 20
end Kz
set_option Elab.async false
set_option linter.all false
set_option maxRecDepth 100000
set_option maxHeartbeats 4000000
set_option pp.maxSteps 3000
/-! ZWc: a program is drawn. -/
namespace Kz
open PySem PySem.Spec PyProof.Rows L2
theorem putK_new {kvs : List (Key × V)} {k : Key} {v : V} (h : k ∉ kvs.map (·.1)) : putK kvs k v = kvs ++ [(k, v)] := by
  unfold putK
  rw [if_neg]
  intro z
  obtain ⟨p, hp, e⟩ := List.any_eq_true.mp z
  exact h (List.mem_map.mpr ⟨p, hp, of_decide_eq_true e⟩)
theorem mergeK_new : ∀ {more kvs : List (Key × V)}, ((kvs ++ more).map (·.1)).Nodup → mergeK kvs more = kvs ++ more
  | [], kvs, _ => (List.append_nil kvs).symm
  | p :: r, kvs, h => by
    show mergeK (putK kvs p.1 p.2) r = kvs ++ p :: r
    have h1 : p.1 ∉ kvs.map (·.1) := fun z => by
      rw [List.map_append] at h
      exact (List.nodup_append.mp h).2.2 _ z p.1 (by rw [List.map_cons]; exact List.mem_cons_self) rfl
    rw [putK_new h1, mergeK_new (by rw [List.append_assoc]; exact h), List.append_assoc]
    rfl
theorem val_at {kvs : List (Key × V)} {i : Nat} {k : Key} {v : V} (h : (kvs.map (·.1)).Nodup) (e : kvs[i]? = some (k, v)) : valV kvs k = some v := by
  induction kvs generalizing i with
  | nil => simp at e
  | cons p r ih =>
    rw [List.map_cons, List.nodup_cons] at h
    cases i with
    | zero =>
      have e : p = (k, v) := by simpa using e
      rw [e]
      exact valV_pos rfl
    | succ i =>
      have e : r[i]? = some (k, v) := by simpa using e
      rw [valV_neg (fun z => h.1 (by rw [z]; exact List.mem_map.mpr ⟨(k, v), List.mem_of_getElem? e, rfl⟩))]
      exact ih h.2 e
abbrev key (s : String) : Key := Sum.inr (Str.ofString s)
def wKeys : List Key := [key "cells", key "counters", key "left", key "gauges", key "helpers", key "about", key "heavy", key "age"]
theorem wKeys_nd : wKeys.Nodup := by decide +kernel
theorem cutL_both (ys : List Str) (a b : Nat) (h1 : a ≤ ys.length) (h2 : b ≤ ys.length) : cutL ys (some (a : Int)) (some (b : Int)) = (ys.drop a).take (b - a) := by
  unfold cutL
  rw [HT.sIx_nat, HT.sIx_nat, Nat.min_eq_left h1, Nat.min_eq_left h2]
def spProgram : Sp := fun vs H Q _ => ∃ (f : Addr) (fl : Fl) (room : Int), vs = [.ref f, .int room] ∧ FlAt H f fl ∧ 1 ≤ room ∧ room ≤ 24 ∧
  ∀ p H' fl' Pg, FlAt H' f fl' → Fr [f] H H' → RPg H' 6 p Pg → PgOk (namesF fl) Pg 217 55 → Q (.ref p) H'
section
variable {P : Program} {w : World} {K : PySem.W.Frag} {mg : Str → Option Value} {base : Heap}
theorem ok_program (T : Tp K mg) : Fx P w K mg base 23 "_law_program" ["_law_flow_here", "_law_room_here"] spProgram := by
  have F_l_draw : Fx P w K mg base 1 "_law_draw" ["_law_flow_here", "_law_many"] spDrawC := ok_drawC T
  have F_l_small : Fx P w K mg base 14 "_law_small" pFwd3 spSmall := ok_small T
  have F_l_names : Fx P w K mg base 2 "_law_names" ["_law_flow_here", "_law_many"] spNames := ok_names T
  have F_l_helpers : Fx P w K mg base 15 "_law_helpers" ["_law_flow_here", "_law_world", "_law_words"] spHelpers := ok_helpers T
  have F_l_body : Fx P w K mg base 22 "_law_body" pFwd4 (spBody 0) := ok_body0 T
  refine fx_of T 38 29 rfl rfl sc_l_program (fun _ _ _ _ _ _ us hl => match us, hl with | [_, _], _ => rfl) (fun vs H Q E h => ?_) (fun f cdv A outer s H vs Q E hr h => ?_)
  · obtain ⟨f, fl, room, rfl, _⟩ := h
    rfl
  · obtain ⟨f, fl, room, rfl, hf, r1, r24, q⟩ := h
    have hu := hu_of hr
    refine ⟨_, (pss_cons (ps_set (i := 2) sc_l_program.nd rfl (Or.inl rfl) (pe_F F_l_names (hr.mono (by omega)) (by rfl) (pa_cons (pv 0) (pa_cons pe_int pa_nil))))
    (pss_cons (ps_set (i := 3) sc_l_program.nd rfl (Or.inl rfl) (pe_disp (pps_cons pe_str (pe_slice sl_lstC (pv 2) po_none (po_some (pe_op op_add pe_int (pe_F F_l_draw (hr.mono (by omega)) (by rfl) (pa_cons (pv 0) (pa_cons pe_int pa_nil)))))) (pps_cons pe_str (pe_slice sl_lstC (pv 2) (po_some pe_int) (po_some pe_int)) (pps_cons pe_str (pv 1) pps_nil))) (by rfl) (by rfl) (fun z => by cases z) (by decide)))
    (pss_cons (ps_set (i := 4) sc_l_program.nd rfl (Or.inl rfl) (pe_ix ix_list (pe_lstC (pa_cons pe_int (pa_cons pe_int pa_nil))) (pe_callTy call_int1 (by rfl) T.n_int (by decide +kernel) (pa_cons (pe_cmpR op_eq (pe_F F_l_draw (hr.mono (by omega)) (by rfl) (pa_cons (pv 0) (pa_cons pe_int pa_nil))) pe_int (nomark _)) pa_nil)) (fun _ _ => rfl)))
    (pss_cons (ps_dput hu (pv 3) pe_str (pe_slice sl_lstC (pv 2) (po_some (pv 4)) (po_some (pe_op op_add (pe_op op_add (pv 4) pe_int) (pe_F F_l_draw (hr.mono (by omega)) (by rfl) (pa_cons (pv 0) (pa_cons pe_int pa_nil)))))) rfl)
    (pss_cons (ps_expr (pe_bm PySem.F.plainAttrs_dict PySem.F.slot_dict_update PySem.F.type_dict_update mtd_update (pv 3) (pa_cons (pe_disp (pps_cons pe_str (pe_lstC pa_nil) (pps_cons pe_str (pe_dnC pe_dnewK) (pps_cons pe_str pe_int (pps_cons pe_str (pe_callB (call_min2 rfl) (by rfl) T.n_min (by decide +kernel) (pa_cons pe_int (pa_cons (pe_op op_add pe_int (pe_op op_mul pe_int (pv 1))) pa_nil))) pps_nil)))) (by rfl) (by rfl) (fun z => by cases z) (by decide)) pa_nil)))
    (pss_cons (ps_expr (pe_F F_l_helpers (hr.mono (by omega)) (by rfl) (pa_cons (pv 0) (pa_cons (pv 3) (pa_cons (pe_slice sl_lstC (pv 2) (po_some (pe_op op_add (pv 4) pe_int)) (po_some (pe_op op_add (pv 4) pe_int))) pa_nil)))))
    (pss_cons (ps_asg (pe_tupC (pa_cons (pv 1) (pa_cons pe_int pa_nil))) (pg_tup rfl (pgs_cons (pg_sub (pv 3) pe_str (set_dK hu)) (pgs_cons (pg_sub (pv 3) pe_str (set_dK hu)) pgs_nil))))
    (pss_cons (ps_set (i := 5) sc_l_program.nd rfl (Or.inl rfl) (pe_tupC pa_nil))
    (pss_cons (ps_if (pt_cmpR op_eq (pe_F F_l_draw (hr.mono (by omega)) (by rfl) (pa_cons (pv 0) (pa_cons pe_int pa_nil))) pe_int (nomark _)) (pss_cons (ps_set (i := 6) sc_l_program.nd rfl (Or.inl rfl) (pe_op op_repC (pe_F F_l_small (hr.mono (by omega)) (by rfl) (pa_cons (pv 0) (pa_cons (pv 3) (pa_cons (pe_dnC pe_dnewK) pa_nil)))) (pe_F F_l_draw (hr.mono (by omega)) (by rfl) (pa_cons (pv 0) (pa_cons pe_int pa_nil)))))
      (pss_one (ps_set (i := 5) sc_l_program.nd rfl (Or.inl rfl) (pe_tupC (pa_cons (pe_tupC (pa_cons pe_str (pa_cons (pe_tupC (pa_cons pe_str (pa_cons (pe_ix ix_list (pe_dget hu (pv 3) pe_str (fun _ _ => rfl)) pe_int (fun _ _ => rfl)) pa_nil))) (pa_cons (pe_callTy call_tupC (by rfl) T.n_tuple (by decide +kernel) (pa_cons (pv 6) pa_nil)) pa_nil)))) pa_nil)))))
     pss_nil)
    (pss_one (ps_ret (pe_tupC (pa_cons (pe_callTy call_tupC (by rfl) T.n_tuple (by decide +kernel) (pa_cons (pe_dget hu (pv 3) pe_str (fun _ _ => rfl)) pa_nil)) (pa_cons (pe_callTy call_tupF (by rfl) T.n_tuple (by decide +kernel) (pa_cons (pe_dget hu (pv 3) pe_str (fun _ _ => rfl)) pa_nil)) (pa_cons (pe_op op_catC (pv 5) (pe_F F_l_body (hr.mono (by omega)) (by rfl) (pa_cons (pv 0) (pa_cons (pv 3) (pa_cons (pe_dnC pe_dnewK) (pa_cons pe_int pa_nil)))))) pa_nil))))))))))))))), ?_⟩
    have wl := namesF_len fl
    have wnd := namesF_nd fl
    have nnil : ∀ {a : Addr}, a ∉ ([] : List Addr) := fun z => nomatch z
    -- the words
    refine ⟨_, rfl, f, fl, rfl, hf, fun pw H1 fl1 h1 x1 n1 e1 => ?_⟩
    generalize hws : namesF fl = ws at wl wnd e1 q
    have nwf : pw ≠ f := (ne_of_none hf.at_ n1).symm
    -- the world
    refine fun w nw => ?_
    have h2 : FlAt (upd H1 w (.dK [])) f fl1 := h1.new nw
    have x2 : Fr [f] H (upd H1 w (.dK [])) := x1.new nw
    have ew2 : upd H1 w (.dK []) w = some (.dK []) := upd_same
    have e2 : upd H1 w (.dK []) pw = some (.lst (ws.map V.str)) := by rw [upd_ne (ne_of_none e1 nw)]; exact e1
    have bw : H w = none := x1.back _ nw
    have nfw : w ≠ f := (ne_of_none h1.at_ nw).symm
    clear h1 x1 e1 n1 nw
    generalize upd H1 w (.dK []) = H2 at h2 x2 ew2 e2 ⊢
    refine ⟨_, rfl, _, rfl, f, fl1, 4, rfl, h2, by decide, by decide, fun d4 H3 fl3 d0 d1 h3 x3 => ⟨_, _, rfl, rfl, _, rfl, pw, _, rfl, x3.keep _ _ (fun z => nwf (List.mem_singleton.mp z)) e2, fun pC H4 nC x4 eC => ?_⟩⟩
    obtain ⟨dn, rfl⟩ : ∃ n : Nat, d4 = (n : Int) := ⟨d4.toNat, by omega⟩
    have e4 := x4.keep _ _ nnil (x3.keep _ _ (fun z => nwf (List.mem_singleton.mp z)) e2)
    refine ⟨_, rfl, _, rfl, _, rfl, pw, _, rfl, e4, fun pK H5 nK x5 eK => ?_⟩
    have x25 : Fr [f] H2 H5 := x3.trans ((x4.trans x5).mono fun _ z => nomatch z)
    have ew5 : H5 w = some (.dK []) := x25.keep _ _ (fun z => nfw (List.mem_singleton.mp z)) ew2
    have eC5 := x5.keep _ _ nnil eC
    have e5 := x5.keep _ _ nnil e4
    have h5 := h3.keep (x4.trans x5) nnil
    rw [cut_map] at eC5 eK
    have ecl : cutL ws none (some (2 + (dn : Int))) = ws.take (2 + dn) := by
      rw [show (2 + (dn : Int)) = ((2 + dn : Nat) : Int) by omega, cutL_to]
    have ekl : cutL ws (some 6) (some 9) = (ws.drop 6).take 3 := by
      have := cutL_both ws 6 9 (by omega) (by omega)
      exact this
    rw [ecl] at eC5
    rw [ekl] at eK
    have nCw : pC ≠ w := (ne_of_none (x3.keep _ _ (fun z => nfw (List.mem_singleton.mp z)) ew2) nC).symm
    have nKw : pK ≠ w := (ne_of_none (x4.keep _ _ nnil (x3.keep _ _ (fun z => nfw (List.mem_singleton.mp z)) ew2)) nK).symm
    have nCf : pC ≠ f := (ne_of_none h3.at_ nC).symm
    have nKf : pK ≠ f := (ne_of_none (h3.keep x4 nnil).at_ nK).symm
    refine ⟨_, rfl, ew5, [(key "cells", .ref pC), (key "counters", .ref pK), (key "left", .int room)], rfl, (by decide : 3 ≤ 15), ?_⟩
    have em : mergeK [] [(key "cells", V.ref pC), (key "counters", .ref pK), (key "left", .int room)] = [(key "cells", V.ref pC), (key "counters", .ref pK), (key "left", .int room)] :=
      mergeK_new (kvs := []) (show [key "cells", key "counters", key "left"].Nodup by decide +kernel)
    rw [em]
    have x5' : Fr [f] H H5 := x2.trans x25
    have h6 : FlAt (upd H5 w (.dK [(key "cells", .ref pC), (key "counters", .ref pK), (key "left", .int room)])) f fl3 := ⟨by rw [upd_ne (Ne.symm nfw)]; exact h5.at_, h5.ok⟩
    have x6 : Fr [f] H (upd H5 w (.dK [(key "cells", .ref pC), (key "counters", .ref pK), (key "left", .int room)])) := x5'.own bw ew5
    have y6 : Fr [w] H5 (upd H5 w (.dK [(key "cells", .ref pC), (key "counters", .ref pK), (key "left", .int room)])) := Fr.refl.mutD (.head _) ew5
    have nw1 : ∀ {a : Addr}, a ≠ w → a ∉ [w] := fun h z => h (List.mem_singleton.mp z)
    have nf1 : ∀ {a : Addr}, a ≠ f → a ∉ [f] := fun h z => h (List.mem_singleton.mp z)
    have npw : pw ≠ w := ne_of e2 ew2 (by intro z; cases z)
    have e6 := y6.keep _ _ (nw1 npw) e5
    have eC6 := y6.keep _ _ (nw1 nCw) eC5
    have eK6 := y6.keep _ _ (nw1 nKw) eK
    have ew6 : upd H5 w (.dK [(key "cells", .ref pC), (key "counters", .ref pK), (key "left", .int room)]) w = some (.dK [(key "cells", .ref pC), (key "counters", .ref pK), (key "left", .int room)]) := upd_same
    clear x2 x3 x4 x5 x25 h2 h3 h5 e2 ew2 e4 e5 eC eK eC5 ew5 nC nK x5' y6 em
    generalize upd H5 w (.dK [(key "cells", .ref pC), (key "counters", .ref pK), (key "left", .int room)]) = H6 at h6 x6 e6 eC6 eK6 ew6 ⊢
    -- the gauges
    refine ⟨sz2, fun l2 H7 n7 x7 e7 => ⟨_, rfl, f, fl3, 4, rfl, h6.keep x7 nnil, by decide, by decide, fun d8 H8 fl8 d80 d81 h8 x8 => ⟨rfl, .inr ⟨_, rfl, ?_⟩⟩⟩⟩
    have e7' := x8.keep _ _ (nf1 (ne_of_none h6.at_ n7).symm) e7
    obtain ⟨sh, hsh, ash⟩ : ∃ sh : Nat, sh ≤ 9 ∧ atI [V.int 9, V.int 0] (if decide (V.int d8 = V.int 0) = true then 1 else 0) = some (.int (sh : Int)) := by
      by_cases c : V.int d8 = V.int 0
      · exact ⟨0, by decide, by rw [decide_eq_true c, if_pos rfl, at1]; rfl⟩
      · exact ⟨9, by decide, by rw [decide_eq_false c, if_neg (by decide), at0]; rfl⟩
    refine ⟨l2, _, _, _, rfl, rfl, SqL.of e7', ash, ?_⟩
    have e8 := x8.keep _ _ (nf1 nwf) (x7.keep _ _ nnil e6)
    refine ⟨_, rfl, _, rfl, _, rfl, _, rfl, _, _, rfl, rfl, _, rfl, f, fl8, 4, rfl, h8, by decide, by decide, fun dg H9 fl9 g0 g1 h9 x9 => ⟨_, _, rfl, rfl, ?_⟩⟩
    obtain ⟨gn, rfl⟩ : ∃ n : Nat, dg = (n : Int) := ⟨dg.toNat, by omega⟩
    refine ⟨_, rfl, pw, _, rfl, x9.keep _ _ (nf1 nwf) e8, fun pG Ha nG xa eG => ?_⟩
    rw [cut_map, show ((sh : Int) + 1 + (gn : Int)) = ((sh + 1 + gn : Nat) : Int) by omega, cutL_both ws sh (sh + 1 + gn) (by omega) (by omega)] at eG
    have y6a : Fr [f] H6 Ha := ((x7.mono fun _ z => nomatch z).trans x8).trans (x9.trans (xa.mono fun _ z => nomatch z))
    have ha := h9.keep xa nnil
    have xa' : Fr [f] H Ha := x6.trans y6a
    have ewa := y6a.keep _ _ (nf1 nfw) ew6
    have ea := y6a.keep _ _ (nf1 nwf) e6
    have eCa := y6a.keep _ _ (nf1 nCf) eC6
    have eKa := y6a.keep _ _ (nf1 nKf) eK6
    have nGf : pG ≠ f := (ne_of_none h9.at_ nG).symm
    have nGw : pG ≠ w := (ne_of_none (x9.keep _ _ (nf1 nfw) (x8.keep _ _ (nf1 nfw) (x7.keep _ _ nnil ew6))) nG).symm
    clear x7 x8 x9 xa h6 h8 h9 e7 e7' e8 e6 eC6 eK6 ew6 x6 y6a n7 nG ash
    refine ⟨_, rfl, w, _, rfl, DPut.k (k := key "gauges") ewa (show 3 < sizeLine by decide), ?_⟩
    have ek4 : putK [(key "cells", V.ref pC), (key "counters", .ref pK), (key "left", .int room)] (key "gauges") (.ref pG) = [(key "cells", V.ref pC), (key "counters", .ref pK), (key "left", .int room), (key "gauges", .ref pG)] :=
      putK_new (show key "gauges" ∉ [key "cells", key "counters", key "left"] from (List.nodup_cons.mp (show [key "gauges", key "cells", key "counters", key "left"].Nodup by decide +kernel)).1)
    rw [ek4]
    have yb : Fr [w] Ha (upd Ha w (.dK [(key "cells", V.ref pC), (key "counters", .ref pK), (key "left", .int room), (key "gauges", .ref pG)])) := Fr.refl.mutD (.head _) ewa
    have hb : FlAt (upd Ha w (.dK [(key "cells", V.ref pC), (key "counters", .ref pK), (key "left", .int room), (key "gauges", .ref pG)])) f fl9 := ha.keep yb (nw1 (Ne.symm nfw))
    have xb : Fr [f] H (upd Ha w (.dK [(key "cells", V.ref pC), (key "counters", .ref pK), (key "left", .int room), (key "gauges", .ref pG)])) := xa'.own bw ewa
    have ewb : upd Ha w (.dK [(key "cells", V.ref pC), (key "counters", .ref pK), (key "left", .int room), (key "gauges", .ref pG)]) w = some (.dK [(key "cells", V.ref pC), (key "counters", .ref pK), (key "left", .int room), (key "gauges", .ref pG)]) := upd_same
    have eb := yb.keep _ _ (nw1 npw) ea
    have eCb := yb.keep _ _ (nw1 nCw) eCa
    have eKb := yb.keep _ _ (nw1 nKw) eKa
    have eGb := yb.keep _ _ (nw1 nGw) eG
    clear yb ha xa' ewa ea eCa eKa eG ek4
    generalize upd Ha w (.dK [(key "cells", V.ref pC), (key "counters", .ref pK), (key "left", .int room), (key "gauges", .ref pG)]) = Hb at hb xb ewb eb eCb eKb eGb ⊢
    -- what more is of the world
    refine ⟨_, rfl, .inr (.inr (.inl ⟨rfl, .inl ⟨_, ewb⟩⟩)), fun pu nu => ?_⟩
    have yu : Fr [] Hb (upd Hb pu (.dK [])) := Fr.refl.new nu
    refine ⟨Nat.zero_le _, fun pH Hc nH xc eH => fun pA Hd nA xd eA => ⟨_, rfl, _, _, rfl, rfl, .inl ⟨by decide, by decide⟩, _, _, rfl, rfl, _, _, rfl, ?_⟩⟩
    obtain ⟨age, eage, age0, age1⟩ : ∃ age : Int, (if 50 + 5 * room < 200 then 50 + 5 * room else 200) = age ∧ 0 ≤ age ∧ age ≤ 200 := ⟨_, rfl, by split <;> omega, by split <;> omega⟩
    rw [eage]
    have eud : Hd pu = some (.dK []) := xd.keep _ _ nnil (xc.keep _ _ nnil upd_same)
    have ybd : Fr [] Hb Hd := (yu.trans xc).trans xd
    refine ⟨eud, [(key "helpers", .ref pH), (key "about", .ref pA), (key "heavy", .int 0), (key "age", .int age)], rfl, (by decide : 4 ≤ 15), ?_⟩
    have em : mergeK [] [(key "helpers", V.ref pH), (key "about", .ref pA), (key "heavy", .int 0), (key "age", .int age)] = [(key "helpers", V.ref pH), (key "about", .ref pA), (key "heavy", .int 0), (key "age", .int age)] :=
      mergeK_new (kvs := []) (show [key "helpers", key "about", key "heavy", key "age"].Nodup by decide +kernel)
    rw [em]
    have yd : Fr [pu] Hd (upd Hd pu (.dK [(key "helpers", V.ref pH), (key "about", .ref pA), (key "heavy", .int 0), (key "age", .int age)])) := Fr.refl.mutD (.head _) eud
    have nwu : w ≠ pu := ne_of_none ewb nu
    have n1u : ∀ {a : Addr} {o : HO}, Hb a = some o → a ∉ [pu] := fun e z => ne_of_none e nu (List.mem_singleton.mp z)
    have nHu : pH ≠ pu := (ne_of_none upd_same nH).symm
    have nAu : pA ≠ pu := (ne_of_none (xc.keep _ _ nnil upd_same) nA).symm
    have nHA : pH ≠ pA := ne_of_none eH nA
    have ewd := yd.keep _ _ (n1u ewb) (ybd.keep _ _ nnil ewb)
    refine ⟨w, pu, _, _, rfl, rfl, nwu, ewd, upd_same, (show 4 + 4 ≤ 1000 by decide), ?_⟩
    have em2 : mergeK [(key "cells", V.ref pC), (key "counters", .ref pK), (key "left", .int room), (key "gauges", .ref pG)] [(key "helpers", V.ref pH), (key "about", .ref pA), (key "heavy", .int 0), (key "age", .int age)] =
      [(key "cells", V.ref pC), (key "counters", .ref pK), (key "left", .int room), (key "gauges", .ref pG), (key "helpers", V.ref pH), (key "about", .ref pA), (key "heavy", .int 0), (key "age", .int age)] := mergeK_new wKeys_nd
    rw [em2]
    have ye : Fr [w] (upd Hd pu (.dK [(key "helpers", V.ref pH), (key "about", .ref pA), (key "heavy", .int 0), (key "age", .int age)])) (upd (upd Hd pu (.dK [(key "helpers", V.ref pH), (key "about", .ref pA), (key "heavy", .int 0), (key "age", .int age)])) w (.dK [(key "cells", V.ref pC), (key "counters", .ref pK), (key "left", .int room), (key "gauges", .ref pG), (key "helpers", V.ref pH), (key "about", .ref pA), (key "heavy", .int 0), (key "age", .int age)])) := Fr.refl.mutD (.head _) ewd
    have kp : ∀ {a : Addr} {o : HO}, a ≠ w → a ≠ pu → Hd a = some o → (upd (upd Hd pu (.dK [(key "helpers", V.ref pH), (key "about", .ref pA), (key "heavy", .int 0), (key "age", .int age)])) w (.dK [(key "cells", V.ref pC), (key "counters", .ref pK), (key "left", .int room), (key "gauges", .ref pG), (key "helpers", V.ref pH), (key "about", .ref pA), (key "heavy", .int 0), (key "age", .int age)])) a = some o := fun h1 h2 e => ye.keep _ _ (nw1 h1) (yd.keep _ _ (fun z => h2 (List.mem_singleton.mp z)) e)
    have nu1 : ∀ {a : Addr} {o : HO}, Hb a = some o → a ≠ pu := fun e => ne_of_none e nu
    have nHw : pH ≠ w := (ne_of_none (yu.keep _ _ nnil ewb) nH).symm
    have nAw : pA ≠ w := (ne_of_none (xc.keep _ _ nnil (yu.keep _ _ nnil ewb)) nA).symm
    have nHf : pH ≠ f := (ne_of_none (hb.keep yu nnil).at_ nH).symm
    have nAf : pA ≠ f := (ne_of_none ((hb.keep yu nnil).keep xc nnil).at_ nA).symm
    have he : FlAt _ f fl9 := ((hb.keep ybd nnil).keep yd (n1u hb.at_)).keep ye (nw1 (Ne.symm nfw))
    have xe : Fr [f] H (upd (upd Hd pu (.dK [(key "helpers", V.ref pH), (key "about", .ref pA), (key "heavy", .int 0), (key "age", .int age)])) w (.dK [(key "cells", V.ref pC), (key "counters", .ref pK), (key "left", .int room), (key "gauges", .ref pG), (key "helpers", V.ref pH), (key "about", .ref pA), (key "heavy", .int 0), (key "age", .int age)])) :=
      ((xb.trans (ybd.mono fun _ z => nomatch z)).own (xb.back _ nu) eud).own bw ewd
    have eCe := kp nCw (nu1 eCb) (ybd.keep _ _ nnil eCb)
    have eKe := kp nKw (nu1 eKb) (ybd.keep _ _ nnil eKb)
    have eGe := kp nGw (nu1 eGb) (ybd.keep _ _ nnil eGb)
    have ee := kp npw (nu1 eb) (ybd.keep _ _ nnil eb)
    have eHe := kp nHw nHu (xd.keep _ _ nnil eH)
    have eAe := kp nAw nAu eA
    have ewe : (upd (upd Hd pu (.dK [(key "helpers", V.ref pH), (key "about", .ref pA), (key "heavy", .int 0), (key "age", .int age)])) w (.dK [(key "cells", V.ref pC), (key "counters", .ref pK), (key "left", .int room), (key "gauges", .ref pG), (key "helpers", V.ref pH), (key "about", .ref pA), (key "heavy", .int 0), (key "age", .int age)])) w = some (.dK [(key "cells", V.ref pC), (key "counters", .ref pK), (key "left", .int room), (key "gauges", .ref pG), (key "helpers", V.ref pH), (key "about", .ref pA), (key "heavy", .int 0), (key "age", .int age)]) := upd_same
    have nHC : pH ≠ pC := (ne_of_none (yu.keep _ _ nnil eCb) nH).symm
    have nHK : pH ≠ pK := (ne_of_none (yu.keep _ _ nnil eKb) nH).symm
    have nHG : pH ≠ pG := (ne_of_none (yu.keep _ _ nnil eGb) nH).symm
    have bpH : H pH = none := (xb.trans (yu.mono fun _ z => nomatch z)).back _ nH
    have bpA : H pA = none := ((xb.trans (yu.mono fun _ z => nomatch z)).trans (xc.mono fun _ z => nomatch z)).back _ nA
    clear em em2 ye kp yd yu ybd xc xd xb hb eb eCb eKb eGb ewb nu eud ewd eH eA nH nA n1u nu1 nHu nAu
    generalize (upd (upd Hd pu (.dK [(key "helpers", V.ref pH), (key "about", .ref pA), (key "heavy", .int 0), (key "age", .int age)])) w (.dK [(key "cells", V.ref pC), (key "counters", .ref pK), (key "left", .int room), (key "gauges", .ref pG), (key "helpers", V.ref pH), (key "about", .ref pA), (key "heavy", .int 0), (key "age", .int age)])) = He at he xe eCe eKe eGe ee eHe eAe ewe ⊢
    obtain ⟨W, hW⟩ : ∃ W : Wd, W = ⟨pC, pK, pG, pH, pA, ws.take (2 + dn), (ws.drop 6).take 3, (ws.drop sh).take (sh + 1 + gn - sh), [], age⟩ := ⟨_, rfl⟩
    have gw : Gw He f w fl9 W room 0 := by
      subst hW
      refine ⟨he, ⟨eCe, eKe, eGe, ⟨[], eHe, .nil⟩, ⟨[], eAe, Nat.zero_le _, fun _ h => absurd h List.not_mem_nil⟩⟩, ⟨_, ewe, (by decide : 8 ≤ 8), val_at (i := 0) wKeys_nd rfl, val_at (i := 1) wKeys_nd rfl, val_at (i := 3) wKeys_nd rfl, val_at (i := 4) wKeys_nd rfl, val_at (i := 5) wKeys_nd rfl, val_at (i := 2) wKeys_nd rfl, val_at (i := 6) wKeys_nd rfl, val_at (i := 7) wKeys_nd rfl⟩, fun a ha => ?_⟩
      have ha : a ∈ [pC, pK, pG, pH, pA] := ha
      simp only [List.mem_cons, List.not_mem_nil, or_false] at ha
      rcases ha with rfl | rfl | rfl | rfl | rfl
      · exact ⟨nCf, nCw⟩
      · exact ⟨nKf, nKw⟩
      · exact ⟨nGf, nGw⟩
      · exact ⟨nHf, nHw⟩
      · exact ⟨nAf, nAw⟩
    have wo : WOk W := by
      subst hW
      refine ⟨?_, ?_, ?_, ?_, ?_, ?_, age0, age1, Nat.zero_le _⟩
      · show 1 ≤ (ws.take (2 + dn)).length; rw [List.length_take]; omega
      · show (ws.take (2 + dn)).length ≤ 5; rw [List.length_take]; omega
      · show ((ws.drop 6).take 3).length = 3; rw [List.length_take, List.length_drop]; omega
      · show 1 ≤ ((ws.drop sh).take (sh + 1 + gn - sh)).length; rw [List.length_take, List.length_drop]; omega
      · show ((ws.drop sh).take (sh + 1 + gn - sh)).length ≤ 4; rw [List.length_take, List.length_drop]; omega
      · show (ws.take (2 + dn) ++ (ws.drop 6).take 3).Nodup
        refine wnd.sublist ?_
        have e : ws = ws.take 6 ++ ws.drop 6 := (List.take_append_drop 6 ws).symm
        have s1 : (ws.take (2 + dn)).Sublist (ws.take 6) := by
          have : ws.take (2 + dn) = (ws.take 6).take (2 + dn) := by rw [List.take_take, Nat.min_eq_left (by omega)]
          rw [this]
          exact List.take_sublist _ _
        have := s1.append (List.take_sublist 3 (ws.drop 6))
        rwa [← e] at this
    have subC : ∀ x ∈ W.cells, x ∈ ws := by subst hW; exact fun x hx => List.mem_of_mem_take hx
    have subK : ∀ x ∈ W.counters, x ∈ ws := by subst hW; exact fun x hx => List.mem_of_mem_drop (List.mem_of_mem_take hx)
    have subG : ∀ x ∈ W.gauges, x ∈ ws := by subst hW; exact fun x hx => List.mem_of_mem_drop (List.mem_of_mem_take hx)
    have whs : W.hs = [] := by subst hW; rfl
    have wdist : W.aH ≠ W.aC ∧ W.aH ≠ W.aK ∧ W.aH ≠ W.aG := by subst hW; exact ⟨nHC, nHK, nHG⟩
    have eA0 : He W.aA = some (.dK []) := by subst hW; exact eAe
    have nAA : W.aH ≠ f ∧ W.aA ≠ f := ⟨(gw.sep _ (.tail _ (.tail _ (.tail _ (.head _))))).1, (gw.sep _ (.tail _ (.tail _ (.tail _ (.tail _ (.head _)))))).1⟩
    have bAA : H W.aH = none ∧ H W.aA = none := by subst hW; exact ⟨bpH, bpA⟩
    clear hW nCf nCw nKf nKw nGf nGw nHf nHw nAf nAw nHC nHK nHG eCe eKe eGe eHe eAe ewe he bpH bpA
    -- the helpers
    refine ⟨_, rfl, _, rfl, _, rfl, _, rfl, _, _, rfl, rfl, _, rfl, _, rfl, _, _, rfl, rfl, _, rfl, pw, _, rfl, ee, fun wd Hf nwd xf ef => ?_⟩
    rw [cut_map, show ((sh : Int) + 4) = ((sh + 4 : Nat) : Int) by omega, show ((sh : Int) + 7) = ((sh + 7 : Nat) : Int) by omega, cutL_both ws (sh + 4) (sh + 7) (by omega) (by omega)] at ef
    have gf := gw.ext xf
    have awd := gw.apw nwd
    have bA : W.aA ∈ W.addrs := .tail _ (.tail _ (.tail _ (.tail _ (.head _))))
    refine ⟨f, w, wd, fl9, W, room, 0, _, rfl, gf, wo, whs, ef, by rw [List.length_take, List.length_drop]; omega, wnd.sublist ((List.take_sublist _ _).trans (List.drop_sublist _ _)), fun z => awd.n2 (by rw [z]; exact .head _), xf.keep _ _ nnil eA0, wdist, fun Hg flg hs lg vg gg xg wog hog hnm => ?_⟩
    have xhg : Fr [f] H Hg := (xe.trans (xf.mono fun _ z => nomatch z)).step xg fun a h => by
      simp only [List.mem_cons, List.not_mem_nil, or_false] at h ⊢
      rcases h with h | h | h | h
      · exact .inl h
      · exact .inr (by rw [h]; exact bw)
      · exact .inr (by rw [h]; exact bAA.1)
      · exact .inr (by rw [h]; exact bAA.2)
    have hnw : ∀ h ∈ hs, h.name ∈ ws := fun h hh => List.mem_of_mem_drop (List.mem_of_mem_take (hnm h hh))
    clear gw gf xe xf xg ef ee awd eA0 nwd hnm
    -- the room again
    refine ⟨_, rfl, sz2, fun pt Hh nh xh eh => ⟨pt, _, rfl, SqT.of eh, rfl, _, _, rfl, ?_⟩⟩
    have gh := gg.ext xh
    obtain ⟨kv1, hp1, hv1⟩ := gh.wv.setL room
    refine ⟨_, rfl, w, _, rfl, hp1, _, _, rfl, ?_⟩
    have y1 : Fr [w] Hh (upd Hh w (.dK kv1)) := let ⟨_, e⟩ := gh.wv.at_; Fr.refl.mutD (.head _) e
    obtain ⟨kv2, hp2, hv2⟩ := hv1.setY 3
    refine ⟨_, rfl, w, _, rfl, hp2, rfl, ?_⟩
    have y2 : Fr [w] (upd Hh w (.dK kv1)) (upd (upd Hh w (.dK kv1)) w (.dK kv2)) := let ⟨_, e⟩ := hv1.at_; Fr.refl.mutD (.head _) e
    have g2 : Gw (upd (upd Hh w (.dK kv1)) w (.dK kv2)) f w flg (W.with hs) room 3 := by
      have y12 := y1.trans y2
      exact ⟨gh.fl.keep y12 (nw1 (Ne.symm nfw)), gh.ws.mono y12 fun a ha z => (gh.sep a ha).2 (List.mem_singleton.mp z), hv2, gh.sep⟩
    have xh2 : Fr [f] H (upd (upd Hh w (.dK kv1)) w (.dK kv2)) := (xhg.trans (xh.mono fun _ z => nomatch z)).step (y1.trans y2) fun a h => .inr (by rw [List.mem_singleton.mp h]; exact bw)
    clear hp1 hv1 hp2 hv2 y1 y2 gg xh eh gh xhg nh
    generalize upd (upd Hh w (.dK kv1)) w (.dK kv2) = Hi at g2 xh2 ⊢
    -- a while ahead
    refine ⟨Nat.zero_le _, fun p0 Hj nj xj ej => ?_⟩
    have gj := g2.ext xj
    have xj' : Fr [f] H Hj := xh2.trans (xj.mono fun _ z => nomatch z)
    clear g2 xh2 xj nj
    dsimp only [tNext]
    refine seq_cut (fun σ' Hk => ∃ (p5 : Addr) (flk : Fl) (lk vk : Int) (vs : List V) (b : List Sm) (y6 : Option V), σ' = [some (V.ref f), some (V.int room), some (V.ref pw), some (V.ref w), some (V.int (sh : Int)), some (V.ref p5), y6] ∧ Gw Hk f w flk (W.with hs) lk vk ∧ 0 ≤ lk ∧ lk ≤ 24 ∧ Fr [f] H Hk ∧ Hk p5 = some (.tup vs) ∧ vs.length ≤ 1 ∧ RL Hk 1 vs b ∧ (b = [] ∨ ∃ c0 inner, b = [.wh (.cell c0) inner] ∧ c0 ∈ W.cells ∧ Bo (W.with hs) (· ∈ W.counters) 0 1 1 inner)) (fun D' hQ _ _ _ => ?_) (fun σ' Hk hP => ?_)
    · refine ⟨_, rfl, f, flg, 8, rfl, gj.fl, by decide, by decide, fun d8 Hk flk k0 k1 hk xk => ⟨rfl, _, rfl, ite2 (fun _ => ?_) (fun _ => hQ _ _ ⟨p0, flk, room, 3, [], [], _, rfl, gj.flow xk hk, by omega, r24, xj'.trans xk, xk.tups _ _ ej, Nat.zero_le _, .nil, .inl rfl⟩)⟩⟩
      have gk := gj.flow xk hk
      have xk' := xj'.trans xk
      clear gj xk hk ej xj'
      refine ⟨_, rfl, _, rfl, fun nd Hl nn xl el => ?_⟩
      have gl := gk.ext xl
      have and := gk.apw nn
      have bnd : H nd = none := xk'.back _ nn
      refine ⟨f, w, nd, flk, W.with hs, room, 3, [], rfl, gl.dict el (FrOk.nil _) and, wog, fun p u sm Hm flm vm frm gm xm np ep rs wf => ?_⟩
      have xm' : Fr [f] H Hm := (xk'.trans (xl.mono fun _ z => nomatch z)).step xm fun a h => by
        simp only [List.mem_cons, List.not_mem_nil, or_false] at h ⊢
        rcases h with h | h | h
        · exact .inl h
        · exact .inr (by rw [h]; exact bw)
        · exact .inr (by rw [h]; exact bnd)
      have bp : H p = none := (xk'.trans (xl.mono fun _ z => nomatch z)).back _ np
      have npf : p ≠ f := (ne_of_none gl.fl.at_ np).symm
      refine ⟨_, rfl, f, flm, 2, rfl, gm.fl, by decide, by decide, fun k Hn fln k20 k21 hn xn => ?_⟩
      have gn := gm.gw.flow xn hn
      have epn := xn.keep _ _ (nf1 npf) ep
      refine ⟨p, k, _, rfl, rfl, epn, k20, by omega, (show 1 ≤ 1000 by decide), fun p2 Ho n2 xo eo => ?_⟩
      have go := gn.ext xo
      have c1 := wog.c1
      obtain ⟨c0, hc0, ec0⟩ := pickS (W.with hs).cells (d := 0) (by decide) (by omega)
      refine ⟨_, rfl, w, _, rfl, go.wv.gC, W.aC, _, 0, .str c0, rfl, rfl, SqL.of go.ws.cells, ec0, sz2, fun q1 Hp nq1 xp eq1 => ⟨_, rfl, p2, _, rfl, xp.keep _ _ nnil eo, fun t1 Hq nt1 xq et1 => ⟨sz3, fun q2 Hr nq2 xr eq2 => ⟨Kz.sz1, fun q3 Hs nq3 xs eq3 => ?_⟩⟩⟩⟩
      have xos : Fr [] Ho Hs := ((xp.trans xq).trans xr).trans xs
      have xns : Fr [] Hn Hs := xo.trans xos
      have xms : Fr [f] H Hs := (xm'.trans xn).trans (xns.mono fun _ z => nomatch z)
      obtain ⟨b, rb, bb, lb⟩ : ∃ b, RL Hs 0 (List.replicate k.toNat [u]).flatten b ∧ Bo (W.with hs) (· ∈ W.counters) 0 1 1 b ∧ True := by
        have kk : k = 0 ∨ k = 1 := by omega
        rcases kk with rfl | rfl
        · exact ⟨[], .nil, Bo.nil.mono (fun _ z => z) (Nat.le_refl _) (Nat.zero_le _) (Nat.zero_le _), trivial⟩
        · exact ⟨[sm], .cons (rs.mono (xn.tu.trans xns.tu)) .nil, Bo.small wog wf fun _ z => z, trivial⟩
      refine hQ _ _ ⟨q3, fln, room - 1, vm, [.ref q2], [.wh (.cell c0) b], _, rfl, go.ext xos, by omega, by omega, xms, eq3, Nat.le_refl _, ?_, .inr ⟨c0, b, rfl, hc0, bb⟩⟩
      exact .cons ⟨q2, .ref q1, t1, _, rfl, xs.tups _ _ eq2, ⟨q1, rfl, ((xq.trans xr).trans xs).tups _ _ eq1⟩, (xr.trans xs).tups _ _ et1, rb⟩ .nil
    · obtain ⟨p5, flk, lk, vk, vs, b, y6, rfl, gk, l0, l24, xk, ep5, lvs, rlb, hb⟩ := hP
      clear gj xj' ej
      obtain ⟨hv, eh, hp⟩ := gk.ws.helpers
      refine ⟨_, rfl, w, _, rfl, gk.wv.gG, W.aG, _, rfl, gk.ws.gauges, fun tg Hl n1 x1 e1 => ⟨_, rfl, w, _, rfl, (gk.ext x1).wv.gH, W.aH, hv, rfl, SqL.of (x1.keep _ _ nnil eh), fun th Hm n2 x2 e2 => ⟨_, rfl, _, rfl, _, rfl, fun nd Hn n3 x3 e3 => ?_⟩⟩⟩
      have xkn : Fr [] Hk Hn := (x1.trans x2).trans x3
      have gn := gk.ext xkn
      have and := (gk.ext (x1.trans x2)).apw n3
      have bnd : H nd = none := (xk.trans ((x1.trans x2).mono fun _ z => nomatch z)).back _ n3
      refine ⟨f, w, nd, flk, W.with hs, lk, vk, [], rfl, gn.dict e3 (FrOk.nil _) and, wog, hog, l0, fun z => absurd z (by decide), fun pb vb bb sz dd Ho flo lo vo fro go xo no eo lno rlo bo bk => ?_⟩
      have xno : Fr [f] H Ho := (xk.trans (xkn.mono fun _ z => nomatch z)).step xo fun a h => by
        simp only [List.mem_cons, List.not_mem_nil, or_false] at h ⊢
        rcases h with h | h | h
        · exact .inl h
        · exact .inr (by rw [h]; exact bw)
        · exact .inr (by rw [h]; exact bnd)
      have tko : Tu Hk Ho := xkn.tu.trans xo.tu
      refine ⟨p5, pb, vs, vb, rfl, rfl, tko _ _ ep5, eo, small40 (by omega), fun pf Hp xp ep => ⟨sz3, fun pr Hq nq xq eq => ?_⟩⟩
      have toq : Tu Ho Hq := xp.tu.trans xq.tu
      have tkq := tko.trans toq
      have eW : envL (hs.map fun h => (h.name, h.body)) = envW (W.with hs) := envL_envH hs
      have cn : ∀ x, Cn (W.with hs) x → x ∈ ws := fun x h => h.elim (subC x) (subK x)
      have fitb : Fit (fun _ => False) dd (plW (W.with hs) bb) := bo.fit.mono (fun _ z => z.elim) (Nat.le_refl _)
      have kb := bk.b
      have kz := bk.z
      have dd216 : dd ≤ 216 := by
        have e8 : wt 0 = 8 := rfl
        rw [e8] at kb
        omega
      refine q pr Hq flo ⟨W.gauges, hs.map fun h => (h.name, h.body), b ++ bb⟩ ((go.fl.keep xp nnil).keep xq nnil) (xno.trans ((xp.trans xq).mono fun _ z => nomatch z)) ⟨⟨tg, th, pf, hv, vs ++ vb, eq, ?_, ?_, Paired.mapP hp fun _ _ z => z.mono tkq, xq.tups _ _ ep, pd_app (RL.up (RL.mono tkq rlb) (by decide)) (RL.up (RL.mono toq rlo) (by decide))⟩⟩ ?_
      · exact toq _ _ (xo.tups _ _ (x3.tups _ _ (x2.tups _ _ e1)))
      · exact (((e2.fr x3).fr xo).fr xp).fr xq
      · refine ⟨wog.g1, wog.g2, fun g hg => subG g hg, ?_, ?_, fun h hh => ?_, fun h hh s hs' => ?_, fun s hs' => ?_, ?_, ?_, ?_, fun h hh => ?_, fun h hh => ?_⟩
        · show ((hs.map fun h => (h.name, h.body)).map (·.1)).Nodup
          rw [List.map_map]
          exact hog.nd
        · show (hs.map fun h => (h.name, h.body)).length ≤ 3
          rw [List.length_map]
          exact wog.hl
        · obtain ⟨y, hy, rfl⟩ := List.mem_map.mp hh
          exact hnw y hy
        · obtain ⟨y, hy, rfl⟩ := List.mem_map.mp hh
          show Wf _ _ (envL (hs.map fun h => (h.name, h.body))) 9 s
          rw [eW]
          exact (((hog.all y hy).2.2.1.wf s hs').imp cn (fun _ z => z) fun _ _ z => z).up (by decide)
        · show Wf _ _ (envL (hs.map fun h => (h.name, h.body))) 12 s
          rw [eW]
          rcases List.mem_append.mp hs' with z | z
          · rcases hb with e | ⟨c0, inner, e, hc0, bi⟩
            · rw [e] at z; cases z
            · rw [e] at z
              rw [List.mem_singleton.mp z]
              exact ⟨⟨subC c0 hc0, (by decide : 1 ≤ 11)⟩, fun y hy => ((bi.wf y hy).imp cn (fun _ z => z) fun _ _ z => z).up (by decide)⟩
          · exact ((bo.wf s z).imp cn (fun _ z => z) fun _ _ z => z).up (by decide)
        · show Start 217 (plL (plS (envL (hs.map fun h => (h.name, h.body))) NN) (b ++ bb))
          rw [eW, plL_app]
          rcases hb with e | ⟨c0, inner, e, hc0, bi⟩
          · rw [e]
            exact (Start.fit fitb).mono (by omega)
          · rw [e]
            exact (Start.wh fitb).mono (by omega)
        · show (plL (plS (envL (hs.map fun h => (h.name, h.body))) NN) (b ++ bb)).size ≤ 55
          rw [eW, plL_app, Pl.size_app]
          have s2 := bo.size
          rcases hb with e | ⟨c0, inner, e, hc0, bi⟩
          · rw [e]
            show 0 + (plW (W.with hs) bb).size ≤ 55
            omega
          · rw [e]
            have s1 := bi.size
            have ep : plL (plS (envW (W.with hs)) 19) inner = plW (W.with hs) inner := pl_at bi.wf (by decide) (by decide)
            show 1 + (plL (plS (envW (W.with hs)) 19) inner).size + 0 + (plW (W.with hs) bb).size ≤ 55
            rw [ep]
            omega
        · show (b ++ bb).length ≤ 41 + (217 - 217)
          have := rlb.length
          have := rlo.length
          rw [List.length_append]
          omega
        · obtain ⟨y, hy, rfl⟩ := List.mem_map.mp hh
          exact (hog.all y hy).2.2.2.2
        · obtain ⟨y, hy, rfl⟩ := List.mem_map.mp hh
          show (plL (plS (envL (hs.map fun h => (h.name, h.body))) NN) y.body).size ≤ 20
          rw [eW]
          obtain ⟨h1, h2, h3, _⟩ := hog.all y hy
          exact Nat.le_trans h3.size (by omega)
end
end Kz
set_option Elab.async false
set_option linter.all false
set_option maxRecDepth 100000
set_option maxHeartbeats 4000000
/-! ZLa: the law's own laying: what stands in the heap, the loop that sets places. -/
namespace Kz
open PySem PySem.Spec PyProof.Rows L2
structure LyH (H : Hp) (rw : Addr) (as : List Addr) (ls : List Nat) : Prop where
  er : H rw = some (.lst (as.map V.ref))
  pr : Paired (fun a n => ∃ w rest, H a = some (.lst (V.str w :: rest)) ∧ rest.length + 1 = n) as ls
  nr : rw ∉ as
def LyE (H : Hp) (e : Addr) (ls : List Nat) (m : Nat) : Prop :=
  ∃ es, H e = some (.lst es) ∧ es.length ≤ m ∧ ∀ v ∈ es, ∃ (t : Addr) (k p n : Nat), v = .ref t ∧ H t = some (.tup [.int k, .int p]) ∧ ls[k]? = some n ∧ 1 ≤ p ∧ p < n
def LyD (H : Hp) (hd : Addr) (env : Env') : Prop :=
  ∃ kvs : List (Key × V), H hd = some (.dK kvs) ∧ (∀ i : Int, valV kvs (Sum.inl i : Key) = none) ∧ ∀ f b, env f = some b → ∃ q bv m, valV kvs (Sum.inr f : Key) = some (.ref q) ∧ H q = some (.tup bv) ∧ RL H m bv b
section
variable {H H' : Hp} {rw e hd : Addr} {as : List Addr} {ls ls2 : List Nat} {m m' : Nat} {env : Env'}
theorem LyH.ext (h : LyH H rw as ls) (x : Fr [] H H') : LyH H' rw as ls :=
  ⟨x.keep _ _ (fun z => nomatch z) h.er, Paired.mapP h.pr fun _ _ ⟨w, r, e, l⟩ => ⟨w, r, x.keep _ _ (fun z => nomatch z) e, l⟩, h.nr⟩
theorem LyE.keep {S : List Addr} (h : LyE H e ls m) (x : Fr S H H') (n : e ∉ S) : LyE H' e ls m :=
  let ⟨es, h1, h2, h3⟩ := h
  ⟨es, x.keep _ _ n h1, h2, fun v hv => let ⟨t, k, p, n, e1, e2, r⟩ := h3 v hv; ⟨t, k, p, n, e1, x.tups _ _ e2, r⟩⟩
theorem LyE.more (h : LyE H e ls m) (l : m ≤ m') : LyE H e (ls ++ ls2) m' :=
  let ⟨es, h1, h2, h3⟩ := h
  ⟨es, h1, Nat.le_trans h2 l, fun v hv => let ⟨t, k, p, n, e1, e2, e3, r⟩ := h3 v hv; ⟨t, k, p, n, e1, e2, by rw [List.getElem?_append_left (List.getElem?_eq_some_iff.mp e3).1]; exact e3, r⟩⟩
theorem LyD.keep {S : List Addr} (h : LyD H hd env) (x : Fr S H H') (n : hd ∉ S) : LyD H' hd env :=
  let ⟨kvs, h1, h2, h3⟩ := h
  ⟨kvs, x.keep _ _ n h1, h2, fun f b e => let ⟨q, bv, m, e1, e2, e3⟩ := h3 f b e; ⟨q, bv, m, e1, x.tups _ _ e2, e3.mono x.tu⟩⟩
/-- one place set -/
theorem LyH.set {a : Addr} {w : Str} {rest : List V} {p : Nat} {z : V} (h : LyH H rw as ls) (hp : 1 ≤ p) (ha : H a = some (.lst (V.str w :: rest))) (hm : a ∈ as) : LyH (upd H a (.lst ((V.str w :: rest).set p z))) rw as ls := by
  have ne : rw ≠ a := fun q => h.nr (q ▸ hm)
  refine ⟨by rw [upd_ne ne]; exact h.er, Paired.mapP h.pr fun b n ⟨w2, r2, e, l⟩ => ?_, h.nr⟩
  by_cases q : b = a
  · subst q
    rw [ha] at e
    cases e
    obtain ⟨p', rfl⟩ : ∃ p', p = p' + 1 := ⟨p - 1, by omega⟩
    exact ⟨w, rest.set p' z, by rw [upd_same]; rfl, by rw [List.length_set]; exact l⟩
  · exact ⟨w2, r2, by rw [upd_ne q]; exact e, l⟩
end
theorem pd_ne {H : Hp} {rw : Addr} {o : HO} : ∀ {as : List Addr} {ls : List Nat}, rw ∉ as → Paired (fun a n => ∃ w rest, H a = some (.lst (V.str w :: rest)) ∧ rest.length + 1 = n) as ls → Paired (fun a n => ∃ w rest, upd H rw o a = some (.lst (V.str w :: rest)) ∧ rest.length + 1 = n) as ls
  | _, _, _, .nil => .nil
  | a :: _, _, h, .cons ⟨w, r, e, l⟩ t => .cons ⟨w, r, by rw [upd_ne (fun z => h (by rw [z]; exact List.mem_cons_self))]; exact e, l⟩ (pd_ne (fun z => h (List.mem_cons_of_mem _ z)) t)
/-- a row more -/
theorem LyH.app {H : Hp} {rw r : Addr} {as : List Addr} {ls : List Nat} {w : Str} {rest : List V} (h : LyH H rw as ls) (e : H r = some (.lst (V.str w :: rest))) (n : r ≠ rw) : LyH (upd H rw (.lst (as.map V.ref ++ [.ref r]))) rw (as ++ [r]) (ls ++ [rest.length + 1]) := by
  refine ⟨by rw [upd_same, List.map_append]; rfl, pd_app ?_ (.cons ⟨w, rest, by rw [upd_ne n]; exact e, rfl⟩ .nil), fun z => ?_⟩
  · exact pd_ne h.nr h.pr
  · rcases List.mem_append.mp z with z | z
    · exact h.nr z
    · exact n (List.mem_singleton.mp z).symm
theorem LyE.one {H : Hp} {e t : Addr} {ls : List Nat} {k p n m : Nat} (h : H e = some (.lst [.ref t])) (ht : H t = some (.tup [.int k, .int p])) (hl : ls[k]? = some n) (p1 : 1 ≤ p) (pn : p < n) (hm : 1 ≤ m) : LyE H e ls m :=
  ⟨[.ref t], h, hm, fun v hv => by rw [List.mem_singleton.mp hv]; exact ⟨t, k, p, n, rfl, ht, hl, p1, pn⟩⟩
/-- for k, place in ends: rows[k][place] = .. -/
theorem lay_loop {K : PySem.W.Frag} {i j r : Nat} {vt : TE} {D : Ends} {x0 y0 : Option V} {H : Hp} {e rw : Addr} {as : List Addr} {ls : List Nat} {m : Nat} (sg : Option V → Option V → L2.St)
    (s1 : ∀ x y z, (sg x y).set i z = sg z y) (s2 : ∀ x y z, (sg x y).set j z = sg x z) (s3 : ∀ x y, (sg x y)[r]? = some (some (.ref rw))) (s4 : ∀ x y, (sg x y)[i]? = some x) (s5 : ∀ x y, (sg x y)[j]? = some y)
    (hv : ∀ x y H' (Q : VK), LyH H' rw as ls → (∀ z : Int, Q (.int z) H') → vt (sg x y) H' Q) (ly : LyH H rw as ls) (le : LyE H e ls m) (ne : e ∉ as)
    (k : ∀ x y H', LyH H' rw as ls → Fr as H H' → D.nx (sg x y) H') :
    (∃ xs, SqL K H e xs) ∧ ∃ W : Nat → Nat → L2.St → Hp → Prop, (∃ m, W 0 m (sg x0 y0) H) ∧ ∀ t m σ H, W t m σ H →
      ((Itl K e).stop t H ∧ D.nx σ H) ∨ ((Itl K e).go t H ∧ ∃ N : L2.St → Hp → Prop, (∀ σ' H', N σ' H' → ∃ m', m' < m ∧ W (t + 1) m' σ' H') ∧ ∀ x H', (Itl K e).yld t H x H' → gTup K 2 (gCons (gName i) (gCons (gName j) gNil)) x σ H' fun σ2 H2 => tAsg vt (gSub (tOp (rIxL K) (tVar r) (tVar i)) (tVar j) rSetL) { D with nx := N, ct := N, bk := D.nx } σ2 H2) := by
  obtain ⟨es, h1, h2, h3⟩ := le
  refine ⟨⟨es, SqL.of h1⟩, for_list (xs := es) (fun t σ H' => ∃ x y, σ = sg x y ∧ LyH H' rw as ls ∧ Fr as H H') ⟨x0, y0, rfl, ly, Fr.refl⟩ (fun t σ H' _ hP => ?_) (fun t x σ H' hx hP => ?_) (fun σ H' hP => ?_)⟩
  · obtain ⟨_, _, _, _, fr⟩ := hP
    exact SqL.of (fr.keep _ _ ne h1)
  · obtain ⟨x1, y1, rfl, l', fr⟩ := hP
    obtain ⟨tt, kk, p, n, rfl, et, el, p1, pn⟩ := h3 x (List.mem_of_getElem? hx)
    obtain ⟨a, ea, w, rest, eaw, rl⟩ := pd_at' l'.pr el
    have hm : a ∈ as := List.mem_of_getElem? ea
    refine ⟨tt, _, rfl, SqT.of (fr.tups _ _ et), rfl, _, _, rfl, ?_⟩
    show gCons (gName j) gNil _ ((sg x1 y1).set i (some (.int kk))) H' _
    rw [s1]
    refine ⟨_, _, rfl, ?_⟩
    show gNil _ ((sg (some (.int kk)) y1).set j (some (.int p))) H' _
    rw [s2]
    refine ⟨rfl, ?_⟩
    refine hv _ _ H' _ l' fun z => ?_
    refine ⟨_, s3 _ _, _, s4 _ _, rw, _, _, .ref a, rfl, rfl, SqL.of l'.er, atI_nat (by rw [List.getElem?_map, ea]; rfl), _, s5 _ _, ?_⟩
    have ix : ixN (V.str w :: rest).length (p : Int) = some p := by
      unfold ixN
      rw [if_pos (by omega), if_pos (by rw [List.length_cons]; omega), Int.toNat_natCast]
    exact ⟨a, _, p, p, rfl, rfl, eaw, ix, _, _, rfl, l'.set p1 eaw hm, fr.mutL hm eaw⟩
  · obtain ⟨x1, y1, rfl, l', fr⟩ := hP
    exact k _ _ _ l' fr
end Kz
set_option Elab.async false
set_option linter.all false
set_option maxRecDepth 100000
set_option maxHeartbeats 4000000
set_option pp.maxSteps 3000
/-! ZLb: the law's own laying: only how many rows it makes. -/
namespace Kz
open PySem PySem.Spec PyProof.Rows L2
abbrev szS (env : Env') (n : Nat) (b : List Sm) : Nat := (plL (plS env n) b).size
def spLay (C G : Str → Prop) (env : Env') (n : Nat) : Sp := fun vs H Q _ => ∃ (hd pb rw e : Addr) (m k : Nat) (vb : List V) (b : List Sm) (as : List Addr) (ls : List Nat), vs = [.ref hd, .ref pb, .ref rw, .ref e] ∧ LyD H hd env ∧ H pb = some (.tup vb) ∧ RL H k vb b ∧
  (∀ s ∈ b, Wf C G env n s) ∧ LyH H rw as ls ∧ LyE H e ls m ∧ e ∉ rw :: as ∧ hd ∉ rw :: as ∧ as.length + szS env n b ≤ 200 ∧ m + 2 * szS env n b ≤ 400 ∧
  ∀ e' H' as2 ls2, LyH H' rw (as ++ as2) (ls ++ ls2) → as2.length = szS env n b → ls2.length = szS env n b → LyE H' e' (ls ++ ls2) (m + 2 * szS env n b) → e' ∉ rw :: (as ++ as2) → Fr (rw :: as) H H' → (∀ a ∈ as2, H a = none) → Q (.ref e') H'
def Sm.word : Sm → Str
  | .set _ _ => "set"
  | .read _ _ => "read"
  | .tell _ => "tell"
  | .sure _ _ => "sure"
  | .ite _ _ _ => "if"
  | .wh _ _ => "while"
  | .times _ _ => "times"
  | .call _ => "call"
def Sm.tc : Sm → Bool
  | .times _ _ => true
  | .call _ => true
  | _ => false
def Sm.iw : Sm → Bool
  | .ite _ _ _ => true
  | .wh _ _ => true
  | _ => false
theorem rs_word {H : Hp} : ∀ {k : Nat} {x : V} {s : Sm}, RS H k x s → ∃ (t : Addr) (z : V) (rest : List V), x = .ref t ∧ H t = some (.tup (.str s.word :: z :: rest)) ∧ rest.length ≤ 2
  | k, x, s, h => by
    cases s with
    | set x t => cases k <;> exact let ⟨a, u, e, h1, _⟩ := h; ⟨a, _, _, e, h1, (by decide : 1 ≤ 2)⟩
    | read x g => cases k <;> exact let ⟨a, e, h1⟩ := h; ⟨a, _, _, e, h1, (by decide : 1 ≤ 2)⟩
    | tell t => cases k <;> exact let ⟨a, u, e, h1, _⟩ := h; ⟨a, _, _, e, h1, (by decide : 0 ≤ 2)⟩
    | sure xs n => cases k <;> exact let ⟨a, u, e, h1, _⟩ := h; ⟨a, _, _, e, h1, (by decide : 1 ≤ 2)⟩
    | call f => cases k <;> exact let ⟨a, e, h1⟩ := h; ⟨a, _, _, e, h1, (by decide : 0 ≤ 2)⟩
    | ite t a b =>
      cases k with
      | zero => exact h.elim
      | succ k => exact let ⟨q, u, pa, pb, va, vb, e, h1, _⟩ := h; ⟨q, _, _, e, h1, (by decide : 2 ≤ 2)⟩
    | wh t b =>
      cases k with
      | zero => exact h.elim
      | succ k => exact let ⟨q, u, pb, vb, e, h1, _⟩ := h; ⟨q, _, _, e, h1, (by decide : 1 ≤ 2)⟩
    | times n b =>
      cases k with
      | zero => exact h.elim
      | succ k => exact let ⟨q, pb, vb, e, h1, _⟩ := h; ⟨q, _, _, e, h1, (by decide : 1 ≤ 2)⟩
theorem tc_in (s : Sm) : (if false = true then !inV (.str s.word) [.str "times", .str "call"] else inV (.str s.word) [.str "times", .str "call"]) = s.tc := by cases s <;> dsimp only [Sm.word, Sm.tc] <;> decide +kernel
theorem iw_in (s : Sm) : (if false = true then !inV (.str s.word) [.str "if", .str "while"] else inV (.str s.word) [.str "if", .str "while"]) = s.iw := by cases s <;> dsimp only [Sm.word, Sm.iw] <;> decide +kernel
abbrev pLay : List Str := ["_law_helpers_here", "_law_body_here", "_law_rows_here", "_law_ends"]
section
variable {P : Program} {w : World} {K : PySem.W.Frag} {mg : Str → Option Value} {base : Heap}
theorem ok_lay (T : Tp K mg) {C G : Str → Prop} {env : Env'} : ∀ n : Nat, n ≤ 14 → Fx P w K mg base (n + 2) "_law_lay" pLay (spLay C G env n)
  | n, hn14 => by
    have F_l_lay : Fx P w K mg base (n + 1) "_law_lay" pLay (fun vs H Q E => ∃ j, n = j + 1 ∧ spLay C G env j vs H Q E) := by
      cases n with
      | zero =>
        refine fx_of T 39 30 rfl rfl sc_l_lay (fun _ _ _ _ _ _ us hl => match us, hl with | [_, _, _, _], _ => rfl) (fun vs H Q E h => ?_) (fun f cdv A outer s H vs Q E hr h => ?_)
        · obtain ⟨j, e, _⟩ := h
          cases e
        · obtain ⟨j, e, _⟩ := h
          cases e
      | succ j => exact (ok_lay T j (by omega)).imp fun vs H Q E ⟨i, e, h⟩ => (by have e := Nat.succ.inj e; subst e; exact h)
    refine fx_of T 39 30 rfl rfl sc_l_lay (fun _ _ _ _ _ _ us hl => match us, hl with | [_, _, _, _], _ => rfl) (fun vs H Q E h => ?_) (fun f cdv A outer s H vs Q E hr h => ?_)
    · obtain ⟨hd, pb, rw, e, m, k, vb, b, as, ls, rfl, _⟩ := h
      rfl
    · obtain ⟨hd, pb, rw, e, m, k, vb, b, as, ls, rfl, ld, epb, rlb, wf, lh, le, ne, nhd, a200, m400, q⟩ := h
      have hu := hu_of hr
      refine ⟨_, (pss_cons (ps_for PassesOwn.never rfl (pi_tup (pv 1)) (pg_name (i := 4) sc_l_lay.nd rfl (Or.inl rfl)) (pss_one (ps_if (pt_cmpR op_in_seq (pe_ix ix_tup (pv 4) pe_int (fun _ _ => rfl)) (pe_tupC (pa_cons pe_str (pa_cons pe_str pa_nil))) (by rfl)) (pss_cons (ps_asg (pe_ix ix_list (pe_lstC (pa_cons (pe_tupC (pa_cons (pe_dget2 hu (pv 0) (pe_ix ix_tup (pv 4) pe_int (fun _ _ => rfl)) (pe_tupC pa_nil) ⟨rfl, rfl, rfl, rfl⟩) (pa_cons pe_int pa_nil))) (pa_cons (pe_tupC (pa_cons (pe_ix ix_tup (pv 4) (pe_un un_neg pe_int) (fun _ _ => rfl)) (pa_cons (pe_ix ix_tup (pv 4) pe_int (fun _ _ => rfl)) pa_nil))) pa_nil))) (pe_callTy call_int1 (by rfl) T.n_int (by decide +kernel) (pa_cons (pe_cmpR op_eq (pe_ix ix_tup (pv 4) pe_int (fun _ _ => rfl)) pe_str (nomark _)) pa_nil)) (fun _ _ => rfl)) (pg_tup rfl (pgs_cons (pg_name (i := 5) sc_l_lay.nd rfl (Or.inl rfl)) (pgs_cons (pg_name (i := 6) sc_l_lay.nd rfl (Or.inl rfl)) pgs_nil))))
        (pss_one (ps_for PassesOwn.never rfl (pi_range1 (by rfl) T.n_range (pa_cons (pv 6) pa_nil)) (pg_name (i := 7) sc_l_lay.nd rfl (Or.inl rfl)) (pss_one (ps_set (i := 3) sc_l_lay.nd rfl (Or.inl rfl) (pe_F F_l_lay (hr.mono (by omega)) (by rfl) (pa_cons (pv 0) (pa_cons (pv 5) (pa_cons (pv 2) (pa_cons (pv 3) pa_nil))))))))))
       (pss_cons (ps_set (i := 8) sc_l_lay.nd rfl (Or.inl rfl) (pe_callB call_len_seq (by rfl) T.n_len PySem.boot_len (pa_cons (pv 2) pa_nil)))
       (pss_cons (ps_for PassesOwn.never rfl (pi_list (pv 3)) (pg_tup rfl (pgs_cons (pg_name (i := 9) sc_l_lay.nd rfl (Or.inl rfl)) (pgs_cons (pg_name (i := 10) sc_l_lay.nd rfl (Or.inl rfl)) pgs_nil))) (pss_one (ps_asg (pv 8) (pg_sub (pe_ix ix_list (pv 2) (pv 9) (fun _ _ => rfl)) (pv 10) set_list))))
       (pss_cons (ps_expr (pe_bm PySem.F.plainAttrs_list PySem.F.slot_list_append PySem.F.type_list_append mt_append (pv 2) (pa_cons (pe_ix ix_list (pe_lstC (pa_cons (pe_op op_catL (pe_callTy call_lstC (by rfl) T.n_list (by decide +kernel) (pa_cons (pv 4) pa_nil)) (pe_lstC (pa_cons pe_non pa_nil))) (pa_cons (pe_lstC (pa_cons pe_str (pa_cons (pe_ix ix_tup (pv 4) pe_int (fun _ _ => rfl)) (pa_cons pe_non (pa_cons pe_non pa_nil))))) pa_nil))) (pe_callTy call_int1 (by rfl) T.n_int (by decide +kernel) (pa_cons (pe_cmpR op_in_seq (pe_ix ix_tup (pv 4) pe_int (fun _ _ => rfl)) (pe_tupC (pa_cons pe_str (pa_cons pe_str pa_nil))) (by rfl)) pa_nil)) (fun _ _ => rfl)) pa_nil)))
       (pss_cons (ps_set (i := 3) sc_l_lay.nd rfl (Or.inl rfl) (pe_lstC (pa_cons (pe_tupC (pa_cons (pv 8) (pa_cons (pe_callB call_len_seq (by rfl) T.n_len PySem.boot_len (pa_cons (pv 4) pa_nil)) pa_nil))) pa_nil)))
       (pss_cons (ps_if (pt_cmpR op_eq (pe_ix ix_tup (pv 4) pe_int (fun _ _ => rfl)) pe_str (nomark _)) (pss_one (ps_set (i := 3) sc_l_lay.nd rfl (Or.inl rfl) (pe_op op_catL (pe_F F_l_lay (hr.mono (by omega)) (by rfl) (pa_cons (pv 0) (pa_cons (pe_ix ix_tup (pv 4) pe_int (fun _ _ => rfl)) (pa_cons (pv 2) (pa_cons (pe_lstC (pa_cons (pe_tupC (pa_cons (pv 8) (pa_cons pe_int pa_nil))) pa_nil)) pa_nil))))) (pe_F F_l_lay (hr.mono (by omega)) (by rfl) (pa_cons (pv 0) (pa_cons (pe_ix ix_tup (pv 4) pe_int (fun _ _ => rfl)) (pa_cons (pv 2) (pa_cons (pe_lstC (pa_cons (pe_tupC (pa_cons (pv 8) (pa_cons pe_int pa_nil))) pa_nil)) pa_nil))))))))
        pss_nil)
       (pss_one (ps_if (pt_cmpR op_eq (pe_ix ix_tup (pv 4) pe_int (fun _ _ => rfl)) pe_str (nomark _)) (pss_cons (ps_for PassesOwn.never rfl (pi_list (pe_F F_l_lay (hr.mono (by omega)) (by rfl) (pa_cons (pv 0) (pa_cons (pe_ix ix_tup (pv 4) pe_int (fun _ _ => rfl)) (pa_cons (pv 2) (pa_cons (pe_lstC (pa_cons (pe_tupC (pa_cons (pv 8) (pa_cons pe_int pa_nil))) pa_nil)) pa_nil)))))) (pg_tup rfl (pgs_cons (pg_name (i := 9) sc_l_lay.nd rfl (Or.inl rfl)) (pgs_cons (pg_name (i := 10) sc_l_lay.nd rfl (Or.inl rfl)) pgs_nil))) (pss_one (ps_asg (pv 8) (pg_sub (pe_ix ix_list (pv 2) (pv 9) (fun _ _ => rfl)) (pv 10) set_list))))
         (pss_one (ps_set (i := 3) sc_l_lay.nd rfl (Or.inl rfl) (pe_lstC (pa_cons (pe_tupC (pa_cons (pv 8) (pa_cons pe_int pa_nil))) pa_nil)))))
        pss_nil))))))))))
    (pss_one (ps_ret (pv 3)))), ?_⟩
      refine ⟨_, rfl, pb, rfl, ⟨_, SqT.of epb⟩, ?_⟩
      refine for_tup (xs := vb) (fun i σ H' => ∃ (e' : Addr) (as2 : List Addr) (ls2 : List Nat) (y4 y5 y6 y7 y8 y9 y10 : Option V), σ = [some (V.ref hd), some (V.ref pb), some (V.ref rw), some (V.ref e'), y4, y5, y6, y7, y8, y9, y10] ∧
        LyH H' rw (as ++ as2) (ls ++ ls2) ∧ as2.length = szS env n (b.take i) ∧ ls2.length = szS env n (b.take i) ∧ LyE H' e' (ls ++ ls2) (m + 2 * szS env n (b.take i)) ∧ e' ∉ rw :: (as ++ as2) ∧ Fr (rw :: as) H H' ∧ ∀ a ∈ as2, H a = none) ?_ (fun i σ H' hi hP => ?_) (fun i x σ H' hx hP => ?_) (fun σ H' hP => ?_)
      · exact ⟨e, [], [], _, _, _, _, _, _, _, rfl, by rw [List.append_nil, List.append_nil]; exact lh, rfl, rfl, by rw [List.append_nil]; exact le, by rw [List.append_nil]; exact ne, Fr.refl, fun _ h => absurd h List.not_mem_nil⟩
      · obtain ⟨_, _, _, _, _, _, _, _, _, _, _, _, _, _, _, _, fr, _⟩ := hP
        exact SqT.of (fr.tups _ _ epb)
      · obtain ⟨e', as2, ls2, y4, y5, y6, y7, y8, y9, y10, rfl, lh', l2, l2', le', ne', fr, new⟩ := hP
        obtain ⟨s, es, rs0⟩ := pd_at rlb hx
        have rs := rs0.mono fr.tu
        have ws := wf s (List.mem_of_getElem? es)
        have etk : b.take (i + 1) = b.take i ++ [s] := by rw [List.take_add_one, es]; rfl
        have esz : szS env n (b.take (i + 1)) = szS env n (b.take i) + (plS env n s).size := by
          unfold szS
          rw [etk, plL_app, Pl.size_app, plL_one]
        have elt : szS env n (b.take (i + 1)) ≤ szS env n b := by
          have e : b = b.take (i + 1) ++ b.drop (i + 1) := (List.take_append_drop _ _).symm
          have e2 : szS env n b = szS env n (b.take (i + 1)) + szS env n (b.drop (i + 1)) := by
            unfold szS
            conv => lhs; rw [e]
            rw [plL_app, Pl.size_app]
          omega
        have fin : ∀ (σ2 : L2.St) (H2 : Hp) (e2 : Addr) (as3 : List Addr) (ls3 : List Nat), (∃ y4 y5 y6 y7 y8 y9 y10, σ2 = [some (V.ref hd), some (V.ref pb), some (V.ref rw), some (V.ref e2), y4, y5, y6, y7, y8, y9, y10]) → LyH H2 rw (as ++ as2 ++ as3) (ls ++ ls2 ++ ls3) → as3.length = (plS env n s).size → ls3.length = (plS env n s).size →
            LyE H2 e2 (ls ++ ls2 ++ ls3) (m + 2 * szS env n (b.take i) + 2 * (plS env n s).size) → e2 ∉ rw :: (as ++ as2 ++ as3) → Fr (rw :: (as ++ as2)) H' H2 → (∀ a ∈ as3, H' a = none) →
            ∃ (e' : Addr) (as2 : List Addr) (ls2 : List Nat) (y4 y5 y6 y7 y8 y9 y10 : Option V), σ2 = [some (V.ref hd), some (V.ref pb), some (V.ref rw), some (V.ref e'), y4, y5, y6, y7, y8, y9, y10] ∧
              LyH H2 rw (as ++ as2) (ls ++ ls2) ∧ as2.length = szS env n (b.take (i + 1)) ∧ ls2.length = szS env n (b.take (i + 1)) ∧ LyE H2 e' (ls ++ ls2) (m + 2 * szS env n (b.take (i + 1))) ∧ e' ∉ rw :: (as ++ as2) ∧ Fr (rw :: as) H H2 ∧ ∀ a ∈ as2, H a = none := by
          intro σ2 H2 e2 as3 ls3 hσ h1 h2 h3 h4 h5 h6 h7
          obtain ⟨z4, z5, z6, z7, z8, z9, z10, rfl⟩ := hσ
          rw [List.append_assoc] at h1 h5
          rw [List.append_assoc] at h1 h4
          refine ⟨e2, as2 ++ as3, ls2 ++ ls3, z4, z5, z6, z7, z8, z9, z10, rfl, h1, by rw [List.length_append, esz, l2, h2], by rw [List.length_append, esz, l2', h3], ?_, h5, fr.step h6 fun a z => ?_, fun a z => ?_⟩
          · rw [esz, show m + 2 * (szS env n (b.take i) + (plS env n s).size) = m + 2 * szS env n (b.take i) + 2 * (plS env n s).size by omega]
            exact h4
          · rcases List.mem_cons.mp z with e | z
            · rw [e]; exact .inl (.head _)
            · rcases List.mem_append.mp z with z | z
              · exact .inl (.tail _ z)
              · exact .inr (new a z)
          · rcases List.mem_append.mp z with z | z
            · exact new a z
            · exact fr.back _ (h7 a z)
        have nhd' : hd ∉ rw :: (as ++ as2) := fun z => by
          rcases List.mem_cons.mp z with e | z
          · exact nhd (by rw [e]; exact .head _)
          · rcases List.mem_append.mp z with z | z
            · exact nhd (.tail _ z)
            · obtain ⟨kvs, ek, _⟩ := ld
              rw [new hd z] at ek
              cases ek
        have ld' := ld.keep fr nhd
        have lnas : (as ++ as2).length = as.length + szS env n (b.take i) := by rw [List.length_append, l2]
        obtain ⟨t, z, rest, rfl, et, hrest⟩ := rs_word rs
        -- times, call
        try dsimp only [gName]
        refine if_cut (fun c H2 => Fr [] H' H2 ∧ c = s.tc) (fun Q' hQ => ?_) (fun c H2 hP => ?_)
        · refine ⟨_, rfl, t, _, 0, .str s.word, rfl, rfl, SqT.of et, at0, sz2, fun p H2 np xp ep => ⟨p, _, rfl, .inr (SqT.of ep), rfl, rfl, _, rfl, hQ _ _ ⟨xp, tc_in s⟩⟩⟩
        · obtain ⟨x2, rfl⟩ := hP
          have et2 := x2.tups _ _ et
          have ld2 := ld'.keep x2 fun z => nomatch z
          have nn : ∀ {a : Addr}, a ∉ ([] : List Addr) := fun z => nomatch z
          refine ite2 (fun etc => ?_) (fun etc => ?_)
          · -- what is laid, how many times
            refine asg_cut (fun v Hx => ∃ (p u : Addr) (kk : Nat) (j k2 : Nat) (bu : List V) (bb : List Sm), v = .ref p ∧ Hx p = some (.tup [.ref u, .int kk]) ∧ Fr [] H2 Hx ∧ Hx u = some (.tup bu) ∧ RL Hx k2 bu bb ∧ n = j + 1 ∧ (∀ s ∈ bb, Wf C G env j s) ∧ kk ≤ 4 ∧ (plS env n s).size = kk * szS env j bb) (fun Q' hQ => ?_) (fun v Hx hP => ?_)
            · obtain ⟨kvs, ek, ekI, ekS⟩ := ld2
              have hisd : ∀ {Hy : Hp}, Fr [] H2 Hy → IsD Hy hd := fun y => .inl ⟨_, .inl (y.keep _ _ nn ek)⟩
              cases s with
              | times kk bb =>
                cases k with
                | zero => exact rs.elim
                | succ k =>
                  obtain ⟨q', pu, bu, e1, h1, h2, h3⟩ := rs
                  cases e1
                  cases n with
                  | zero => exact ws.elim
                  | succ j =>
                    obtain ⟨⟨k1, k4, _⟩, wfb⟩ := ws
                    have et2 := x2.tups _ _ h1
                    refine ⟨_, rfl, hd, rfl, hisd Fr.refl, _, rfl, t, _, 1, .int kk, rfl, rfl, SqT.of et2, at1, Nat.zero_le _, fun p0 Ha na xa ea => ⟨_, DGet.k (k := Sum.inl kk) (xa.keep _ _ nn ek), ?_⟩⟩
                    rw [ekI]
                    refine ⟨sz2, fun p1 Hb nb xb eb => ⟨_, rfl, _, rfl, t, _, _, .ref pu, rfl, rfl, SqT.of (xb.tups _ _ (xa.tups _ _ et2)), (atI_last [V.str "times", V.int kk] (V.ref pu) : atI [V.str "times", V.int kk, V.ref pu] (-1) = _), _, rfl, t, _, 1, .int kk, rfl, rfl, SqT.of (xb.tups _ _ (xa.tups _ _ et2)), at1, sz2, fun p2 Hc nc xc ec => ⟨sz2, fun l Hd nd xd ed => ⟨_, rfl, t, _, 0, .str "times", rfl, rfl, SqT.of (xd.tups _ _ (xc.tups _ _ (xb.tups _ _ (xa.tups _ _ et2)))), at0, rfl, .inr ⟨_, rfl, l, _, _, .ref p2, rfl, rfl, SqL.of ed, rfl, ?_⟩⟩⟩⟩⟩
                    have x2d : Fr [] H2 Hd := ((xa.trans xb).trans xc).trans xd
                    have ekk : ((kk.toNat : Nat) : Int) = kk := Int.toNat_of_nonneg (by omega)
                    refine hQ _ _ ⟨p2, pu, kk.toNat, j, k, bu, bb, rfl, by rw [ekk]; exact xd.tups _ _ ec, x2d, x2d.tups _ _ (x2.tups _ _ h2), RL.mono (x2.tu.trans x2d.tu) h3, rfl, wfb, by omega, ?_⟩
                    show ((plL (plS env j) bb).rep kk.toNat).size = _
                    rw [Pl.size_rep]
              | call fnm =>
                cases n with
                | zero => exact ws.elim
                | succ j =>
                  obtain ⟨bb, eb0, wfb⟩ := ws
                  obtain ⟨q', bu, k2, eq1, eq2, eq3⟩ := ekS fnm bb eb0
                  have h1 : H' t = some (.tup [.str "call", .str fnm]) := by
                    cases k <;> exact let ⟨a, e, h⟩ := rs; by cases e; exact h
                  have et2 := x2.tups _ _ h1
                  refine ⟨_, rfl, hd, rfl, hisd Fr.refl, _, rfl, t, _, 1, .str fnm, rfl, rfl, SqT.of et2, at1, Nat.zero_le _, fun p0 Ha na xa ea => ⟨_, DGet.k (k := Sum.inr fnm) (xa.keep _ _ nn ek), ?_⟩⟩
                  rw [eq1]
                  refine ⟨sz2, fun p1 Hb nb xb eb => ⟨_, rfl, _, rfl, t, _, _, .str fnm, rfl, rfl, SqT.of (xb.tups _ _ (xa.tups _ _ et2)), (atI_last [V.str "call"] (V.str fnm) : atI [V.str "call", V.str fnm] (-1) = _), _, rfl, t, _, 1, .str fnm, rfl, rfl, SqT.of (xb.tups _ _ (xa.tups _ _ et2)), at1, sz2, fun p2 Hc nc xc ec => ⟨sz2, fun l Hd nd xd ed => ⟨_, rfl, t, _, 0, .str "call", rfl, rfl, SqT.of (xd.tups _ _ (xc.tups _ _ (xb.tups _ _ (xa.tups _ _ et2)))), at0, rfl, .inr ⟨_, rfl, l, _, _, .ref p1, rfl, rfl, SqL.of ed, rfl, ?_⟩⟩⟩⟩⟩
                  have x2d : Fr [] H2 Hd := ((xa.trans xb).trans xc).trans xd
                  refine hQ _ _ ⟨p1, q', 1, j, k2, bu, bb, rfl, xd.tups _ _ (xc.tups _ _ eb), x2d, x2d.tups _ _ eq2, RL.mono x2d.tu eq3, rfl, wfb, by decide, ?_⟩
                  show (match env fnm with | some b => plL (plS env j) b | none => .nil).size = _
                  rw [eb0, Nat.one_mul]
              | _ => cases etc
            · obtain ⟨p, u, kk, j, k2, bu, bb, rfl, ep, x3, eu, rlu, rfl, wfb, hkk, eone⟩ := hP
              refine ⟨p, _, rfl, SqT.of ep, rfl, _, _, rfl, _, _, rfl, rfl, ?_⟩
              have fr3 : Fr [] H' Hx := x2.trans x3
              have lhx := lh'.ext fr3
              have lex := le'.keep fr3 nn
              have ldx := ld'.keep fr3 nn
              have tot : szS env (j + 1) (b.take i) + kk * szS env j bb ≤ szS env (j + 1) b := by rw [← eone]; omega
              refine ⟨_, rfl, (kk : Int), rfl, by omega, by omega, for_range (lo := 0) (n := kk) (fun c σ' Hy => ∃ (e2 : Addr) (as3 : List Addr) (ls3 : List Nat) (z7 : Option V), σ' = [some (V.ref hd), some (V.ref pb), some (V.ref rw), some (V.ref e2), some (V.ref t), some (V.ref u), some (V.int kk), z7, y8, y9, y10] ∧
                LyH Hy rw (as ++ as2 ++ as3) (ls ++ ls2 ++ ls3) ∧ as3.length = c * szS env j bb ∧ ls3.length = c * szS env j bb ∧ LyE Hy e2 (ls ++ ls2 ++ ls3) (m + 2 * szS env (j + 1) (b.take i) + 2 * (c * szS env j bb)) ∧ e2 ∉ rw :: (as ++ as2 ++ as3) ∧ Fr (rw :: (as ++ as2)) H' Hy ∧ (∀ a ∈ as3, H' a = none) ∧ Tu Hx Hy) ?_ (fun c σ' Hy hc hP => ?_) (fun σ' Hy hP => ?_)⟩
              · exact ⟨e', [], [], _, rfl, by rw [List.append_nil, List.append_nil]; exact lhx, by rw [Nat.zero_mul]; rfl, by rw [Nat.zero_mul]; rfl, by rw [List.append_nil, Nat.zero_mul]; exact lex, by rw [List.append_nil]; exact ne', (fr3.mono fun _ z => nomatch z), fun _ h => absurd h List.not_mem_nil, Tu.refl⟩
              · obtain ⟨e2, as3, ls3, z7, rfl, lh3, l3, l3', le3, ne3, fr4, new3, tuy⟩ := hP
                have hmul : c * szS env j bb + szS env j bb ≤ kk * szS env j bb := by
                  rw [← Nat.succ_mul]
                  exact Nat.mul_le_mul_right _ hc
                have nhd3 : hd ∉ rw :: (as ++ as2 ++ as3) := fun z => by
                  rcases List.mem_cons.mp z with q1 | z
                  · exact nhd' (by rw [q1]; exact .head _)
                  · rcases List.mem_append.mp z with z | z
                    · exact nhd' (.tail _ z)
                    · obtain ⟨kvs, ek, _⟩ := ld'
                      rw [new3 hd z] at ek
                      cases ek
                refine ⟨_, rfl, _, rfl, _, rfl, _, rfl, j, rfl, hd, u, rw, e2, _, k2, bu, bb, as ++ as2 ++ as3, ls ++ ls2 ++ ls3, rfl, ld'.keep fr4 nhd', tuy _ _ eu, RL.mono tuy rlu, wfb, lh3, le3, ne3, nhd3, ?_, ?_, fun e4 H4 as4 ls4 lh4 l4 l4' le4 ne4 fr5 new4 => ?_⟩
                · rw [List.length_append, lnas, l3]; omega
                · omega
                · rw [List.append_assoc (as ++ as2) as3 as4] at lh4 ne4
                  rw [List.append_assoc (ls ++ ls2) ls3 ls4] at lh4 le4
                  have esm : (c + 1) * szS env j bb = c * szS env j bb + szS env j bb := Nat.succ_mul _ _
                  refine ⟨e4, as3 ++ as4, ls3 ++ ls4, _, rfl, lh4, by rw [List.length_append, l3, l4, esm], by rw [List.length_append, l3', l4', esm], ?_, ne4, fr4.step fr5 fun a z => ?_, fun a z => ?_, tuy.trans fr5.tu⟩
                  · rw [esm, show m + 2 * szS env (j + 1) (b.take i) + 2 * (c * szS env j bb + szS env j bb) = m + 2 * szS env (j + 1) (b.take i) + 2 * (c * szS env j bb) + 2 * szS env j bb by omega]
                    exact le4
                  · rcases List.mem_cons.mp z with q1 | z
                    · rw [q1]; exact .inl (.head _)
                    · rcases List.mem_append.mp z with z | z
                      · exact .inl (.tail _ z)
                      · exact .inr (new3 a z)
                  · rcases List.mem_append.mp z with z | z
                    · exact new3 a z
                    · exact fr4.back _ (new4 a z)
              · obtain ⟨e2, as3, ls3, z7, rfl, lh3, l3, l3', le3, ne3, fr4, new3, tuy⟩ := hP
                exact fin _ Hy e2 as3 ls3 ⟨_, _, _, _, _, _, _, rfl⟩ lh3 (by rw [l3, eone]) (by rw [l3', eone]) (by rw [eone]; exact le3) ne3 fr4 new3
          · have etcf : s.tc = false := by cases h : s.tc <;> first | rfl | exact absurd h etc
            have lh2 := lh'.ext x2
            have le2 := le'.keep x2 nn
            have llen : (ls ++ ls2).length = (as ++ as2).length := lh'.pr.length.symm
            refine ⟨_, rfl, rw, _, rfl, .inl (SqL.of lh2.er), ?_⟩
            refine ⟨_, rfl, e', rfl, lay_loop (x0 := y9) (y0 := y10) (r := 2) (fun x y => [some (V.ref hd), some (V.ref pb), some (V.ref rw), some (V.ref e'), some (V.ref t), y5, y6, y7, some (V.int (((as ++ as2).map V.ref).length : Nat)), x, y]) (fun _ _ _ => rfl) (fun _ _ _ => rfl) (fun _ _ => rfl) (fun _ _ => rfl) (fun _ _ => rfl) (fun x y Hy Q _ h => ⟨_, rfl, h _⟩) lh2 le2 (fun z => ne' (.tail _ z)) fun x9 x10 H3 lh3 fr3 => ?_⟩
            have et3 := fr3.tups _ _ et2
            have t3 : Tu H' H3 := x2.tu.trans fr3.tu
            have fr3' : Fr (rw :: (as ++ as2)) H' H3 := (x2.mono fun _ z => nomatch z).trans (fr3.mono fun a z => .tail _ z)
            clear lh2 le2 fr3 x2 et2
            have lat : ((as ++ as2).map V.ref).length = (as ++ as2).length := List.length_map ..
            rw [lat]
            -- the row
            dsimp only [tNext]
            refine seq_cut (fun σ' H4 => ∃ (r nl : _), σ' = [some (V.ref hd), some (V.ref pb), some (V.ref rw), some (V.ref e'), some (V.ref t), y5, y6, y7, some (V.int ((as ++ as2).length : Nat)), x9, x10] ∧ LyH H4 rw (as ++ as2 ++ [r]) (ls ++ ls2 ++ [nl]) ∧ nl = (if s.iw = true then 4 else 3 + rest.length) ∧ Fr (rw :: (as ++ as2)) H' H4 ∧ H' r = none) (fun D' hQ _ _ _ => ?_) (fun σ' H4 hP => ?_)
            · refine ⟨_, rfl, .inl ⟨rfl, _, SqL.of lh3.er⟩, _, rfl, t, _, rfl, .inr et3, fun a1 Ha n1 x1 e1 => ⟨sz1, fun a2 Hb n2 x2 e2 => ?_⟩⟩
              refine ⟨a1, a2, _, _, rfl, rfl, x2.keep _ _ nn e1, e2, small40 (by show rest.length + 1 + 1 + 1 ≤ 1000; omega), fun a3 Hc n3 x3 e3 => ⟨_, rfl, t, _, 1, z, rfl, rfl, SqT.of (x3.tups _ _ (x2.tups _ _ (x1.tups _ _ et3))), at1, sz4, fun a4 Hd n4 x4 e4 => ⟨sz2, fun a5 He n5 x5 e5 => ?_⟩⟩⟩
              refine ⟨_, rfl, t, _, 0, .str s.word, rfl, rfl, SqT.of (x5.tups _ _ (x4.tups _ _ (x3.tups _ _ (x2.tups _ _ (x1.tups _ _ et3))))), at0, sz2, fun a6 Hf n6 x6 e6 => ⟨a6, _, rfl, .inr (SqT.of e6), rfl, rfl, .inr ⟨_, rfl, ?_⟩⟩⟩
              rw [iw_in s]
              have x3f : Fr [] H3 Hf := ((((x1.trans x2).trans x3).trans x4).trans x5).trans x6
              have lhf := lh3.ext x3f
              have e3f := x6.keep _ _ nn (x5.keep _ _ nn (x4.keep _ _ nn e3))
              have e4f := x6.keep _ _ nn (x5.keep _ _ nn e4)
              have e5f := x6.keep _ _ nn e5
              have r3 : a3 ≠ rw := (ne_of_none (((x1.trans x2)).keep _ _ nn lh3.er) n3).symm
              have r4 : a4 ≠ rw := (ne_of_none (((x1.trans x2).trans x3).keep _ _ nn lh3.er) n4).symm
              have b3 : H' a3 = none := fr3'.back _ ((x1.trans x2).back _ n3)
              have b4 : H' a4 = none := fr3'.back _ (((x1.trans x2).trans x3).back _ n4)
              have frf : Fr (rw :: (as ++ as2)) H' Hf := fr3'.trans (x3f.mono fun _ z => nomatch z)
              cases hiw : s.iw with
              | true =>
                refine ⟨a5, _, _, .ref a4, rfl, rfl, SqL.of e5f, rfl, rw, _, .ref a4, rfl, rfl, lhf.er, small1000 (by rw [lat, lnas]; omega), hQ _ _ ⟨a4, _, rfl, lhf.app e4f r4, by rw [if_pos hiw]; rfl, frf.mutL (.head _) lhf.er, b4⟩⟩
              | false =>
                refine ⟨a5, _, _, .ref a3, rfl, rfl, SqL.of e5f, rfl, rw, _, .ref a3, rfl, rfl, lhf.er, small1000 (by rw [lat, lnas]; omega), hQ _ _ ⟨a3, _, rfl, lhf.app (rest := z :: rest ++ [.non]) (show Hf a3 = some (.lst (V.str s.word :: (z :: rest ++ [.non]))) from e3f) r3, ?_, frf.mutL (.head _) lhf.er, b3⟩⟩
                rw [if_neg (by rw [hiw]; decide), List.length_append]
                show rest.length + 1 + 1 + 1 = 3 + rest.length
                omega
            · obtain ⟨r, nl, rfl, lh4, enl, fr4, br⟩ := hP
              have et4 := fr4.tups _ _ et
              have anl : (ls ++ ls2 ++ [nl])[(as ++ as2).length]? = some nl := by
                rw [← llen, List.getElem?_append_right (Nat.le_refl _), Nat.sub_self]
                rfl
              have nin : ∀ {Hx : Hp} {a : Addr}, Fr (rw :: (as ++ as2)) H4 Hx → Hx a = none → a ∉ rw :: (as ++ as2 ++ [r]) := fun y n z => by
                have n4 := y.back _ n
                rcases List.mem_cons.mp z with q1 | z
                · rw [q1, lh4.er] at n4; cases n4
                · obtain ⟨j, hj⟩ := List.mem_iff_getElem?.mp z
                  obtain ⟨y, _, w, rest, e1, _⟩ := pd_at lh4.pr hj
                  rw [e1] at n4; cases n4
              -- ends = [(at, len(one))]
              refine ⟨_, rfl, _, rfl, t, _, rfl, .inr (SqT.of et4), sz2, fun b1 H5 n5 x5 e5 => ⟨Kz.sz1, fun e2 H6 n6 x6 e6 => ?_⟩⟩
              have x46 : Fr [] H4 H6 := x5.trans x6
              have lh6 := lh4.ext x46
              have fr6 : Fr (rw :: (as ++ as2)) H' H6 := fr4.trans (x46.mono fun _ z => nomatch z)
              have ne6 : e2 ∉ rw :: (as ++ as2 ++ [r]) := nin (x5.mono fun _ z => nomatch z) n6
              have et6 := x46.tups _ _ et4
              have e5' := x6.tups _ _ e5
              have newr : ∀ a ∈ [r], H' a = none := fun a h => by rw [List.mem_singleton.mp h]; exact br
              have simple : s.iw = false → (plS env n s).size = 1 → LyE H6 e2 (ls ++ ls2 ++ [nl]) (m + 2 * szS env n (b.take i) + 2 * (plS env n s).size) := fun h1 h2 => by
                rw [h1, if_neg (by decide)] at enl
                refine LyE.one e6 e5' anl (by rw [List.length_cons, List.length_cons]; omega) (by rw [enl, List.length_cons, List.length_cons]; omega) (by omega)
              clear lh3 lh4 fr4 fr3' x5 x6 et4 et3 n5 n6 e5 t3
              cases s with
              | times kk bb => cases etcf
              | call fnm => cases etcf
              | set x u =>
                refine ⟨_, rfl, t, _, 0, .str "set", rfl, rfl, SqT.of et6, at0, rfl, _, rfl, ite2 (fun c => absurd c (by decide +kernel)) (fun _ => ?_)⟩
                refine ⟨_, rfl, t, _, 0, .str "set", rfl, rfl, SqT.of et6, at0, rfl, _, rfl, ite2 (fun c => absurd c (by decide +kernel)) (fun _ => ?_)⟩
                have e1 : (plS env n (.set x u)).size = 1 := by cases n <;> rfl
                exact fin _ H6 e2 [r] [nl] ⟨_, _, _, _, _, _, _, rfl⟩ lh6 (by rw [e1]; rfl) (by rw [e1]; rfl) (simple rfl e1) ne6 fr6 newr
              | read x g =>
                refine ⟨_, rfl, t, _, 0, .str "read", rfl, rfl, SqT.of et6, at0, rfl, _, rfl, ite2 (fun c => absurd c (by decide +kernel)) (fun _ => ?_)⟩
                refine ⟨_, rfl, t, _, 0, .str "read", rfl, rfl, SqT.of et6, at0, rfl, _, rfl, ite2 (fun c => absurd c (by decide +kernel)) (fun _ => ?_)⟩
                have e1 : (plS env n (.read x g)).size = 1 := by cases n <;> rfl
                exact fin _ H6 e2 [r] [nl] ⟨_, _, _, _, _, _, _, rfl⟩ lh6 (by rw [e1]; rfl) (by rw [e1]; rfl) (simple rfl e1) ne6 fr6 newr
              | tell u =>
                refine ⟨_, rfl, t, _, 0, .str "tell", rfl, rfl, SqT.of et6, at0, rfl, _, rfl, ite2 (fun c => absurd c (by decide +kernel)) (fun _ => ?_)⟩
                refine ⟨_, rfl, t, _, 0, .str "tell", rfl, rfl, SqT.of et6, at0, rfl, _, rfl, ite2 (fun c => absurd c (by decide +kernel)) (fun _ => ?_)⟩
                have e1 : (plS env n (.tell u)).size = 1 := by cases n <;> rfl
                exact fin _ H6 e2 [r] [nl] ⟨_, _, _, _, _, _, _, rfl⟩ lh6 (by rw [e1]; rfl) (by rw [e1]; rfl) (simple rfl e1) ne6 fr6 newr
              | sure xs u =>
                refine ⟨_, rfl, t, _, 0, .str "sure", rfl, rfl, SqT.of et6, at0, rfl, _, rfl, ite2 (fun c => absurd c (by decide +kernel)) (fun _ => ?_)⟩
                refine ⟨_, rfl, t, _, 0, .str "sure", rfl, rfl, SqT.of et6, at0, rfl, _, rfl, ite2 (fun c => absurd c (by decide +kernel)) (fun _ => ?_)⟩
                have e1 : (plS env n (.sure xs u)).size = 1 := by cases n <;> rfl
                exact fin _ H6 e2 [r] [nl] ⟨_, _, _, _, _, _, _, rfl⟩ lh6 (by rw [e1]; rfl) (by rw [e1]; rfl) (simple rfl e1) ne6 fr6 newr
              | ite u ba bb =>
                cases k with
                | zero => exact rs.elim
                | succ k =>
                obtain ⟨q', u', pa, pb2, va, vb2, eq1, h1, _, h2, h3, h4, h5⟩ := rs
                cases eq1
                cases n with
                | zero => exact ws.elim
                | succ j =>
                obtain ⟨_, wfa, wfb⟩ := ws
                have et6 := fr6.tups _ _ h1
                have esz2 : (plS env (j + 1) (.ite u ba bb)).size = 1 + szS env j ba + szS env j bb := by
                  show 1 + (plL (plS env j) ba).size + (plL (plS env j) bb).size + 0 = 1 + (plL (plS env j) ba).size + (plL (plS env j) bb).size
                  omega
                have enl4 : nl = 4 := by rw [enl]; exact if_pos rfl
                have lnr : (as ++ as2 ++ [r]).length = as.length + szS env (j + 1) (b.take i) + 1 := by rw [List.length_append, lnas]; rfl
                have ne_r : ∀ {a : Addr}, a ∈ [r] → H' a = none := fun h => newr _ h
                have nhdr : hd ∉ rw :: (as ++ as2 ++ [r]) := fun z => by
                  rcases List.mem_cons.mp z with q1 | z
                  · exact nhd' (by rw [q1]; exact .head _)
                  · rcases List.mem_append.mp z with z | z
                    · exact nhd' (.tail _ z)
                    · obtain ⟨kvs, ek, _⟩ := ld'
                      rw [newr hd z] at ek
                      cases ek
                refine ⟨_, rfl, t, _, 0, .str "if", rfl, rfl, SqT.of et6, at0, rfl, _, rfl, ite2 (fun _ => ?_) (fun c => absurd (by decide +kernel) c)⟩
                refine ⟨_, rfl, _, rfl, t, _, 2, .ref pa, rfl, rfl, SqT.of et6, at2, _, rfl, _, rfl, sz2, fun b2 H7 n7 x7 e7 => ⟨Kz.sz1, fun e3 H8 n8 x8 e8 => ?_⟩⟩
                have x68 : Fr [] H6 H8 := x7.trans x8
                have fr8 : Fr (rw :: (as ++ as2)) H' H8 := fr6.trans (x68.mono fun _ z => nomatch z)
                have ne8 : e3 ∉ rw :: (as ++ as2 ++ [r]) := nin ((x46.trans x7).mono fun _ z => nomatch z) n8
                refine ⟨j, rfl, hd, pa, rw, e3, 1, k, va, ba, as ++ as2 ++ [r], ls ++ ls2 ++ [nl], rfl, ld'.keep fr8 nhd', fr8.tups _ _ h2, RL.mono fr8.tu h3, wfa, lh6.ext x68, LyE.one e8 (x8.tups _ _ e7) anl (by decide) (by rw [enl4]; decide) (Nat.le_refl 1), ne8, nhdr, by rw [lnr]; omega, by omega, fun e5 H9 as5 ls5 lh9 l5 l5' le9 ne9 fr9 new5 => ?_⟩
                have nhd9 : hd ∉ rw :: (as ++ as2 ++ [r] ++ as5) := fun z => by
                  rcases List.mem_cons.mp z with q1 | z
                  · exact nhd' (by rw [q1]; exact .head _)
                  · rcases List.mem_append.mp z with z | z
                    · exact nhdr (.tail _ z)
                    · obtain ⟨kvs, ek, _⟩ := ld'.keep fr8 nhd'
                      rw [new5 hd z] at ek
                      cases ek
                have fr9' : Fr (rw :: (as ++ as2)) H' H9 := fr8.step fr9 fun a z => by
                  rcases List.mem_cons.mp z with q1 | z
                  · rw [q1]; exact .inl (.head _)
                  · rcases List.mem_append.mp z with z | z
                    · exact .inl (.tail _ z)
                    · exact .inr (newr a z)
                have et9 := fr9'.tups _ _ h1
                refine ⟨_, rfl, _, rfl, t, _, 3, .ref pb2, rfl, rfl, SqT.of et9, at3, _, rfl, _, rfl, sz2, fun b3 Ha na xa ea => ⟨Kz.sz1, fun e6 Hb nb xb eb => ?_⟩⟩
                have x9b : Fr [] H9 Hb := xa.trans xb
                have frb : Fr (rw :: (as ++ as2)) H' Hb := fr9'.trans (x9b.mono fun _ z => nomatch z)
                have lhb := lh9.ext x9b
                have neb : e6 ∉ rw :: (as ++ as2 ++ [r] ++ as5) := fun z => by
                  have n4 := xa.back _ nb
                  rcases List.mem_cons.mp z with q1 | z
                  · rw [q1, lh9.er] at n4; cases n4
                  · obtain ⟨jj, hj⟩ := List.mem_iff_getElem?.mp z
                    obtain ⟨y, _, w, rest, e1, _⟩ := pd_at lh9.pr hj
                    rw [e1] at n4; cases n4
                have anl9 : (ls ++ ls2 ++ [nl] ++ ls5)[(as ++ as2).length]? = some nl := by
                  rw [List.getElem?_append_left (List.getElem?_eq_some_iff.mp anl).1]
                  exact anl
                refine ⟨j, rfl, hd, pb2, rw, e6, 1, k, vb2, bb, as ++ as2 ++ [r] ++ as5, ls ++ ls2 ++ [nl] ++ ls5, rfl, ld'.keep frb nhd', frb.tups _ _ h4, RL.mono frb.tu h5, wfb, lhb, LyE.one eb (xb.tups _ _ ea) anl9 (by decide) (by rw [enl4]; decide) (Nat.le_refl 1), neb, nhd9, by rw [List.length_append, lnr, l5]; omega, by omega, fun e7 Hc as7 ls7 lhc l7 l7' lec nec frc new7 => ?_⟩
                have le9c := (le9.keep x9b nn).keep frc ne9
                obtain ⟨es5, e51, e52, e53⟩ := le9c
                obtain ⟨es7, e71, e72, e73⟩ := lec
                refine ⟨e5, e7, es5, es7, rfl, rfl, e51, e71, small40 (by omega), fun e8' Hd nd xd ed => ?_⟩
                have frd : Fr (rw :: (as ++ as2)) H' Hd := (frb.step frc fun a z => by
                  rcases List.mem_cons.mp z with q1 | z
                  · rw [q1]; exact .inl (.head _)
                  · rcases List.mem_append.mp z with z | z
                    · rcases List.mem_append.mp z with z | z
                      · exact .inl (.tail _ z)
                      · exact .inr (newr a z)
                    · exact .inr (fr8.back _ (new5 a z))).trans (xd.mono fun _ z => nomatch z)
                have nef : e8' ∉ rw :: (as ++ as2 ++ [r] ++ as5 ++ as7) := fun z => by
                  rcases List.mem_cons.mp z with q1 | z
                  · rw [q1, lhc.er] at nd; cases nd
                  · obtain ⟨jj, hj⟩ := List.mem_iff_getElem?.mp z
                    obtain ⟨y, _, w, rest, e1, _⟩ := pd_at lhc.pr hj
                    rw [e1] at nd; cases nd
                have lhd := lhc.ext xd
                have eA : as ++ as2 ++ [r] ++ as5 ++ as7 = as ++ as2 ++ (r :: (as5 ++ as7)) := by simp
                have eL : ls ++ ls2 ++ [nl] ++ ls5 ++ ls7 = ls ++ ls2 ++ (nl :: (ls5 ++ ls7)) := by simp
                refine ⟨_, rfl, t, _, 0, .str "if", rfl, rfl, SqT.of (frd.tups _ _ h1), at0, rfl, _, rfl, ite2 (fun c => absurd c (by decide +kernel)) (fun _ => ?_)⟩
                refine fin _ Hd e8' (r :: (as5 ++ as7)) (nl :: (ls5 ++ ls7)) ⟨_, _, _, _, _, _, _, rfl⟩ (by rw [← eA, ← eL]; exact lhd) ?_ ?_ ?_ (by rw [← eA]; exact nef) frd fun a z => ?_
                · rw [List.length_cons, List.length_append, l5, l7, esz2]; omega
                · rw [List.length_cons, List.length_append, l5', l7', esz2]; omega
                · rw [← eL, esz2]
                  refine ⟨es5 ++ es7, ed, by rw [List.length_append]; omega, fun v hv => ?_⟩
                  rcases List.mem_append.mp hv with z | z
                  · obtain ⟨t2, k2, p2, n2, q1, q2, q3, q4⟩ := e53 v z
                    exact ⟨t2, k2, p2, n2, q1, xd.tups _ _ q2, by rw [List.getElem?_append_left (List.getElem?_eq_some_iff.mp q3).1]; exact q3, q4⟩
                  · obtain ⟨t2, k2, p2, n2, q1, q2, q3, q4⟩ := e73 v z
                    exact ⟨t2, k2, p2, n2, q1, xd.tups _ _ q2, q3, q4⟩
                · rcases List.mem_cons.mp z with q1 | z
                  · rw [q1]; exact br
                  · rcases List.mem_append.mp z with z | z
                    · exact fr8.back _ (new5 a z)
                    · exact frb.back _ (new7 a z)
              | wh u bb =>
                cases k with
                | zero => exact rs.elim
                | succ k =>
                obtain ⟨q', u', pb2, vb2, eq1, h1, _, h4, h5⟩ := rs
                cases eq1
                cases n with
                | zero => exact ws.elim
                | succ j =>
                obtain ⟨_, wfb⟩ := ws
                have et6 := fr6.tups _ _ h1
                have esz2 : (plS env (j + 1) (.wh u bb)).size = 1 + szS env j bb := by
                  show 1 + (plL (plS env j) bb).size + 0 = 1 + (plL (plS env j) bb).size
                  omega
                have enl4 : nl = 4 := by rw [enl]; exact if_pos rfl
                have lnr : (as ++ as2 ++ [r]).length = as.length + szS env (j + 1) (b.take i) + 1 := by rw [List.length_append, lnas]; rfl
                have nhdr : hd ∉ rw :: (as ++ as2 ++ [r]) := fun z => by
                  rcases List.mem_cons.mp z with q1 | z
                  · exact nhd' (by rw [q1]; exact .head _)
                  · rcases List.mem_append.mp z with z | z
                    · exact nhd' (.tail _ z)
                    · obtain ⟨kvs, ek, _⟩ := ld'
                      rw [newr hd z] at ek
                      cases ek
                refine ⟨_, rfl, t, _, 0, .str "while", rfl, rfl, SqT.of et6, at0, rfl, _, rfl, ite2 (fun c => absurd c (by decide +kernel)) (fun _ => ?_)⟩
                refine ⟨_, rfl, t, _, 0, .str "while", rfl, rfl, SqT.of et6, at0, rfl, _, rfl, ite2 (fun _ => ?_) (fun c => absurd (by decide +kernel) c)⟩
                refine ⟨_, rfl, _, rfl, t, _, 2, .ref pb2, rfl, rfl, SqT.of et6, at2, _, rfl, _, rfl, sz2, fun b2 H7 n7 x7 e7 => ⟨Kz.sz1, fun e3 H8 n8 x8 e8 => ?_⟩⟩
                have x68 : Fr [] H6 H8 := x7.trans x8
                have fr8 : Fr (rw :: (as ++ as2)) H' H8 := fr6.trans (x68.mono fun _ z => nomatch z)
                have ne8 : e3 ∉ rw :: (as ++ as2 ++ [r]) := nin ((x46.trans x7).mono fun _ z => nomatch z) n8
                refine ⟨j, rfl, hd, pb2, rw, e3, 1, k, vb2, bb, as ++ as2 ++ [r], ls ++ ls2 ++ [nl], rfl, ld'.keep fr8 nhd', fr8.tups _ _ h4, RL.mono fr8.tu h5, wfb, lh6.ext x68, LyE.one e8 (x8.tups _ _ e7) anl (by decide) (by rw [enl4]; decide) (Nat.le_refl 1), ne8, nhdr, by rw [lnr]; omega, by omega, fun e5 H9 as5 ls5 lh9 l5 l5' le9 ne9 fr9 new5 => ?_⟩
                have fr9' : Fr (rw :: (as ++ as2)) H' H9 := fr8.step fr9 fun a z => by
                  rcases List.mem_cons.mp z with q1 | z
                  · rw [q1]; exact .inl (.head _)
                  · rcases List.mem_append.mp z with z | z
                    · exact .inl (.tail _ z)
                    · exact .inr (newr a z)
                have anl9 : (ls ++ ls2 ++ [nl] ++ ls5)[(as ++ as2).length]? = some nl := by
                  rw [List.getElem?_append_left (List.getElem?_eq_some_iff.mp anl).1]
                  exact anl
                refine ⟨e5, rfl, lay_loop (x0 := x9) (y0 := x10) (r := 2) (fun x y => [some (V.ref hd), some (V.ref pb), some (V.ref rw), some (V.ref e2), some (V.ref t), y5, y6, y7, some (V.int ((as ++ as2).length : Nat)), x, y]) (fun _ _ _ => rfl) (fun _ _ _ => rfl) (fun _ _ => rfl) (fun _ _ => rfl) (fun _ _ => rfl) (fun x y Hy Q _ h => ⟨_, rfl, h _⟩) lh9 le9 (fun z => ne9 (.tail _ z)) fun z9 z10 Ha lha fra => ?_⟩
                have fra' : Fr (rw :: (as ++ as2)) H' Ha := fr9'.step fra fun a z => by
                  rcases List.mem_append.mp z with z | z
                  · rcases List.mem_append.mp z with z | z
                    · exact .inl (.tail _ z)
                    · exact .inr (newr a z)
                  · exact .inr (fr8.back _ (new5 a z))
                refine ⟨_, rfl, sz2, fun b3 Hb nb xb eb => ⟨Kz.sz1, fun e6 Hc nc xc ec => ?_⟩⟩
                have xac : Fr [] Ha Hc := xb.trans xc
                have lhc := lha.ext xac
                have eA : as ++ as2 ++ [r] ++ as5 = as ++ as2 ++ (r :: as5) := by simp
                have eL : ls ++ ls2 ++ [nl] ++ ls5 = ls ++ ls2 ++ (nl :: ls5) := by simp
                have nef : e6 ∉ rw :: (as ++ as2 ++ [r] ++ as5) := fun z => by
                  have n4 := xb.back _ nc
                  rcases List.mem_cons.mp z with q1 | z
                  · rw [q1, lha.er] at n4; cases n4
                  · obtain ⟨jj, hj⟩ := List.mem_iff_getElem?.mp z
                    obtain ⟨y, _, w, rest, e1, _⟩ := pd_at lha.pr hj
                    rw [e1] at n4; cases n4
                refine fin _ Hc e6 (r :: as5) (nl :: ls5) ⟨_, _, _, _, _, _, _, rfl⟩ (by rw [← eA, ← eL]; exact lhc) ?_ ?_ ?_ (by rw [← eA]; exact nef) (fra'.trans (xac.mono fun _ z => nomatch z)) fun a z => ?_
                · rw [List.length_cons, l5, esz2]; omega
                · rw [List.length_cons, l5', esz2]; omega
                · rw [← eL]
                  exact LyE.one ec (xc.tups _ _ eb) anl9 (by decide) (by rw [enl4]; decide) (by omega)
                · rcases List.mem_cons.mp z with q1 | z
                  · rw [q1]; exact br
                  · exact fr8.back _ (new5 a z)
      · obtain ⟨e', as2, ls2, y4, y5, y6, y7, y8, y9, y10, rfl, lh', l2, l2', le', ne', fr, new⟩ := hP
        have eb : b.take vb.length = b := by rw [rlb.length]; exact List.take_length
        rw [eb] at l2 l2' le'
        exact ⟨_, rfl, q e' H' as2 ls2 lh' l2 l2' le' ne' fr new⟩
end
end Kz
set_option Elab.async false
set_option linter.all false
set_option maxRecDepth 100000
set_option maxHeartbeats 4000000
set_option pp.maxSteps 3000
/-! ZLc: the law's own rows: how many. -/
namespace Kz
open PySem PySem.Spec PyProof.Rows L2
/-- the helpers as pairs -/
theorem hv_split {K : PySem.W.Frag} {H : Hp} {n : Nat} : ∀ {hv : List V} {hs : List (Str × List Sm)}, Paired (RH H n) hv hs → ∃ (ps : List Addr) (kvs : List (Key × V)), hv = ps.map V.ref ∧ Paired (fun p kv => SqT K H p [kV kv.1, kv.2]) ps kvs ∧ kvs.map (·.1) = hs.map (fun h => (Sum.inr h.1 : Key)) ∧
    (∀ i : Int, valV kvs (Sum.inl i : Key) = none) ∧ ∀ f b, envL hs f = some b → ∃ q bv, valV kvs (Sum.inr f : Key) = some (.ref q) ∧ H q = some (.tup bv) ∧ RL H n bv b
  | _, _, .nil => ⟨[], [], rfl, .nil, rfl, fun _ => rfl, fun f b h => by cases h⟩
  | _, _, .cons (b := h) ⟨a, q, bv, e, h1, h2, h3⟩ t => by
    obtain ⟨ps, kvs, e1, e2, e3, e4, e5⟩ := hv_split (K := K) t
    refine ⟨a :: ps, (Sum.inr h.1, .ref q) :: kvs, by rw [e, e1]; rfl, .cons (SqT.of h1) e2, by rw [List.map_cons, List.map_cons, e3], fun i => by rw [valV_neg (fun z => by cases z)]; exact e4 i, fun f b hf => ?_⟩
    have hf : (if f = h.1 then some h.2 else envL _ f) = some b := hf
    split at hf
    · rename_i z
      rw [← Option.some.inj hf]
      exact ⟨q, bv, valV_pos (by rw [z]), h2, h3⟩
    · rename_i z
      obtain ⟨q', bv', h4, h5, h6⟩ := e5 f b hf
      exact ⟨q', bv', by rw [valV_neg (fun y => z (Sum.inr.inj y).symm)]; exact h4, h5, h6⟩
theorem nodup_inr {l : List Str} (h : l.Nodup) : (l.map (fun x => (Sum.inr x : Key))).Nodup := by
  induction l with
  | nil => exact List.nodup_nil
  | cons a l ih =>
    rw [List.nodup_cons] at h
    rw [List.map_cons, List.nodup_cons]
    refine ⟨fun z => ?_, ih h.2⟩
    obtain ⟨b, hb, e⟩ := List.mem_map.mp z
    exact h.1 (Sum.inr.inj e ▸ hb)
def spRowsN : Sp := fun vs H Q _ => ∃ (p : Addr) (Pg : Prg) (ws : List Str) (t s : Nat), vs = [.ref p] ∧ RPg H 6 p Pg ∧ PgOk ws Pg t s ∧ s ≤ 59 ∧ ∀ q H' xs, Fr [] H H' → H' q = some (.tup xs) → xs.length = (plP Pg).size + 1 → Q (.ref q) H'
section
variable {P : Program} {w : World} {K : PySem.W.Frag} {mg : Str → Option Value} {base : Heap}
theorem ok_rowsN (T : Tp K mg) : Fx P w K mg base 15 "_law_rows" ["_law_program_here"] spRowsN := by
  refine fx_of T 40 31 rfl rfl sc_l_rows (fun _ _ _ _ _ _ us hl => match us, hl with | [_], _ => rfl) (fun vs H Q E h => ?_) (fun f cdv A outer s H vs Q E hr h => ?_)
  · obtain ⟨p, Pg, ws, t, s, rfl, _⟩ := h
    rfl
  · obtain ⟨p, Pg, ws, t, s, rfl, ⟨g, h, b, hv, bv, ep, eg, ehn, hp, eb, rlb⟩, pok, s59, q⟩ := h
    have hu := hu_of hr
    have F_l_lay : Fx P w K mg base 14 "_law_lay" pLay (spLay (· ∈ ws) (· ∈ Pg.gauges) (envL Pg.helpers) 12) := ok_lay T 12 (by decide)
    refine ⟨_, (pss_cons (ps_set (i := 1) sc_l_rows.nd rfl (Or.inl rfl) (pe_lstC pa_nil))
    (pss_cons (ps_for PassesOwn.never rfl (pi_list (pe_F F_l_lay (hr.mono (by omega)) (by rfl) (pa_cons (pe_callTy (call_dictPT rfl) (by rfl) T.n_dict (by decide +kernel) (pa_cons (pe_ix ix_tup (pv 0) pe_int (fun _ _ => rfl)) pa_nil)) (pa_cons (pe_ix ix_tup (pv 0) pe_int (fun _ _ => rfl)) (pa_cons (pv 1) (pa_cons (pe_lstC pa_nil) pa_nil)))))) (pg_tup rfl (pgs_cons (pg_name (i := 2) sc_l_rows.nd rfl (Or.inl rfl)) (pgs_cons (pg_name (i := 3) sc_l_rows.nd rfl (Or.inl rfl)) pgs_nil))) (pss_one (ps_asg (pe_callB call_len_seq (by rfl) T.n_len PySem.boot_len (pa_cons (pv 1) pa_nil)) (pg_sub (pe_ix ix_list (pv 1) (pv 2) (fun _ _ => rfl)) (pv 3) set_list))))
    (pss_one (ps_ret (pe_callTy call_tupC (by rfl) T.n_tuple (by decide +kernel) (pa_cons (pe_op op_catL (pe_lc (own := [("_law_row", 4)]) rfl sc_l_rows.nd (pi_list (pv 1)) (blkOk_by (own := [("_law_row", 4)]) (N := N_l_rows) (sc := defScope s_l_rows) (by decide +kernel)) (fun _ _ _ _ _ => (pg_name (i := 4) sc_l_rows.nd rfl (Or.inl rfl))) (fun _ _ _ _ _ => pts_nil) (fun _ _ _ _ _ => (pe_callTy call_tupC (by rfl) T.n_tuple (by decide +kernel) (pa_cons (pv 4) pa_nil)))) (pe_lstC (pa_cons (pe_tupC (pa_cons pe_str pa_nil)) pa_nil))) pa_nil)))))), ?_⟩
    obtain ⟨ps, kvs, ehv, hps, hk, hi, he⟩ := hv_split (K := K) hp
    have mk : mergeK [] kvs = kvs := mergeK_new (kvs := []) (by
      rw [List.nil_append, hk]
      have := nodup_inr pok.hn
      rw [List.map_map] at this
      exact this)
    have sz : szS (envL Pg.helpers) 12 Pg.body = (plP Pg).size := by
      unfold szS plP
      rw [plL_up pok.bw (by decide : 12 ≤ NN)]
    have sz59 := Nat.le_trans pok.sz s59
    have nn : ∀ {a : Addr}, a ∉ ([] : List Addr) := fun z => nomatch z
    refine ⟨Nat.zero_le _, fun rw H1 n1 x1 e1 => ⟨_, rfl, p, _, 1, .ref h, rfl, rfl, SqT.of (x1.tups _ _ ep), at1, h, ps, kvs, rfl, by rw [← ehv]; exact ehn.fr x1, ?_, fun hd H2 n2 x2 e2 => ?_⟩⟩
    · exact Paired.mapP hps fun _ _ z => by
        rcases z with z | ⟨o, its, n, z⟩
        · rcases z with z | ⟨o, z⟩
          · exact SqT.of (x1.tups _ _ z)
          · exact .inl (.inr ⟨o, x1.fz _ _ _ z⟩)
        · exact .inr ⟨o, its, n, z⟩
    · rw [mk] at e2
      refine ⟨_, rfl, p, _, 2, .ref b, rfl, rfl, SqT.of (x2.tups _ _ (x1.tups _ _ ep)), at2, _, rfl, Nat.zero_le _, fun e0 H3 n3 x3 e3 => ?_⟩
      have x13 : Fr [] H H3 := (x1.trans x2).trans x3
      have e13 := x3.keep _ _ nn (x2.keep _ _ nn e1)
      have n0w : e0 ≠ rw := (ne_of_none (x2.keep _ _ nn e1) n3).symm
      have ndw : hd ≠ rw := (ne_of_none e1 n2).symm
      refine ⟨hd, b, rw, e0, 0, 6, bv, Pg.body, [], [], rfl, ⟨kvs, x3.keep _ _ nn e2, hi, fun f b hf => ?_⟩, x13.tups _ _ eb, RL.mono x13.tu rlb, pok.bw, ⟨e13, .nil, List.not_mem_nil⟩, ⟨[], e3, Nat.le_refl _, fun _ h => absurd h List.not_mem_nil⟩, fun z => n0w (List.mem_singleton.mp z), fun z => ndw (List.mem_singleton.mp z), by rw [sz]; show 0 + _ ≤ 200; omega, by rw [sz]; omega, fun e' H4 as2 ls2 ly l2 l2' le ne fr new => ?_⟩
      · obtain ⟨q', bv', h1, h2, h3⟩ := he f b hf
        exact ⟨q', bv', 6, h1, x13.tups _ _ h2, h3.mono x13.tu⟩
      · rw [List.nil_append] at ly ne
        rw [List.nil_append] at ly le
        have brw : H rw = none := n1
        have fr4 : Fr [] H H4 := x13.step fr fun a z => by
          rcases List.mem_cons.mp z with e | z
          · rw [e]; exact .inr brw
          · cases z
        refine ⟨e', rfl, lay_loop (x0 := none) (y0 := none) (r := 1) (fun x y => [some (V.ref p), some (V.ref rw), x, y, none]) (fun _ _ _ => rfl) (fun _ _ _ => rfl) (fun _ _ => rfl) (fun _ _ => rfl) (fun _ _ => rfl) (fun x y Hy Q ly h => ⟨_, rfl, rw, _, rfl, .inl (SqL.of ly.er), h _⟩) ly le (fun z => ne (.tail _ z)) fun y2 y3 H5 ly5 fr5 => ?_⟩
        have fr5' : Fr [] H H5 := fr4.step fr5 fun a z => .inr (x13.back _ (new a z))
        -- the rows as tuples
        refine ⟨_, rfl, rw, rfl, ⟨_, SqL.of ly5.er⟩, fun L hL => ?_⟩
        have nLw : rw ≠ L := ne_of_none ly5.er hL
        refine lc_list (xs := as2.map V.ref) (fun i H' => ∃ vs : List V, H' L = some (.lst vs) ∧ vs.length = i ∧ Fr [] H5 H') ⟨[], upd_same, rfl, Fr.refl.new hL⟩ (fun i H' _ hP => ?_) (fun i x H' hx hP => ?_) (fun H' hP => ?_)
        · obtain ⟨_, _, _, y⟩ := hP
          exact SqL.of (y.keep _ _ nn ly5.er)
        · obtain ⟨vs, eL, lv, y⟩ := hP
          refine ⟨rfl, ?_⟩
          dsimp only [tYes]
          rw [if_pos rfl]
          rw [List.getElem?_map] at hx
          obtain ⟨a, ea, rfl⟩ := Option.map_eq_some_iff.mp hx
          obtain ⟨nl, _, w0, rest, e1, _⟩ := pd_at ly5.pr ea
          have hil : i < as2.length := (List.getElem?_eq_some_iff.mp ea).1
          refine ⟨_, rfl, a, _, rfl, y.keep _ _ nn e1, fun t Hb nb xb eb => ⟨vs, xb.keep _ _ nn eL, small1000 (by omega), vs ++ [.ref t], upd_same, by rw [List.length_append, lv]; rfl, (y.trans xb).own hL (xb.keep _ _ nn eL)⟩⟩
        · obtain ⟨vs, eL, lv, y⟩ := hP
          rw [List.length_map] at lv
          refine ⟨Kz.sz1, fun t1 Ha na xa ea => ⟨Kz.sz1, fun l1 Hb nb xb eb => ?_⟩⟩
          refine ⟨L, l1, _, _, rfl, rfl, xb.keep _ _ nn (xa.keep _ _ nn eL), eb, small40 (by show vs.length + 1 ≤ 1000; omega), fun l3 Hc nc xc ec => ⟨l3, _, rfl, ec, fun qa Hd nd xd ed => ?_⟩⟩
          refine q qa Hd _ (fr5'.trans (y.trans (((xa.trans xb).trans xc).trans xd))) ed ?_
          rw [List.length_append, lv, l2, sz]
          rfl
end
end Kz
set_option Elab.async false
set_option linter.all false
set_option maxRecDepth 100000
set_option maxHeartbeats 4000000
set_option pp.maxSteps 3000
/-! ZLd: values are drawn; a program is made longer. -/
namespace Kz
open PySem PySem.Spec PyProof.Rows L2
def spValues : Sp := fun vs H Q _ => ∃ (f : Addr) (fl : Fl) (m : Nat), vs = [.ref f, .int m] ∧ FlAt H f fl ∧ m ≤ 100 ∧
  ∀ p H' fl' (ns : List Int), FlAt H' f fl' → Fr [f] H H' → H p = none → H' p = some (.lst (ns.map V.int)) → ns.length = m → (∀ n ∈ ns, 0 ≤ n ∧ n < WD) → Q (.ref p) H'
def spLonger : Sp := fun vs H Q _ => ∃ (f p : Addr) (fl : Fl) (Pg : Prg) (ws : List Str) (s : Nat), vs = [.ref f, .ref p] ∧ FlAt H f fl ∧ RPg H 6 p Pg ∧ PgOk ws Pg 217 s ∧ s ≤ 59 ∧
  ∀ p' H' fl' Pg', FlAt H' f fl' → Fr [f] H H' → RPg H' 6 p' Pg' → PgOk ws Pg' 276 59 → Q (.ref p') H'
section
variable {P : Program} {w : World} {K : PySem.W.Frag} {mg : Str → Option Value} {base : Heap}
theorem ok_values (T : Tp K mg) : Fx P w K mg base 2 "_law_values" ["_law_flow_here", "_law_many"] spValues := by
  have F_l_draw : Fx P w K mg base 1 "_law_draw" ["_law_flow_here", "_law_many"] spDrawC := ok_drawC T
  refine fx_of T 41 32 rfl rfl sc_l_values (fun _ _ _ _ _ _ us hl => match us, hl with | [_, _], _ => rfl) (fun vs H Q E h => ?_) (fun f cdv A outer s H vs Q E hr h => ?_)
  · obtain ⟨f, fl, m, rfl, _⟩ := h
    rfl
  · obtain ⟨f, fl, m, rfl, hf, hm, q⟩ := h
    have hu := hu_of hr
    refine ⟨_, (pss_one (ps_ret (pe_lc (own := [("_law_k", 2)]) rfl sc_l_values.nd (pi_range1 (by rfl) T.n_range (pa_cons (pv 1) pa_nil)) (blkOk_by (own := [("_law_k", 2)]) (N := N_l_values) (sc := defScope s_l_values) (by decide +kernel)) (fun _ _ _ _ _ => (pg_name (i := 2) sc_l_values.nd rfl (Or.inl rfl))) (fun _ _ _ _ _ => pts_nil) (fun _ _ _ _ _ => (pe_ix (ix_listB (K := K) rfl) (pe_lstC (pa_cons (pe_F F_l_draw (hr.mono (by omega)) (by rfl) (pa_cons (pv 0) (pa_cons pe_int pa_nil))) (pa_cons (pe_F F_l_draw (hr.mono (by omega)) (by rfl) (pa_cons (pv 0) (pa_cons pe_int pa_nil))) pa_nil))) (pe_F F_l_draw (hr.mono (by omega)) (by rfl) (pa_cons (pv 0) (pa_cons pe_int pa_nil))) (fun _ _ => rfl)))))), ?_⟩
    have nn : ∀ {a : Addr}, a ∉ ([] : List Addr) := fun z => nomatch z
    refine ⟨_, rfl, m, rfl, by omega, by omega, fun D hD => ?_⟩
    have nDf : D ≠ f := (ne_of_none hf.at_ hD).symm
    have nDf1 : D ∉ [f] := fun z => nDf (List.mem_singleton.mp z)
    refine lc_range (lo := 0) (n := m) (fun i H' => ∃ (fl' : Fl) (ns : List Int), H' D = some (.lst (ns.map V.int)) ∧ FlAt H' f fl' ∧ Fr [f] H H' ∧ ns.length = i ∧ ∀ n ∈ ns, 0 ≤ n ∧ n < WD) ⟨fl, [], upd_same, hf.new hD, Fr.refl.new hD, rfl, fun _ h => absurd h List.not_mem_nil⟩ (fun i H' hi hP => ?_) (fun H' hP => ?_)
    · obtain ⟨fl', ns, eD, h', y, ln, hb⟩ := hP
      refine ⟨rfl, ?_⟩
      dsimp only [tYes]
      rw [if_pos rfl]
      refine ⟨_, rfl, f, fl', 4, rfl, h', by decide, by decide, fun d1 Ha fla a0 a1 ha xa => ⟨_, rfl, f, fla, 1000000, rfl, ha, by decide, by decide, fun d2 Hb flb b0 b1 hb' xb => ⟨sz2, fun l Hc nc xc ec => ⟨_, rfl, f, flb, 2, rfl, hb'.keep xc nn, by decide, by decide, fun d3 Hd fld c0 c1 hd xd => ?_⟩⟩⟩⟩
      have nlf : l ∉ [f] := fun z => (ne_of_none hb'.at_ nc).symm (List.mem_singleton.mp z)
      have fin : ∀ z : Int, 0 ≤ z → z < WD → ∃ acc, Hd D = some (.lst acc) ∧ acc.length < sizeLine ∧ (∃ (fl' : Fl) (ns : List Int), upd Hd D (.lst (acc ++ [.int z])) D = some (.lst (ns.map V.int)) ∧ FlAt (upd Hd D (.lst (acc ++ [.int z]))) f fl' ∧ Fr [f] H (upd Hd D (.lst (acc ++ [.int z]))) ∧ ns.length = i + 1 ∧ ∀ n ∈ ns, 0 ≤ n ∧ n < WD) := fun z z0 z1 => by
        have eD' := xd.keep _ _ nDf1 (xc.keep _ _ nn (xb.keep _ _ nDf1 (xa.keep _ _ nDf1 eD)))
        refine ⟨_, eD', small1000 (by rw [List.length_map]; omega), fld, ns ++ [z], ?_, ⟨by rw [upd_ne (Ne.symm nDf)]; exact hd.at_, hd.ok⟩, ((((y.trans xa).trans xb).trans (xc.mono fun _ z => nomatch z)).trans xd).own hD eD', by rw [List.length_append, ln]; rfl, fun n hn => ?_⟩
        · rw [upd_same, List.map_append]; rfl
        · rcases List.mem_append.mp hn with q | q
          · exact hb n q
          · rw [List.mem_singleton.mp q]; exact ⟨z0, z1⟩
      exact ix2_cut (xd.keep _ _ nlf ec) c0 c1 (fun _ => fin d1 a0 (by unfold WD; omega)) (fun _ => fin d2 b0 b1)
    · obtain ⟨fl', ns, eD, h', y, ln, hb⟩ := hP
      exact q D H' fl' ns h' y hD eD ln hb
theorem ok_longer (T : Tp K mg) : Fx P w K mg base 16 "_law_longer" ["_law_flow_here", "_law_program_here"] spLonger := by
  have F_l_draw : Fx P w K mg base 1 "_law_draw" ["_law_flow_here", "_law_many"] spDrawC := ok_drawC T
  have F_l_rows : Fx P w K mg base 15 "_law_rows" ["_law_program_here"] spRowsN := ok_rowsN T
  have F_l_term : Fx P w K mg base 13 "_law_term" ["_law_flow_here", "_law_names_here", "_law_room_here"] (spTerm 11) := ok_term T 11
  refine fx_of T 45 36 rfl rfl sc_l_longer (fun _ _ _ _ _ _ us hl => match us, hl with | [_, _], _ => rfl) (fun vs H Q E h => ?_) (fun f cdv A outer s H vs Q E hr h => ?_)
  · obtain ⟨f, p, fl, Pg, ws, s, rfl, _⟩ := h
    rfl
  · obtain ⟨f, p, fl, Pg, ws, s, rfl, hf, rp, pok, s59, q⟩ := h
    have hu := hu_of hr
    refine ⟨_, (pss_cons (ps_if (pt_cmpR op_gt (pe_F F_l_draw (hr.mono (by omega)) (by rfl) (pa_cons (pv 0) (pa_cons pe_int pa_nil))) pe_int (nomark _)) (pss_one (ps_ret (pv 1)))
     pss_nil)
    (pss_cons (ps_par (i := 2) (j := 3) rfl sc_l_longer.nd rfl rfl (by decide) rfl rfl (pa_cons (pe_callTy call_lstC (by rfl) T.n_list (by decide +kernel) (pa_cons (pe_ix ix_tup (pv 1) pe_int (fun _ _ => rfl)) pa_nil)) (pa_cons (pe_callTy call_lstC (by rfl) T.n_list (by decide +kernel) (pa_cons (pe_ix ix_tup (pv 1) pe_int (fun _ _ => rfl)) pa_nil)) pa_nil)) (by rfl))
    (pss_cons (ps_for PassesOwn.never rfl (pi_range1 (by rfl) T.n_range (pa_cons (pe_F F_l_draw (hr.mono (by omega)) (by rfl) (pa_cons (pv 0) (pa_cons (pe_op op_sub pe_int (pe_callB call_len_seq (by rfl) T.n_len PySem.boot_len (pa_cons (pe_F F_l_rows (hr.mono (by omega)) (by rfl) (pa_cons (pv 1) pa_nil)) pa_nil))) pa_nil))) pa_nil)) (pg_name (i := 4) sc_l_longer.nd rfl (Or.inl rfl)) (pss_cons (ps_set (i := 5) sc_l_longer.nd rfl (Or.inl rfl) (pe_F F_l_term (hr.mono (by omega)) (by rfl) (pa_cons (pv 0) (pa_cons (pv 2) (pa_cons pe_int pa_nil)))))
      (pss_one (ps_expr (pe_bm PySem.F.plainAttrs_list PySem.F.slot_list_append PySem.F.type_list_append mt_append (pv 3) (pa_cons (pe_ix ix_list (pe_lstC (pa_cons (pe_tupC (pa_cons pe_str (pa_cons (pv 5) pa_nil))) (pa_cons (pe_tupC (pa_cons pe_str (pa_cons (pe_ix ix_list (pv 2) (pe_F F_l_draw (hr.mono (by omega)) (by rfl) (pa_cons (pv 0) (pa_cons (pe_callB call_len_seq (by rfl) T.n_len PySem.boot_len (pa_cons (pv 2) pa_nil)) pa_nil))) (fun _ _ => rfl)) (pa_cons (pv 5) pa_nil)))) pa_nil))) (pe_F F_l_draw (hr.mono (by omega)) (by rfl) (pa_cons (pv 0) (pa_cons pe_int pa_nil))) (fun _ _ => rfl)) pa_nil))))))
    (pss_one (ps_ret (pe_tupC (pa_cons (pe_ix ix_tup (pv 1) pe_int (fun _ _ => rfl)) (pa_cons (pe_ix ix_tup (pv 1) pe_int (fun _ _ => rfl)) (pa_cons (pe_callTy call_tupC (by rfl) T.n_tuple (by decide +kernel) (pa_cons (pv 3) pa_nil)) pa_nil))))))))), ?_⟩
    have nn : ∀ {a : Addr}, a ∉ ([] : List Addr) := fun z => nomatch z
    refine ⟨_, rfl, f, fl, 4, rfl, hf, by decide, by decide, fun d1 H1 fl1 a0 a1 h1 x1 => ⟨_, _, rfl, rfl, _, rfl, ite2 (fun _ => ?_) (fun _ => ?_)⟩⟩
    · refine ⟨_, rfl, q p H1 fl1 Pg h1 x1 (rp.fr x1) ⟨pok.g1, pok.g2, pok.gw, pok.hn, pok.hl, pok.hw, pok.hb, pok.bw, pok.st.mono (by decide), Nat.le_trans pok.sz s59, Nat.le_trans pok.bl (by decide), pok.ne, pok.hs⟩⟩
    · obtain ⟨g, h, b, hv, bv, ep, eg, ehn, hp, eb, rlb⟩ := (rp.fr x1).ex
      refine ⟨_, rfl, p, _, 0, .ref g, rfl, rfl, SqT.of ep, at0, g, _, rfl, .inr eg, fun nl H2 n2 x2 e2 => ⟨_, rfl, p, _, 2, .ref b, rfl, rfl, SqT.of (x2.tups _ _ ep), at2, b, _, rfl, .inr (x2.tups _ _ eb), fun bl H3 n3 x3 e3 => ⟨_, _, rfl, ?_⟩⟩⟩
      have nlf : nl ∉ [f] := fun z => (ne_of_none h1.at_ n2).symm (List.mem_singleton.mp z)
      have blf : bl ∉ [f] := fun z => (ne_of_none (h1.keep x2 nn).at_ n3).symm (List.mem_singleton.mp z)
      have nlb : nl ≠ bl := ne_of_none e2 n3
      have x13 : Fr [] H1 H3 := x2.trans x3
      have h3 := h1.keep x13 nn
      refine ⟨_, rfl, _, rfl, p, Pg, ws, 217, s, rfl, (rp.fr x1).fr x13, pok, s59, fun qa H4 xs x4 eq lq => ⟨qa, _, rfl, .inr (SqT.of eq), _, _, rfl, rfl, ?_⟩⟩
      have sz := pok.sz
      rw [lq]
      refine ⟨f, fl1, 61 - (((plP Pg).size + 1 : Nat) : Int), rfl, h3.keep x4 nn, by omega, by omega, fun n H5 fl5 n0 n1 h5 x5 => ⟨n, rfl, by omega, by omega, ?_⟩⟩
      have y5 : Fr [f] H1 H5 := (x13.mono fun _ z => nomatch z).trans ((x4.mono fun _ z => nomatch z).trans x5)
      have bbl : H1 bl = none := x2.back _ n3
      have gl : Pg.gauges.length ≤ 4 := pok.g2
      have g1 := pok.g1
      have bvl : bv.length ≤ 41 := by have := rlb.length; have := pok.bl; omega
      refine for_range (lo := 0) (n := n.toNat) (fun i σ H' => ∃ (y4 y5 : Option V) (fl' : Fl) (vs : List V) (more : List Sm), σ = [some (V.ref f), some (V.ref p), some (V.ref nl), some (V.ref bl), y4, y5] ∧ FlAt H' f fl' ∧ H' nl = some (.lst (Pg.gauges.map V.str)) ∧ H' bl = some (.lst (bv ++ vs)) ∧ vs.length = i ∧ more.length = i ∧ RL H' 0 vs more ∧ (∀ s ∈ more, Wf (· ∈ Pg.gauges) (· ∈ Pg.gauges) (fun _ => none) 0 s) ∧ (plL (plS (envL Pg.helpers) NN) more).size = i ∧ Fit (fun _ => False) i (plL (plS (envL Pg.helpers) NN) more) ∧ Fr [f] H1 H') ?_ (fun i σ H' hi hP => ?_) (fun σ H' hP => ?_)
      · exact ⟨_, _, fl5, [], [], rfl, h5, x5.keep _ _ nlf (x4.keep _ _ nn (x3.keep _ _ nn e2)), by rw [List.append_nil]; exact x5.keep _ _ blf (x4.keep _ _ nn e3), rfl, rfl, .nil, fun _ h => absurd h List.not_mem_nil, rfl, Fit.nil, y5⟩
      · obtain ⟨y4, y5', fl', vs, more, rfl, h', enl, ebl, lv, lm, rlm, wfm, szm, fitm, y⟩ := hP
        refine ⟨_, rfl, _, rfl, f, nl, fl', Pg.gauges, 3, rfl, h', enl, fun z => nlf (List.mem_singleton.mpr z), g1, by omega, by decide, by decide, by decide, fun v Ha fla tm xa ha rt tok tp => ?_⟩
        refine ⟨_, rfl, .inl ⟨rfl, _, SqL.of (xa.keep _ _ blf ebl)⟩, _, rfl, sz2, fun p1 Hb nb xb eb' => ⟨_, rfl, _, rfl, _, rfl, nl, _, rfl, .inl (SqL.of (xb.keep _ _ nn (xa.keep _ _ nlf enl))), f, fla, (Pg.gauges.length : Int), by rw [lenS]; rfl, ha.keep xb nn, by omega, by omega, fun dv Hc flc c0 c1 hc xc => ?_⟩⟩
        obtain ⟨gx, hgx, egx⟩ := pickS Pg.gauges c0 c1
        have enc := xc.keep _ _ nlf (xb.keep _ _ nn (xa.keep _ _ nlf enl))
        refine ⟨nl, _, _, _, rfl, rfl, SqL.of enc, egx, _, rfl, sz3, fun p2 Hd nd xd ed => ⟨sz2, fun l Hee ne xe ee => ⟨_, rfl, f, flc, 2, rfl, (hc.keep xd nn).keep xe nn, by decide, by decide, fun d3 Hf flf b0 b1 hf' xf => ?_⟩⟩⟩
        have xaf : Fr [f] H' Hf := (((xa.trans (xb.mono fun _ z => nomatch z)).trans xc).trans ((xd.trans xe).mono fun _ z => nomatch z)).trans xf
        have nlf2 : l ∉ [f] := fun z => (ne_of_none (hc.keep xd nn).at_ ne).symm (List.mem_singleton.mp z)
        have elf := xf.keep _ _ nlf2 ee
        have ebf := xaf.keep _ _ blf ebl
        have enf := xaf.keep _ _ nlf enl
        have tuF : Tu Ha Hf := ((xb.tu.trans xc.tu).trans (xd.tu.trans xe.tu)).trans xf.tu
        have tok2 : tm.Ok (· ∈ Pg.gauges) := tok
        have fin : ∀ (pv : Addr) (s2 : Sm), RS Hf 0 (.ref pv) s2 → Wf (· ∈ Pg.gauges) (· ∈ Pg.gauges) (fun _ => none) 0 s2 → (plS (envL Pg.helpers) NN s2).size = 1 → Fit (fun _ => False) 1 (plS (envL Pg.helpers) NN s2) →
            ∃ l xs y, V.ref bl = .ref l ∧ [V.ref pv] = [y] ∧ Hf l = some (.lst xs) ∧ xs.length < sizeLine ∧ (∃ (y4 y5 : Option V) (fl' : Fl) (vs : List V) (more : List Sm), ([some (V.ref f), some (V.ref p), some (V.ref nl), some (V.ref bl), some (V.int (0 + (i : Int))), some v] : L2.St) = [some (V.ref f), some (V.ref p), some (V.ref nl), some (V.ref bl), y4, y5] ∧ FlAt (upd Hf l (.lst (xs ++ [y]))) f fl' ∧ upd Hf l (.lst (xs ++ [y])) nl = some (.lst (Pg.gauges.map V.str)) ∧ upd Hf l (.lst (xs ++ [y])) bl = some (.lst (bv ++ vs)) ∧ vs.length = i + 1 ∧ more.length = i + 1 ∧ RL (upd Hf l (.lst (xs ++ [y]))) 0 vs more ∧ (∀ s ∈ more, Wf (· ∈ Pg.gauges) (· ∈ Pg.gauges) (fun _ => none) 0 s) ∧ (plL (plS (envL Pg.helpers) NN) more).size = i + 1 ∧ Fit (fun _ => False) (i + 1) (plL (plS (envL Pg.helpers) NN) more) ∧ Fr [f] H1 (upd Hf l (.lst (xs ++ [y])))) := by
          intro pv s2 rs wf2 sz2' fit2
          have yu : Fr [bl] Hf (upd Hf bl (.lst (bv ++ vs ++ [.ref pv]))) := Fr.refl.mutL (.head _) ebf
          refine ⟨bl, _, _, rfl, rfl, ebf, small1000 (by rw [List.length_append]; omega), _, _, flf, vs ++ [.ref pv], more ++ [s2], rfl, ⟨by rw [upd_ne (fun z => blf (List.mem_singleton.mpr z.symm))]; exact hf'.at_, hf'.ok⟩, by rw [upd_ne nlb]; exact enf, by rw [upd_same, List.append_assoc], by rw [List.length_append, lv]; rfl, by rw [List.length_append, lm]; rfl, pd_app (RL.mono (xaf.tu.trans yu.tu) rlm) (.cons (rs.mono yu.tu) .nil), fun z hz => ?_, ?_, ?_, (y.trans xaf).own bbl ebf⟩
          · rcases List.mem_append.mp hz with q1 | q1
            · exact wfm z q1
            · rw [List.mem_singleton.mp q1]; exact wf2
          · rw [plL_app, Pl.size_app, plL_one, szm, sz2']
          · rw [plL_app, plL_one]
            exact fitm.app fit2
        exact ix2_cut elf b0 b1 (fun _ => fin p1 (.tell tm) ⟨p1, v, rfl, (((xc.tu.trans xd.tu).trans xe.tu).trans xf.tu) _ _ eb', rt.mono tuF⟩ ⟨tok2, by omega⟩ rfl Fit.tell)
          (fun _ => fin p2 (.set gx tm) ⟨p2, v, rfl, (xe.tu.trans xf.tu) _ _ ed, rt.mono tuF⟩ ⟨hgx, tok2, by omega⟩ rfl (Fit.set (fun z => z) tok2))
      · obtain ⟨y4, y5', fl', vs, more, rfl, h', enl, ebl, lv, lm, rlm, wfm, szm, fitm, y⟩ := hP
        have yr := (x2.trans x3)
        have yH1 : Fr [f] H1 H' := y
        have y := x1.trans y
        refine ⟨_, rfl, p, _, 0, .ref g, rfl, rfl, SqT.of (yH1.tups _ _ ep), at0, _, rfl, p, _, 1, .ref h, rfl, rfl, SqT.of (yH1.tups _ _ ep), at1, _, rfl, bl, _, rfl, ebl, fun tb Ha na xa ea => ⟨sz3, fun pr Hb nb xb eb' => ?_⟩⟩
        have yb : Fr [f] H1 Hb := yH1.trans ((xa.trans xb).mono fun _ z => nomatch z)
        have plE : plP ⟨Pg.gauges, Pg.helpers, Pg.body ++ more⟩ = (plP Pg).app (plL (plS (envL Pg.helpers) NN) more) := plL_app _ _ _
        refine q pr Hb fl' ⟨Pg.gauges, Pg.helpers, Pg.body ++ more⟩ ((h'.keep xa nn).keep xb nn) (y.trans ((xa.trans xb).mono fun _ z => nomatch z)) ⟨⟨g, h, tb, hv, bv ++ vs, eb', yb.tups _ _ eg, ehn.fr yb, Paired.mapP hp fun _ _ z => z.mono yb.tu, xb.tups _ _ ea, pd_app (RL.mono yb.tu rlb) ((RL.mono (xa.trans xb).tu rlm).up (Nat.zero_le 6))⟩⟩ ⟨pok.g1, pok.g2, pok.gw, pok.hn, pok.hl, pok.hw, pok.hb, fun z hz => ?_, ?_, ?_, ?_, pok.ne, pok.hs⟩
        · rcases List.mem_append.mp hz with q1 | q1
          · exact pok.bw z q1
          · exact ((wfm z q1).imp (fun x hx => pok.gw x hx) (fun _ hx => hx) fun _ _ e => by cases e).up (Nat.zero_le _)
        · rw [plE]
          exact (pok.st.app fitm).mono (by omega)
        · rw [plE, Pl.size_app, szm]
          omega
        · show (Pg.body ++ more).length ≤ _
          rw [List.length_append, lm]
          have := pok.bl
          omega
end
end Kz
set_option Elab.async false
set_option linter.all false
set_option maxRecDepth 100000
/-! ZCv7: walks over tuples and lists that tell that these are not too long. -/
namespace Kz
open PySem PySem.Spec PyProof.Rows L2
section
variable {X : Cx} {tg : Expr} {l : Expr} {tl : TE}
def iTupL (K : PySem.W.Frag) (tl : TE) : TI := fun σ H R => tl σ H fun x H1 => ∃ a xs, x = .ref a ∧ SqT K H1 a xs ∧ (xs.length ≤ sizeLine → R (Itt K a) H1)
theorem pi_tupL (hl : PE X l tl) : PI X tg l (iTupL X.K tl) := by
  refine ⟨fun pins s σ H R I h => ?_⟩
  refine thn (hl.run pins s σ H _ I h) fun v s1 ⟨x, H1, I1, r1, a, xs, ex, hs, k⟩ => ?_
  subst ex
  obtain rfl : v = Value.ref a := r1
  obtain ⟨its, rv, tp, len⟩ := I1.tuple hs
  exact wpAny_pyIter_tuple (show s1.heap.IsTuple a its.toArray from tp) ⟨s1.heap.objs.size, [s1.heap.objs.size], _, _, H1, rfl, I1.kept (t' := s1.toks) (fun b o e => Heap.get?_push_of_some _ e), turn_tuple a _, ⟨_, Heap.get?_push_size _ rfl, rfl, rfl⟩, fun b hb => by
    rw [List.mem_singleton.mp hb]
    exact I1.fpOk (Nat.le_refl _) (I1.hok.fresh (Nat.le_refl _)), k len⟩
end
end Kz
set_option Elab.async false
set_option linter.all false
set_option maxRecDepth 100000
set_option maxHeartbeats 4000000
set_option pp.maxSteps 3000
/-! ZRa: terms by other names. -/
namespace Kz
open PySem PySem.Spec PyProof.Rows L2
/-- a dict that names each of ws otherwise -/
def DN (H : Hp) (d : Addr) (ws : List Str) (c : Str → Str) : Prop := ∃ kvs : List (Key × V), H d = some (.dK kvs) ∧ ∀ x ∈ ws, valV kvs (Sum.inr x : Key) = some (.str (c x))
theorem DN.keep {S : List Addr} {H H' : Hp} {d : Addr} {ws : List Str} {c : Str → Str} (h : DN H d ws c) (x : Fr S H H') (n : d ∉ S) : DN H' d ws c := let ⟨kvs, e, r⟩ := h; ⟨kvs, x.keep _ _ n e, r⟩
theorem DN.get {H : Hp} {d : Addr} {ws : List Str} {c : Str → Str} {x : Str} (h : DN H d ws c) (hx : x ∈ ws) : DGet H d (.str x) (some (.str (c x))) := let ⟨kvs, e, r⟩ := h; dget e (r x hx)
theorem DN.is {H : Hp} {d : Addr} {ws : List Str} {c : Str → Str} (h : DN H d ws c) : IsD H d := let ⟨kvs, e, _⟩ := h; .inl ⟨kvs, .inl e⟩
def spTermAnew (n : Nat) : Sp := fun vs H Q _ => ∃ (ws : List Str) (c : Str → Str) (p d : Addr) (t : Tm), vs = [.ref p, .ref d] ∧ RT H (.ref p) t ∧ DN H d ws c ∧ t.Ok (· ∈ ws) ∧ t.parts ≤ n ∧ ∀ p' H', Fr [] H H' → RT H' (.ref p') (t.ren c) → Q (.ref p') H'
abbrev pTn : List Str := ["_law_term_here", "_law_names_here"]
theorem rt_ref {H : Hp} {v : V} {t : Tm} (h : RT H v t) : ∃ a, v = .ref a := by
  cases t with
  | num k => obtain ⟨a, e, _⟩ := h; exact ⟨a, e⟩
  | cell x => obtain ⟨a, e, _⟩ := h; exact ⟨a, e⟩
  | op s a b => obtain ⟨p, _, _, e, _⟩ := h; exact ⟨p, e⟩
section
variable {P : Program} {w : World} {K : PySem.W.Frag} {mg : Str → Option Value} {base : Heap}
theorem ok_termAnew (T : Tp K mg) : ∀ n : Nat, Fx P w K mg base (n + 1) "_law_term_anew" pTn (spTermAnew n)
  | 0 => by
    refine fx_of T 42 33 rfl rfl sc_l_term_anew (fun _ _ _ _ _ _ us hl => match us, hl with | [_, _], _ => rfl) (fun vs H Q E h => ?_) (fun f cdv A outer s H vs Q E hr h => ?_)
    · obtain ⟨ws, c, p, d, t, rfl, _⟩ := h
      rfl
    · obtain ⟨ws, c, p, d, t, rfl, _, _, _, h, _⟩ := h
      exact absurd h (by have := t.parts_pos; omega)
  | n + 1 => by
    have F_l_term_anew := ok_termAnew T n
    refine fx_of T 42 33 rfl rfl sc_l_term_anew (fun _ _ _ _ _ _ us hl => match us, hl with | [_, _], _ => rfl) (fun vs H Q E h => ?_) (fun f cdv A outer s H vs Q E hr h => ?_)
    · obtain ⟨ws, c, p, d, t, rfl, _⟩ := h
      rfl
    · obtain ⟨ws, c, p, d, t, rfl, rt, dn, ok, hp, q⟩ := h
      have hu := hu_of hr
      refine ⟨_, (pss_cons (ps_if (pt_cmpR op_eq (pe_ix ix_tup (pv 0) pe_int (fun _ _ => rfl)) pe_str (nomark _)) (pss_one (ps_ret (pe_tupC (pa_cons pe_str (pa_cons (pe_dget2 hu (pv 1) (pe_ix ix_tup (pv 0) pe_int (fun _ _ => rfl)) (pe_ix ix_tup (pv 0) pe_int (fun _ _ => rfl)) ⟨rfl, rfl, rfl, rfl⟩) pa_nil)))))
     pss_nil)
    (pss_cons (ps_if (pt_cmpR op_eq (pe_ix ix_tup (pv 0) pe_int (fun _ _ => rfl)) pe_str (nomark _)) (pss_cons (ps_set (i := 2) sc_l_term_anew.nd rfl (Or.inl rfl) (pe_F F_l_term_anew (hr.mono (by omega)) (by rfl) (pa_cons (pe_ix ix_tup (pv 0) pe_int (fun _ _ => rfl)) (pa_cons (pv 1) pa_nil))))
      (pss_one (ps_ret (pe_op op_catC (pe_slice sl_tupC (pv 0) po_none (po_some pe_int)) (pe_tupC (pa_cons (pv 2) (pa_cons (pe_F F_l_term_anew (hr.mono (by omega)) (by rfl) (pa_cons (pe_ix ix_tup (pv 0) pe_int (fun _ _ => rfl)) (pa_cons (pv 1) pa_nil))) pa_nil)))))))
     pss_nil)
    (pss_one (ps_ret (pv 0))))), ?_⟩
      have nn : ∀ {a : Addr}, a ∉ ([] : List Addr) := fun z => nomatch z
      cases t with
      | cell x =>
        obtain ⟨a, e, ea⟩ := rt
        cases e
        refine ⟨_, rfl, p, _, 0, .str "cell", rfl, rfl, SqT.of ea, at0, rfl, _, rfl, ite2 (fun _ => ?_) (fun c => absurd (by decide +kernel) c)⟩
        refine ⟨_, rfl, d, rfl, dn.is, _, rfl, p, _, 1, .str x, rfl, rfl, SqT.of ea, at1, _, rfl, p, _, 1, .str x, rfl, rfl, SqT.of ea, at1, _, dn.get ok, sz2, fun p' H1 n1 x1 e1 => q p' H1 x1 ⟨p', rfl, e1⟩⟩
      | num k =>
        obtain ⟨a, e, ea⟩ := id rt
        cases e
        refine ⟨_, rfl, p, _, 0, .str "num", rfl, rfl, SqT.of ea, at0, rfl, _, rfl, ite2 (fun c => absurd c (by decide +kernel)) (fun _ => ?_)⟩
        refine ⟨_, rfl, p, _, 0, .str "num", rfl, rfl, SqT.of ea, at0, rfl, _, rfl, ite2 (fun c => absurd c (by decide +kernel)) (fun _ => ?_)⟩
        exact ⟨_, rfl, q p H Fr.refl rt⟩
      | op o ta tb =>
        obtain ⟨a, u, v, e, ea, ru, rv⟩ := rt
        cases e
        obtain ⟨_, oka, okb⟩ := ok
        obtain ⟨pu, rfl⟩ := rt_ref ru
        obtain ⟨pv, rfl⟩ := rt_ref rv
        have hp : 1 + ta.parts + tb.parts ≤ n + 1 := hp
        have := ta.parts_pos
        have := tb.parts_pos
        refine ⟨_, rfl, p, _, 0, .str "op", rfl, rfl, SqT.of ea, at0, rfl, _, rfl, ite2 (fun c => absurd c (by decide +kernel)) (fun _ => ?_)⟩
        refine ⟨_, rfl, p, _, 0, .str "op", rfl, rfl, SqT.of ea, at0, rfl, _, rfl, ite2 (fun _ => ?_) (fun c => absurd (by decide +kernel) c)⟩
        refine ⟨_, rfl, p, _, 2, .ref pu, rfl, rfl, SqT.of ea, at2, _, rfl, ws, c, pu, d, ta, rfl, ru, dn, oka, by omega, fun p1 H1 x1 r1 => ?_⟩
        refine ⟨_, rfl, _, rfl, p, _, rfl, x1.tups _ _ ea, fun s1 H2 x2 e2 => ⟨_, rfl, _, rfl, p, _, 3, .ref pv, rfl, rfl, SqT.of (x2.tups _ _ (x1.tups _ _ ea)), at3, _, rfl, ws, c, pv, d, tb, rfl, (rv.mono x1.tu).mono x2.tu, (dn.keep x1 nn).keep x2 nn, okb, by omega, fun p2 H3 x3 r2 => ⟨sz2, fun p3 H4 n4 x4 e4 => ?_⟩⟩⟩
        refine ⟨s1, p3, _, _, rfl, rfl, x4.tups _ _ (x3.tups _ _ e2), e4, (by decide : 2 + 2 ≤ sizeLine), fun p4 H5 x5 e5 => ?_⟩
        exact q p4 H5 ((((x1.trans x2).trans x3).trans x4).trans x5) ⟨p4, .ref p1, .ref p2, rfl, e5, ((((r1.mono x2.tu).mono x3.tu).mono x4.tu).mono x5.tu), ((r2.mono x4.tu).mono x5.tu)⟩
end
end Kz
set_option Elab.async false
set_option linter.all false
set_option maxRecDepth 100000
set_option maxHeartbeats 4000000
set_option pp.maxSteps 3000
/-! ZRb: bodies by other names. -/
namespace Kz
open PySem PySem.Spec PyProof.Rows L2
theorem rs_set {H : Hp} {k : Nat} {v : V} {x : Str} {t : Tm} (r : RS H k v (.set x t)) : ∃ a u, v = .ref a ∧ H a = some (.tup [.str "set", .str x, u]) ∧ RT H u t := by cases k <;> exact r
theorem rs_read {H : Hp} {k : Nat} {v : V} {x g : Str} (r : RS H k v (.read x g)) : ∃ a, v = .ref a ∧ H a = some (.tup [.str "read", .str x, .str g]) := by cases k <;> exact r
theorem rs_tell {H : Hp} {k : Nat} {v : V} {t : Tm} (r : RS H k v (.tell t)) : ∃ a u, v = .ref a ∧ H a = some (.tup [.str "tell", u]) ∧ RT H u t := by cases k <;> exact r
theorem rs_sure {H : Hp} {k : Nat} {v : V} {xs : List Str} {n : Int} (r : RS H k v (.sure xs n)) : ∃ a p, v = .ref a ∧ H a = some (.tup [.str "sure", .ref p, .int n]) ∧ H p = some (.tup (xs.map V.str)) := by cases k <;> exact r
theorem rs_call {H : Hp} {k : Nat} {v : V} {f : Str} (r : RS H k v (.call f)) : ∃ a, v = .ref a ∧ H a = some (.tup [.str "call", .str f]) := by cases k <;> exact r
section
variable {C G : Str → Prop} {env : Env'} {n : Nat}
theorem wf_set {x : Str} {t : Tm} (w : Wf C G env n (.set x t)) : C x ∧ t.Ok C ∧ t.parts ≤ 11 := by cases n <;> exact w
theorem wf_read {x g : Str} (w : Wf C G env n (.read x g)) : C x ∧ G g := by cases n <;> exact w
theorem wf_tell {t : Tm} (w : Wf C G env n (.tell t)) : t.Ok C ∧ t.parts ≤ 11 := by cases n <;> exact w
theorem wf_sure {xs : List Str} {z : Int} (w : Wf C G env n (.sure xs z)) : (∀ x ∈ xs, C x) ∧ xs ≠ [] ∧ xs.length ≤ 4 ∧ 0 ≤ z ∧ z < WD := by cases n <;> exact w
theorem wf_call {f : Str} (w : Wf C G env n (.call f)) : ∃ b, env f = some b := by
  cases n with
  | zero => exact w.elim
  | succ j => exact let ⟨b, e, _⟩ := w; ⟨b, e⟩
end
def spBodyAnew (n : Nat) : Sp := fun vs H Q _ => ∃ (ws : List Str) (G : Str → Prop) (env : Env') (c g h : Str → Str) (pb dc dg dh : Addr) (k : Nat) (vb : List V) (b : List Sm), vs = [.ref pb, .ref dc, .ref dg, .ref dh] ∧ (∀ x, G x → x ∈ ws) ∧ (∀ f b, env f = some b → f ∈ ws) ∧ H pb = some (.tup vb) ∧ RL H k vb b ∧ DN H dc ws c ∧ DN H dg ws g ∧ DN H dh ws h ∧
  (∀ s ∈ b, Wf (· ∈ ws) G env n s) ∧ ∀ p' H' vb', Fr [] H H' → H' p' = some (.tup vb') → RL H' k vb' (b.map (renS c g h n)) → Q (.ref p') H'
/-- bodies in a row -/
abbrev Bds (H : Hp) (k : Nat) (vs : List V) (bls : List (List Sm)) : Prop := Paired (fun v b => ∃ p vb, v = .ref p ∧ H p = some (.tup vb) ∧ RL H k vb b) vs bls
theorem Bds.mono {H H' : Hp} (t : Tu H H') {k : Nat} {vs : List V} {bls : List (List Sm)} (h : Bds H k vs bls) : Bds H' k vs bls := Paired.mapP h fun _ _ ⟨p, vb, e, h1, h2⟩ => ⟨p, vb, e, t _ _ h1, h2.mono t⟩
abbrev pBn : List Str := ["_law_body_here", "_law_names_here", "_law_gauges", "_law_helpers_here"]
section
variable {P : Program} {w : World} {K : PySem.W.Frag} {mg : Str → Option Value} {base : Heap}
theorem ok_bodyAnew (T : Tp K mg) : ∀ n : Nat, n ≤ 14 → Fx P w K mg base (n + 13) "_law_body_anew" pBn (spBodyAnew n)
  | n, hn14 => by
    have F_l_term_anew := ok_termAnew (P := P) (w := w) (base := base) T 11
    have F_l_body_anew : Fx P w K mg base (n + 12) "_law_body_anew" pBn (fun vs H Q E => ∃ j, n = j + 1 ∧ spBodyAnew j vs H Q E) := by
      cases n with
      | zero =>
        refine fx_of T 43 34 rfl rfl sc_l_body_anew (fun _ _ _ _ _ _ us hl => match us, hl with | [_, _, _, _], _ => rfl) (fun vs H Q E h => ?_) (fun f cdv A outer s H vs Q E hr h => ?_)
        · obtain ⟨j, e, _⟩ := h
          cases e
        · obtain ⟨j, e, _⟩ := h
          cases e
      | succ j => exact (ok_bodyAnew T j (by omega)).imp fun vs H Q E ⟨i, e, h⟩ => (by have e := Nat.succ.inj e; subst e; exact h)
    refine fx_of T 43 34 rfl rfl sc_l_body_anew (fun _ _ _ _ _ _ us hl => match us, hl with | [_, _, _, _], _ => rfl) (fun vs H Q E h => ?_) (fun f cdv A outer s H vs Q E hr h => ?_)
    · obtain ⟨ws, G, env, c, g, h, pb, dc, dg, dh, k, vb, b, rfl, _⟩ := h
      rfl
    · obtain ⟨ws, G, env, c, g, h, pb, dc, dg, dh, k, vb, b, rfl, hG, hE, epb, rlb, hc, hg, hh, wf, q⟩ := h
      have hu := hu_of hr
      refine ⟨_, (pss_cons (ps_set (i := 4) sc_l_body_anew.nd rfl (Or.inl rfl) (pe_lstC pa_nil))
    (pss_cons (ps_for PassesOwn.never rfl (pi_tupL (pv 0)) (pg_name (i := 5) sc_l_body_anew.nd rfl (Or.inl rfl)) (pss_cons (ps_if (pt_cmpR op_eq (pe_ix ix_tup (pv 5) pe_int (fun _ _ => rfl)) pe_str (nomark _)) (pss_one (ps_set (i := 5) sc_l_body_anew.nd rfl (Or.inl rfl) (pe_tupC (pa_cons pe_str (pa_cons (pe_dget hu (pv 1) (pe_ix ix_tup (pv 5) pe_int (fun _ _ => rfl)) (fun _ _ => rfl)) (pa_cons (pe_F F_l_term_anew (hr.mono (by omega)) (by rfl) (pa_cons (pe_ix ix_tup (pv 5) pe_int (fun _ _ => rfl)) (pa_cons (pv 1) pa_nil))) pa_nil))))))
       (pss_one (ps_if (pt_cmpR op_eq (pe_ix ix_tup (pv 5) pe_int (fun _ _ => rfl)) pe_str (nomark _)) (pss_one (ps_set (i := 5) sc_l_body_anew.nd rfl (Or.inl rfl) (pe_tupC (pa_cons pe_str (pa_cons (pe_dget hu (pv 1) (pe_ix ix_tup (pv 5) pe_int (fun _ _ => rfl)) (fun _ _ => rfl)) (pa_cons (pe_dget hu (pv 2) (pe_ix ix_tup (pv 5) pe_int (fun _ _ => rfl)) (fun _ _ => rfl)) pa_nil))))))
        (pss_one (ps_if (pt_cmpR op_eq (pe_ix ix_tup (pv 5) pe_int (fun _ _ => rfl)) pe_str (nomark _)) (pss_one (ps_set (i := 5) sc_l_body_anew.nd rfl (Or.inl rfl) (pe_tupC (pa_cons pe_str (pa_cons (pe_F F_l_term_anew (hr.mono (by omega)) (by rfl) (pa_cons (pe_ix ix_tup (pv 5) pe_int (fun _ _ => rfl)) (pa_cons (pv 1) pa_nil))) pa_nil)))))
         (pss_one (ps_if (pt_cmpR op_eq (pe_ix ix_tup (pv 5) pe_int (fun _ _ => rfl)) pe_str (nomark _)) (pss_one (ps_set (i := 5) sc_l_body_anew.nd rfl (Or.inl rfl) (pe_tupC (pa_cons pe_str (pa_cons (pe_callTy call_tupC (by rfl) T.n_tuple (by decide +kernel) (pa_cons (pe_lc (own := [("_law_x", 7)]) rfl sc_l_body_anew.nd (pi_tup (pe_ix ix_tup (pv 5) pe_int (fun _ _ => rfl))) (blkOk_by (own := [("_law_x", 7)]) (N := N_l_body_anew) (sc := defScope s_l_body_anew) (by decide +kernel)) (fun _ _ _ _ _ => (pg_name (i := 7) sc_l_body_anew.nd rfl (Or.inl rfl))) (fun _ _ _ _ _ => pts_nil) (fun _ _ _ _ _ => (pe_dget hu (pv 1) (pv 7) (fun _ _ => rfl)))) pa_nil)) (pa_cons (pe_ix ix_tup (pv 5) pe_int (fun _ _ => rfl)) pa_nil))))))
          (pss_one (ps_if (pt_cmpR op_eq (pe_ix ix_tup (pv 5) pe_int (fun _ _ => rfl)) pe_str (nomark _)) (pss_one (ps_set (i := 5) sc_l_body_anew.nd rfl (Or.inl rfl) (pe_tupC (pa_cons pe_str (pa_cons (pe_dget hu (pv 3) (pe_ix ix_tup (pv 5) pe_int (fun _ _ => rfl)) (fun _ _ => rfl)) pa_nil)))))
           (pss_one (ps_if (pt_cmpR op_eq (pe_ix ix_tup (pv 5) pe_int (fun _ _ => rfl)) pe_str (nomark _)) (pss_one (ps_set (i := 5) sc_l_body_anew.nd rfl (Or.inl rfl) (pe_op op_catC (pe_slice sl_tupC (pv 5) po_none (po_some pe_int)) (pe_tupC (pa_cons (pe_F F_l_body_anew (hr.mono (by omega)) (by rfl) (pa_cons (pe_ix ix_tup (pv 5) pe_int (fun _ _ => rfl)) (pa_cons (pv 1) (pa_cons (pv 2) (pa_cons (pv 3) pa_nil))))) pa_nil)))))
            (pss_cons (ps_setLc (i := 6) (own := [("_law_inner", 8)]) rfl sc_l_body_anew.nd rfl rfl (sw_true rfl rfl rfl (by decide +kernel)) (pi_tup (pe_slice sl_tupC (pv 5) (po_some pe_int) po_none)) (blkOk_by (own := [("_law_inner", 8)]) (N := N_l_body_anew) (sc := defScope s_l_body_anew) (by decide +kernel)) (fun _ _ _ _ _ => (pg_name (i := 8) sc_l_body_anew.nd rfl (Or.inl rfl))) (fun _ _ _ _ _ => pts_nil) (fun _ _ _ _ _ => (pe_F F_l_body_anew (hr.mono (by omega)) (by rfl) (pa_cons (pv 8) (pa_cons (pv 1) (pa_cons (pv 2) (pa_cons (pv 3) pa_nil)))))))
            (pss_one (ps_set (i := 5) sc_l_body_anew.nd rfl (Or.inl rfl) (pe_op op_catC (pe_tupC (pa_cons (pe_ix ix_tup (pv 5) pe_int (fun _ _ => rfl)) (pa_cons (pe_F F_l_term_anew (hr.mono (by omega)) (by rfl) (pa_cons (pe_ix ix_tup (pv 5) pe_int (fun _ _ => rfl)) (pa_cons (pv 1) pa_nil))) pa_nil))) (pe_callTy call_tupC (by rfl) T.n_tuple (by decide +kernel) (pa_cons (pv 6) pa_nil)))))))))))))))))
      (pss_one (ps_expr (pe_bm PySem.F.plainAttrs_list PySem.F.slot_list_append PySem.F.type_list_append mt_append (pv 4) (pa_cons (pv 5) pa_nil))))))
    (pss_one (ps_ret (pe_callTy call_tupC (by rfl) T.n_tuple (by decide +kernel) (pa_cons (pv 4) pa_nil)))))), ?_⟩
      have nn : ∀ {a : Addr}, a ∉ ([] : List Addr) := fun z => nomatch z
      refine ⟨Nat.zero_le _, fun fo H1 n1 x1 e1 => ⟨_, rfl, pb, vb, rfl, SqT.of (x1.tups _ _ epb), fun lb => ?_⟩⟩
      refine for_tup (xs := vb) (fun i σ H' => ∃ (y5 y6 y7 y8 : Option V) (vs : List V), σ = [some (V.ref pb), some (V.ref dc), some (V.ref dg), some (V.ref dh), some (V.ref fo), y5, y6, y7, y8] ∧ H' fo = some (.lst vs) ∧ vs.length = i ∧ RL H' k vs ((b.take i).map (renS c g h n)) ∧ Fr [] H H') ?_ (fun i σ H' hi hP => ?_) (fun i x σ H' hx hP => ?_) (fun σ H' hP => ?_)
      · exact ⟨_, _, _, _, [], rfl, e1, rfl, .nil, x1⟩
      · obtain ⟨_, _, _, _, _, _, _, _, _, y⟩ := hP
        exact SqT.of (y.tups _ _ epb)
      · obtain ⟨y5, y6, y7, y8, vs, rfl, ef, lv, rl, y⟩ := hP
        obtain ⟨s, es, rs0⟩ := pd_at rlb hx
        have rs := rs0.mono y.tu
        have ws' := wf s (List.mem_of_getElem? es)
        have etk : b.take (i + 1) = b.take i ++ [s] := by rw [List.take_add_one, es]; rfl
        have hil : i < vb.length := (List.getElem?_eq_some_iff.mp hx).1
        have hc' := hc.keep y nn
        have hg' := hg.keep y nn
        have hh' := hh.keep y nn
        have bfo : H fo = none := n1
        -- what comes of one statement
        dsimp only [gName]
        refine seq_cut (fun σ' H2 => ∃ (v : V) (y6 y7 y8 : Option V), σ' = [some (V.ref pb), some (V.ref dc), some (V.ref dg), some (V.ref dh), some (V.ref fo), some v, y6, y7, y8] ∧ Fr [] H' H2 ∧ RS H2 k v (renS c g h n s)) (fun D' hQ _ _ _ => ?_) (fun σ' H2 hP => ?_)
        · cases s with
          | set x tm =>
            obtain ⟨t, u, rfl, et, rt⟩ := rs_set rs
            obtain ⟨pu, rfl⟩ := rt_ref rt
            obtain ⟨okx, ok, pt⟩ := wf_set ws'
            have er : renS c g h n (.set x tm) = .set (c x) (tm.ren c) := by cases n <;> rfl
            refine ⟨_, rfl, t, _, 0, .str "set", rfl, rfl, SqT.of et, at0, rfl, _, rfl, ite2 (fun _ => ?_) (fun c => absurd (by decide +kernel) c)⟩
            refine ⟨_, rfl, _, rfl, t, _, 1, .str x, rfl, rfl, SqT.of et, at1, dc, _, rfl, hc'.get okx, _, rfl, t, _, 2, .ref pu, rfl, rfl, SqT.of et, at2, _, rfl, ws, c, pu, dc, tm, rfl, rt, hc', ok, pt, fun p1 Ha xa ra => ⟨sz3, fun p2 Hb nb xb eb => hQ _ _ ⟨.ref p2, _, _, _, rfl, xa.trans xb, ?_⟩⟩⟩
            rw [er]
            exact RS.up (show RS Hb 0 (.ref p2) (.set (c x) (tm.ren c)) from ⟨p2, .ref p1, rfl, eb, ra.mono xb.tu⟩) (Nat.zero_le k)
          | read x gg =>
            obtain ⟨t, rfl, et⟩ := rs_read rs
            obtain ⟨okx, okg⟩ := wf_read ws'
            have er : renS c g h n (.read x gg) = .read (c x) (g gg) := by cases n <;> rfl
            refine ⟨_, rfl, t, _, 0, .str "read", rfl, rfl, SqT.of et, at0, rfl, _, rfl, ite2 (fun c => absurd c (by decide +kernel)) (fun _ => ?_)⟩
            refine ⟨_, rfl, t, _, 0, .str "read", rfl, rfl, SqT.of et, at0, rfl, _, rfl, ite2 (fun _ => ?_) (fun c => absurd (by decide +kernel) c)⟩
            refine ⟨_, rfl, _, rfl, t, _, 1, .str x, rfl, rfl, SqT.of et, at1, dc, _, rfl, hc'.get okx, _, rfl, _, rfl, t, _, 2, .str gg, rfl, rfl, SqT.of et, at2, dg, _, rfl, hg'.get (hG _ okg), sz3, fun p2 Hb nb xb eb => hQ _ _ ⟨.ref p2, _, _, _, rfl, xb, ?_⟩⟩
            rw [er]
            exact RS.up (show RS Hb 0 (.ref p2) (.read (c x) (g gg)) from ⟨p2, rfl, eb⟩) (Nat.zero_le k)
          | tell tm =>
            obtain ⟨t, u, rfl, et, rt⟩ := rs_tell rs
            obtain ⟨pu, rfl⟩ := rt_ref rt
            obtain ⟨ok, pt⟩ := wf_tell ws'
            have er : renS c g h n (.tell tm) = .tell (tm.ren c) := by cases n <;> rfl
            refine ⟨_, rfl, t, _, 0, .str "tell", rfl, rfl, SqT.of et, at0, rfl, _, rfl, ite2 (fun c => absurd c (by decide +kernel)) (fun _ => ?_)⟩
            refine ⟨_, rfl, t, _, 0, .str "tell", rfl, rfl, SqT.of et, at0, rfl, _, rfl, ite2 (fun c => absurd c (by decide +kernel)) (fun _ => ?_)⟩
            refine ⟨_, rfl, t, _, 0, .str "tell", rfl, rfl, SqT.of et, at0, rfl, _, rfl, ite2 (fun _ => ?_) (fun c => absurd (by decide +kernel) c)⟩
            refine ⟨_, rfl, t, _, 1, .ref pu, rfl, rfl, SqT.of et, at1, _, rfl, ws, c, pu, dc, tm, rfl, rt, hc', ok, pt, fun p1 Ha xa ra => ⟨sz2, fun p2 Hb nb xb eb => hQ _ _ ⟨.ref p2, _, _, _, rfl, xa.trans xb, ?_⟩⟩⟩
            rw [er]
            exact RS.up (show RS Hb 0 (.ref p2) (.tell (tm.ren c)) from ⟨p2, .ref p1, rfl, eb, ra.mono xb.tu⟩) (Nat.zero_le k)
          | sure xs z =>
            obtain ⟨t, px, rfl, et, ex⟩ := rs_sure rs
            obtain ⟨okx, _, lx, _⟩ := wf_sure ws'
            have er : renS c g h n (.sure xs z) = .sure (xs.map c) z := by cases n <;> rfl
            refine ⟨_, rfl, t, _, 0, .str "sure", rfl, rfl, SqT.of et, at0, rfl, _, rfl, ite2 (fun c => absurd c (by decide +kernel)) (fun _ => ?_)⟩
            refine ⟨_, rfl, t, _, 0, .str "sure", rfl, rfl, SqT.of et, at0, rfl, _, rfl, ite2 (fun c => absurd c (by decide +kernel)) (fun _ => ?_)⟩
            refine ⟨_, rfl, t, _, 0, .str "sure", rfl, rfl, SqT.of et, at0, rfl, _, rfl, ite2 (fun c => absurd c (by decide +kernel)) (fun _ => ?_)⟩
            refine ⟨_, rfl, t, _, 0, .str "sure", rfl, rfl, SqT.of et, at0, rfl, _, rfl, ite2 (fun _ => ?_) (fun c => absurd (by decide +kernel) c)⟩
            refine ⟨_, rfl, t, _, 1, .ref px, rfl, rfl, SqT.of et, at1, px, rfl, ⟨_, SqT.of ex⟩, fun L hL => ?_⟩
            refine lc_tup (xs := xs.map V.str) (fun i Hx => ∃ ys : List Str, Hx L = some (.lst (ys.map V.str)) ∧ ys = (xs.take i).map c ∧ Fr [] H' Hx) ⟨[], upd_same, rfl, Fr.refl.new hL⟩ (fun i Hx _ hP => ?_) (fun i x Hx hx hP => ?_) (fun Hx hP => ?_)
            · obtain ⟨_, _, _, yy⟩ := hP
              exact SqT.of (yy.tups _ _ ex)
            · obtain ⟨ys, eL, ey, yy⟩ := hP
              refine ⟨rfl, ?_⟩
              dsimp only [tYes]
              rw [if_pos rfl]
              rw [List.getElem?_map] at hx
              obtain ⟨x, exx, rfl⟩ := Option.map_eq_some_iff.mp hx
              have hxm := List.mem_of_getElem? exx
              refine ⟨_, rfl, _, rfl, dc, _, rfl, (hc'.keep yy nn).get (okx x hxm), _, eL, small1000 (by rw [List.length_map, ey, List.length_map, List.length_take]; omega), ys ++ [c x], ?_, ?_, yy.own hL eL⟩
              · rw [upd_same, List.map_append]; rfl
              · rw [ey, List.take_add_one, exx, List.map_append]; rfl
            · obtain ⟨ys, eL, ey, yy⟩ := hP
              rw [List.length_map, List.take_length] at ey
              refine ⟨L, _, rfl, eL, fun p1 Ha na xa ea => ⟨_, rfl, t, _, 2, .int z, rfl, rfl, SqT.of (xa.tups _ _ (yy.tups _ _ et)), at2, sz3, fun p2 Hb nb xb eb => hQ _ _ ⟨.ref p2, _, _, _, rfl, (yy.trans xa).trans xb, ?_⟩⟩⟩
              rw [er]
              exact RS.up (show RS Hb 0 (.ref p2) (.sure (xs.map c) z) from ⟨p2, p1, rfl, eb, by rw [← ey]; exact xb.tups _ _ ea⟩) (Nat.zero_le k)
          | call fn =>
            obtain ⟨t, rfl, et⟩ := rs_call rs
            have okf : fn ∈ ws := let ⟨bb, e⟩ := wf_call ws'; hE fn bb e
            have er : renS c g h n (.call fn) = .call (h fn) := by cases n <;> rfl
            refine ⟨_, rfl, t, _, 0, .str "call", rfl, rfl, SqT.of et, at0, rfl, _, rfl, ite2 (fun c => absurd c (by decide +kernel)) (fun _ => ?_)⟩
            refine ⟨_, rfl, t, _, 0, .str "call", rfl, rfl, SqT.of et, at0, rfl, _, rfl, ite2 (fun c => absurd c (by decide +kernel)) (fun _ => ?_)⟩
            refine ⟨_, rfl, t, _, 0, .str "call", rfl, rfl, SqT.of et, at0, rfl, _, rfl, ite2 (fun c => absurd c (by decide +kernel)) (fun _ => ?_)⟩
            refine ⟨_, rfl, t, _, 0, .str "call", rfl, rfl, SqT.of et, at0, rfl, _, rfl, ite2 (fun c => absurd c (by decide +kernel)) (fun _ => ?_)⟩
            refine ⟨_, rfl, t, _, 0, .str "call", rfl, rfl, SqT.of et, at0, rfl, _, rfl, ite2 (fun _ => ?_) (fun c => absurd (by decide +kernel) c)⟩
            refine ⟨_, rfl, _, rfl, t, _, 1, .str fn, rfl, rfl, SqT.of et, at1, dh, _, rfl, hh'.get okf, sz2, fun p2 Hb nb xb eb => hQ _ _ ⟨.ref p2, _, _, _, rfl, xb, ?_⟩⟩
            rw [er]
            exact RS.up (show RS Hb 0 (.ref p2) (.call (h fn)) from ⟨p2, rfl, eb⟩) (Nat.zero_le k)
          | times kk bb =>
            cases k with
            | zero => exact rs.elim
            | succ k =>
            cases n with
            | zero => exact ws'.elim
            | succ j =>
              obtain ⟨t, pb2, vb2, e, et, eb2, rlb2⟩ := rs
              cases e
              obtain ⟨_, wfb⟩ := ws'
              refine ⟨_, rfl, t, _, 0, .str "times", rfl, rfl, SqT.of et, at0, rfl, _, rfl, ite2 (fun c => absurd c (by decide +kernel)) (fun _ => ?_)⟩
              refine ⟨_, rfl, t, _, 0, .str "times", rfl, rfl, SqT.of et, at0, rfl, _, rfl, ite2 (fun c => absurd c (by decide +kernel)) (fun _ => ?_)⟩
              refine ⟨_, rfl, t, _, 0, .str "times", rfl, rfl, SqT.of et, at0, rfl, _, rfl, ite2 (fun c => absurd c (by decide +kernel)) (fun _ => ?_)⟩
              refine ⟨_, rfl, t, _, 0, .str "times", rfl, rfl, SqT.of et, at0, rfl, _, rfl, ite2 (fun c => absurd c (by decide +kernel)) (fun _ => ?_)⟩
              refine ⟨_, rfl, t, _, 0, .str "times", rfl, rfl, SqT.of et, at0, rfl, _, rfl, ite2 (fun c => absurd c (by decide +kernel)) (fun _ => ?_)⟩
              refine ⟨_, rfl, t, _, 0, .str "times", rfl, rfl, SqT.of et, at0, rfl, _, rfl, ite2 (fun _ => ?_) (fun c => absurd (by decide +kernel) c)⟩
              refine ⟨_, rfl, _, rfl, t, _, rfl, et, fun s1 Ha xa ea => ⟨_, rfl, t, _, 2, .ref pb2, rfl, rfl, SqT.of (xa.tups _ _ et), at2, _, rfl, _, rfl, _, rfl, j, rfl, ws, G, env, c, g, h, pb2, dc, dg, dh, k, vb2, bb, rfl, hG, hE, xa.tups _ _ eb2, RL.mono xa.tu rlb2, hc'.keep xa nn, hg'.keep xa nn, hh'.keep xa nn, wfb, fun p1 Hb vb' xb eb rlb' => ⟨Kz.sz1, fun p2 Hc nc xc ec => ?_⟩⟩⟩
              refine ⟨s1, p2, _, _, rfl, rfl, xc.tups _ _ (xb.tups _ _ ea), ec, (by decide : 2 + 1 ≤ sizeLine), fun p3 Hd xd ed => hQ _ _ ⟨.ref p3, _, _, _, rfl, ((xa.trans xb).trans xc).trans xd, ?_⟩⟩
              exact ⟨p3, p1, vb', rfl, ed, xd.tups _ _ (xc.tups _ _ eb), RL.mono (xc.trans xd).tu rlb'⟩
          | ite tm ba bb =>
            cases k with
            | zero => exact rs.elim
            | succ k =>
            cases n with
            | zero => exact ws'.elim
            | succ j =>
              obtain ⟨t, u, pa, pb2, va, vb2, e, et, rt, ea2, rla, eb2, rlb2⟩ := rs
              cases e
              obtain ⟨pu, rfl⟩ := rt_ref rt
              obtain ⟨⟨ok, pt⟩, wfa, wfb⟩ := ws'
              refine ⟨_, rfl, t, _, 0, .str "if", rfl, rfl, SqT.of et, at0, rfl, _, rfl, ite2 (fun c => absurd c (by decide +kernel)) (fun _ => ?_)⟩
              refine ⟨_, rfl, t, _, 0, .str "if", rfl, rfl, SqT.of et, at0, rfl, _, rfl, ite2 (fun c => absurd c (by decide +kernel)) (fun _ => ?_)⟩
              refine ⟨_, rfl, t, _, 0, .str "if", rfl, rfl, SqT.of et, at0, rfl, _, rfl, ite2 (fun c => absurd c (by decide +kernel)) (fun _ => ?_)⟩
              refine ⟨_, rfl, t, _, 0, .str "if", rfl, rfl, SqT.of et, at0, rfl, _, rfl, ite2 (fun c => absurd c (by decide +kernel)) (fun _ => ?_)⟩
              refine ⟨_, rfl, t, _, 0, .str "if", rfl, rfl, SqT.of et, at0, rfl, _, rfl, ite2 (fun c => absurd c (by decide +kernel)) (fun _ => ?_)⟩
              refine ⟨_, rfl, t, _, 0, .str "if", rfl, rfl, SqT.of et, at0, rfl, _, rfl, ite2 (fun c => absurd c (by decide +kernel)) (fun _ => ?_)⟩
              have bds : Bds H' k [.ref pa, .ref pb2] [ba, bb] := .cons ⟨pa, va, rfl, ea2, rla⟩ (.cons ⟨pb2, vb2, rfl, eb2, rlb2⟩ .nil)
              have wfall : ∀ y ∈ [ba, bb], ∀ z ∈ y, Wf (· ∈ ws) G env j z := fun y hy z hz => by
                rcases List.mem_cons.mp hy with e | hy
                · rw [e] at hz; exact wfa z hz
                · rw [List.mem_singleton.mp hy] at hz; exact wfb z hz
              refine ⟨_, rfl, _, rfl, t, _, rfl, et, fun s1 Ha xa ea => ⟨s1, rfl, ⟨_, SqT.of ea⟩, fun L hL => ?_⟩⟩
              refine lc_tup (xs := [.ref pa, .ref pb2]) (fun i Hx => ∃ outs : List V, Hx L = some (.lst outs) ∧ outs.length = i ∧ Bds Hx k outs (([ba, bb].take i).map fun b => b.map (renS c g h j)) ∧ Fr [] Ha Hx) ⟨[], upd_same, rfl, .nil, Fr.refl.new hL⟩ (fun i Hx _ hP => ?_) (fun i x Hx hx hP => ?_) (fun Hx hP => ?_)
              · obtain ⟨_, _, _, _, yy⟩ := hP
                exact SqT.of (yy.tups _ _ ea)
              · obtain ⟨outs, eL, lo, bd, yy⟩ := hP
                refine ⟨rfl, ?_⟩
                dsimp only [tYes]
                rw [if_pos rfl]
                have y2 := xa.trans yy
                obtain ⟨b1, eb1, pq, vq, rfl, eq, rlq⟩ := pd_at (Bds.mono y2.tu bds) hx
                have hi2 : i < 2 := (List.getElem?_eq_some_iff.mp hx).1
                refine ⟨_, rfl, _, rfl, _, rfl, _, rfl, j, rfl, ws, G, env, c, g, h, pq, dc, dg, dh, k, vq, b1, rfl, hG, hE, eq, rlq, hc'.keep y2 nn, hg'.keep y2 nn, hh'.keep y2 nn, fun z hz => wfall b1 (List.mem_of_getElem? eb1) z hz, fun p1 Hb vb' xb eb rlb' => ?_⟩
                have eL' := xb.keep _ _ nn eL
                have yu : Fr [L] Hb (upd Hb L (.lst (outs ++ [.ref p1]))) := Fr.refl.mutL (.head _) eL'
                refine ⟨outs, eL', small1000 (by omega), outs ++ [.ref p1], upd_same, by rw [List.length_append, lo]; rfl, ?_, (yy.trans xb).own hL eL'⟩
                rw [List.take_add_one, eb1, List.map_append]
                exact pd_app (Bds.mono (xb.tu.trans yu.tu) bd) (.cons ⟨p1, vb', rfl, yu.tups _ _ eb, RL.mono yu.tu rlb'⟩ .nil)
              · obtain ⟨outs, eL, lo, bd, yy⟩ := hP
                have y2 := xa.trans yy
                have lo2 : outs.length = 2 := lo
                refine ⟨_, rfl, t, _, 0, .str "if", rfl, rfl, SqT.of (y2.tups _ _ et), at0, _, rfl, t, _, 1, .ref pu, rfl, rfl, SqT.of (y2.tups _ _ et), at1, _, rfl, ws, c, pu, dc, tm, rfl, rt.mono y2.tu, hc'.keep y2 nn, ok, pt, fun p1 Hb xb r1 => ⟨sz2, fun p2 Hc nc xc ec => ⟨_, rfl, L, outs, rfl, xc.keep _ _ nn (xb.keep _ _ nn eL), fun p3 Hd n3 xd e3 => ?_⟩⟩⟩
                refine ⟨p2, p3, _, _, rfl, rfl, xd.tups _ _ ec, e3, small40 (by rw [lo2, List.length_cons, List.length_singleton]; decide), fun p4 He xe e4 => hQ _ _ ⟨.ref p4, _, _, _, rfl, (((y2.trans xb).trans xc).trans xd).trans xe, ?_⟩⟩
                have t14 := (xc.trans (xd.trans xe)).tu
                have bd := Bds.mono (((xb.trans xc).trans xd).trans xe).tu bd
                cases bd with
                | cons h1 t1 =>
                  cases t1 with
                  | cons h2 t2 =>
                    cases t2
                    obtain ⟨q1, w1, rfl, f1, f2⟩ := h1
                    obtain ⟨q2, w2, rfl, f3, f4⟩ := h2
                    exact ⟨p4, .ref p1, q1, q2, w1, w2, rfl, e4, r1.mono t14, f1, f2, f3, f4⟩
          | wh tm bb =>
            cases k with
            | zero => exact rs.elim
            | succ k =>
            cases n with
            | zero => exact ws'.elim
            | succ j =>
              obtain ⟨t, u, pb2, vb2, e, et, rt, eb2, rlb2⟩ := rs
              cases e
              obtain ⟨pu, rfl⟩ := rt_ref rt
              obtain ⟨⟨ok, pt⟩, wfb⟩ := ws'
              refine ⟨_, rfl, t, _, 0, .str "while", rfl, rfl, SqT.of et, at0, rfl, _, rfl, ite2 (fun c => absurd c (by decide +kernel)) (fun _ => ?_)⟩
              refine ⟨_, rfl, t, _, 0, .str "while", rfl, rfl, SqT.of et, at0, rfl, _, rfl, ite2 (fun c => absurd c (by decide +kernel)) (fun _ => ?_)⟩
              refine ⟨_, rfl, t, _, 0, .str "while", rfl, rfl, SqT.of et, at0, rfl, _, rfl, ite2 (fun c => absurd c (by decide +kernel)) (fun _ => ?_)⟩
              refine ⟨_, rfl, t, _, 0, .str "while", rfl, rfl, SqT.of et, at0, rfl, _, rfl, ite2 (fun c => absurd c (by decide +kernel)) (fun _ => ?_)⟩
              refine ⟨_, rfl, t, _, 0, .str "while", rfl, rfl, SqT.of et, at0, rfl, _, rfl, ite2 (fun c => absurd c (by decide +kernel)) (fun _ => ?_)⟩
              refine ⟨_, rfl, t, _, 0, .str "while", rfl, rfl, SqT.of et, at0, rfl, _, rfl, ite2 (fun c => absurd c (by decide +kernel)) (fun _ => ?_)⟩
              have bds : Bds H' k [.ref pb2] [bb] := .cons ⟨pb2, vb2, rfl, eb2, rlb2⟩ .nil
              have wfall : ∀ y ∈ [bb], ∀ z ∈ y, Wf (· ∈ ws) G env j z := fun y hy z hz => by
                rw [List.mem_singleton.mp hy] at hz; exact wfb z hz
              refine ⟨_, rfl, _, rfl, t, _, rfl, et, fun s1 Ha xa ea => ⟨s1, rfl, ⟨_, SqT.of ea⟩, fun L hL => ?_⟩⟩
              refine lc_tup (xs := [.ref pb2]) (fun i Hx => ∃ outs : List V, Hx L = some (.lst outs) ∧ outs.length = i ∧ Bds Hx k outs (([bb].take i).map fun b => b.map (renS c g h j)) ∧ Fr [] Ha Hx) ⟨[], upd_same, rfl, .nil, Fr.refl.new hL⟩ (fun i Hx _ hP => ?_) (fun i x Hx hx hP => ?_) (fun Hx hP => ?_)
              · obtain ⟨_, _, _, _, yy⟩ := hP
                exact SqT.of (yy.tups _ _ ea)
              · obtain ⟨outs, eL, lo, bd, yy⟩ := hP
                refine ⟨rfl, ?_⟩
                dsimp only [tYes]
                rw [if_pos rfl]
                have y2 := xa.trans yy
                obtain ⟨b1, eb1, pq, vq, rfl, eq, rlq⟩ := pd_at (Bds.mono y2.tu bds) hx
                have hi2 : i < 1 := (List.getElem?_eq_some_iff.mp hx).1
                refine ⟨_, rfl, _, rfl, _, rfl, _, rfl, j, rfl, ws, G, env, c, g, h, pq, dc, dg, dh, k, vq, b1, rfl, hG, hE, eq, rlq, hc'.keep y2 nn, hg'.keep y2 nn, hh'.keep y2 nn, fun z hz => wfall b1 (List.mem_of_getElem? eb1) z hz, fun p1 Hb vb' xb eb rlb' => ?_⟩
                have eL' := xb.keep _ _ nn eL
                have yu : Fr [L] Hb (upd Hb L (.lst (outs ++ [.ref p1]))) := Fr.refl.mutL (.head _) eL'
                refine ⟨outs, eL', small1000 (by omega), outs ++ [.ref p1], upd_same, by rw [List.length_append, lo]; rfl, ?_, (yy.trans xb).own hL eL'⟩
                rw [List.take_add_one, eb1, List.map_append]
                exact pd_app (Bds.mono (xb.tu.trans yu.tu) bd) (.cons ⟨p1, vb', rfl, yu.tups _ _ eb, RL.mono yu.tu rlb'⟩ .nil)
              · obtain ⟨outs, eL, lo, bd, yy⟩ := hP
                have y2 := xa.trans yy
                have lo2 : outs.length = 1 := lo
                refine ⟨_, rfl, t, _, 0, .str "while", rfl, rfl, SqT.of (y2.tups _ _ et), at0, _, rfl, t, _, 1, .ref pu, rfl, rfl, SqT.of (y2.tups _ _ et), at1, _, rfl, ws, c, pu, dc, tm, rfl, rt.mono y2.tu, hc'.keep y2 nn, ok, pt, fun p1 Hb xb r1 => ⟨sz2, fun p2 Hc nc xc ec => ⟨_, rfl, L, outs, rfl, xc.keep _ _ nn (xb.keep _ _ nn eL), fun p3 Hd n3 xd e3 => ?_⟩⟩⟩
                refine ⟨p2, p3, _, _, rfl, rfl, xd.tups _ _ ec, e3, small40 (by rw [lo2, List.length_cons, List.length_singleton]; decide), fun p4 He xe e4 => hQ _ _ ⟨.ref p4, _, _, _, rfl, (((y2.trans xb).trans xc).trans xd).trans xe, ?_⟩⟩
                have t14 := (xc.trans (xd.trans xe)).tu
                have bd := Bds.mono (((xb.trans xc).trans xd).trans xe).tu bd
                cases bd with
                | cons h1 t1 =>
                  cases t1
                  obtain ⟨q1, w1, rfl, f1, f2⟩ := h1
                  exact ⟨p4, .ref p1, q1, w1, rfl, e4, r1.mono t14, f1, f2⟩
        · obtain ⟨v, z6, z7, z8, rfl, y2, r2⟩ := hP
          have ef2 := y2.keep _ _ nn ef
          refine ⟨_, rfl, .inl ⟨rfl, _, SqL.of ef2⟩, _, rfl, fo, vs, v, rfl, rfl, ef2, by omega, _, _, _, _, vs ++ [v], rfl, upd_same, by rw [List.length_append, lv]; rfl, ?_, (y.trans y2).own bfo ef2⟩
          have yu : Fr [fo] H2 (upd H2 fo (.lst (vs ++ [v]))) := Fr.refl.mutL (.head _) ef2
          rw [etk, List.map_append]
          exact pd_app (RL.mono (y2.tu.trans yu.tu) rl) (.cons (r2.mono yu.tu) .nil)
      · obtain ⟨y5, y6, y7, y8, vs, rfl, ef, lv, rl, y⟩ := hP
        have eb : b.take vb.length = b := by rw [rlb.length]; exact List.take_length
        rw [eb] at rl
        exact ⟨_, rfl, fo, vs, rfl, ef, fun p' H2 n2 x2 e2 => q p' H2 vs (y.trans x2) e2 (RL.mono x2.tu rl)⟩
end
end Kz
set_option Elab.async false
set_option linter.all false
set_option maxRecDepth 100000
set_option maxHeartbeats 4000000
set_option pp.maxSteps 3000
/-! ZRc: rows by other names. -/
namespace Kz
open PySem PySem.Spec PyProof.Rows L2
def spRowAnew : Sp := fun vs H Q _ => ∃ (ws : List Str) (G : Str → Prop) (c g : Str → Str) (p dc dg : Addr) (r : Rw), vs = [.ref p, .ref dc, .ref dg] ∧ (∀ x, G x → x ∈ ws) ∧ RR H (.ref p) r ∧ DN H dc ws c ∧ DN H dg ws g ∧ r.Ok (· ∈ ws) G ∧ ∀ p' H', Fr [] H H' → RR H' (.ref p') (r.ren c g) → Q (.ref p') H'
section
variable {P : Program} {w : World} {K : PySem.W.Frag} {mg : Str → Option Value} {base : Heap}
theorem ok_rowAnew (T : Tp K mg) : Fx P w K mg base 13 "_law_row_anew" ["_law_row", "_law_names_here", "_law_gauges"] spRowAnew := by
  have F_l_term_anew := ok_termAnew (P := P) (w := w) (base := base) T 11
  refine fx_of T 44 35 rfl rfl sc_l_row_anew (fun _ _ _ _ _ _ us hl => match us, hl with | [_, _, _], _ => rfl) (fun vs H Q E h => ?_) (fun f cdv A outer s H vs Q E hr h => ?_)
  · obtain ⟨ws, G, c, g, p, dc, dg, r, rfl, _⟩ := h
    rfl
  · obtain ⟨ws, G, c, g, p, dc, dg, r, rfl, hG, rr, hc, hg, ok, q⟩ := h
    have hu := hu_of hr
    refine ⟨_, (pss_cons (ps_if (pt_cmpR op_in_seq (pe_ix ix_tup (pv 0) pe_int (fun _ _ => rfl)) (pe_tupC (pa_cons pe_str (pa_cons pe_str pa_nil))) (by rfl)) (pss_cons (ps_set (i := 3) sc_l_row_anew.nd rfl (Or.inl rfl) (pe_ifExp (pt_cmpR op_eq (pe_ix ix_tup (pv 0) pe_int (fun _ _ => rfl)) pe_str (nomark _)) (pe_F F_l_term_anew (hr.mono (by omega)) (by rfl) (pa_cons (pe_ix ix_tup (pv 0) pe_int (fun _ _ => rfl)) (pa_cons (pv 1) pa_nil))) (pe_dget hu (pv 2) (pe_ix ix_tup (pv 0) pe_int (fun _ _ => rfl)) (fun _ _ => rfl))))
      (pss_one (ps_ret (pe_tupC (pa_cons (pe_ix ix_tup (pv 0) pe_int (fun _ _ => rfl)) (pa_cons (pe_dget hu (pv 1) (pe_ix ix_tup (pv 0) pe_int (fun _ _ => rfl)) (fun _ _ => rfl)) (pa_cons (pv 3) (pa_cons (pe_ix ix_tup (pv 0) pe_int (fun _ _ => rfl)) pa_nil))))))))
     pss_nil)
    (pss_cons (ps_if (pt_cmpR op_in_seq (pe_ix ix_tup (pv 0) pe_int (fun _ _ => rfl)) (pe_tupC (pa_cons pe_str (pa_cons pe_str pa_nil))) (by rfl)) (pss_one (ps_ret (pe_op op_catC (pe_tupC (pa_cons (pe_ix ix_tup (pv 0) pe_int (fun _ _ => rfl)) (pa_cons (pe_F F_l_term_anew (hr.mono (by omega)) (by rfl) (pa_cons (pe_ix ix_tup (pv 0) pe_int (fun _ _ => rfl)) (pa_cons (pv 1) pa_nil))) pa_nil))) (pe_slice sl_tupC (pv 0) (po_some pe_int) po_none))))
     pss_nil)
    (pss_cons (ps_if (pt_cmpR op_eq (pe_ix ix_tup (pv 0) pe_int (fun _ _ => rfl)) pe_str (nomark _)) (pss_one (ps_ret (pe_op op_catC (pe_tupC (pa_cons pe_str (pa_cons (pe_callTy call_tupC (by rfl) T.n_tuple (by decide +kernel) (pa_cons (pe_lc (own := [("_law_x", 4)]) rfl sc_l_row_anew.nd (pi_tup (pe_ix ix_tup (pv 0) pe_int (fun _ _ => rfl))) (blkOk_by (own := [("_law_x", 4)]) (N := N_l_row_anew) (sc := defScope s_l_row_anew) (by decide +kernel)) (fun _ _ _ _ _ => (pg_name (i := 4) sc_l_row_anew.nd rfl (Or.inl rfl))) (fun _ _ _ _ _ => pts_nil) (fun _ _ _ _ _ => (pe_dget hu (pv 1) (pv 4) (fun _ _ => rfl)))) pa_nil)) pa_nil))) (pe_slice sl_tupC (pv 0) (po_some pe_int) po_none))))
     pss_nil)
    (pss_one (ps_ret (pv 0)))))), ?_⟩
    have nn : ∀ {a : Addr}, a ∉ ([] : List Addr) := fun z => nomatch z
    cases r with
    | set x t k =>
      obtain ⟨a, u, e, ea, rt⟩ := rr
      cases e
      obtain ⟨pu, rfl⟩ := rt_ref rt
      obtain ⟨okx, okt, pt⟩ := ok
      refine ⟨_, rfl, p, _, 0, .str "set", rfl, rfl, SqT.of ea, at0, sz2, fun p0 H1 n1 x1 e1 => ⟨p0, _, rfl, .inr (SqT.of e1), rfl, rfl, _, rfl, ite2 (fun _ => ?_) (fun c => absurd (by decide +kernel) c)⟩⟩
      have ea := x1.tups _ _ ea
      refine ⟨_, rfl, p, _, 0, .str "set", rfl, rfl, SqT.of ea, at0, rfl, _, rfl, ite2 (fun _ => ?_) (fun c => absurd (by decide +kernel) c)⟩
      refine ⟨_, rfl, p, _, 2, .ref pu, rfl, rfl, SqT.of ea, at2, _, rfl, ws, c, pu, dc, t, rfl, rt.mono x1.tu, hc.keep x1 nn, okt, pt, fun p1 H2 x2 r1 => ?_⟩
      have ea2 := x2.tups _ _ ea
      refine ⟨_, rfl, p, _, 0, .str "set", rfl, rfl, SqT.of ea2, at0, _, rfl, _, rfl, p, _, 1, .str x, rfl, rfl, SqT.of ea2, at1, dc, _, rfl, ((hc.keep x1 nn).keep x2 nn).get okx, _, rfl, _, rfl, p, _, 3, .int k, rfl, rfl, SqT.of ea2, at3, sz4, fun p2 H3 n3 x3 e3 => q p2 H3 ((x1.trans x2).trans x3) ⟨p2, .ref p1, rfl, e3, r1.mono x3.tu⟩⟩
    | read x gg k =>
      obtain ⟨a, e, ea⟩ := rr
      cases e
      obtain ⟨okx, okg⟩ := ok
      refine ⟨_, rfl, p, _, 0, .str "read", rfl, rfl, SqT.of ea, at0, sz2, fun p0 H1 n1 x1 e1 => ⟨p0, _, rfl, .inr (SqT.of e1), rfl, rfl, _, rfl, ite2 (fun _ => ?_) (fun c => absurd (by decide +kernel) c)⟩⟩
      have ea := x1.tups _ _ ea
      refine ⟨_, rfl, p, _, 0, .str "read", rfl, rfl, SqT.of ea, at0, rfl, _, rfl, ite2 (fun c => absurd c (by decide +kernel)) (fun _ => ?_)⟩
      refine ⟨_, rfl, _, rfl, p, _, 2, .str gg, rfl, rfl, SqT.of ea, at2, dg, _, rfl, (hg.keep x1 nn).get (hG _ okg), ?_⟩
      refine ⟨_, rfl, p, _, 0, .str "read", rfl, rfl, SqT.of ea, at0, _, rfl, _, rfl, p, _, 1, .str x, rfl, rfl, SqT.of ea, at1, dc, _, rfl, (hc.keep x1 nn).get okx, _, rfl, _, rfl, p, _, 3, .int k, rfl, rfl, SqT.of ea, at3, sz4, fun p2 H3 n3 x3 e3 => q p2 H3 (x1.trans x3) ⟨p2, rfl, e3⟩⟩
    | tell t k =>
      obtain ⟨a, u, e, ea, rt⟩ := rr
      cases e
      obtain ⟨pu, rfl⟩ := rt_ref rt
      obtain ⟨okt, pt⟩ := ok
      refine ⟨_, rfl, p, _, 0, .str "tell", rfl, rfl, SqT.of ea, at0, sz2, fun p0 H1 n1 x1 e1 => ⟨p0, _, rfl, .inr (SqT.of e1), rfl, rfl, _, rfl, ite2 (fun c => absurd c (by decide +kernel)) (fun _ => ?_)⟩⟩
      have ea := x1.tups _ _ ea
      refine ⟨_, rfl, p, _, 0, .str "tell", rfl, rfl, SqT.of ea, at0, sz2, fun p00 H2 n2 x2 e2 => ⟨p00, _, rfl, .inr (SqT.of e2), rfl, rfl, _, rfl, ite2 (fun _ => ?_) (fun c => absurd (by decide +kernel) c)⟩⟩
      have ea := x2.tups _ _ ea
      have x12 := x1.trans x2
      refine ⟨_, rfl, p, _, 0, .str "tell", rfl, rfl, SqT.of ea, at0, _, rfl, p, _, 1, .ref pu, rfl, rfl, SqT.of ea, at1, _, rfl, ws, c, pu, dc, t, rfl, rt.mono x12.tu, hc.keep x12 nn, okt, pt, fun p1 H3 x3 r1 => ⟨sz2, fun p2 H4 n4 x4 e4 => ⟨_, rfl, _, rfl, p, _, rfl, x4.tups _ _ (x3.tups _ _ ea), fun s1 H5 x5 e5 => ?_⟩⟩⟩
      refine ⟨p2, s1, _, _, rfl, rfl, x5.tups _ _ e4, e5, (by decide : 2 + 1 ≤ sizeLine), fun p3 H6 x6 e6 => q p3 H6 ((((x12.trans x3).trans x4).trans x5).trans x6) ⟨p3, .ref p1, rfl, e6, r1.mono ((x4.trans x5).trans x6).tu⟩⟩
    | sure xs z k =>
      obtain ⟨a, px, e, ea, ex⟩ := rr
      cases e
      obtain ⟨okx, lx, _⟩ := ok
      refine ⟨_, rfl, p, _, 0, .str "sure", rfl, rfl, SqT.of ea, at0, sz2, fun p0 H1 n1 x1 e1 => ⟨p0, _, rfl, .inr (SqT.of e1), rfl, rfl, _, rfl, ite2 (fun c => absurd c (by decide +kernel)) (fun _ => ?_)⟩⟩
      have ea := x1.tups _ _ ea
      refine ⟨_, rfl, p, _, 0, .str "sure", rfl, rfl, SqT.of ea, at0, sz2, fun p00 H2 n2 x2 e2 => ⟨p00, _, rfl, .inr (SqT.of e2), rfl, rfl, _, rfl, ite2 (fun c => absurd c (by decide +kernel)) (fun _ => ?_)⟩⟩
      have ea := x2.tups _ _ ea
      refine ⟨_, rfl, p, _, 0, .str "sure", rfl, rfl, SqT.of ea, at0, rfl, _, rfl, ite2 (fun _ => ?_) (fun c => absurd (by decide +kernel) c)⟩
      have x12 := x1.trans x2
      have hc := hc.keep x12 nn
      have ex := x12.tups _ _ ex
      refine ⟨_, rfl, p, _, 1, .ref px, rfl, rfl, SqT.of ea, at1, px, rfl, ⟨_, SqT.of ex⟩, fun L hL => ?_⟩
      refine lc_tup (xs := xs.map V.str) (fun i Hx => ∃ ys : List Str, Hx L = some (.lst (ys.map V.str)) ∧ ys = (xs.take i).map c ∧ Fr [] H2 Hx) ⟨[], upd_same, rfl, Fr.refl.new hL⟩ (fun i Hx _ hP => ?_) (fun i x Hx hx hP => ?_) (fun Hx hP => ?_)
      · obtain ⟨_, _, _, yy⟩ := hP
        exact SqT.of (yy.tups _ _ ex)
      · obtain ⟨ys, eL, ey, yy⟩ := hP
        refine ⟨rfl, ?_⟩
        dsimp only [tYes]
        rw [if_pos rfl]
        rw [List.getElem?_map] at hx
        obtain ⟨x, exx, rfl⟩ := Option.map_eq_some_iff.mp hx
        refine ⟨_, rfl, _, rfl, dc, _, rfl, (hc.keep yy nn).get (okx x (List.mem_of_getElem? exx)), _, eL, small1000 (by rw [List.length_map, ey, List.length_map, List.length_take]; omega), ys ++ [c x], ?_, ?_, yy.own hL eL⟩
        · rw [upd_same, List.map_append]; rfl
        · rw [ey, List.take_add_one, exx, List.map_append]; rfl
      · obtain ⟨ys, eL, ey, yy⟩ := hP
        rw [List.length_map, List.take_length] at ey
        refine ⟨L, _, rfl, eL, fun p1 Ha na xa ea1 => ⟨sz2, fun p2 Hb nb xb eb => ⟨_, rfl, _, rfl, p, _, rfl, xb.tups _ _ (xa.tups _ _ (yy.tups _ _ ea)), fun s1 Hc xc ec => ?_⟩⟩⟩
        refine ⟨p2, s1, _, _, rfl, rfl, xc.tups _ _ eb, ec, (by decide : 2 + 2 ≤ sizeLine), fun p3 Hd xd ed => q p3 Hd ((((x12.trans yy).trans xa).trans xb).trans (xc.trans xd)) ⟨p3, p1, rfl, ed, by rw [← ey]; exact xd.tups _ _ (xc.tups _ _ (xb.tups _ _ ea1))⟩⟩
    | ite t k m =>
      obtain ⟨a, u, e, ea, rt⟩ := rr
      cases e
      obtain ⟨pu, rfl⟩ := rt_ref rt
      obtain ⟨okt, pt⟩ := ok
      refine ⟨_, rfl, p, _, 0, .str "if", rfl, rfl, SqT.of ea, at0, sz2, fun p0 H1 n1 x1 e1 => ⟨p0, _, rfl, .inr (SqT.of e1), rfl, rfl, _, rfl, ite2 (fun c => absurd c (by decide +kernel)) (fun _ => ?_)⟩⟩
      have ea := x1.tups _ _ ea
      refine ⟨_, rfl, p, _, 0, .str "if", rfl, rfl, SqT.of ea, at0, sz2, fun p00 H2 n2 x2 e2 => ⟨p00, _, rfl, .inr (SqT.of e2), rfl, rfl, _, rfl, ite2 (fun _ => ?_) (fun c => absurd (by decide +kernel) c)⟩⟩
      have ea := x2.tups _ _ ea
      have x12 := x1.trans x2
      refine ⟨_, rfl, p, _, 0, .str "if", rfl, rfl, SqT.of ea, at0, _, rfl, p, _, 1, .ref pu, rfl, rfl, SqT.of ea, at1, _, rfl, ws, c, pu, dc, t, rfl, rt.mono x12.tu, hc.keep x12 nn, okt, pt, fun p1 H3 x3 r1 => ⟨sz2, fun p2 H4 n4 x4 e4 => ⟨_, rfl, _, rfl, p, _, rfl, x4.tups _ _ (x3.tups _ _ ea), fun s1 H5 x5 e5 => ?_⟩⟩⟩
      refine ⟨p2, s1, _, _, rfl, rfl, x5.tups _ _ e4, e5, (by decide : 2 + 2 ≤ sizeLine), fun p3 H6 x6 e6 => q p3 H6 ((((x12.trans x3).trans x4).trans x5).trans x6) ⟨p3, .ref p1, rfl, e6, r1.mono ((x4.trans x5).trans x6).tu⟩⟩
    | fin =>
      obtain ⟨a, e, ea⟩ := id rr
      cases e
      refine ⟨_, rfl, p, _, 0, .str "end", rfl, rfl, SqT.of ea, at0, sz2, fun p0 H1 n1 x1 e1 => ⟨p0, _, rfl, .inr (SqT.of e1), rfl, rfl, _, rfl, ite2 (fun c => absurd c (by decide +kernel)) (fun _ => ?_)⟩⟩
      have ea := x1.tups _ _ ea
      refine ⟨_, rfl, p, _, 0, .str "end", rfl, rfl, SqT.of ea, at0, sz2, fun p00 H2 n2 x2 e2 => ⟨p00, _, rfl, .inr (SqT.of e2), rfl, rfl, _, rfl, ite2 (fun c => absurd c (by decide +kernel)) (fun _ => ?_)⟩⟩
      have ea := x2.tups _ _ ea
      refine ⟨_, rfl, p, _, 0, .str "end", rfl, rfl, SqT.of ea, at0, rfl, _, rfl, ite2 (fun c => absurd c (by decide +kernel)) (fun _ => ?_)⟩
      exact ⟨_, rfl, q p H2 (x1.trans x2) (rr.mono (x1.trans x2).tu)⟩
end
end Kz
set_option Elab.async false
set_option linter.all false
set_option maxRecDepth 100000
set_option maxHeartbeats 4000000
set_option pp.maxSteps 3000
/-! ZGa: what terms are worth. -/
namespace Kz
open PySem PySem.Spec PyProof.Rows L2
def CD (H : Hp) (d : Addr) (c : Str → Int) : Prop := ∃ kvs : List (Key × V), H d = some (.dK kvs) ∧ ∀ x, valV kvs (Sum.inr x : Key) = some (.int (c x)) ∨ (valV kvs (Sum.inr x : Key) = none ∧ c x = 0)
theorem CD.keep {S : List Addr} {H H' : Hp} {d : Addr} {c : Str → Int} (h : CD H d c) (x : Fr S H H') (n : d ∉ S) : CD H' d c := let ⟨kvs, e, r⟩ := h; ⟨kvs, x.keep _ _ n e, r⟩
def spOfTwo : Sp := fun vs H Q _ => ∃ (s : Str) (a b : Int), vs = [.str s, .int a, .int b] ∧ (0 ≤ a ∧ a < WD) ∧ (0 ≤ b ∧ b < WD) ∧ Q (.int (of2 s a b)) H
def spWorth (n : Nat) : Sp := fun vs H Q _ => ∃ (p d : Addr) (t : Tm) (c : Str → Int) (C : Str → Prop), vs = [.ref p, .ref d] ∧ RT H (.ref p) t ∧ CD H d c ∧ Vok c ∧ t.Ok C ∧ t.parts ≤ n ∧ Q (.int (t.worth c)) H
section
variable {P : Program} {w : World} {K : PySem.W.Frag} {mg : Str → Option Value} {base : Heap}
theorem ok_ofTwo (T : Tp K mg) : Fx P w K mg base 1 "of_two" ["sign", "one", "other"] spOfTwo := by
  refine fx_of T 0 0 rfl rfl sc_of_two (fun _ _ _ _ _ _ us hl => match us, hl with | [_, _, _], _ => rfl) (fun vs H Q E h => ?_) (fun f cdv A outer s H vs Q E hr h => ?_)
  · obtain ⟨s, a, b, rfl, _⟩ := h
    rfl
  · obtain ⟨s, a, b, rfl, ha, hb, q⟩ := h
    have hu := hu_of hr
    obtain ⟨tw, g_WIDE⟩ := T.i_WIDE
    refine ⟨_, (pss_cons (ps_if (pt_cmpR op_eq (pv 0) pe_str (nomark _)) (pss_one (ps_ret (pe_op op_mod (pe_op op_add (pv 1) (pv 2)) (pe_glob (v := .int 1000000) (by rfl) g_WIDE ⟨_, rfl⟩))))
     pss_nil)
    (pss_cons (ps_if (pt_cmpR op_eq (pv 0) pe_str (nomark _)) (pss_one (ps_ret (pe_op op_mod (pe_op op_sub (pv 1) (pv 2)) (pe_glob (v := .int 1000000) (by rfl) g_WIDE ⟨_, rfl⟩))))
     pss_nil)
    (pss_cons (ps_if (pt_cmpR op_eq (pv 0) pe_str (nomark _)) (pss_one (ps_ret (pe_op op_mod (pe_op op_mul (pv 1) (pv 2)) (pe_glob (v := .int 1000000) (by rfl) g_WIDE ⟨_, rfl⟩))))
     pss_nil)
    (pss_cons (ps_if (pt_cmpR op_eq (pv 0) pe_str (nomark _)) (pss_one (ps_ret (pe_callTy call_int1 (by rfl) T.n_int (by decide +kernel) (pa_cons (pe_cmpR op_lt (pv 1) (pv 2) (nomark _)) pa_nil))))
     pss_nil)
    (pss_one (ps_ret (pe_callTy call_int1 (by rfl) T.n_int (by decide +kernel) (pa_cons (pe_cmpR op_eq (pv 1) (pv 2) (nomark _)) pa_nil)))))))), ?_⟩
    have wd : WD = 1000000 := rfl
    have e0 : of2 s a b = if s = "+" then (a + b) % 1000000 else if s = "-" then (a - b) % 1000000 else if s = "*" then a * b % 1000000 else if s = "<" then (if a < b then 1 else 0) else (if a = b then 1 else 0) := rfl
    have st : ∀ {y : Str}, decide (V.str s = V.str y) = true → s = y := fun h => by have := of_decide_eq_true h; injection this
    have sf : ∀ {y : Str}, ¬ decide (V.str s = V.str y) = true → ¬ s = y := fun h z => h (decide_eq_true (by rw [z]))
    refine ⟨_, rfl, rfl, _, rfl, ite2 (fun h => ?_) (fun h1 => ?_)⟩
    · rw [e0, if_pos (st h)] at q
      exact ⟨_, rfl, _, rfl, _, _, rfl, rfl, _, _, rfl, rfl, (show (0 : Int) < 1000000 by decide), q⟩
    · refine ⟨_, rfl, rfl, _, rfl, ite2 (fun h => ?_) (fun h2 => ?_)⟩
      · rw [e0, if_neg (sf h1), if_pos (st h)] at q
        exact ⟨_, rfl, _, rfl, _, _, rfl, rfl, _, _, rfl, rfl, (show (0 : Int) < 1000000 by decide), q⟩
      · refine ⟨_, rfl, rfl, _, rfl, ite2 (fun h => ?_) (fun h3 => ?_)⟩
        · rw [e0, if_neg (sf h1), if_neg (sf h2), if_pos (st h)] at q
          exact ⟨_, rfl, _, rfl, _, _, rfl, rfl, .inl ⟨by omega, by omega⟩, _, _, rfl, rfl, (show (0 : Int) < 1000000 by decide), q⟩
        · refine ⟨_, rfl, rfl, _, rfl, ite2 (fun h => ?_) (fun h4 => ?_)⟩
          · rw [e0, if_neg (sf h1), if_neg (sf h2), if_neg (sf h3), if_pos (st h)] at q
            refine ⟨_, rfl, _, rfl, _, _, rfl, rfl, .inr ⟨_, rfl, ?_⟩⟩
            by_cases c : a < b
            · rw [if_pos c] at q
              rw [decide_eq_true c]
              exact q
            · rw [if_neg c] at q
              rw [decide_eq_false c]
              exact q
          · rw [e0, if_neg (sf h1), if_neg (sf h2), if_neg (sf h3), if_neg (sf h4)] at q
            refine ⟨_, rfl, _, rfl, rfl, .inr ⟨_, rfl, ?_⟩⟩
            by_cases c : a = b
            · rw [if_pos c] at q
              rw [decide_eq_true (by rw [c])]
              exact q
            · rw [if_neg c] at q
              rw [decide_eq_false (fun z => c (by injection z))]
              exact q
theorem ok_worth (T : Tp K mg) : ∀ n : Nat, Fx P w K mg base (n + 2) "worth" ["term", "cells"] (spWorth n)
  | 0 => by
    refine fx_of T 1 1 rfl rfl sc_worth (fun _ _ _ _ _ _ us hl => match us, hl with | [_, _], _ => rfl) (fun vs H Q E h => ?_) (fun f cdv A outer s H vs Q E hr h => ?_)
    · obtain ⟨p, d, t, c, C, rfl, _⟩ := h
      rfl
    · obtain ⟨p, d, t, c, C, rfl, _, _, _, _, h, _⟩ := h
      exact absurd h (by have := t.parts_pos; omega)
  | n + 1 => by
    have F_worth := ok_worth T n
    have F_of_two := ok_ofTwo (P := P) (w := w) (base := base) T
    refine fx_of T 1 1 rfl rfl sc_worth (fun _ _ _ _ _ _ us hl => match us, hl with | [_, _], _ => rfl) (fun vs H Q E h => ?_) (fun f cdv A outer s H vs Q E hr h => ?_)
    · obtain ⟨p, d, t, c, C, rfl, _⟩ := h
      rfl
    · obtain ⟨p, d, t, c, C, rfl, rt, cd, v, ok, hp, q⟩ := h
      have hu := hu_of hr
      refine ⟨_, (pss_cons (ps_if (pt_cmpR op_eq (pe_ix ix_tup (pv 0) pe_int (fun _ _ => rfl)) pe_str (nomark _)) (pss_one (ps_ret (pe_ix ix_tup (pv 0) pe_int (fun _ _ => rfl))))
     pss_nil)
    (pss_cons (ps_if (pt_cmpR op_eq (pe_ix ix_tup (pv 0) pe_int (fun _ _ => rfl)) pe_str (nomark _)) (pss_one (ps_ret (pe_dget2 hu (pv 1) (pe_ix ix_tup (pv 0) pe_int (fun _ _ => rfl)) pe_int ⟨rfl, rfl, rfl, rfl⟩)))
     pss_nil)
    (pss_one (ps_ret (pe_F F_of_two (hr.mono (by omega)) (by rfl) (pa_cons (pe_ix ix_tup (pv 0) pe_int (fun _ _ => rfl)) (pa_cons (pe_F F_worth (hr.mono (by omega)) (by rfl) (pa_cons (pe_ix ix_tup (pv 0) pe_int (fun _ _ => rfl)) (pa_cons (pv 1) pa_nil))) (pa_cons (pe_F F_worth (hr.mono (by omega)) (by rfl) (pa_cons (pe_ix ix_tup (pv 0) pe_int (fun _ _ => rfl)) (pa_cons (pv 1) pa_nil))) pa_nil)))))))), ?_⟩
      cases t with
      | num k =>
        obtain ⟨a, e, ea⟩ := rt
        cases e
        refine ⟨_, rfl, p, _, 0, .str "num", rfl, rfl, SqT.of ea, at0, rfl, _, rfl, ite2 (fun _ => ?_) (fun c => absurd (by decide +kernel) c)⟩
        exact ⟨_, rfl, p, _, 1, .int k, rfl, rfl, SqT.of ea, at1, q⟩
      | cell x =>
        obtain ⟨a, e, ea⟩ := rt
        cases e
        obtain ⟨kvs, ek, hk⟩ := cd
        refine ⟨_, rfl, p, _, 0, .str "cell", rfl, rfl, SqT.of ea, at0, rfl, _, rfl, ite2 (fun c => absurd c (by decide +kernel)) (fun _ => ?_)⟩
        refine ⟨_, rfl, p, _, 0, .str "cell", rfl, rfl, SqT.of ea, at0, rfl, _, rfl, ite2 (fun _ => ?_) (fun c => absurd (by decide +kernel) c)⟩
        refine ⟨_, rfl, d, rfl, .inl ⟨_, .inl ek⟩, _, rfl, p, _, 1, .str x, rfl, rfl, SqT.of ea, at1, _, DGet.k (k := Sum.inr x) ek, ?_⟩
        rcases hk x with h | ⟨h, h0⟩
        · rw [h]
          exact q
        · rw [h]
          have q : Q (.int (c x)) H := q
          rw [h0] at q
          exact q
      | op o ta tb =>
        obtain ⟨a, u, v2, e, ea, ru, rv⟩ := rt
        cases e
        obtain ⟨_, oka, okb⟩ := ok
        obtain ⟨pu, rfl⟩ := rt_ref ru
        obtain ⟨pv, rfl⟩ := rt_ref rv
        have hp : 1 + ta.parts + tb.parts ≤ n + 1 := hp
        have := ta.parts_pos
        have := tb.parts_pos
        refine ⟨_, rfl, p, _, 0, .str "op", rfl, rfl, SqT.of ea, at0, rfl, _, rfl, ite2 (fun c => absurd c (by decide +kernel)) (fun _ => ?_)⟩
        refine ⟨_, rfl, p, _, 0, .str "op", rfl, rfl, SqT.of ea, at0, rfl, _, rfl, ite2 (fun c => absurd c (by decide +kernel)) (fun _ => ?_)⟩
        refine ⟨_, rfl, p, _, 1, .str o, rfl, rfl, SqT.of ea, at1, _, rfl, p, _, 2, .ref pu, rfl, rfl, SqT.of ea, at2, _, rfl, pu, d, ta, c, C, rfl, ru, cd, v, oka, by omega, _, rfl, p, _, 3, .ref pv, rfl, rfl, SqT.of ea, at3, _, rfl, pv, d, tb, c, C, rfl, rv, cd, v, okb, by omega, o, ta.worth c, tb.worth c, rfl, ta.worth_ok v oka, tb.worth_ok v okb, q⟩
end
end Kz
set_option Elab.async false
set_option linter.all false
set_option maxRecDepth 100000
set_option maxHeartbeats 4000000
set_option pp.maxSteps 3000
/-! ZCa: the bodies within a statement. -/
namespace Kz
open PySem PySem.Spec PyProof.Rows L2
def innerS : Sm → List (List Sm)
  | .ite _ a b => [a, b]
  | .wh _ b => [b]
  | .times _ b => [b]
  | _ => []
def spInner : Sp := fun vs H Q _ => ∃ (v : V) (k : Nat) (s : Sm), vs = [v] ∧ RS H k v s ∧ ∀ p H' outs, H p = none → Fr [] H H' → H' p = some (.lst outs) → outs.length ≤ 2 → Bds H' (k - 1) outs (innerS s) → Q (.ref p) H'
section
variable {P : Program} {w : World} {K : PySem.W.Frag} {mg : Str → Option Value} {base : Heap}
theorem ok_inner (T : Tp K mg) : Fx P w K mg base 1 "inner_bodies" ["statement"] spInner := by
  refine fx_of T 10 4 rfl rfl sc_inner_bodies (fun _ _ _ _ _ _ us hl => match us, hl with | [_], _ => rfl) (fun vs H Q E h => ?_) (fun f cdv A outer s H vs Q E hr h => ?_)
  · obtain ⟨v, k, s, rfl, _⟩ := h
    rfl
  · obtain ⟨v, k, s, rfl, rs, q⟩ := h
    refine ⟨_, (pss_cons (ps_if (pt_cmpR op_eq (pe_ix ix_tup (pv 0) pe_int (fun _ _ => rfl)) pe_str (nomark _)) (pss_one (ps_ret (pe_lstC (pa_cons (pe_ix ix_tup (pv 0) pe_int (fun _ _ => rfl)) (pa_cons (pe_ix ix_tup (pv 0) pe_int (fun _ _ => rfl)) pa_nil)))))
     pss_nil)
    (pss_cons (ps_if (PW.pt (pw_or (pt_cmpR op_eq (pe_ix ix_tup (pv 0) pe_int (fun _ _ => rfl)) pe_str (nomark _)) (pw_or1 (pt_cmpR op_eq (pe_ix ix_tup (pv 0) pe_int (fun _ _ => rfl)) pe_str (nomark _))))) (pss_one (ps_ret (pe_lstC (pa_cons (pe_ix ix_tup (pv 0) pe_int (fun _ _ => rfl)) pa_nil))))
     pss_nil)
    (pss_one (ps_ret (pe_lstC pa_nil))))), ?_⟩
    obtain ⟨t, z, rest, rfl, et, _⟩ := rs_word rs
    cases s with
    | ite tm a b =>
      cases k with
      | zero => exact rs.elim
      | succ k =>
      obtain ⟨t', u, pa, pb, va, vb, e, et, rt, ea, rla, eb, rlb⟩ := rs
      cases e
      refine ⟨_, rfl, t, _, 0, .str "if", rfl, rfl, SqT.of et, at0, rfl, _, rfl, ite2 (fun _ => ?_) (fun c => absurd (by decide +kernel) c)⟩
      exact ⟨_, rfl, t, _, 2, .ref pa, rfl, rfl, SqT.of et, at2, _, rfl, t, _, 3, .ref pb, rfl, rfl, SqT.of et, at3, sz2, fun p H1 n1 x1 e1 => q p H1 _ n1 x1 e1 (by exact Nat.le_refl 2) (.cons ⟨pa, va, rfl, x1.tups _ _ ea, RL.mono x1.tu rla⟩ (.cons ⟨pb, vb, rfl, x1.tups _ _ eb, RL.mono x1.tu rlb⟩ .nil))⟩
    | wh tm b =>
      cases k with
      | zero => exact rs.elim
      | succ k =>
      obtain ⟨t', u, pb, vb, e, et, rt, eb, rlb⟩ := rs
      cases e
      refine ⟨_, rfl, t, _, 0, .str "while", rfl, rfl, SqT.of et, at0, rfl, _, rfl, ite2 (fun c => absurd c (by decide +kernel)) (fun _ => ?_)⟩
      refine ⟨_, rfl, t, _, 0, .str "while", rfl, rfl, SqT.of et, at0, rfl, _, rfl, ite2 (fun _ => ?_) (fun c => absurd (by decide +kernel) c)⟩
      exact iteT ⟨_, rfl, t, _, 2, .ref pb, rfl, rfl, SqT.of et, at2, sz1, fun p H1 n1 x1 e1 => q p H1 _ n1 x1 e1 (by exact Nat.le_succ 1) (.cons ⟨pb, vb, rfl, x1.tups _ _ eb, RL.mono x1.tu rlb⟩ .nil)⟩
    | times n b =>
      cases k with
      | zero => exact rs.elim
      | succ k =>
      obtain ⟨t', pb, vb, e, et, eb, rlb⟩ := rs
      cases e
      refine ⟨_, rfl, t, _, 0, .str "times", rfl, rfl, SqT.of et, at0, rfl, _, rfl, ite2 (fun c => absurd c (by decide +kernel)) (fun _ => ?_)⟩
      refine ⟨_, rfl, t, _, 0, .str "times", rfl, rfl, SqT.of et, at0, rfl, _, rfl, ite2 (fun c => absurd c (by decide +kernel)) (fun _ => ?_)⟩
      refine ⟨_, rfl, t, _, 0, .str "times", rfl, rfl, SqT.of et, at0, rfl, _, rfl, ite2 (fun _ => ?_) (fun c => absurd (by decide +kernel) c)⟩
      exact ⟨_, rfl, t, _, 2, .ref pb, rfl, rfl, SqT.of et, at2, sz1, fun p H1 n1 x1 e1 => q p H1 _ n1 x1 e1 (by exact Nat.le_succ 1) (.cons ⟨pb, vb, rfl, x1.tups _ _ eb, RL.mono x1.tu rlb⟩ .nil)⟩
    | set x t2 =>
      refine ⟨_, rfl, t, _, 0, .str "set", rfl, rfl, SqT.of et, at0, rfl, _, rfl, ite2 (fun c => absurd c (by decide +kernel)) (fun _ => ?_)⟩
      refine ⟨_, rfl, t, _, 0, .str "set", rfl, rfl, SqT.of et, at0, rfl, _, rfl, ite2 (fun c => absurd c (by decide +kernel)) (fun _ => ?_)⟩
      refine ⟨_, rfl, t, _, 0, .str "set", rfl, rfl, SqT.of et, at0, rfl, _, rfl, ite2 (fun c => absurd c (by decide +kernel)) (fun _ => ?_)⟩
      exact ⟨Nat.zero_le _, fun p H1 n1 x1 e1 => q p H1 _ n1 x1 e1 (Nat.zero_le _) .nil⟩
    | read x g =>
      refine ⟨_, rfl, t, _, 0, .str "read", rfl, rfl, SqT.of et, at0, rfl, _, rfl, ite2 (fun c => absurd c (by decide +kernel)) (fun _ => ?_)⟩
      refine ⟨_, rfl, t, _, 0, .str "read", rfl, rfl, SqT.of et, at0, rfl, _, rfl, ite2 (fun c => absurd c (by decide +kernel)) (fun _ => ?_)⟩
      refine ⟨_, rfl, t, _, 0, .str "read", rfl, rfl, SqT.of et, at0, rfl, _, rfl, ite2 (fun c => absurd c (by decide +kernel)) (fun _ => ?_)⟩
      exact ⟨Nat.zero_le _, fun p H1 n1 x1 e1 => q p H1 _ n1 x1 e1 (Nat.zero_le _) .nil⟩
    | tell t2 =>
      refine ⟨_, rfl, t, _, 0, .str "tell", rfl, rfl, SqT.of et, at0, rfl, _, rfl, ite2 (fun c => absurd c (by decide +kernel)) (fun _ => ?_)⟩
      refine ⟨_, rfl, t, _, 0, .str "tell", rfl, rfl, SqT.of et, at0, rfl, _, rfl, ite2 (fun c => absurd c (by decide +kernel)) (fun _ => ?_)⟩
      refine ⟨_, rfl, t, _, 0, .str "tell", rfl, rfl, SqT.of et, at0, rfl, _, rfl, ite2 (fun c => absurd c (by decide +kernel)) (fun _ => ?_)⟩
      exact ⟨Nat.zero_le _, fun p H1 n1 x1 e1 => q p H1 _ n1 x1 e1 (Nat.zero_le _) .nil⟩
    | sure xs n =>
      refine ⟨_, rfl, t, _, 0, .str "sure", rfl, rfl, SqT.of et, at0, rfl, _, rfl, ite2 (fun c => absurd c (by decide +kernel)) (fun _ => ?_)⟩
      refine ⟨_, rfl, t, _, 0, .str "sure", rfl, rfl, SqT.of et, at0, rfl, _, rfl, ite2 (fun c => absurd c (by decide +kernel)) (fun _ => ?_)⟩
      refine ⟨_, rfl, t, _, 0, .str "sure", rfl, rfl, SqT.of et, at0, rfl, _, rfl, ite2 (fun c => absurd c (by decide +kernel)) (fun _ => ?_)⟩
      exact ⟨Nat.zero_le _, fun p H1 n1 x1 e1 => q p H1 _ n1 x1 e1 (Nat.zero_le _) .nil⟩
    | call f =>
      refine ⟨_, rfl, t, _, 0, .str "call", rfl, rfl, SqT.of et, at0, rfl, _, rfl, ite2 (fun c => absurd c (by decide +kernel)) (fun _ => ?_)⟩
      refine ⟨_, rfl, t, _, 0, .str "call", rfl, rfl, SqT.of et, at0, rfl, _, rfl, ite2 (fun c => absurd c (by decide +kernel)) (fun _ => ?_)⟩
      refine ⟨_, rfl, t, _, 0, .str "call", rfl, rfl, SqT.of et, at0, rfl, _, rfl, ite2 (fun c => absurd c (by decide +kernel)) (fun _ => ?_)⟩
      exact ⟨Nat.zero_le _, fun p H1 n1 x1 e1 => q p H1 _ n1 x1 e1 (Nat.zero_le _) .nil⟩
end
end Kz
set_option Elab.async false
set_option linter.all false
set_option maxRecDepth 100000
/-! ZCb: the cells that a program names, plainly. -/
namespace Kz
open PySem PyProof.Rows L2
def cellsT : Tm → List Str
  | .num _ => []
  | .cell x => [x]
  | .op _ a b => cellsT a ++ cellsT b
theorem cellsT_ren (c : Str → Str) : ∀ t : Tm, cellsT (t.ren c) = (cellsT t).map c
  | .num _ => rfl
  | .cell _ => rfl
  | .op _ a b => by
    show cellsT (a.ren c) ++ cellsT (b.ren c) = (cellsT a ++ cellsT b).map c
    rw [cellsT_ren c a, cellsT_ren c b, List.map_append]
def ownS : Sm → List Str
  | .set x t => x :: cellsT t
  | .read x _ => [x]
  | .tell t => cellsT t
  | .sure xs _ => xs
  | .ite t _ _ => cellsT t
  | .wh t _ => cellsT t
  | _ => []
/-- all that is named within -/
def nmS : Nat → Sm → List Str
  | n + 1, .ite t a b => cellsT t ++ (a.flatMap (nmS n) ++ b.flatMap (nmS n))
  | n + 1, .wh t b => cellsT t ++ b.flatMap (nmS n)
  | n + 1, .times _ b => b.flatMap (nmS n)
  | _, s => ownS s
theorem nmS_ren {C G : Str → Prop} {env : Env'} {c g h : Str → Str} : ∀ {n : Nat} {s : Sm}, Wf C G env n s → nmS n (renS c g h n s) = (nmS n s).map c := by
  intro n
  induction n with
  | zero =>
    intro s w
    cases s with
    | set x t => show c x :: cellsT (t.ren c) = (x :: cellsT t).map c; rw [cellsT_ren, List.map_cons]
    | read x gg => rfl
    | tell t => exact cellsT_ren c t
    | sure xs z => rfl
    | _ => exact w.elim
  | succ n ih =>
    have fl : ∀ {b : List Sm}, (∀ s ∈ b, Wf C G env n s) → (b.map (renS c g h n)).flatMap (nmS n) = (b.flatMap (nmS n)).map c := fun {b} hb => by
      induction b with
      | nil => rfl
      | cons s r ihr =>
        rw [List.map_cons, List.flatMap_cons, List.flatMap_cons, List.map_append, ih (hb s List.mem_cons_self), ihr fun z hz => hb z (List.mem_cons_of_mem _ hz)]
    intro s w
    cases s with
    | set x t => show c x :: cellsT (t.ren c) = (x :: cellsT t).map c; rw [cellsT_ren, List.map_cons]
    | read x gg => rfl
    | tell t => exact cellsT_ren c t
    | sure xs z => rfl
    | call f => rfl
    | ite t a b =>
      show cellsT (t.ren c) ++ ((a.map (renS c g h n)).flatMap (nmS n) ++ (b.map (renS c g h n)).flatMap (nmS n)) = (cellsT t ++ (a.flatMap (nmS n) ++ b.flatMap (nmS n))).map c
      rw [cellsT_ren, fl w.2.1, fl w.2.2, List.map_append, List.map_append]
    | wh t b =>
      show cellsT (t.ren c) ++ (b.map (renS c g h n)).flatMap (nmS n) = (cellsT t ++ b.flatMap (nmS n)).map c
      rw [cellsT_ren, fl w.2, List.map_append]
    | times k b => exact fl w.2
/-! ### one statement, what stands within -/
def OwnOk : Sm → Prop
  | .set _ t => t.parts ≤ 11
  | .tell t => t.parts ≤ 11
  | .ite t _ _ => t.parts ≤ 11
  | .wh t _ => t.parts ≤ 11
  | .sure xs _ => xs.length ≤ 4
  | _ => True
def cntS : Nat → Sm → Nat
  | n + 1, .ite _ a b => 1 + ((a.map (cntS n)).sum + (b.map (cntS n)).sum)
  | n + 1, .wh _ b => 1 + (b.map (cntS n)).sum
  | n + 1, .times _ b => 1 + (b.map (cntS n)).sum
  | _, _ => 1
/-- what comes onto the pile for a statement -/
def inIt (j : Nat) (s : Sm) : List (Nat × Sm) := (innerS s).reverse.flatMap fun b => b.reverse.map fun z => (j - 1, z)
def cIt (it : Nat × Sm) : Nat := cntS it.1 it.2
def nIt (it : Nat × Sm) : List Str := nmS it.1 it.2
section
variable {C G : Str → Prop} {env : Env'}
theorem wf_own {n : Nat} {s : Sm} (w : Wf C G env n s) : OwnOk s := by
  cases n <;> cases s <;> first | exact w.2.2 | exact w.2 | exact w.1.2 | exact w.2.2.1 | trivial | exact w.elim
theorem wf_inner {n : Nat} {s : Sm} (w : Wf C G env n s) : ∀ b ∈ innerS s, ∀ z ∈ b, ∃ m, Wf C G env m z := by
  cases n with
  | zero =>
    cases s <;> first | exact w.elim | (intro b hb; exact absurd hb List.not_mem_nil)
  | succ n =>
    cases s with
    | ite t a b =>
      intro c hc z hz
      rcases List.mem_cons.mp hc with e | hc
      · rw [e] at hz; exact ⟨n, w.2.1 z hz⟩
      · rw [List.mem_singleton.mp hc] at hz; exact ⟨n, w.2.2 z hz⟩
    | wh t b =>
      intro c hc z hz
      rw [List.mem_singleton.mp hc] at hz; exact ⟨n, w.2 z hz⟩
    | times k b =>
      intro c hc z hz
      rw [List.mem_singleton.mp hc] at hz; exact ⟨n, w.2 z hz⟩
    | _ => intro b hb; exact absurd hb List.not_mem_nil
theorem tm_in {t : Tm} (h : t.Ok C) : ∀ x ∈ cellsT t, C x := by
  induction t with
  | num k => intro x hx; exact absurd hx List.not_mem_nil
  | cell y => intro x hx; rw [List.mem_singleton.mp hx]; exact h
  | op s a b iha ihb =>
    intro x hx
    rcases List.mem_append.mp hx with q | q
    · exact iha h.2.1 x q
    · exact ihb h.2.2 x q
theorem own_in {n : Nat} {s : Sm} (w : Wf C G env n s) : ∀ x ∈ ownS s, C x := by
  cases s with
  | set y t =>
    intro x hx
    rcases List.mem_cons.mp hx with e | hx
    · rw [e]; cases n <;> exact w.1
    · cases n <;> exact tm_in w.2.1 x hx
  | read y g => intro x hx; rw [List.mem_singleton.mp hx]; cases n <;> exact w.1
  | tell t => cases n <;> exact tm_in w.1
  | sure xs z => cases n <;> exact w.1
  | ite t a b =>
    cases n with
    | zero => exact w.elim
    | succ n => exact tm_in w.1.1
  | wh t b =>
    cases n with
    | zero => exact w.elim
    | succ n => exact tm_in w.1.1
  | times k b => intro x hx; exact absurd hx List.not_mem_nil
  | call f => intro x hx; exact absurd hx List.not_mem_nil
theorem nmS_in : ∀ {k n : Nat} {s : Sm}, Wf C G env n s → ∀ x ∈ nmS k s, C x := by
  intro k
  induction k with
  | zero => intro n s w; cases s <;> exact own_in w
  | succ k ih =>
    have fl : ∀ {n : Nat} {b : List Sm}, (∀ s ∈ b, Wf C G env n s) → ∀ x ∈ b.flatMap (nmS k), C x := fun hb x hx => by
      obtain ⟨s, hs, hx⟩ := List.mem_flatMap.mp hx
      exact ih (hb s hs) x hx
    intro n s w
    cases s with
    | ite t a b =>
      cases n with
      | zero => exact w.elim
      | succ n =>
        intro x hx
        rcases List.mem_append.mp hx with q | q
        · exact tm_in w.1.1 x q
        rcases List.mem_append.mp q with q | q
        · exact fl w.2.1 x q
        · exact fl w.2.2 x q
    | wh t b =>
      cases n with
      | zero => exact w.elim
      | succ n =>
        intro x hx
        rcases List.mem_append.mp hx with q | q
        · exact tm_in w.1.1 x q
        · exact fl w.2 x q
    | times m b =>
      cases n with
      | zero => exact w.elim
      | succ n => exact fl w.2
    | _ => exact own_in w
theorem plL_pos {f : Sm → Pl} {b : List Sm} (hb : b ≠ []) (h : ∀ s ∈ b, 1 ≤ (f s).size) : 1 ≤ (plL f b).size := by
  cases b with
  | nil => exact absurd rfl hb
  | cons s r =>
    show 1 ≤ ((f s).app (plL f r)).size
    rw [Pl.size_app]
    have := h s List.mem_cons_self
    omega
theorem plL_cnt {f : Sm → Pl} {g : Sm → Nat} {m : Nat} : ∀ {b : List Sm}, (∀ s ∈ b, g s ≤ m * (f s).size) → (b.map g).sum ≤ m * (plL f b).size
  | [], _ => Nat.zero_le _
  | s :: r, h => by
    show g s + (r.map g).sum ≤ m * ((f s).app (plL f r)).size
    rw [Pl.size_app, Nat.mul_add]
    exact Nat.add_le_add (h s List.mem_cons_self) (plL_cnt fun z hz => h z (List.mem_cons_of_mem _ hz))
theorem ar2 {n A B ca cb : Nat} (ha : ca ≤ (n + 1) * A) (hb : cb ≤ (n + 1) * B) : 1 + (ca + cb) ≤ (n + 1 + 1) * (1 + A + B) := by
  rw [Nat.succ_mul, Nat.mul_add, Nat.mul_add]
  omega
theorem ar1 {n B cb : Nat} (hb : cb ≤ (n + 1) * B) : 1 + cb ≤ (n + 1 + 1) * (1 + B) := by
  rw [Nat.succ_mul, Nat.mul_add]
  omega
theorem cnt_le (ne : ∀ f b, env f = some b → b ≠ []) : ∀ {n : Nat} {s : Sm}, Wf C G env n s → 1 ≤ (plS env n s).size ∧ cntS n s ≤ (n + 1) * (plS env n s).size := by
  intro n
  induction n with
  | zero =>
    intro s w
    cases s <;> first | exact w.elim | exact ⟨Nat.le_refl 1, Nat.le_refl 1⟩
  | succ n ih =>
    have one : ∀ {z : Nat}, 1 ≤ z → 1 ≤ (n + 1 + 1) * z := fun h => Nat.le_trans h (Nat.le_mul_of_pos_left _ (by omega))
    intro s w
    cases s with
    | ite t a b =>
      have ha := plL_cnt (m := n + 1) fun s hs => (ih (w.2.1 s hs)).2
      have hb := plL_cnt (m := n + 1) fun s hs => (ih (w.2.2 s hs)).2
      show 1 ≤ 1 + (plL (plS env n) a).size + (plL (plS env n) b).size + 0 ∧ 1 + ((a.map (cntS n)).sum + (b.map (cntS n)).sum) ≤ (n + 1 + 1) * (1 + (plL (plS env n) a).size + (plL (plS env n) b).size + 0)
      exact ⟨by omega, ar2 ha hb⟩
    | wh t b =>
      have hb := plL_cnt (m := n + 1) fun s hs => (ih (w.2 s hs)).2
      show 1 ≤ 1 + (plL (plS env n) b).size + 0 ∧ 1 + (b.map (cntS n)).sum ≤ (n + 1 + 1) * (1 + (plL (plS env n) b).size + 0)
      exact ⟨by omega, ar1 hb⟩
    | times k b =>
      obtain ⟨⟨k1, _, hne⟩, wb⟩ := w
      have hb := plL_cnt (m := n + 1) fun s hs => (ih (wb s hs)).2
      have hp := plL_pos hne fun s hs => (ih (wb s hs)).1
      show 1 ≤ ((plL (plS env n) b).rep k.toNat).size ∧ 1 + (b.map (cntS n)).sum ≤ (n + 1 + 1) * ((plL (plS env n) b).rep k.toNat).size
      rw [Pl.size_rep]
      have hk : (plL (plS env n) b).size ≤ k.toNat * (plL (plS env n) b).size := Nat.le_mul_of_pos_left _ (by omega)
      refine ⟨by omega, ?_⟩
      refine Nat.le_trans ?_ (Nat.mul_le_mul_left _ hk)
      rw [Nat.add_mul]
      omega
    | call f =>
      obtain ⟨b, e, wb⟩ := w
      have hp := plL_pos (ne f b e) fun s hs => (ih (wb s hs)).1
      have ep : plS env (n + 1) (.call f) = plL (plS env n) b := by
        show (match env f with | some b => plL (plS env n) b | none => .nil) = _
        rw [e]
      rw [ep]
      exact ⟨hp, one hp⟩
    | _ => exact ⟨Nat.le_refl 1, one (Nat.le_refl 1)⟩
end
theorem cnt_up {k : Nat} {s : Sm} : cntS k s ≤ cntS (k + 1) s := by
  induction k generalizing s with
  | zero => cases s <;> first | exact Nat.le_refl 1 | exact Nat.le_add_right 1 _
  | succ k ih =>
    have fl : ∀ b : List Sm, (b.map (cntS k)).sum ≤ (b.map (cntS (k + 1))).sum := fun b => by
      induction b with
      | nil => exact Nat.le_refl 0
      | cons z r ihr => exact Nat.add_le_add ih ihr
    cases s with
    | ite t a b => exact Nat.add_le_add_left (Nat.add_le_add (fl a) (fl b)) 1
    | wh t b => exact Nat.add_le_add_left (fl b) 1
    | times m b => exact Nat.add_le_add_left (fl b) 1
    | _ => exact Nat.le_refl 1
theorem cnt_mono {k m : Nat} {s : Sm} (h : k ≤ m) : cntS k s ≤ cntS m s := by
  obtain ⟨d, rfl⟩ := Nat.le.dest h
  clear h
  induction d with
  | zero => exact Nat.le_refl _
  | succ d ih => exact Nat.le_trans ih cnt_up
/-- what a statement is to the pile -/
theorem pile_cnt {H : Hp} {j : Nat} {v : V} {s : Sm} (h : RS H j v s) : ((inIt j s).map cIt).sum + 1 = cntS j s := by
  have one : ∀ (n : Nat) (b : List Sm), ((b.reverse.map fun z => (n, z)).map cIt).sum = (b.map (cntS n)).sum := fun n b => by
    rw [List.map_map, List.map_reverse, List.sum_reverse]
    rfl
  cases s with
  | ite t a b =>
    cases j with
    | zero => exact h.elim
    | succ j =>
      show ((b.reverse.map (fun z => (j, z)) ++ (a.reverse.map (fun z => (j, z)) ++ [])).map cIt).sum + 1 = 1 + ((a.map (cntS j)).sum + (b.map (cntS j)).sum)
      rw [List.append_nil, List.map_append, List.sum_append, one, one]
      omega
  | wh t b =>
    cases j with
    | zero => exact h.elim
    | succ j =>
      show ((b.reverse.map (fun z => (j, z)) ++ []).map cIt).sum + 1 = 1 + (b.map (cntS j)).sum
      rw [List.append_nil, one]
      omega
  | times m b =>
    cases j with
    | zero => exact h.elim
    | succ j =>
      show ((b.reverse.map (fun z => (j, z)) ++ []).map cIt).sum + 1 = 1 + (b.map (cntS j)).sum
      rw [List.append_nil, one]
      omega
  | _ => cases j <;> rfl
theorem pile_nm {H : Hp} {j : Nat} {v : V} {s : Sm} (h : RS H j v s) (x : Str) : x ∈ nmS j s ↔ x ∈ ownS s ∨ ∃ it ∈ inIt j s, x ∈ nIt it := by
  have one : ∀ (n : Nat) (b : List Sm), (∃ it ∈ b.reverse.map (fun z => (n, z)), x ∈ nIt it) ↔ x ∈ b.flatMap (nmS n) := fun n b => by
    constructor
    · rintro ⟨it, h1, h2⟩
      obtain ⟨z, hz, rfl⟩ := List.mem_map.mp h1
      exact List.mem_flatMap.mpr ⟨z, List.mem_reverse.mp hz, h2⟩
    · intro hx
      obtain ⟨z, hz, hx⟩ := List.mem_flatMap.mp hx
      exact ⟨(n, z), List.mem_map.mpr ⟨z, List.mem_reverse.mpr hz, rfl⟩, hx⟩
  have two : ∀ l1 l2 : List (Nat × Sm), (∃ it ∈ l1 ++ l2, x ∈ nIt it) ↔ (∃ it ∈ l1, x ∈ nIt it) ∨ ∃ it ∈ l2, x ∈ nIt it := fun l1 l2 => by
    constructor
    · rintro ⟨it, h1, h2⟩
      rcases List.mem_append.mp h1 with q | q
      · exact .inl ⟨it, q, h2⟩
      · exact .inr ⟨it, q, h2⟩
    · rintro (⟨it, h1, h2⟩ | ⟨it, h1, h2⟩)
      · exact ⟨it, List.mem_append_left _ h1, h2⟩
      · exact ⟨it, List.mem_append_right _ h1, h2⟩
  have no : ∀ (j : Nat) (s : Sm), innerS s = [] → nmS j s = ownS s → (x ∈ nmS j s ↔ x ∈ ownS s ∨ ∃ it ∈ inIt j s, x ∈ nIt it) := fun j s e1 e2 => by
    unfold inIt
    rw [e1, e2]
    exact ⟨.inl, fun h => h.elim id fun ⟨_, h, _⟩ => absurd h List.not_mem_nil⟩
  cases s with
  | ite t a b =>
    cases j with
    | zero => exact h.elim
    | succ j =>
      show x ∈ cellsT t ++ (a.flatMap (nmS j) ++ b.flatMap (nmS j)) ↔ x ∈ cellsT t ∨ ∃ it ∈ b.reverse.map (fun z => (j, z)) ++ (a.reverse.map (fun z => (j, z)) ++ []), x ∈ nIt it
      rw [List.append_nil, two, one, one, List.mem_append, List.mem_append]
      exact or_congr Iff.rfl Or.comm
  | wh t b =>
    cases j with
    | zero => exact h.elim
    | succ j =>
      show x ∈ cellsT t ++ b.flatMap (nmS j) ↔ x ∈ cellsT t ∨ ∃ it ∈ b.reverse.map (fun z => (j, z)) ++ [], x ∈ nIt it
      rw [List.append_nil, one, List.mem_append]
  | times m b =>
    cases j with
    | zero => exact h.elim
    | succ j =>
      show x ∈ b.flatMap (nmS j) ↔ x ∈ [] ∨ ∃ it ∈ b.reverse.map (fun z => (j, z)) ++ [], x ∈ nIt it
      rw [List.append_nil, one]
      exact ⟨.inr, fun h => h.elim (fun z => absurd z List.not_mem_nil) id⟩
  | _ => cases j <;> exact no _ _ rfl rfl
theorem pd_rev {α β : Type} {F : α → β → Prop} : ∀ {a : List α} {b : List β}, Paired F a b → Paired F a.reverse b.reverse
  | _, _, .nil => .nil
  | _, _, .cons r t => by
    rw [List.reverse_cons, List.reverse_cons]
    exact pd_app (pd_rev t) (.cons r .nil)
theorem pd_last {α β : Type} {F : α → β → Prop} : ∀ {a : List α} {b : List β}, Paired F a b → a ≠ [] → ∃ a' x b' y, a = a' ++ [x] ∧ b = b' ++ [y] ∧ Paired F a' b' ∧ F x y
  | _, _, .nil, h => absurd rfl h
  | _, _, .cons (a := x) (b := y) r .nil, _ => ⟨[], x, [], y, rfl, rfl, .nil, r⟩
  | _, _, .cons (a := x) (b := y) r (.cons r2 t), _ => by
    obtain ⟨a', u, b', w, e1, e2, h1, h2⟩ := pd_last (.cons r2 t) (fun z => by cases z)
    exact ⟨x :: a', u, y :: b', w, by rw [e1]; rfl, by rw [e2]; rfl, .cons r h1, h2⟩
/-- a program, by whatever names -/
structure PgW (ws : List Str) (G : Str → Prop) (P : Prg) : Prop where
  hn : (P.helpers.map (·.1)).Nodup
  hl : P.helpers.length ≤ 3
  hb : ∀ h ∈ P.helpers, ∀ s ∈ h.2, Wf (· ∈ ws) G (envL P.helpers) 9 s
  bw : ∀ s ∈ P.body, Wf (· ∈ ws) G (envL P.helpers) 12 s
  sz : (plP P).size ≤ 59
  ne : ∀ h ∈ P.helpers, h.2 ≠ []
  hs : ∀ h ∈ P.helpers, (plL (plS (envL P.helpers) NN) h.2).size ≤ 20
  wl : ws.length ≤ 60
theorem PgOk.w {ws : List Str} {P : Prg} {t s : Nat} (p : PgOk ws P t s) (h : s ≤ 59) (hw : ws.length ≤ 60) : PgW ws (· ∈ P.gauges) P := ⟨p.hn, p.hl, p.hb, p.bw, Nat.le_trans p.sz h, p.ne, p.hs, hw⟩
theorem envL_some : ∀ {hs : List (Str × List Sm)} {f : Str} {b : List Sm}, envL hs f = some b → ∃ h ∈ hs, h.1 = f ∧ h.2 = b
  | [], _, _, h => by cases h
  | x :: r, f, b, h => by
    have h : (if f = x.1 then some x.2 else envL r f) = some b := h
    split at h
    · rename_i e
      exact ⟨x, List.mem_cons_self, e.symm, Option.some.inj h⟩
    · obtain ⟨y, h1, h2⟩ := envL_some h
      exact ⟨y, List.mem_cons_of_mem _ h1, h2⟩
section
variable {ws : List Str} {G : Str → Prop} {P : Prg}
theorem PgW.env_ne (p : PgW ws G P) : ∀ f b, envL P.helpers f = some b → b ≠ [] := fun f b e => by
  obtain ⟨h, h1, _, h3⟩ := envL_some e
  rw [← h3]
  exact p.ne h h1
theorem bodies_cnt {env : Env'} {C : Str → Prop} {k n : Nat} {b : List Sm} (ne : ∀ f b, env f = some b → b ≠ []) (hk : k ≤ n) (w : ∀ s ∈ b, Wf C G env n s) : (b.map (cntS k)).sum ≤ (n + 1) * (plL (plS env n) b).size :=
  plL_cnt fun s hs => Nat.le_trans (cnt_mono hk) (cnt_le ne (w s hs)).2
/-- all bodies of it -/
def Prg.all (P : Prg) : List (List Sm) := P.helpers.map (·.2) ++ [P.body]
theorem PgW.cnt (p : PgW ws G P) : ∀ b ∈ P.all, (b.map (cntS 6)).sum ≤ 800 ∧ ∀ s ∈ b, ∃ n, Wf (· ∈ ws) G (envL P.helpers) n s := fun b hb => by
  rcases List.mem_append.mp hb with q | q
  · obtain ⟨h, hh, rfl⟩ := List.mem_map.mp q
    refine ⟨?_, fun s hs => ⟨9, p.hb h hh s hs⟩⟩
    have h1 := bodies_cnt p.env_ne (by decide : 6 ≤ 9) (p.hb h hh)
    have h2 := p.hs h hh
    rw [plL_up (p.hb h hh) (by decide : 9 ≤ NN)] at h2
    omega
  · rw [List.mem_singleton.mp q]
    refine ⟨?_, fun s hs => ⟨12, p.bw s hs⟩⟩
    have h1 := bodies_cnt p.env_ne (by decide : 6 ≤ 12) p.bw
    have h2 := p.sz
    unfold plP at h2
    rw [plL_up p.bw (by decide : 12 ≤ NN)] at h2
    omega
/-- the names in it -/
def Prg.nm (P : Prg) : List Str := P.all.flatMap fun b => b.flatMap (nmS 6)
theorem PgW.nm_in (p : PgW ws G P) : ∀ x ∈ P.nm, x ∈ ws := fun x hx => by
  obtain ⟨b, hb, hx⟩ := List.mem_flatMap.mp hx
  obtain ⟨s, hs, hx⟩ := List.mem_flatMap.mp hx
  obtain ⟨n, w⟩ := (p.cnt b hb).2 s hs
  exact nmS_in w x hx
end
end Kz
set_option Elab.async false
set_option linter.all false
set_option maxRecDepth 100000
set_option maxHeartbeats 4000000
set_option pp.maxSteps 3000
/-! ZCw: set(xs) of a list of texts, sorted of that set. -/
namespace Kz
open PySem PySem.Spec PyProof.Rows L2 PySem.Froz
def txtV : Value → Str
  | .str x _ => x
  | _ => Str.empty
/-- the set of the texts xs stands at a; it can be walked -/
def TxSet (P : Program) (w : World) (h : Heap) (a : Addr) (xs : List Str) : Prop :=
  ∃ D : SD, h.get? a = some (sObj "set" D) ∧ TxOk P w D xs ∧ (D.1.toList.map fun e => txtV e.2).Perm xs ∧ Ris D.2.2.place.toList ∧ (w.params.followText "set-order" = true ∨ D.2.2.led = true)
section
variable {P : Program} {w : World} {A : Around} {E : Value → Shared → Prop} {s : Shared}
theorem TxSet.held {h h' : Heap} {a : Addr} {xs : List Str} (k : ∀ o, h.get? a = some o → h'.get? a = some o) : TxSet P w h a xs → TxSet P w h' a xs := fun ⟨D, ho, r⟩ => ⟨D, k _ ho, r⟩
theorem tail_perm (ep : Nat) (es : Array (Int × Value)) (t : SetTable) (d : Bool) : (tailTx ep es t d).1.toList.Perm es.toList := by
  unfold tailTx
  split
  · exact relayAll_perm t es _
  · exact List.Perm.refl _
theorem tail_ris {ep : Nat} {es : Array (Int × Value)} {t : SetTable} {d : Bool} (r : Ris t.place.toList) : Ris (tailTx ep es t d).2.2.place.toList := by
  unfold tailTx
  split
  · exact relayAll_ris t es _
  · exact r
theorem tail_led (ep : Nat) (es : Array (Int × Value)) (t : SetTable) (d : Bool) : (tailTx ep es t d).2.2.led = t.led := by
  unfold tailTx
  split
  · exact relayAll_led t es _
  · rfl
theorem addTx_perm (h : Int) (v : Value) (D : SD) : (addTx h v D).1.toList.Perm (D.1.push (h, v)).toList := (tail_perm _ _ _ _).trans (layNew_perm _ _ _ _)
theorem addTx_ris {h : Int} {v : Value} {D : SD} (r : Ris D.2.2.place.toList) : Ris (addTx h v D).2.2.place.toList := tail_ris (by
  split
  · exact layNew_ris _ _ _ _ r
  · exact layNew_ris _ _ _ _ r)
theorem addTx_led (h : Int) (v : Value) (D : SD) : (addTx h v D).2.2.led = D.2.2.led := (tail_led _ _ _ _).trans (by
  split
  · exact layNew_led _ _ _ _
  · exact layNew_led _ _ _ _)
theorem TxSet.more {h : Heap} {a : Addr} {D : SD} {xs : List Str} {k : Str} {u : Tok} (ho : h.get? a = some (sObj "set" D)) (F : TxOk P w D xs) (pm : (D.1.toList.map fun e => txtV e.2).Perm xs) (r : Ris D.2.2.place.toList)
    (l : w.params.followText "set-order" = true ∨ D.2.2.led = true) : TxSet P w (h.update a fun _ => sObj "set" (addTx (hashStr w k) (.str k u) D)) a (k :: xs) := by
  refine ⟨_, get_upd _ ho rfl, add_ok u F, ?_, addTx_ris r, l.imp id fun z => (addTx_led _ _ _).trans z⟩
  have p1 := (addTx_perm (hashStr w k) (.str k u) D).map fun e => txtV e.2
  rw [Array.toList_push, List.map_append] at p1
  exact p1.trans ((List.perm_append_comm).trans (pm.cons k))
/-- one that is in it already -/
theorem add_old {a : Addr} {T : String} {D : SD} {l : List Str} {k : Str} {u : Tok} {Q : Bool → Shared → Prop} (ho : s.heap.get? a = some (sObj T D)) (F : TxOk P w D l) (hk : k ∈ l) (hb : l.length < scanBound)
    (h : Q false s) : wpAny (model P w) A (setAddHashed a (.str k u) (hashStr w k)) Q E s := by
  obtain ⟨es, ep, t⟩ := D
  have hd : (sObj T (es, ep, t)).data = .set es ep t := rfl
  have hf : t.fits es.size = true := F.fit
  have hel : ElemsOf (strKind P w) es.toList := F.el
  have hb0 : es.size < scanBound := by have : es.size = l.length := F.sz; omega
  obtain ⟨e, he, qe⟩ := (F.mem k).mp hk
  unfold setAddHashed setAddHashedIn
  refine wpAny_holding (wpAny_bind (wpAny_setState_of ho hd hf ?_))
  dsimp only
  rw [byScan_of rfl hb0 hel]
  simp only [↓reduceIte]
  unfold setAddByScan
  refine wpAny_bind (wpAny_bind (wpAny_rule (wpAny_bind (wpAny_setScan_of (knd := strKind P w) (k := k) (is_str k u) ho hd hf hel ?_))))
  cases hfi : List.findIdx? (fun e => (strKind P w).is k e.2) es.toList with
  | none =>
    have c := List.findIdx?_eq_none_iff.mp hfi e he
    rw [qe] at c
    cases c
  | some j => exact wpAny_pure (wpAny_pure h)
/-- one text into the set -/
theorem add_any {a : Addr} {xs : List Str} {k : Str} {u : Tok} {Q : Bool → Shared → Prop} (R : TxSet P w s.heap a xs) (hb : xs.length + 1 < scanBound)
    (h0 : k ∈ xs → Q false s) (h1 : k ∉ xs → ∀ h', Heap.SameBut a s.heap h' → TxSet P w h' a (k :: xs) → Q true { s with heap := h' }) : wpAny (model P w) A (setAddHashed a (.str k u) (hashStr w k)) Q E s := by
  obtain ⟨D, ho, F, pm, r, l⟩ := R
  by_cases c : k ∈ xs
  · exact add_old ho F c (by omega) (h0 c)
  · exact add_x ho F c hb (h1 c _ (Heap.SameBut.update s.heap a _) (TxSet.more ho F pm r l))
theorem txSet_new {h : Heap} {a : Addr} (ho : h.get? a = some { cls := .type "set", dict := none, data := .set #[] 0 (.fresh 0 0 (!w.params.followText "set-order")) }) : TxSet P w h a [] :=
  ⟨(#[], 0, .fresh 0 0 (!w.params.followText "set-order")), ho, TxOk.nil rfl, List.Perm.refl _, List.Pairwise.nil, by
    show _ ∨ (!w.params.followText "set-order") = true
    cases w.params.followText "set-order"
    · exact .inr rfl
    · exact .inl rfl⟩
/-- what a walk has put in: the first i of ns -/
def TxIn (P : Program) (w : World) (h : Heap) (a : Addr) (ns : List Str) (i : Nat) : Prop := ∃ xs : List Str, xs.Nodup ∧ (∀ x, x ∈ xs ↔ x ∈ ns.take i) ∧ TxSet P w h a xs
theorem set_update_txt {I : Addr} {fp wr : List Addr} {G : Array GenState → Array GenState → Prop} {n : Nat} {Pv : Nat → Value → Prop} {St : Nat → Shared → Prop} {R : Result → Shared → Prop}
    (W : WalksS P w A.in1 I fp wr G n Pv St) (S : Addr) (out : S ∉ fp) (ns : List Str) (hn : n = ns.length) (few : ∀ xs : List Str, xs.Nodup → (∀ x ∈ xs, x ∈ ns) → xs.length + 1 < scanBound)
    (val : ∀ i v, Pv i v → ∃ k t, ns[i]? = some k ∧ v = .str k t) :
    ∀ (k i : Nat) (s : Shared), n - i = k → i ≤ n → St i s → TxIn P w s.heap S ns i → (∀ s', Moved (S :: wr) G s s' → TxIn P w s'.heap S ns n → R (.ok (.ret .none)) s') →
      codeAny (model P w) A (.builtin "set.update.loop" ⟨[.ref S, .ref I], []⟩) R s := by
  have nw : S ∉ wr := fun h => out (W.sub _ h)
  have wide : ∀ b ∈ wr, b ∈ S :: wr := fun b hb => List.mem_cons_of_mem _ hb
  intro k
  induction k with
  | zero =>
    intro i s hk hi st ⟨xs, nd, mm, R0⟩ fin
    obtain rfl : i = n := by omega
    refine codeAny_builtin F.entry_set_update_loop ?_
    rw [Around.under_plainId F.plain_set_update_loop _]
    show wpAny _ A.in1 (pyNext (.ref I) >>= _) _ _ s
    refine wpAny_bind (W.done s _ _ st fun s' m => ?_)
    exact wpAny_pure (fin s' (m.mono wide) ⟨xs, nd, mm, R0.held fun o e => m.heap S o nw e⟩)
  | succ k ih =>
    intro i s hk hi st ⟨xs, nd, mm, R0⟩ fin
    have lt : i < n := by omega
    refine codeAny_builtin F.entry_set_update_loop ?_
    rw [Around.under_plainId F.plain_set_update_loop _]
    show wpAny _ A.in1 (pyNext (.ref I) >>= _) _ _ s
    refine wpAny_bind (W.item i s _ _ lt st fun v s1 pv st1 m => ?_)
    obtain ⟨z, t, hz, rfl⟩ := val i v pv
    have R1 : TxSet P w s1.heap S xs := R0.held fun o e => m.heap S o nw e
    have tk : ns.take (i + 1) = ns.take i ++ [z] := by rw [List.take_add_one, hz]; rfl
    have hb := few xs nd fun x hx => List.mem_of_mem_take ((mm x).mp hx)
    show wpAny _ A.in1 (holding [Value.str z t] (setAdd S (.str z t)) >>= _) _ _ s1
    refine wpAny_bind (wpAny_holding ?_)
    unfold setAdd
    refine wpAny_holding (wpAny_bind ((strKind P w).pyHash (k := z) (is_str z t) ?_))
    refine add_any (s := { s1 with toks := s1.toks + 1 }) R1 hb (fun c => ?_) (fun c h' sb q => ?_)
    · have q : TxIn P w s1.heap S ns (i + 1) := ⟨xs, nd, fun x => by
        rw [tk, List.mem_append, List.mem_singleton, mm x]
        exact ⟨.inl, fun e => e.elim id fun e => by rw [e]; exact (mm z).mp c⟩, R1⟩
      refine wpAny_pure ⟨plainId_quiet F.plain_set_update_loop _, ih (i + 1) _ (by omega) lt (W.frame _ s1 _ _ st1 (Nat.le_succ _) fun c hc o e => e) q fun s2 m2 q2 => ?_⟩
      exact fin s2 (Moved.trans W.gtrans ((m.mono wide).then_heap (Nat.le_succ _) fun c o hc e => e) m2) q2
    · have q1 : TxIn P w h' S ns (i + 1) := ⟨z :: xs, List.nodup_cons.mpr ⟨c, nd⟩, fun x => by
        rw [tk, List.mem_append, List.mem_singleton, List.mem_cons, mm x]
        exact Or.comm, q⟩
      refine wpAny_pure ⟨plainId_quiet F.plain_set_update_loop _, ih (i + 1) _ (by omega) lt (W.frame _ s1 _ _ st1 (Nat.le_succ _) fun c hc o e => (sb.2 c fun h => out (h ▸ hc)).trans e) q1 fun s2 m2 q2 => ?_⟩
      exact fin s2 (Moved.trans W.gtrans ((m.mono wide).then_heap (Nat.le_succ _) fun c o hc e => (sb.2 c fun h => hc (h ▸ List.mem_cons_self)).trans e) m2) q2
end
end Kz
set_option Elab.async false
set_option linter.all false
set_option maxRecDepth 100000
set_option maxHeartbeats 4000000
set_option pp.maxSteps 3000
/-! ZCx: set(xs) of a list of texts as a rule, sorted of it. -/
namespace Kz
open PySem PySem.Spec PyProof.Rows L2 PySem.Froz
abbrev freshS (w : World) : Obj := { cls := .type "set", dict := none, data := .set #[] 0 (.fresh 0 0 (!w.params.followText "set-order")) }
section
variable {P : Program} {w : World} {A : Around} {E : Value → Shared → Prop} {s : Shared}
theorem call_setTx {l : Addr} {items : Array Value} {ns : List Str} {Q : Value → Shared → Prop} (hh : A.handled = none) (hl : s.heap.IsList l items) (hi : StrsAre items.toList ns) (few : ∀ xs : List Str, xs.Nodup → (∀ x ∈ xs, x ∈ ns) → xs.length + 1 < scanBound)
    (h : ∀ (h' : Heap) (tk : Nat), TxIn P w h' s.heap.objs.size ns ns.length → (∀ b o, s.heap.get? b = some o → h'.get? b = some o) → Q (.ref s.heap.objs.size) { s with heap := h', toks := tk }) :
    wpAny (model P w) A (call (.type "set") [.ref l]) Q E s := by
  have sz : items.size = ns.length := by
    rw [← StrsAre.len_eq hi, Array.length_toList]
  obtain ⟨c, tl, hmro⟩ := F.called_set.mro
  have hmade := F.called_set.made
  have hsub := F.called_set.sub
  refine wpAny_call (codeAny_of_tree ?_)
  show wpAny _ _ (callAny (.type "set") _) _ _ _
  refine wpAny_pure ⟨Code.quiet_builtin _ (by decide +kernel), codeAny_builtin F.entry_type_call ?_⟩
  rw [Around.under_plain (weight_type_call_type "set" [.ref l] []) rfl]
  have h1 := F.called_set.notType
  have h2 := F.called_set.canCreate
  have hct := F.typeCall_set_1 (.ref l)
  repeat (any_goals (first | assumption | wp_step))
  refine codeAny_mono (code_set_led1 (.ref l) (E := E) (Q₁ := fun obj s₁ => obj = .ref s.heap.objs.size ∧ s₁ = { s with heap := s.heap.push (freshS w) }) ⟨rfl, rfl⟩) fun r s₁ hr => ?_
  cases r with
  | error e => exact hr
  | ok fl =>
    cases fl with
    | ret obj =>
      obtain ⟨rfl, rfl⟩ := hr
      have hS : (s.heap.push (freshS w)).get? s.heap.objs.size = some (freshS w) := Heap.get?_push_size _ rfl
      have hT : Shared.TypeIs { s with heap := s.heap.push (freshS w) } (.ref s.heap.objs.size) "set" := ⟨_, hS, rfl⟩
      have hli := F.called_set.init.lookup
      have hbi := F.called_set.init.bind (.ref s.heap.objs.size)
      repeat (any_goals (first | assumption | wp_step))
      refine codeAny_mono (codeAny_call_builtin (R := wants (fun r s₂ => r = .none ∧ ∃ h' tk, s₂ = { s with heap := h', toks := tk } ∧ TxIn P w h' s.heap.objs.size ns ns.length ∧
          (∀ b o, s.heap.get? b = some o → h'.get? b = some o)) E) F.called_set.init.plain F.entry_set_init (check_set_init_1 hT ?_)) fun r₂ s₂ hr₂ => ?_
      · obtain ⟨ol, hol, hcl, nl, hdl⟩ := hl
        obtain ⟨ocls, odict, odata, oslots⟩ := ol
        simp only at hcl hdl
        subst hcl; subst hdl
        have hol' : (s.heap.push (freshS w)).get? l = some { cls := .type "list", dict := odict, data := .seq items nl, slots := oslots } := Heap.get?_push_of_some _ hol
        have hsls := PySem.F.sub_list_set
        have hslf := PySem.F.sub_list_frozenset
        have hne : (Value.type "list" == Value.type "dict") = false := by decide
        have hl1 : (s.heap.push (freshS w)).IsList l items := ⟨_, hol', rfl, nl, rfl⟩
        unfold Builtin.«set.__init__» noKeywords Builtin.Frozenset.updateFrom
        generalize hPI : pyIter = PI
        wp_walk
        subst hPI
        refine wpAny_pyIter_list hl1 ?_
        refine wpAny_bind (wpAny_runValue ?_)
        have hlS : l < s.heap.objs.size := Heap.lt_size hol
        have hh3 : A.in1.in1.in1.handled = none := by simp [hh]
        have hz1 : (s.heap.push (freshS w)).objs.size = s.heap.objs.size + 1 := Heap.size_push ..
        have hneI : l ≠ (s.heap.push (freshS w)).objs.size := by rw [hz1]; exact Nat.ne_of_lt (Nat.lt_succ_of_lt hlS)
        have hSf : s.heap.objs.size ∉ [(s.heap.push (freshS w)).objs.size, l] := by
          rw [hz1]; simp only [List.mem_cons, List.mem_singleton, List.not_mem_nil, or_false, not_or]
          exact ⟨Nat.ne_of_lt (Nat.lt_succ_self _), Nat.ne_of_gt hlS⟩
        have hval : ∀ (i : Nat) (v : Value), items[i]? = some v → ∃ k t, ns[i]? = some k ∧ v = .str k t := fun i v hv => by
          have hn : i < ns.length := by rw [← sz]; exact (Array.getElem?_eq_some_iff.mp hv).1
          obtain ⟨t, e⟩ := SS.strs_at hi i v (by rw [Array.getElem?_toList]; exact hv)
          refine ⟨ns[i], t, List.getElem?_eq_getElem hn, ?_⟩
          rw [e, List.getD_eq_getElem?_getD, List.getElem?_eq_getElem hn]
          rfl
        refine set_update_txt ((Walks.list hh3 _ l hneI items).toS) s.heap.objs.size hSf ns sz few hval (items.size - 0) 0 _ (by omega) (Nat.zero_le _)
          ⟨⟨_, Heap.get?_push_size _ rfl, rfl, rfl⟩, (hl1.push _)⟩ ?hS0 ?hR
        case hS0 =>
          have hget : ((s.heap.push (freshS w)).push { cls := .type "list_iterator", data := .fields #[.ref l, .int 0 0] }).get? s.heap.objs.size = some (freshS w) := Heap.get?_push_of_some _ hS
          exact ⟨[], List.nodup_nil, fun x => by simp, txSet_new hget⟩
        case hR =>
          intro s' hm hS'
          obtain ⟨h', g2, d', tk', os'⟩ := s'
          have eg : g2 = s.gens := hm.gens
          have ed : d' = s.drawn := hm.drawn
          have eo : os' = s.os := hm.os
          subst eg; subst ed; subst eo
          show wpAny _ _ _ _ _ _
          refine wpAny_pure ?_
          show wpAny _ _ (ret Value.none) _ _ _
          rw [sz] at hS'
          refine wpAny_pure ⟨rfl, h', tk', rfl, hS', fun b o e => ?_⟩
          have hb0 : b < s.heap.objs.size := Heap.lt_size e
          exact hm.heap b o (by rw [hz1]; simp only [List.mem_cons, List.mem_singleton, List.not_mem_nil, or_false, not_or]; exact ⟨Nat.ne_of_lt hb0, Nat.ne_of_lt (Nat.lt_succ_of_lt hb0)⟩) (Heap.get?_push_of_some _ (Heap.get?_push_of_some _ e))
      · cases r₂ with
        | error e => exact hr₂
        | ok fl₂ =>
          cases fl₂ with
          | ret r =>
            obtain ⟨rfl, h', tk, rfl, hS', hk'⟩ := hr₂
            repeat (any_goals (first | assumption | wp_step))
            exact h _ _ hS' hk'
          | _ => exact hr₂.elim
    | _ => exact hr.elim
end
/-- the set of texts at a -/
def TxO (P : Program) (w : World) (a : Addr) (xs : List Str) : HO := .ext fun h => TxSet P w h a xs
section
variable {X : Cx}
theorem txO_new {H : Hp} {h : Heap} {a : Addr} {xs : List Str} (R : TxSet X.prog X.w h a xs) : ObjOk X.prog X.w H h a (TxO X.prog X.w a xs) := by
  have ⟨D, ho, _⟩ := R
  exact ⟨R, ⟨_, ho⟩, fun h1 h2 p k => TxSet.held k p⟩
theorem txO_get {pins : List (Addr × Obj)} {σ : L2.St} {H : Hp} {s : Shared} {a : Addr} {xs : List Str} (I : Inv X pins σ H s) (ha : H a = some (TxO X.prog X.w a xs)) : TxSet X.prog X.w s.heap a xs := (I.hok a _ ha).1
/-- set(xs) -/
def rSetTx (P : Program) (w : World) (K : PySem.W.Frag) : List V → Hp → VK → Prop := fun vs H Q => ∃ (l : Addr) (ns : List Str), vs = [.ref l] ∧ SqL K H l (ns.map V.str) ∧ (∀ xs : List Str, xs.Nodup → (∀ x ∈ xs, x ∈ ns) → xs.length ≤ 60) ∧
  ∀ p H' xs, H p = none → Fr [] H H' → xs.Nodup → (∀ x, x ∈ xs ↔ x ∈ ns) → H' p = some (TxO P w p xs) → Q (.ref p) H'
theorem cr_setTx (hc : X.calm = true) : CallR X (.type "set") (rSetTx X.prog X.w X.K) := by
  intro pins s σ H vs us Q I r h
  obtain ⟨l, ns, rfl, hl, few, q⟩ := h
  obtain ⟨u, rfl, rx⟩ := vals1 r
  cases rx
  obtain ⟨its, rv, pl, hz⟩ := I.list hl
  refine call_setTx (I.ok.hd hc) pl.isList (by simpa using strsAre_of rv) (fun xs nd hx => Nat.lt_of_le_of_lt (Nat.succ_le_succ (few xs nd hx)) (by decide)) fun h' tk ⟨xs, nd, mm, R⟩ hk => ?_
  rw [List.take_length] at mm
  have hn : H s.heap.objs.size = none := I.hok.fresh (Nat.le_refl _)
  exact ⟨.ref s.heap.objs.size, upd H s.heap.objs.size (TxO X.prog X.w s.heap.objs.size xs), I.laid (t' := tk) hk (Nat.le_refl _) (txO_new R), rfl, q _ _ xs hn (Fr.refl.new hn) nd mm upd_same⟩
theorem txts_at {w : World} {P : Program} : ∀ {es : List Value}, (∀ v ∈ es, ∃ k t, v = Value.str k t) → StrsAre es (es.map txtV)
  | [], _ => .nil
  | e :: es, h => by
    obtain ⟨k, t, ev⟩ := h e List.mem_cons_self
    rw [List.map_cons, ev]
    exact .cons _ t (txts_at (w := w) (P := P) fun z hz => h z (List.mem_cons_of_mem _ hz))
end
section
variable {P : Program} {w : World} {A : Around} {E : Value → Shared → Prop} {s : Shared}
theorem sorted_setTx {a : Addr} {xs : List Str} {Q : Value → Shared → Prop} (R : TxSet P w s.heap a xs) (hh : A.handled = none) (h64 : xs.length < 64)
    (hQ : ∀ s' p (out : Array Value) (c : Nat) (ys : List Str), (∀ b o, s.heap.get? b = some o → s'.heap.get? b = some o) → s'.gens = s.gens → s'.os = s.os → s.heap.objs.size ≤ p →
      s'.heap.get? p = some (seqObj "list" out c) → StrsAre out.toList ys → ys.Perm xs → sortedS ys = true → Q (.ref p) s') :
    wpAny (model P w) A (call (.builtin "sorted") [.ref a]) Q E s := by
  obtain ⟨⟨es, ep, t⟩, ho, F, pm, ri, led⟩ := R
  have ez : es.size = xs.length := F.sz
  refine Calls.call_function_entry kind_sorted plain_sorted entry_sorted (args_sorted1 _) ?_
  unfold Builtin.«sorted»
  refine wpAny_bind (m := checkCount "sorted" 1 1 _) (wpAny_pure ?_)
  refine wpAny_bind (collect_set (A := A.in1) hh ⟨_, ho, rfl, rfl⟩ F.fit (by rw [ez]; exact Nat.lt_trans h64 (by decide)) ri led fun s1 vs k1 hz g1 o1 pm1 => ?_)
  have hvl : vs.length = xs.length := by rw [pm1.length_eq, List.length_map, Array.length_toList, ez]
  have hI : StrsAre vs (vs.map txtV) := txts_at (w := w) (P := P) fun v hv => by
    obtain ⟨e, he, q⟩ := List.mem_map.mp (pm1.mem_iff.mp hv)
    obtain ⟨⟨k, h1, _⟩, _⟩ := F.el e he
    obtain ⟨tk, ev⟩ := Value.isStrOf_shape (x := k) (v := e.2) h1
    exact ⟨k, tk, by rw [← q, ev]⟩
  have pk : (vs.map txtV).Perm xs := by
    have q := pm1.map txtV
    rw [List.map_map] at q
    exact q.trans pm
  refine wpAny_bind (wpAny_newList ?_ (by rw [hvl]; exact Nat.le_trans (Nat.le_of_lt h64) (by decide)))
  have hoL : (s1.heap.push (seqObj "list" vs.toArray 0)).get? s1.heap.objs.size = some (seqObj "list" vs.toArray 0) := Heap.get?_push_size _ rfl
  refine wpAny_bind (wpAny_holding (wpAny_call_entry slot_list_sort ⟨_, hoL, rfl⟩ entry_list_sort (list_sort_treeK strKind_oneLt hoL hI.keysOf (fun v₁ v₂ rest e => keyKind_strs (by rw [← e]; exact hI)) (by rw [hvl]; exact h64) fun st' hp hs => ⟨_, rfl, ?_⟩) (args_list_sort _)))
  obtain ⟨ys, g2, g3, g4⟩ := sorted_out_str hI hp hs
  obtain ⟨c, hc⟩ := sortedHeap_at (vs := vs) (out := (arrOf st').map (·.2)) hoL
  refine wpAny_pure ⟨_, rfl, hQ _ s1.heap.objs.size _ c ys (fun b u e => ?_) g1 o1 hz hc g2 (g3.trans pk) g4⟩
  have q := k1 b u e
  have hlt := Heap.lt_size q
  show (sortedHeap (s1.heap.push (seqObj "list" vs.toArray 0)) s1.heap.objs.size vs _).get? b = some u
  rw [sortedHeap_old (Nat.ne_of_lt hlt) (by rw [size_push']; exact Nat.lt_succ_of_lt hlt)]
  exact Heap.get?_push_of_some _ q
end
section
variable {X : Cx}
/-- sorted of a set of texts -/
def rSortTx (P : Program) (w : World) : List V → Hp → VK → Prop := fun vs H Q => ∃ (a : Addr) (xs : List Str), vs = [V.ref a] ∧ H a = some (TxO P w a xs) ∧ xs.length < 64 ∧
  ∀ (ys : List Str) (p : Addr) (H' : Hp), ys.Perm xs → sortedS ys = true → H p = none → Fr [] H H' → H' p = some (.lst (ys.map V.str)) → Q (.ref p) H'
theorem cr_sortTx (hc : X.calm = true) : CallR X (.builtin "sorted") (rSortTx X.prog X.w) := by
  intro pins s σ H vs us Q I r h
  obtain ⟨a, xs, rfl, ha, h64, q⟩ := h
  rw [Vals.ref1 r]
  refine sorted_setTx (txO_get I ha) (I.ok.hd hc) h64 fun s' p out c ys k g o hp hg hi pm so => ?_
  have hlen : (ys.map V.str).length ≤ sizeLine := by rw [List.length_map, pm.length_eq]; exact Nat.le_trans (Nat.le_of_lt h64) (by decide)
  have hn : H p = none := I.hok.fresh hp
  have J : Inv X pins σ (upd H p (.lst (ys.map V.str))) { s with heap := s'.heap, gens := s'.gens, drawn := s'.drawn, toks := s'.toks } :=
    I.call (ch := []) (Un.laid k hp hn) (I.hok.laid k hp ⟨hlen, out.toList, c, vals_of_strs hi, hg⟩) (by rw [g]; exact I.bare) (fun _ z => nomatch z)
  have e : s' = { s with heap := s'.heap, gens := s'.gens, drawn := s'.drawn, toks := s'.toks } := by
    cases s'
    cases s
    cases o
    rfl
  rw [e]
  exact ⟨.ref p, _, J, rfl, q ys p _ pm so hn (Fr.refl.new hn) upd_same⟩
end
section
variable {X : Cx}
/-- xs[::-1], the heap behind it by a letter -/
def tRevLC (K : PySem.W.Frag) (te : TE) : TE := fun σ H Q => te σ H fun x H1 => ∃ a xs, x = .ref a ∧ SqL K H1 a xs ∧ ∀ p H', H1 p = none → Fr [] H1 H' → H' p = some (.lst xs.reverse) → Q (.ref p) H'
theorem pe_cl {e : Expr} {t : TE} (h : PE X e t) : PE X e (fun σ H Q => ∃ Q0 : VK, t σ H Q0 ∧ ∀ x H1, Q0 x H1 → Q x H1) :=
  ⟨fun pins s σ H Q I ⟨Q0, h1, h2⟩ => thn (h.run pins s σ H Q0 I h1) fun u s1 ⟨x, H1, I1, r1, q1⟩ => ⟨x, H1, I1, r1, h2 _ _ q1⟩⟩
theorem pe_revLC {e : Expr} {te : TE} {k : Nat} {p1 p2 p3 pos : Pos} (he : PE X e te) : PE X (.Subscript e (.Slice none none (some (.UnaryOp .USub (.Constant (.int 1) k p1) p2)) p3) pos) (tRevLC X.K te) :=
  ⟨fun pins s σ H Q I h' => (pe_revL (pe_cl he)).run pins s σ H Q I ⟨_, h', fun x H1 ⟨a, xs, e, hs, q⟩ => ⟨a, xs, e, hs, fun p hp => q p _ hp (Fr.refl.new hp) upd_same⟩⟩⟩
end
end Kz
set_option Elab.async false
set_option linter.all false
set_option maxRecDepth 100000
set_option maxHeartbeats 4000000
set_option pp.maxSteps 3000
/-! ZCy: the cells that a term, a statement names. -/
namespace Kz
open PySem PySem.Spec PyProof.Rows L2
def spCellsOf : Sp := fun vs H Q _ => ∃ (v : V) (t : Tm), vs = [v] ∧ RT H v t ∧ t.parts ≤ 11 ∧ ∀ p H' (ys : List Str), H p = none → Fr [] H H' → H' p = some (.tup (ys.map V.str)) → ys.length ≤ 11 → (∀ x, x ∈ ys ↔ x ∈ cellsT t) → Q (.ref p) H'
theorem cellsT_len : ∀ t : Tm, (cellsT t).length ≤ t.parts
  | .num _ => Nat.zero_le _
  | .cell _ => Nat.le_refl 1
  | .op _ a b => by
    show (cellsT a ++ cellsT b).length ≤ 1 + a.parts + b.parts
    rw [List.length_append]
    have := cellsT_len a
    have := cellsT_len b
    omega
theorem parts_len : ∀ ts : List Tm, ts.length ≤ (ts.map Tm.parts).sum
  | [] => Nat.zero_le _
  | z :: r => by
    show r.length + 1 ≤ z.parts + (r.map Tm.parts).sum
    have := parts_len r
    have := z.parts_pos
    omega
theorem sub_len {xs ns : List Str} (nd : xs.Nodup) (h : ∀ x ∈ xs, x ∈ ns) : xs.length ≤ ns.length := nodup_le nd h
section
variable {P : Program} {w : World} {K : PySem.W.Frag} {mg : Str → Option Value} {base : Heap}
theorem ok_cellsOf (T : Tp K mg) : Fx P w K mg base 1 "cells_of" ["term"] spCellsOf := by
  refine fx_of T 2 2 rfl rfl sc_cells_of (fun _ _ _ _ _ _ us hl => match us, hl with | [_], _ => rfl) (fun vs H Q E h => ?_) (fun f cdv A outer s H vs Q E hr h => ?_)
  · obtain ⟨v, t, rfl, _⟩ := h
    rfl
  · obtain ⟨v, t, rfl, rt, tp, q⟩ := h
    refine ⟨_, (pss_cons (ps_set (i := 1) sc_cells_of.nd rfl (Or.inl rfl) (pe_lstC pa_nil))
    (pss_cons (ps_set (i := 2) sc_cells_of.nd rfl (Or.inl rfl) (pe_lstC (pa_cons (pv 0) pa_nil)))
    (pss_cons (ps_while PassesOwn.never (pt_cmpR op_gt (pe_callB call_len_seq (by rfl) T.n_len PySem.boot_len (pa_cons (pv 2) pa_nil)) pe_int (nomark _)) (pss_cons (ps_set (i := 3) sc_cells_of.nd rfl (Or.inl rfl) (pe_bm0 PySem.F.plainAttrs_list PySem.F.slot_list_pop PySem.F.type_list_pop mt_pop (pv 2)))
      (pss_one (ps_if (pt_cmpR op_eq (pe_ix ix_tup (pv 3) pe_int (fun _ _ => rfl)) pe_str (nomark _)) (pss_one (ps_expr (pe_bm PySem.F.plainAttrs_list PySem.F.slot_list_append PySem.F.type_list_append mt_append (pv 1) (pa_cons (pe_ix ix_tup (pv 3) pe_int (fun _ _ => rfl)) pa_nil))))
       (pss_one (ps_if (pt_cmpR op_eq (pe_ix ix_tup (pv 3) pe_int (fun _ _ => rfl)) pe_str (nomark _)) (pss_one (ps_expr (pe_bm PySem.F.plainAttrs_list PySem.F.slot_list_extend PySem.F.type_list_extend mt_extend (pv 2) (pa_cons (pe_lstC (pa_cons (pe_ix ix_tup (pv 3) pe_int (fun _ _ => rfl)) (pa_cons (pe_ix ix_tup (pv 3) pe_int (fun _ _ => rfl)) pa_nil))) pa_nil))))
        pss_nil))))))
    (pss_one (ps_ret (pe_callTy call_tupC (by rfl) T.n_tuple (by decide +kernel) (pa_cons (pe_callB (cr_sortTx rfl) (by rfl) T.n_sorted (by decide +kernel) (pa_cons (pe_callTy (cr_setTx rfl) (by rfl) T.n_set (by decide +kernel) (pa_cons (pv 1) pa_nil)) pa_nil)) pa_nil))))))), ?_⟩
    refine ⟨Nat.zero_le _, fun F H1 n1 x1 e1 => ⟨_, rfl, Kz.sz1, fun L H2 n2 x2 e2 => ?_⟩⟩
    have nFL : F ≠ L := ne_of_none e1 n2
    have bL : H L = none := x1.back _ n2
    refine ⟨fun m σ H' => ∃ (y3 : Option V) (acc : List Str) (vs : List V) (ts : List Tm), σ = [some v, some (V.ref F), some (V.ref L), y3] ∧ H' F = some (.lst (acc.map V.str)) ∧ H' L = some (.lst vs) ∧ Paired (RT H') vs ts ∧ (ts.map Tm.parts).sum = m ∧ acc.length + m ≤ 11 ∧
      (∀ x, (x ∈ acc ∨ ∃ t ∈ ts, x ∈ cellsT t) ↔ x ∈ cellsT t) ∧ Fr [] H H', ⟨t.parts, ?_⟩, fun m σ H' hW => ?_⟩
    · exact ⟨_, [], [v], [t], rfl, x2.keep _ _ (fun z => nomatch z) e1, e2, .cons (rt.mono (x1.tu.trans x2.tu)) .nil, rfl, by rw [List.length_nil]; omega, fun x => ⟨fun h => h.elim (fun z => absurd z List.not_mem_nil) fun ⟨z, hz, hx⟩ => by rw [List.mem_singleton.mp hz] at hx; exact hx, fun hx => .inr ⟨t, List.mem_singleton.mpr rfl, hx⟩⟩, x1.trans x2⟩
    · obtain ⟨y3, acc, vs, ts, rfl, eF, eL, pr, hm, hl, hx, xx⟩ := hW
      refine ⟨_, rfl, L, _, rfl, .inl (SqL.of eL), _, _, rfl, rfl, _, rfl, ite2 (fun c => ?_) (fun c => ?_)⟩
      · have c : (vs.length : Int) > 0 := of_decide_eq_true c
        obtain ⟨vs', u, ts', tu, rfl, rfl, pr', ru⟩ := pd_last pr (fun z => by rw [z] at c; exact absurd c (by decide))
        have yL : Fr [] H (upd H' L (.lst (vs' ++ [u]).dropLast)) := xx.own bL eL
        have y1 : Fr [L] H' (upd H' L (.lst (vs' ++ [u]).dropLast)) := Fr.refl.mutL (.head _) eL
        rw [List.dropLast_concat] at yL y1
        have eF1 : upd H' L (.lst vs') F = some (.lst (acc.map V.str)) := by rw [upd_ne nFL]; exact eF
        have eL1 : upd H' L (.lst vs') L = some (.lst vs') := upd_same
        have pr1 := Paired.mapP pr' fun _ _ z => RT.mono y1.tu z
        have ru1 := ru.mono y1.tu
        have bF : H F = none := n1
        refine ⟨fun σ' H' => ∃ m', m' < m ∧ ∃ (y3 : Option V) (acc : List Str) (vs : List V) (ts : List Tm), σ' = [some v, some (V.ref F), some (V.ref L), y3] ∧ H' F = some (.lst (acc.map V.str)) ∧ H' L = some (.lst vs) ∧ Paired (RT H') vs ts ∧ (ts.map Tm.parts).sum = m' ∧ acc.length + m' ≤ 11 ∧
          (∀ x, (x ∈ acc ∨ ∃ t ∈ ts, x ∈ cellsT t) ↔ x ∈ cellsT t) ∧ Fr [] H H', fun _ _ h => h, ?_⟩
        refine ⟨_, rfl, .inl ⟨rfl, _, SqL.of eL⟩, L, _, u, rfl, rfl, eL, by rw [List.length_append, List.length_singleton, Nat.add_sub_cancel, List.getElem?_append_right (Nat.le_refl _), Nat.sub_self]; rfl, ?_⟩
        rw [List.dropLast_concat]
        rw [List.map_append, List.sum_append] at hm
        have hm : (ts'.map Tm.parts).sum + (tu.parts + 0) = m := hm
        have hx' : ∀ x, (x ∈ acc ∨ (∃ t ∈ ts', x ∈ cellsT t) ∨ x ∈ cellsT tu) ↔ x ∈ cellsT t := fun x => by
          rw [← hx x]
          refine or_congr Iff.rfl ⟨fun h => ?_, fun ⟨z, hz, h⟩ => ?_⟩
          · rcases h with ⟨z, hz, h⟩ | h
            · exact ⟨z, List.mem_append_left _ hz, h⟩
            · exact ⟨tu, List.mem_append_right _ (List.mem_singleton.mpr rfl), h⟩
          · rcases List.mem_append.mp hz with hz | hz
            · exact .inl ⟨z, hz, h⟩
            · rw [List.mem_singleton.mp hz] at h; exact .inr h
        clear hx pr ru pr' eF eL y1 xx
        generalize upd H' L (.lst vs') = Ha at yL eF1 eL1 pr1 ru1 ⊢
        have tpos := tu.parts_pos
        cases tu with
        | num k =>
          obtain ⟨a, rfl, ea⟩ := ru1
          refine ⟨_, rfl, a, _, 0, .str "num", rfl, rfl, SqT.of ea, at0, rfl, _, rfl, ite2 (fun c => absurd c (by decide +kernel)) (fun _ => ?_)⟩
          refine ⟨_, rfl, a, _, 0, .str "num", rfl, rfl, SqT.of ea, at0, rfl, _, rfl, ite2 (fun c => absurd c (by decide +kernel)) (fun _ => ?_)⟩
          exact ⟨_, by omega, _, acc, vs', ts', rfl, eF1, eL1, pr1, rfl, by omega, fun x => by rw [← hx' x]; exact or_congr Iff.rfl ⟨.inl, fun h => h.elim id fun z => absurd z List.not_mem_nil⟩, yL⟩
        | cell y =>
          obtain ⟨a, rfl, ea⟩ := ru1
          refine ⟨_, rfl, a, _, 0, .str "cell", rfl, rfl, SqT.of ea, at0, rfl, _, rfl, ite2 (fun _ => ?_) (fun c => absurd (by decide +kernel) c)⟩
          have hm : (ts'.map Tm.parts).sum + 1 = m := hm
          have y2 : Fr [F] Ha (upd Ha F (.lst (acc.map V.str ++ [.str y]))) := Fr.refl.mutL (.head _) eF1
          refine ⟨_, rfl, .inl ⟨rfl, _, SqL.of eF1⟩, _, rfl, a, _, 1, .str y, rfl, rfl, SqT.of ea, at1, F, _, .str y, rfl, rfl, eF1, small1000 (by rw [List.length_map]; omega), ?_⟩
          exact ⟨_, by omega, _, acc ++ [y], vs', ts', rfl, by rw [upd_same, List.map_append]; rfl, by rw [upd_ne nFL.symm]; exact eL1, Paired.mapP pr1 (fun _ _ z => RT.mono y2.tu z), rfl, by rw [List.length_append, List.length_singleton]; omega, fun x => by
            rw [← hx' x, List.mem_append, or_assoc]
            exact or_congr Iff.rfl Or.comm, yL.own bF eF1⟩
        | op o ta tb =>
          obtain ⟨a, u1, u2, rfl, ea, r1, r2⟩ := ru1
          have hm : (ts'.map Tm.parts).sum + (1 + ta.parts + tb.parts) = m := hm
          refine ⟨_, rfl, a, _, 0, .str "op", rfl, rfl, SqT.of ea, at0, rfl, _, rfl, ite2 (fun c => absurd c (by decide +kernel)) (fun _ => ?_)⟩
          refine ⟨_, rfl, a, _, 0, .str "op", rfl, rfl, SqT.of ea, at0, rfl, _, rfl, ite2 (fun _ => ?_) (fun c => absurd (by decide +kernel) c)⟩
          have lts : vs'.length ≤ 11 := by
            have h1 := pr1.length
            have h2 := parts_len ts'
            omega
          refine ⟨_, rfl, .inl ⟨rfl, _, SqL.of eL1⟩, _, rfl, a, _, 2, u1, rfl, rfl, SqT.of ea, at2, _, rfl, a, _, 3, u2, rfl, rfl, SqT.of ea, at3, sz2, fun pz Hb nz xz ez => ?_⟩
          have eLb := xz.keep _ _ (fun z => nomatch z) eL1
          have eFb := xz.keep _ _ (fun z => nomatch z) eF1
          have y2 : Fr [L] Hb (upd Hb L (.lst (vs' ++ [u1, u2]))) := Fr.refl.mutL (.head _) eLb
          refine ⟨L, pz, vs', [u1, u2], rfl, rfl, eLb, ez, small40 (by show vs'.length + 2 ≤ 1000; omega), ?_⟩
          refine ⟨(ts'.map Tm.parts).sum + (ta.parts + tb.parts), by omega, _, acc, vs' ++ [u1, u2], ts' ++ [ta, tb], rfl, by rw [upd_ne nFL]; exact eFb, upd_same, pd_app (Paired.mapP pr1 fun _ _ z => RT.mono (xz.tu.trans y2.tu) z) (.cons (r1.mono (xz.tu.trans y2.tu)) (.cons (r2.mono (xz.tu.trans y2.tu)) .nil)), by rw [List.map_append, List.sum_append]; rfl, by omega, fun x => ?_, (yL.trans xz).own bL eLb⟩
          rw [← hx' x]
          refine or_congr Iff.rfl ⟨fun ⟨z, hz, h⟩ => ?_, fun h => ?_⟩
          · rcases List.mem_append.mp hz with hz | hz
            · exact .inl ⟨z, hz, h⟩
            · rcases List.mem_cons.mp hz with e | hz
              · rw [e] at h; exact .inr (List.mem_append_left _ h)
              · rw [List.mem_singleton.mp hz] at h; exact .inr (List.mem_append_right _ h)
          · rcases h with ⟨z, hz, h⟩ | h
            · exact ⟨z, List.mem_append_left _ hz, h⟩
            · rcases List.mem_append.mp h with h | h
              · exact ⟨ta, List.mem_append_right _ (.head _), h⟩
              · exact ⟨tb, List.mem_append_right _ (.tail _ (.head _)), h⟩
      · have c : ¬ (vs.length : Int) > 0 := fun z => c (decide_eq_true z)
        have vn : vs = [] := List.length_eq_zero_iff.mp (by omega)
        rw [vn] at pr
        cases pr
        have hx' : ∀ x, x ∈ acc ↔ x ∈ cellsT t := fun x => by
          rw [← hx x]
          exact ⟨.inl, fun h => h.elim id fun ⟨_, hz, _⟩ => absurd hz List.not_mem_nil⟩
        have la : acc.length ≤ 11 := by omega
        refine ⟨_, rfl, F, acc, rfl, SqL.of eF, fun xs nd hs => by have := sub_len nd hs; omega, fun p1 Ha xs na xa nd mm ea => ?_⟩
        have lx : xs.length ≤ 11 := Nat.le_trans (sub_len nd fun x hx => (mm x).mp hx) la
        refine ⟨p1, xs, rfl, ea, by omega, fun ys p2 Hb pm so nb xb eb => ⟨p2, _, rfl, eb, fun p3 Hc nc xc ec => ?_⟩⟩
        exact q p3 Hc ys (((xx.trans xa).trans xb).back _ nc) (((xx.trans xa).trans xb).trans xc) ec (by rw [pm.length_eq]; exact lx) fun x => by rw [pm.mem_iff, mm x, hx' x]
end
end Kz
set_option Elab.async false
set_option linter.all false
set_option maxRecDepth 100000
set_option maxHeartbeats 4000000
set_option pp.maxSteps 3000
/-! ZCz: all statements, all cells of a program. -/
namespace Kz
open PySem PySem.Spec PyProof.Rows L2
theorem rs_cnt_pos {k : Nat} {s : Sm} : 1 ≤ cntS k s := by
  cases k with
  | zero => cases s <;> exact Nat.le_refl 1
  | succ k => cases s <;> first | exact Nat.le_refl 1 | exact Nat.le_add_right 1 _
theorem its_len : ∀ its : List (Nat × Sm), its.length ≤ (its.map cIt).sum
  | [] => Nat.zero_le _
  | it :: r => by
    show r.length + 1 ≤ cntS it.1 it.2 + (r.map cIt).sum
    have := its_len r
    have := rs_cnt_pos (k := it.1) (s := it.2)
    omega
def spNamed : Sp := fun vs H Q _ => ∃ (v : V) (k : Nat) (s : Sm), vs = [v] ∧ RS H k v s ∧ OwnOk s ∧ ∀ p H' (ys : List Str), H p = none → Fr [] H H' → H' p = some (.lst (ys.map V.str)) → ys.length ≤ 12 → (∀ x, x ∈ ys ↔ x ∈ ownS s) → Q (.ref p) H'
def spAllS (C G : Str → Prop) (env : Env') : Sp := fun vs H Q _ => ∃ (p : Addr) (vb : List V) (k : Nat) (b : List Sm), vs = [.ref p] ∧ H p = some (.tup vb) ∧ RL H k vb b ∧ (∀ s ∈ b, ∃ n, Wf C G env n s) ∧ (b.map (cntS k)).sum ≤ 800 ∧
  ∀ q H' us fs, H q = none → Fr [] H H' → H' q = some (.lst us) → Paired (fun v s => ∃ j, RS H' j v s) us fs → us.length ≤ 800 → (∀ s ∈ fs, OwnOk s) → (∀ x, (∃ s ∈ fs, x ∈ ownS s) ↔ x ∈ b.flatMap (nmS k)) → Q (.ref q) H'
def spBodies : Sp := fun vs H Q _ => ∃ (p : Addr) (Pg : Prg), vs = [.ref p] ∧ RPg H 6 p Pg ∧ Pg.helpers.length ≤ 3 ∧ ∀ q H' us, H q = none → Fr [] H H' → H' q = some (.lst us) → Bds H' 6 us Pg.all → Q (.ref q) H'
def spCellsIn (ws : List Str) (G : Str → Prop) : Sp := fun vs H Q _ => ∃ (p : Addr) (Pg : Prg), vs = [.ref p] ∧ RPg H 6 p Pg ∧ PgW ws G Pg ∧ ∀ q H' (ns : List Str), Fr [] H H' → H' q = some (.tup (ns.map V.str)) → ns.Nodup → ns.length ≤ 60 → (∀ x, x ∈ ns ↔ x ∈ Pg.nm) → Q (.ref q) H'
theorem many {n : Nat} (h : n ≤ 100000) : n ≤ sizeLine := Nat.le_trans h (by decide)
section
variable {P : Program} {w : World} {K : PySem.W.Frag} {mg : Str → Option Value} {base : Heap}
theorem ok_named (T : Tp K mg) : Fx P w K mg base 2 "cells_named" ["statement"] spNamed := by
  have F_cells_of := ok_cellsOf (P := P) (w := w) (base := base) T
  refine fx_of T 13 7 rfl rfl sc_cells_named (fun _ _ _ _ _ _ us hl => match us, hl with | [_], _ => rfl) (fun vs H Q E h => ?_) (fun f cdv A outer s H vs Q E hr h => ?_)
  · obtain ⟨v, k, s, rfl, _⟩ := h
    rfl
  · obtain ⟨v, k, s, rfl, rs, ok, q⟩ := h
    refine ⟨_, (pss_cons (ps_set (i := 1) sc_cells_named.nd rfl (Or.inl rfl) (pe_ix ix_tup (pv 0) pe_int (fun _ _ => rfl)))
    (pss_cons (ps_if (pt_cmpR op_eq (pv 1) pe_str (nomark _)) (pss_one (ps_ret (pe_op op_catL (pe_lstC (pa_cons (pe_ix ix_tup (pv 0) pe_int (fun _ _ => rfl)) pa_nil)) (pe_callTy call_lstC (by rfl) T.n_list (by decide +kernel) (pa_cons (pe_F F_cells_of (hr.mono (by omega)) (by rfl) (pa_cons (pe_ix ix_tup (pv 0) pe_int (fun _ _ => rfl)) pa_nil)) pa_nil)))))
     pss_nil)
    (pss_cons (ps_if (pt_cmpR op_eq (pv 1) pe_str (nomark _)) (pss_one (ps_ret (pe_lstC (pa_cons (pe_ix ix_tup (pv 0) pe_int (fun _ _ => rfl)) pa_nil))))
     pss_nil)
    (pss_cons (ps_if (pt_cmpR op_eq (pv 1) pe_str (nomark _)) (pss_one (ps_ret (pe_callTy call_lstC (by rfl) T.n_list (by decide +kernel) (pa_cons (pe_ix ix_tup (pv 0) pe_int (fun _ _ => rfl)) pa_nil))))
     pss_nil)
    (pss_cons (ps_if (pt_cmpR op_in_seq (pv 1) (pe_tupC (pa_cons pe_str (pa_cons pe_str (pa_cons pe_str pa_nil)))) (by rfl)) (pss_one (ps_ret (pe_callTy call_lstC (by rfl) T.n_list (by decide +kernel) (pa_cons (pe_F F_cells_of (hr.mono (by omega)) (by rfl) (pa_cons (pe_ix ix_tup (pv 0) pe_int (fun _ _ => rfl)) pa_nil)) pa_nil))))
     pss_nil)
    (pss_one (ps_ret (pe_lstC pa_nil)))))))), ?_⟩
    have lst : ∀ {t : Tm} {p : Addr} {H0 H2 : Hp} (_ : Fr [] H H0) (ys : List Str), H0 p = none → Fr [] H0 H2 → H2 p = some (.lst (ys.map V.str)) → ys.length ≤ 11 → ownS s = cellsT t → (∀ x, x ∈ ys ↔ x ∈ cellsT t) → Q (.ref p) H2 := fun {t p H0 H2} x0 ys n x e l es m =>
      q p H2 ys (x0.back _ n) (x0.trans x) e (by omega) (by rw [es]; exact m)
    cases s with
    | set x t =>
      obtain ⟨a, u, rfl, ea, rt⟩ := rs_set rs
      refine ⟨_, rfl, a, _, 0, .str "set", rfl, rfl, SqT.of ea, at0, ?_⟩
      refine ⟨_, rfl, rfl, _, rfl, ite2 (fun _ => ?_) (fun c => absurd (by decide +kernel) c)⟩
      refine ⟨_, rfl, a, _, 1, .str x, rfl, rfl, SqT.of ea, at1, Kz.sz1, fun p1 H1 n1 x1 e1 => ?_⟩
      refine ⟨_, rfl, a, _, 2, u, rfl, rfl, SqT.of (x1.tups _ _ ea), at2, u, t, rfl, rt.mono x1.tu, ok, fun p2 H2 ys n2 x2 e2 l2 m2 => ⟨p2, _, rfl, .inr e2, fun p3 H3 n3 x3 e3 => ?_⟩⟩
      refine ⟨p1, p3, _, _, rfl, rfl, x3.keep _ _ (fun z => nomatch z) (x2.keep _ _ (fun z => nomatch z) e1), e3, small40 (by show 1 + (ys.map V.str).length ≤ 1000; rw [List.length_map]; omega), fun p4 H4 n4 x4 e4 => ?_⟩
      refine q p4 H4 (x :: ys) ((((x1.trans x2).trans x3)).back _ n4) (((x1.trans x2).trans x3).trans x4) e4 (by show ys.length + 1 ≤ 12; omega) fun z => ?_
      show z ∈ x :: ys ↔ z ∈ x :: cellsT t
      rw [List.mem_cons, List.mem_cons, m2 z]
    | read x g =>
      obtain ⟨a, rfl, ea⟩ := rs_read rs
      refine ⟨_, rfl, a, _, 0, .str "read", rfl, rfl, SqT.of ea, at0, ?_⟩
      refine ⟨_, rfl, rfl, _, rfl, ite2 (fun c => absurd c (by decide +kernel)) (fun _ => ?_)⟩
      refine ⟨_, rfl, rfl, _, rfl, ite2 (fun _ => ?_) (fun c => absurd (by decide +kernel) c)⟩
      exact ⟨_, rfl, a, _, 1, .str x, rfl, rfl, SqT.of ea, at1, Kz.sz1, fun p1 H1 n1 x1 e1 => q p1 H1 [x] n1 x1 e1 (by show 1 ≤ 12; decide) fun z => Iff.rfl⟩
    | tell t =>
      obtain ⟨a, u, rfl, ea, rt⟩ := rs_tell rs
      refine ⟨_, rfl, a, _, 0, .str "tell", rfl, rfl, SqT.of ea, at0, ?_⟩
      refine ⟨_, rfl, rfl, _, rfl, ite2 (fun c => absurd c (by decide +kernel)) (fun _ => ?_)⟩
      refine ⟨_, rfl, rfl, _, rfl, ite2 (fun c => absurd c (by decide +kernel)) (fun _ => ?_)⟩
      refine ⟨_, rfl, rfl, _, rfl, ite2 (fun c => absurd c (by decide +kernel)) (fun _ => ?_)⟩
      refine ⟨_, rfl, sz3, fun p0 H1 n1 x1 e1 => ⟨p0, _, rfl, .inr (SqT.of e1), rfl, rfl, _, rfl, ite2 (fun _ => ?_) (fun c => absurd (by decide +kernel) c)⟩⟩
      exact ⟨_, rfl, a, _, 1, u, rfl, rfl, SqT.of (x1.tups _ _ ea), at1, u, t, rfl, rt.mono x1.tu, ok, fun p2 H2 ys n2 x2 e2 l2 m2 => ⟨p2, _, rfl, .inr e2, fun p3 H3 n3 x3 e3 => lst (t := t) (x1.trans x2) ys n3 x3 e3 l2 rfl m2⟩⟩
    | sure xs z =>
      obtain ⟨a, px, rfl, ea, ex⟩ := rs_sure rs
      refine ⟨_, rfl, a, _, 0, .str "sure", rfl, rfl, SqT.of ea, at0, ?_⟩
      refine ⟨_, rfl, rfl, _, rfl, ite2 (fun c => absurd c (by decide +kernel)) (fun _ => ?_)⟩
      refine ⟨_, rfl, rfl, _, rfl, ite2 (fun c => absurd c (by decide +kernel)) (fun _ => ?_)⟩
      refine ⟨_, rfl, rfl, _, rfl, ite2 (fun _ => ?_) (fun c => absurd (by decide +kernel) c)⟩
      have ok : xs.length ≤ 4 := ok
      exact ⟨_, rfl, a, _, 1, .ref px, rfl, rfl, SqT.of ea, at1, px, _, rfl, .inr ex, fun p1 H1 n1 x1 e1 => q p1 H1 xs n1 x1 e1 (by omega) fun z => Iff.rfl⟩
    | ite t a b =>
      cases k with
      | zero => exact rs.elim
      | succ k =>
      obtain ⟨a, u, pa, pb, va, vb, rfl, ea, rt, _⟩ := rs
      refine ⟨_, rfl, a, _, 0, .str "if", rfl, rfl, SqT.of ea, at0, ?_⟩
      refine ⟨_, rfl, rfl, _, rfl, ite2 (fun c => absurd c (by decide +kernel)) (fun _ => ?_)⟩
      refine ⟨_, rfl, rfl, _, rfl, ite2 (fun c => absurd c (by decide +kernel)) (fun _ => ?_)⟩
      refine ⟨_, rfl, rfl, _, rfl, ite2 (fun c => absurd c (by decide +kernel)) (fun _ => ?_)⟩
      refine ⟨_, rfl, sz3, fun p0 H1 n1 x1 e1 => ⟨p0, _, rfl, .inr (SqT.of e1), rfl, rfl, _, rfl, ite2 (fun _ => ?_) (fun c => absurd (by decide +kernel) c)⟩⟩
      exact ⟨_, rfl, a, _, 1, u, rfl, rfl, SqT.of (x1.tups _ _ ea), at1, u, t, rfl, rt.mono x1.tu, ok, fun p2 H2 ys n2 x2 e2 l2 m2 => ⟨p2, _, rfl, .inr e2, fun p3 H3 n3 x3 e3 => lst (t := t) (x1.trans x2) ys n3 x3 e3 l2 rfl m2⟩⟩
    | wh t b =>
      cases k with
      | zero => exact rs.elim
      | succ k =>
      obtain ⟨a, u, pb, vb, rfl, ea, rt, _⟩ := rs
      refine ⟨_, rfl, a, _, 0, .str "while", rfl, rfl, SqT.of ea, at0, ?_⟩
      refine ⟨_, rfl, rfl, _, rfl, ite2 (fun c => absurd c (by decide +kernel)) (fun _ => ?_)⟩
      refine ⟨_, rfl, rfl, _, rfl, ite2 (fun c => absurd c (by decide +kernel)) (fun _ => ?_)⟩
      refine ⟨_, rfl, rfl, _, rfl, ite2 (fun c => absurd c (by decide +kernel)) (fun _ => ?_)⟩
      refine ⟨_, rfl, sz3, fun p0 H1 n1 x1 e1 => ⟨p0, _, rfl, .inr (SqT.of e1), rfl, rfl, _, rfl, ite2 (fun _ => ?_) (fun c => absurd (by decide +kernel) c)⟩⟩
      exact ⟨_, rfl, a, _, 1, u, rfl, rfl, SqT.of (x1.tups _ _ ea), at1, u, t, rfl, rt.mono x1.tu, ok, fun p2 H2 ys n2 x2 e2 l2 m2 => ⟨p2, _, rfl, .inr e2, fun p3 H3 n3 x3 e3 => lst (t := t) (x1.trans x2) ys n3 x3 e3 l2 rfl m2⟩⟩
    | times n b =>
      cases k with
      | zero => exact rs.elim
      | succ k =>
      obtain ⟨a, pb, vb, rfl, ea, _⟩ := rs
      refine ⟨_, rfl, a, _, 0, .str "times", rfl, rfl, SqT.of ea, at0, ?_⟩
      refine ⟨_, rfl, rfl, _, rfl, ite2 (fun c => absurd c (by decide +kernel)) (fun _ => ?_)⟩
      refine ⟨_, rfl, rfl, _, rfl, ite2 (fun c => absurd c (by decide +kernel)) (fun _ => ?_)⟩
      refine ⟨_, rfl, rfl, _, rfl, ite2 (fun c => absurd c (by decide +kernel)) (fun _ => ?_)⟩
      refine ⟨_, rfl, sz3, fun p0 H1 n1 x1 e1 => ⟨p0, _, rfl, .inr (SqT.of e1), rfl, rfl, _, rfl, ite2 (fun c => absurd c (by decide +kernel)) (fun _ => ?_)⟩⟩
      exact ⟨Nat.zero_le _, fun p2 H2 n2 x2 e2 => q p2 H2 [] (x1.back _ n2) (x1.trans x2) e2 (Nat.zero_le _) fun z => Iff.rfl⟩
    | call f =>
      obtain ⟨a, rfl, ea⟩ := rs_call rs
      refine ⟨_, rfl, a, _, 0, .str "call", rfl, rfl, SqT.of ea, at0, ?_⟩
      refine ⟨_, rfl, rfl, _, rfl, ite2 (fun c => absurd c (by decide +kernel)) (fun _ => ?_)⟩
      refine ⟨_, rfl, rfl, _, rfl, ite2 (fun c => absurd c (by decide +kernel)) (fun _ => ?_)⟩
      refine ⟨_, rfl, rfl, _, rfl, ite2 (fun c => absurd c (by decide +kernel)) (fun _ => ?_)⟩
      refine ⟨_, rfl, sz3, fun p0 H1 n1 x1 e1 => ⟨p0, _, rfl, .inr (SqT.of e1), rfl, rfl, _, rfl, ite2 (fun c => absurd c (by decide +kernel)) (fun _ => ?_)⟩⟩
      exact ⟨Nat.zero_le _, fun p2 H2 n2 x2 e2 => q p2 H2 [] (x1.back _ n2) (x1.trans x2) e2 (Nat.zero_le _) fun z => Iff.rfl⟩
theorem ok_allS (T : Tp K mg) {C G : Str → Prop} {env : Env'} : Fx P w K mg base 2 "all_statements" ["body"] (spAllS C G env) := by
  have F_inner_bodies := ok_inner (P := P) (w := w) (base := base) T
  refine fx_of T 11 5 rfl rfl sc_all_statements (fun _ _ _ _ _ _ us hl => match us, hl with | [_], _ => rfl) (fun vs H Q E h => ?_) (fun f cdv A outer s H vs Q E hr h => ?_)
  · obtain ⟨p, vb, k, b, rfl, _⟩ := h
    rfl
  · obtain ⟨p, vb, k, b, rfl, ep, rl, wf, cn, q⟩ := h
    refine ⟨_, (pss_cons (ps_set (i := 1) sc_all_statements.nd rfl (Or.inl rfl) (pe_lstC pa_nil))
    (pss_cons (ps_set (i := 2) sc_all_statements.nd rfl (Or.inl rfl) (pe_revLC (pe_callTy call_lstC (by rfl) T.n_list (by decide +kernel) (pa_cons (pv 0) pa_nil))))
    (pss_cons (ps_while PassesOwn.never (pt_cmpR op_gt (pe_callB call_len_seq (by rfl) T.n_len PySem.boot_len (pa_cons (pv 2) pa_nil)) pe_int (nomark _)) (pss_cons (ps_set (i := 3) sc_all_statements.nd rfl (Or.inl rfl) (pe_bm0 PySem.F.plainAttrs_list PySem.F.slot_list_pop PySem.F.type_list_pop mt_pop (pv 2)))
      (pss_cons (ps_expr (pe_bm PySem.F.plainAttrs_list PySem.F.slot_list_append PySem.F.type_list_append mt_append (pv 1) (pa_cons (pv 3) pa_nil)))
      (pss_one (ps_for PassesOwn.never rfl (pi_list (pe_revLC (pe_F F_inner_bodies (hr.mono (by omega)) (by rfl) (pa_cons (pv 3) pa_nil)))) (pg_name (i := 4) sc_all_statements.nd rfl (Or.inl rfl)) (pss_one (ps_expr (pe_bm PySem.F.plainAttrs_list PySem.F.slot_list_extend PySem.F.type_list_extend mt_extend (pv 2) (pa_cons (pe_revLC (pe_callTy call_lstC (by rfl) T.n_list (by decide +kernel) (pa_cons (pv 4) pa_nil))) pa_nil)))))))))
    (pss_one (ps_ret (pv 1)))))), ?_⟩
    refine ⟨Nat.zero_le _, fun F H1 n1 x1 e1 => ⟨_, rfl, p, _, rfl, .inr (x1.tups _ _ ep), fun l0 H2 n2 x2 e2 => ⟨l0, _, rfl, SqL.of e2, fun L H3 n3 x3 e3 => ?_⟩⟩⟩
    have x13 : Fr [] H H3 := (x1.trans x2).trans x3
    have nn : ∀ {a : Addr}, a ∉ ([] : List Addr) := fun z => nomatch z
    have eF3 := x3.keep _ _ nn (x2.keep _ _ nn e1)
    have nFL : F ≠ L := ne_of_none (x2.keep _ _ nn e1) n3
    have bL : H L = none := (x1.trans x2).back _ n3
    have bF : H F = none := n1
    refine ⟨fun m σ H' => ∃ (y3 y4 : Option V) (us : List V) (fs : List Sm) (vs : List V) (its : List (Nat × Sm)), σ = [some (V.ref p), some (V.ref F), some (V.ref L), y3, y4] ∧ H' F = some (.lst us) ∧ H' L = some (.lst vs) ∧ Paired (fun v s => ∃ j, RS H' j v s) us fs ∧
      Paired (fun v it => RS H' it.1 v it.2) vs its ∧ (its.map cIt).sum = m ∧ us.length + m ≤ 800 ∧ (∀ s ∈ fs, OwnOk s) ∧ (∀ it ∈ its, ∃ n, Wf C G env n it.2) ∧ (∀ x, ((∃ s ∈ fs, x ∈ ownS s) ∨ ∃ it ∈ its, x ∈ nIt it) ↔ x ∈ b.flatMap (nmS k)) ∧ Fr [] H H', ⟨(b.map (cntS k)).sum, ?_⟩, fun m σ H' hW => ?_⟩
    · refine ⟨_, _, [], [], vb.reverse, b.reverse.map (fun s => (k, s)), rfl, eF3, e3, .nil, ?_, ?_, by rw [List.length_nil]; omega, fun _ h => absurd h List.not_mem_nil, fun it hit => ?_, fun x => ⟨fun h => ?_, fun h => ?_⟩, x13⟩
      · have pr := pd_rev (RL.mono x13.tu rl)
        generalize vb.reverse = us at pr
        generalize b.reverse = bs at pr
        induction pr with
        | nil => exact .nil
        | cons r _ ih => exact .cons r ih
      · rw [List.map_map, List.map_reverse, List.sum_reverse]
        rfl
      · obtain ⟨z, hz, rfl⟩ := List.mem_map.mp hit
        exact wf z (List.mem_reverse.mp hz)
      · rcases h with ⟨_, h, _⟩ | ⟨it, hit, hx⟩
        · exact absurd h List.not_mem_nil
        · obtain ⟨z, hz, rfl⟩ := List.mem_map.mp hit
          exact List.mem_flatMap.mpr ⟨z, List.mem_reverse.mp hz, hx⟩
      · obtain ⟨z, hz, hx⟩ := List.mem_flatMap.mp h
        exact .inr ⟨(k, z), List.mem_map.mpr ⟨z, List.mem_reverse.mpr hz, rfl⟩, hx⟩
    · obtain ⟨y3, y4, us, fs, vs, its, rfl, eF, eL, pu, pr, hm, hl, ho, hw, hx, xx⟩ := hW
      refine ⟨_, rfl, L, _, rfl, .inl (SqL.of eL), _, _, rfl, rfl, _, rfl, ite2 (fun c => ?_) (fun c => ?_)⟩
      · have c : (vs.length : Int) > 0 := of_decide_eq_true c
        obtain ⟨vs', u, its', ⟨j, sm⟩, rfl, rfl, pr', ru⟩ := pd_last pr (fun z => by rw [z] at c; exact absurd c (by decide))
        refine ⟨fun σ' H' => ∃ m', m' < m ∧ ∃ (y3 y4 : Option V) (us : List V) (fs : List Sm) (vs : List V) (its : List (Nat × Sm)), σ' = [some (V.ref p), some (V.ref F), some (V.ref L), y3, y4] ∧ H' F = some (.lst us) ∧ H' L = some (.lst vs) ∧ Paired (fun v s => ∃ j, RS H' j v s) us fs ∧
          Paired (fun v it => RS H' it.1 v it.2) vs its ∧ (its.map cIt).sum = m' ∧ us.length + m' ≤ 800 ∧ (∀ s ∈ fs, OwnOk s) ∧ (∀ it ∈ its, ∃ n, Wf C G env n it.2) ∧ (∀ x, ((∃ s ∈ fs, x ∈ ownS s) ∨ ∃ it ∈ its, x ∈ nIt it) ↔ x ∈ b.flatMap (nmS k)) ∧ Fr [] H H', fun _ _ h => h, ?_⟩
        refine ⟨_, rfl, .inl ⟨rfl, _, SqL.of eL⟩, L, _, u, rfl, rfl, eL, by rw [List.length_append, List.length_singleton, Nat.add_sub_cancel, List.getElem?_append_right (Nat.le_refl _), Nat.sub_self]; rfl, ?_⟩
        rw [List.dropLast_concat]
        have yL : Fr [] H (upd H' L (.lst vs')) := xx.own bL eL
        have y1 : Fr [L] H' (upd H' L (.lst vs')) := Fr.refl.mutL (.head _) eL
        have eF1 : upd H' L (.lst vs') F = some (.lst us) := by rw [upd_ne nFL]; exact eF
        have eL1 : upd H' L (.lst vs') L = some (.lst vs') := upd_same
        have pr1 : Paired (fun v it => RS (upd H' L (.lst vs')) it.1 v it.2) vs' its' := Paired.mapP pr' fun _ _ z => z.mono y1.tu
        have pu1 : Paired (fun v s => ∃ j, RS (upd H' L (.lst vs')) j v s) us fs := Paired.mapP pu fun _ _ ⟨j, z⟩ => ⟨j, z.mono y1.tu⟩
        have ru : RS H' j u sm := ru
        have ru1 : RS (upd H' L (.lst vs')) j u sm := RS.mono y1.tu ru
        have hcnt := pile_cnt ru
        have hnm := fun x => pile_nm ru x
        clear pr pu pr' eF eL y1 xx ru
        rw [List.map_append, List.sum_append] at hm
        have hm : (its'.map cIt).sum + (cntS j sm + 0) = m := hm
        obtain ⟨wn, wsm⟩ := hw (j, sm) (List.mem_append_right _ (List.mem_singleton.mpr rfl))
        have wsm : Wf C G env wn sm := wsm
        generalize upd H' L (.lst vs') = Ha at yL eF1 eL1 pr1 pu1 ru1 ⊢
        -- found
        refine ⟨_, rfl, .inl ⟨rfl, _, SqL.of eF1⟩, _, rfl, F, _, u, rfl, rfl, eF1, small1000 (by omega), ?_⟩
        have yF := yL.own (o := .lst (us ++ [u])) bF eF1
        have y2 : Fr [F] Ha (upd Ha F (.lst (us ++ [u]))) := Fr.refl.mutL (.head _) eF1
        have eF2 : upd Ha F (.lst (us ++ [u])) F = some (.lst (us ++ [u])) := upd_same
        have eL2 : upd Ha F (.lst (us ++ [u])) L = some (.lst vs') := by rw [upd_ne nFL.symm]; exact eL1
        have pr2 : Paired (fun v it => RS (upd Ha F (.lst (us ++ [u]))) it.1 v it.2) vs' its' := Paired.mapP pr1 fun _ _ z => z.mono y2.tu
        have pu2 : Paired (fun v s => ∃ j, RS (upd Ha F (.lst (us ++ [u]))) j v s) (us ++ [u]) (fs ++ [sm]) := pd_app (Paired.mapP pu1 fun _ _ ⟨j, z⟩ => ⟨j, z.mono y2.tu⟩) (.cons ⟨j, ru1.mono y2.tu⟩ .nil)
        have ru2 := ru1.mono y2.tu
        clear yL eF1 eL1 pr1 pu1 ru1 y2
        generalize upd Ha F (.lst (us ++ [u])) = Hb at yF eF2 eL2 pr2 pu2 ru2 ⊢
        -- the inner ones
        refine ⟨_, rfl, u, j, sm, rfl, ru2, fun po Hc outs no xo eo lo bo => ⟨po, outs, rfl, SqL.of eo, fun pr Hd nr xr er => ?_⟩⟩
        have xbd : Fr [] Hb Hd := xo.trans xr
        have nrL : pr ∉ [L] := fun z => by
          have e := xo.keep _ _ nn eL2
          rw [← List.mem_singleton.mp z, nr] at e
          cases e
        have bo2 : Bds Hd (j - 1) outs.reverse (innerS sm).reverse := pd_rev (Bds.mono xr.tu bo)
        have ib := inIt j sm
        refine ⟨pr, rfl, ⟨_, SqL.of er⟩, for_list (xs := outs.reverse) (fun i σ' H' => ∃ (y4 : Option V) (vs : List V), σ' = [some (V.ref p), some (V.ref F), some (V.ref L), some u, y4] ∧ H' L = some (.lst vs) ∧
          Paired (fun v it => RS H' it.1 v it.2) vs (its' ++ ((innerS sm).reverse.take i).flatMap fun b => b.reverse.map fun z => (j - 1, z)) ∧ Fr [L] Hd H') ?_ (fun i σ' H' hi hP => ?_) (fun i x σ' H' hxi hP => ?_) (fun σ' H' hP => ?_)⟩
        · exact ⟨_, vs', rfl, xbd.keep _ _ nn eL2, by rw [List.take_zero]; show Paired _ vs' (its' ++ []); rw [List.append_nil]; exact Paired.mapP pr2 (fun _ _ z => z.mono xbd.tu), Fr.refl⟩
        · obtain ⟨_, _, _, _, _, y⟩ := hP
          exact SqL.of (y.keep _ _ nrL er)
        · obtain ⟨y4, vs, rfl, eL', pr', y⟩ := hP
          obtain ⟨bb, ebb, pb, vbb, rfl, epb, rlb⟩ := pd_at bo2 hxi
          have etk : (innerS sm).reverse.take (i + 1) = (innerS sm).reverse.take i ++ [bb] := by rw [List.take_add_one, ebb]; rfl
          dsimp only [gName]
          refine ⟨_, rfl, .inl ⟨rfl, _, SqL.of eL'⟩, _, rfl, pb, _, rfl, .inr (y.tups _ _ epb), fun l1 He ne xe ee => ⟨l1, _, rfl, SqL.of ee, fun l2 Hf nf xf ef => ?_⟩⟩
          have xef := xe.trans xf
          have eLf := xef.keep _ _ nn eL'
          have y3 : Fr [L] Hf (upd Hf L (.lst (vs ++ vbb.reverse))) := Fr.refl.mutL (.head _) eLf
          have tu3 := xef.tu.trans y3.tu
          have prf : Paired (fun v it => RS (upd Hf L (.lst (vs ++ vbb.reverse))) it.1 v it.2) (vs ++ vbb.reverse) (its' ++ ((innerS sm).reverse.take (i + 1)).flatMap fun b => b.reverse.map fun z => (j - 1, z)) := by
            rw [etk, List.flatMap_append, ← List.append_assoc]
            refine pd_app (Paired.mapP pr' fun _ _ z => z.mono tu3) ?_
            rw [List.flatMap_cons, List.flatMap_nil, List.append_nil]
            have pr := pd_rev (RL.mono (y.tu.trans tu3) rlb)
            generalize vbb.reverse = us at pr
            generalize bb.reverse = bs at pr
            generalize upd Hf L _ = Hz at pr
            induction pr with
            | nil => exact .nil
            | cons r _ ih => exact .cons r ih
          have lz : vs.length + vbb.reverse.length ≤ 800 := by
            have h1 := prf.length
            rw [List.length_append] at h1
            have h2 := its_len (its' ++ ((innerS sm).reverse.take (i + 1)).flatMap fun b => b.reverse.map fun z => (j - 1, z))
            have h3 : ((its' ++ ((innerS sm).reverse.take (i + 1)).flatMap fun b => b.reverse.map fun z => (j - 1, z)).map cIt).sum ≤ (its'.map cIt).sum + ((inIt j sm).map cIt).sum := by
              rw [List.map_append, List.sum_append]
              refine Nat.add_le_add_left ?_ _
              have e : (innerS sm).reverse = (innerS sm).reverse.take (i + 1) ++ (innerS sm).reverse.drop (i + 1) := (List.take_append_drop _ _).symm
              have e2 : inIt j sm = ((innerS sm).reverse.take (i + 1) ++ (innerS sm).reverse.drop (i + 1)).flatMap fun b => b.reverse.map fun z => (j - 1, z) := by rw [← e]; rfl
              rw [e2, List.flatMap_append, List.map_append, List.sum_append]
              exact Nat.le_add_right _ _
            omega
          refine ⟨L, l2, vs, vbb.reverse, rfl, rfl, eLf, ef, small40 (by omega), ?_⟩
          exact ⟨_, _, rfl, upd_same, prf, (y.trans (xef.mono fun _ z => nomatch z)).trans y3⟩
        · obtain ⟨y4, vs, rfl, eL', pr', y⟩ := hP
          rw [bo2.length, List.take_length] at pr'
          have pr' : Paired (fun v it => RS H' it.1 v it.2) vs (its' ++ inIt j sm) := pr'
          have xf : Fr [] H H' := (yF.trans xbd).step y fun a h => by rw [List.mem_singleton.mp h]; exact .inr bL
          refine ⟨(its'.map cIt).sum + ((inIt j sm).map cIt).sum, by omega, _, _, us ++ [u], fs ++ [sm], vs, its' ++ inIt j sm, rfl, y.keep _ _ (fun z => nFL (List.mem_singleton.mp z)) (xbd.keep _ _ nn eF2), eL', Paired.mapP pu2 (fun _ _ ⟨j, z⟩ => ⟨j, z.mono (xbd.tu.trans y.tu)⟩), pr', by rw [List.map_append, List.sum_append], by rw [List.length_append, List.length_singleton]; omega, fun s hs => ?_, fun it hit => ?_, fun x => ?_, xf⟩
          · rcases List.mem_append.mp hs with h | h
            · exact ho s h
            · rw [List.mem_singleton.mp h]; exact wf_own wsm
          · rcases List.mem_append.mp hit with h | h
            · exact hw it (List.mem_append_left _ h)
            · obtain ⟨bb, hb, h⟩ := List.mem_flatMap.mp h
              obtain ⟨z, hz, rfl⟩ := List.mem_map.mp h
              exact wf_inner wsm bb (List.mem_reverse.mp hb) z (List.mem_reverse.mp hz)
          · rw [← hx x]
            have hnx : x ∈ nIt (j, sm) ↔ _ := hnm x
            constructor
            · rintro (⟨s, hs, h⟩ | ⟨it, hit, h⟩)
              · rcases List.mem_append.mp hs with hs | hs
                · exact .inl ⟨s, hs, h⟩
                · rw [List.mem_singleton.mp hs] at h
                  exact .inr ⟨(j, sm), List.mem_append_right _ (List.mem_singleton.mpr rfl), hnx.mpr (.inl h)⟩
              · rcases List.mem_append.mp hit with hit | hit
                · exact .inr ⟨it, List.mem_append_left _ hit, h⟩
                · exact .inr ⟨(j, sm), List.mem_append_right _ (List.mem_singleton.mpr rfl), hnx.mpr (.inr ⟨it, hit, h⟩)⟩
            · rintro (⟨s, hs, h⟩ | ⟨it, hit, h⟩)
              · exact .inl ⟨s, List.mem_append_left _ hs, h⟩
              · rcases List.mem_append.mp hit with hit | hit
                · exact .inr ⟨it, List.mem_append_left _ hit, h⟩
                · rw [List.mem_singleton.mp hit] at h
                  rcases hnx.mp h with h | ⟨it, hit, h⟩
                  · exact .inl ⟨sm, List.mem_append_right _ (List.mem_singleton.mpr rfl), h⟩
                  · exact .inr ⟨it, List.mem_append_right _ hit, h⟩
      · have c : ¬ (vs.length : Int) > 0 := fun z => c (decide_eq_true z)
        have vn : vs = [] := List.length_eq_zero_iff.mp (by omega)
        rw [vn] at pr
        cases pr
        refine ⟨_, rfl, q F H' us fs n1 xx eF pu (by omega) ho fun x => ?_⟩
        rw [← hx x]
        exact ⟨.inl, fun h => h.elim id fun ⟨_, hz, _⟩ => absurd hz List.not_mem_nil⟩
theorem ok_bodiesOf (T : Tp K mg) : Fx P w K mg base 1 "bodies_of" ["program"] spBodies := by
  refine fx_of T 12 6 rfl rfl sc_bodies_of (fun _ _ _ _ _ _ us hl => match us, hl with | [_], _ => rfl) (fun vs H Q E h => ?_) (fun f cdv A outer s H vs Q E hr h => ?_)
  · obtain ⟨p, Pg, rfl, _⟩ := h
    rfl
  · obtain ⟨p, Pg, rfl, ⟨g, h, b, hv, bv, ep, eg, ehn, hp, eb, rlb⟩, h3, q⟩ := h
    refine ⟨_, (pss_one (ps_ret (pe_op op_catL (pe_lc (own := [("name", 1), ("body", 2)]) rfl sc_bodies_of.nd (pi_tup (pe_ix ix_tup (pv 0) pe_int (fun _ _ => rfl))) (blkOk_by (own := [("name", 1), ("body", 2)]) (N := N_bodies_of) (sc := defScope s_bodies_of) (by decide +kernel)) (fun _ _ _ _ _ => (pg_tupB (K := K) (n := 2) rfl rfl (pgs_cons (pg_name (i := 1) sc_bodies_of.nd rfl (Or.inl rfl) (by first | exact .inr rfl | exact .inl rfl)) (pgs_cons (pg_name (i := 2) sc_bodies_of.nd rfl (Or.inl rfl) (by first | exact .inr rfl | exact .inl rfl)) pgs_nil)) rfl rfl)) (fun _ _ _ _ _ => pts_nil) (fun _ _ _ _ _ => (pv 2))) (pe_lstC (pa_cons (pe_ix ix_tup (pv 0) pe_int (fun _ _ => rfl)) pa_nil))))), ?_⟩
    have nn : ∀ {a : Addr}, a ∉ ([] : List Addr) := fun z => nomatch z
    refine ⟨_, rfl, p, _, 1, .ref h, rfl, rfl, SqT.of ep, at1, h, rfl, ⟨_, ehn.sq⟩, fun L hL => ?_⟩
    refine lc_tup (xs := hv) (fun i H' => ∃ us : List V, H' L = some (.lst us) ∧ us.length = i ∧ Bds H' 6 us ((Pg.helpers.map (·.2)).take i) ∧ Fr [] H H') ⟨[], upd_same, rfl, .nil, Fr.refl.new hL⟩ (fun i H' _ hP => ?_) (fun i x H' hx hP => ?_) (fun H' hP => ?_)
    · obtain ⟨_, _, _, _, y⟩ := hP
      exact (ehn.fr y).sq
    · obtain ⟨us, eL, lu, bd, y⟩ := hP
      obtain ⟨hh, ehh, a, qb, vb, rfl, ea, eqb, rl⟩ := pd_at hp hx
      have hlt : i < hv.length := (List.getElem?_eq_some_iff.mp hx).1
      have h3' : hv.length ≤ 3 := by rw [hp.length]; exact h3
      refine ⟨a, _, rfl, SqT.of (y.tups _ _ ea), rfl, _, _, rfl, ?_⟩
      dsimp only [gName]
      refine ⟨_, _, rfl, ?_⟩
      dsimp only [gName]
      refine ⟨rfl, rfl, ?_⟩
      dsimp only [tYes]
      rw [if_pos rfl]
      refine ⟨_, rfl, us, eL, small1000 (by omega), us ++ [.ref qb], upd_same, by rw [List.length_append, lu]; rfl, ?_, y.own hL eL⟩
      have y2 : Fr [L] H' (upd H' L (.lst (us ++ [.ref qb]))) := Fr.refl.mutL (.head _) eL
      have etk : (Pg.helpers.map (·.2)).take (i + 1) = (Pg.helpers.map (·.2)).take i ++ [hh.2] := by rw [List.take_add_one, List.getElem?_map, ehh]; rfl
      rw [etk]
      exact pd_app (Bds.mono y2.tu bd) (.cons ⟨qb, vb, rfl, y2.tups _ _ (y.tups _ _ eqb), RL.mono (y.tu.trans y2.tu) rl⟩ .nil)
    · obtain ⟨us, eL, lu, bd, y⟩ := hP
      have e1 : hv.length = (Pg.helpers.map (·.2)).length := by rw [List.length_map]; exact hp.length
      rw [e1, List.take_length] at bd
      have h3' : hv.length ≤ 3 := by rw [hp.length]; exact h3
      refine ⟨_, rfl, p, _, 2, .ref b, rfl, rfl, SqT.of (y.tups _ _ ep), at2, Kz.sz1, fun p1 H1 n1 x1 e1 => ?_⟩
      refine ⟨L, p1, _, _, rfl, rfl, x1.keep _ _ nn eL, e1, small40 (by show us.length + 1 ≤ 1000; omega), fun p2 H2 n2 x2 e2 => ?_⟩
      have x12 := x1.trans x2
      exact q p2 H2 _ ((y.trans x1).back _ n2) (y.trans x12) e2 (pd_app (Bds.mono x12.tu bd) (.cons ⟨b, bv, rfl, (y.trans x12).tups _ _ eb, RL.mono (y.trans x12).tu rlb⟩ .nil))
theorem ok_cellsIn (T : Tp K mg) {ws : List Str} {G : Str → Prop} : Fx P w K mg base 3 "cells_in" ["program"] (spCellsIn ws G) := by
  have F_bodies_of := ok_bodiesOf (P := P) (w := w) (base := base) T
  have F_cells_named := ok_named (P := P) (w := w) (base := base) T
  refine fx_of T 14 8 rfl rfl sc_cells_in (fun _ _ _ _ _ _ us hl => match us, hl with | [_], _ => rfl) (fun vs H Q E h => ?_) (fun f cdv A outer s H vs Q E hr h => ?_)
  · obtain ⟨p, Pg, rfl, _⟩ := h
    rfl
  · obtain ⟨p, Pg, rfl, rp, pw, q⟩ := h
    have F_all_statements := ok_allS (P := P) (w := w) (base := base) T (C := (· ∈ ws)) (G := G) (env := envL Pg.helpers)
    refine ⟨_, (pss_cons (ps_set (i := 1) sc_cells_in.nd rfl (Or.inl rfl) (pe_lstC pa_nil))
    (pss_cons (ps_for PassesOwn.never rfl (pi_list (pe_F F_bodies_of (hr.mono (by omega)) (by rfl) (pa_cons (pv 0) pa_nil))) (pg_name (i := 2) sc_cells_in.nd rfl (Or.inl rfl)) (pss_one (ps_for PassesOwn.never rfl (pi_list (pe_F F_all_statements (hr.mono (by omega)) (by rfl) (pa_cons (pv 2) pa_nil))) (pg_name (i := 3) sc_cells_in.nd rfl (Or.inl rfl)) (pss_one (ps_expr (pe_bm PySem.F.plainAttrs_list PySem.F.slot_list_extend PySem.F.type_list_extend mt_extend (pv 1) (pa_cons (pe_F F_cells_named (hr.mono (by omega)) (by rfl) (pa_cons (pv 3) pa_nil)) pa_nil)))))))
    (pss_one (ps_ret (pe_callTy call_tupC (by rfl) T.n_tuple (by decide +kernel) (pa_cons (pe_callB (cr_sortTx rfl) (by rfl) T.n_sorted (by decide +kernel) (pa_cons (pe_callTy (cr_setTx rfl) (by rfl) T.n_set (by decide +kernel) (pa_cons (pv 1) pa_nil)) pa_nil)) pa_nil)))))), ?_⟩
    have nn : ∀ {a : Addr}, a ∉ ([] : List Addr) := fun z => nomatch z
    refine ⟨Nat.zero_le _, fun F H1 n1 x1 e1 => ⟨_, rfl, p, Pg, rfl, rp.fr x1, pw.hl, fun pb H2 us n2 x2 e2 bd => ?_⟩⟩
    have npb : pb ∉ [F] := fun z => by
      rw [List.mem_singleton.mp z, e1] at n2
      cases n2
    have e12 := x2.keep _ _ nn e1
    have al : Pg.all.length ≤ 4 := by
      unfold Prg.all
      rw [List.length_append, List.length_map, List.length_singleton]
      have := pw.hl
      omega
    refine ⟨pb, rfl, ⟨_, SqL.of e2⟩, for_list (xs := us) (fun i σ' H' => ∃ (y2 y3 : Option V) (acc : List Str), σ' = [some (V.ref p), some (V.ref F), y2, y3] ∧ H' F = some (.lst (acc.map V.str)) ∧ acc.length ≤ 9600 * i ∧ (∀ x, x ∈ acc ↔ x ∈ (Pg.all.take i).flatMap fun b => b.flatMap (nmS 6)) ∧ Fr [F] H2 H') ?_ (fun i σ' H' hi hP => ?_) (fun i x σ' H' hxi hP => ?_) (fun σ' H' hP => ?_)⟩
    · exact ⟨_, _, [], rfl, e12, Nat.zero_le _, fun x => Iff.rfl, Fr.refl⟩
    · obtain ⟨_, _, _, _, _, _, _, y⟩ := hP
      exact SqL.of (y.keep _ _ npb e2)
    · obtain ⟨y2, y3, acc, rfl, eF, la, ma, y⟩ := hP
      obtain ⟨bb, ebb, qb, vb, rfl, eqb, rlb⟩ := pd_at bd hxi
      have etk : Pg.all.take (i + 1) = Pg.all.take i ++ [bb] := by rw [List.take_add_one, ebb]; rfl
      have hlt : i < Pg.all.length := (List.getElem?_eq_some_iff.mp ebb).1
      obtain ⟨c8, wfb⟩ := pw.cnt bb (List.mem_of_getElem? ebb)
      dsimp only [gName]
      refine ⟨_, rfl, qb, vb, 6, bb, rfl, y.tups _ _ eqb, RL.mono y.tu rlb, wfb, c8, fun ps H3 vs fs n3 x3 e3 pf lv ok mf => ?_⟩
      have nps : ps ∉ [F] := fun z => by
        rw [List.mem_singleton.mp z, eF] at n3
        cases n3
      refine ⟨ps, rfl, ⟨_, SqL.of e3⟩, for_list (xs := vs) (fun k σ' Hk => ∃ (y3 : Option V) (acc' : List Str), σ' = [some (V.ref p), some (V.ref F), some (V.ref qb), y3] ∧ Hk F = some (.lst (acc'.map V.str)) ∧ acc'.length ≤ 9600 * i + 12 * k ∧ (∀ x, x ∈ acc' ↔ x ∈ acc ∨ ∃ s ∈ fs.take k, x ∈ ownS s) ∧ Fr [F] H3 Hk) ?_ (fun k σ' Hk hk hP => ?_) (fun k x σ' Hk hxk hP => ?_) (fun σ' Hk hP => ?_)⟩
      · exact ⟨_, acc, rfl, x3.keep _ _ nn eF, by omega, fun x => ⟨.inl, fun h => h.elim id fun ⟨_, h, _⟩ => absurd h (by rw [List.take_zero]; exact List.not_mem_nil)⟩, Fr.refl⟩
      · obtain ⟨_, _, _, _, _, _, z⟩ := hP
        exact SqL.of (z.keep _ _ nps e3)
      · obtain ⟨y3, acc', rfl, eF', la', ma', z⟩ := hP
        obtain ⟨sm, esm, j, rsm⟩ := pd_at pf hxk
        have hlk : k < vs.length := (List.getElem?_eq_some_iff.mp hxk).1
        have etk2 : fs.take (k + 1) = fs.take k ++ [sm] := by rw [List.take_add_one, esm]; rfl
        dsimp only [gName]
        refine ⟨_, rfl, .inl ⟨rfl, _, SqL.of eF'⟩, _, rfl, x, j, sm, rfl, rsm.mono z.tu, ok sm (List.mem_of_getElem? esm), fun p4 H4 ys n4 x4 e4 ly my => ?_⟩
        have eF4 := x4.keep _ _ nn eF'
        refine ⟨F, p4, _, _, rfl, rfl, eF4, e4, many (by rw [List.length_map, List.length_map]; omega), ?_⟩
        refine ⟨_, acc' ++ ys, rfl, by rw [upd_same, List.map_append], by rw [List.length_append]; omega, fun w => ?_, (z.trans (x4.mono fun _ h => nomatch h)).mutL (.head _) eF4⟩
        rw [etk2, List.mem_append, ma' w, my w, or_assoc]
        refine or_congr Iff.rfl ⟨fun h => ?_, fun ⟨s, hs, h⟩ => ?_⟩
        · rcases h with ⟨s, hs, h⟩ | h
          · exact ⟨s, List.mem_append_left _ hs, h⟩
          · exact ⟨sm, List.mem_append_right _ (List.mem_singleton.mpr rfl), h⟩
        · rcases List.mem_append.mp hs with hs | hs
          · exact .inl ⟨s, hs, h⟩
          · rw [List.mem_singleton.mp hs] at h; exact .inr h
      · obtain ⟨y3, acc', rfl, eF', la', ma', z⟩ := hP
        rw [pf.length, List.take_length] at ma'
        refine ⟨_, _, acc', rfl, eF', by omega, fun x => ?_, (y.trans (x3.mono fun _ h => nomatch h)).trans z⟩
        rw [ma' x, ma x, mf x, etk, List.flatMap_append, List.mem_append, List.flatMap_cons, List.flatMap_nil, List.append_nil]
    · obtain ⟨y2, y3, acc, rfl, eF, la, ma, y⟩ := hP
      have lu : us.length = Pg.all.length := bd.length
      rw [lu, List.take_length] at ma
      have ma : ∀ x, x ∈ acc ↔ x ∈ Pg.nm := ma
      have few : ∀ xs : List Str, xs.Nodup → (∀ x ∈ xs, x ∈ acc) → xs.length ≤ 60 := fun xs nd hs => Nat.le_trans (sub_len nd fun x hx => pw.nm_in x ((ma x).mp (hs x hx))) pw.wl
      have xH : Fr [] H H' := (x1.trans x2).step y fun a h => by rw [List.mem_singleton.mp h]; exact .inr n1
      refine ⟨_, rfl, F, acc, rfl, SqL.of eF, few, fun p1 Ha xs na xa nd mm ea => ?_⟩
      have lx : xs.length ≤ 60 := few xs nd fun x hx => (mm x).mp hx
      refine ⟨p1, xs, rfl, ea, by omega, fun ys p2 Hb pm so nb xb eb => ⟨p2, _, rfl, eb, fun p3 Hc nc xc ec => ?_⟩⟩
      exact q p3 Hc ys (((xH.trans xa).trans xb).trans xc) ec (pm.nodup_iff.mpr nd) (by rw [pm.length_eq]; exact lx) fun x => by rw [pm.mem_iff, mm x, ma x]
end
end Kz
set_option Elab.async false
set_option linter.all false
set_option maxRecDepth 100000
set_option maxHeartbeats 4000000
/-! ZCk: bodies without times and calls, plainly; constructors. -/
namespace Kz
open PySem PySem.Spec PyProof.Rows L2
def Sm.fl : Sm → Bool
  | .times _ _ => false
  | .call _ => false
  | _ => true
def flS (env : Env') : Nat → Sm → List Sm
  | n + 1, .times k b => (List.replicate k.toNat (b.flatMap (flS env n))).flatten
  | n + 1, .call f => match env f with
    | some b => b.flatMap (flS env n)
    | none => []
  | _, s => [s]
abbrev flL (env : Env') (n : Nat) (b : List Sm) : List Sm := b.flatMap (flS env n)
section
variable {C G : Str → Prop} {env : Env'}
theorem flS_keep {n : Nat} {s : Sm} (h : s.fl = true) : flS env n s = [s] := by
  cases n <;> cases s <;> first | rfl | cases h
theorem fl_all : ∀ {n : Nat} {s : Sm}, Wf C G env n s → ∀ z ∈ flS env n s, Wf C G env n z ∧ z.fl = true := by
  intro n
  induction n with
  | zero =>
    intro s w z hz
    cases s <;> first | exact w.elim | (rw [List.mem_singleton.mp hz]; exact ⟨w, rfl⟩)
  | succ n ih =>
    have fl : ∀ {b : List Sm}, (∀ s ∈ b, Wf C G env n s) → ∀ z ∈ b.flatMap (flS env n), Wf C G env (n + 1) z ∧ z.fl = true := fun hb z hz => by
      obtain ⟨s, hs, hz⟩ := List.mem_flatMap.mp hz
      obtain ⟨h1, h2⟩ := ih (hb s hs) z hz
      exact ⟨h1.succ, h2⟩
    intro s w z hz
    cases s with
    | times k b =>
      obtain ⟨l, hl, hz⟩ := List.mem_flatten.mp hz
      rw [List.eq_of_mem_replicate hl] at hz
      exact fl w.2 z hz
    | call f =>
      obtain ⟨b, e, wb⟩ := w
      have ez : flS env (n + 1) (.call f) = b.flatMap (flS env n) := by
        show (match env f with | some b => b.flatMap (flS env n) | none => []) = _
        rw [e]
      rw [ez] at hz
      exact fl wb z hz
    | _ => rw [List.mem_singleton.mp hz]; exact ⟨w, rfl⟩
theorem plL_flat {f : Sm → Pl} (g : Sm → List Sm) (h : Sm → Pl) : ∀ {b : List Sm}, (∀ s ∈ b, plL f (g s) = h s) → plL f (b.flatMap g) = plL h b
  | [], _ => rfl
  | s :: r, e => by
    rw [List.flatMap_cons, plL_app, e s List.mem_cons_self, plL_flat g h fun z hz => e z (List.mem_cons_of_mem _ hz)]
    rfl
theorem plL_rep {f : Sm → Pl} (l : List Sm) : ∀ n : Nat, plL f (List.replicate n l).flatten = (plL f l).rep n
  | 0 => rfl
  | n + 1 => by
    rw [List.replicate_succ, List.flatten_cons, plL_app, plL_rep l n]
    rfl
theorem fl_pl : ∀ {n : Nat} {s : Sm}, Wf C G env n s → plL (plS env n) (flS env n s) = plS env n s := by
  intro n
  induction n with
  | zero =>
    intro s w
    cases s <;> first | exact w.elim | exact plL_one _ _
  | succ n ih =>
    have fl : ∀ {b : List Sm}, (∀ s ∈ b, Wf C G env n s) → plL (plS env (n + 1)) (b.flatMap (flS env n)) = plL (plS env n) b := fun hb =>
      plL_flat _ _ fun s hs => by
        rw [plL_up (fun z hz => (fl_all (hb s hs) z hz).1) (Nat.le_succ n)]
        exact ih (hb s hs)
    intro s w
    cases s with
    | times k b =>
      show plL (plS env (n + 1)) (List.replicate k.toNat (b.flatMap (flS env n))).flatten = (plL (plS env n) b).rep k.toNat
      rw [plL_rep, fl w.2]
    | call f =>
      obtain ⟨b, e, wb⟩ := w
      show plL (plS env (n + 1)) (match env f with | some b => b.flatMap (flS env n) | none => []) = (match env f with | some b => plL (plS env n) b | none => .nil)
      rw [e]
      exact fl wb
    | _ => exact plL_one _ _
theorem flL_all {n : Nat} {b : List Sm} (w : ∀ s ∈ b, Wf C G env n s) : ∀ z ∈ flL env n b, Wf C G env n z ∧ z.fl = true := fun z hz => by
  obtain ⟨s, hs, hz⟩ := List.mem_flatMap.mp hz
  exact fl_all (w s hs) z hz
theorem flL_pl {n : Nat} {b : List Sm} (w : ∀ s ∈ b, Wf C G env n s) : plL (plS env n) (flL env n b) = plL (plS env n) b := plL_flat _ _ fun s hs => fl_pl (w s hs)
theorem fl_pos {n : Nat} {s : Sm} (w : Wf C G env n s) (h : s.fl = true) : 1 ≤ (plS env n s).size := by
  cases n with
  | zero => cases s <;> first | exact w.elim | exact Nat.le_refl 1
  | succ n =>
    cases s with
    | ite t a b =>
      show 1 ≤ 1 + (plL (plS env n) a).size + (plL (plS env n) b).size + 0
      omega
    | wh t b =>
      show 1 ≤ 1 + (plL (plS env n) b).size + 0
      omega
    | times k b => cases h
    | call f => cases h
    | _ => exact Nat.le_refl 1
theorem plL_len {f : Sm → Pl} : ∀ {b : List Sm}, (∀ s ∈ b, 1 ≤ (f s).size) → b.length ≤ (plL f b).size
  | [], _ => Nat.zero_le _
  | s :: r, h => by
    show r.length + 1 ≤ ((f s).app (plL f r)).size
    rw [Pl.size_app]
    have := h s List.mem_cons_self
    have := plL_len fun z hz => h z (List.mem_cons_of_mem _ hz)
    omega
theorem plL_take {f : Sm → Pl} (b : List Sm) (i : Nat) : (plL f (b.take i)).size ≤ (plL f b).size := by
  have e : plL f b = (plL f (b.take i)).app (plL f (b.drop i)) := by rw [← plL_app, List.take_append_drop]
  rw [e, Pl.size_app]
  exact Nat.le_add_right _ _
theorem flL_len {n : Nat} {b : List Sm} (w : ∀ s ∈ b, Wf C G env n s) : (flL env n b).length ≤ (plL (plS env n) b).size := by
  rw [← flL_pl w]
  exact plL_len fun z hz => fl_pos (flL_all w z hz).1 (flL_all w z hz).2
theorem plL_mem {f : Sm → Pl} : ∀ {b : List Sm} {s : Sm}, s ∈ b → (f s).size ≤ (plL f b).size
  | z :: r, s, h => by
    show _ ≤ ((f z).app (plL f r)).size
    rw [Pl.size_app]
    rcases List.mem_cons.mp h with e | h
    · rw [e]; exact Nat.le_add_right _ _
    · exact Nat.le_trans (plL_mem h) (Nat.le_add_left _ _)
theorem plL_sum {f : Sm → Pl} : ∀ b : List Sm, ((b.map fun s => ((f s).size : Int)).sum : Int) = ((plL f b).size : Nat)
  | [] => rfl
  | s :: r => by
    show ((f s).size : Int) + (r.map fun s => ((f s).size : Int)).sum = (((f s).app (plL f r)).size : Nat)
    rw [plL_sum r, Pl.size_app]
    push_cast
    rfl
end
theorem for_enum {K : PySem.W.Frag} {a : Addr} {xs : List V} {g : TG} {tb : TS} {D : Ends} {σ : L2.St} {H : Hp} (Pv : Nat → L2.St → Hp → Prop) (h0 : Pv 0 σ H) (hl : ∀ i σ H, i ≤ xs.length → Pv i σ H → SqL K H a xs)
    (hs : ∀ i x σ H T, xs[i]? = some x → Pv i σ H → H T = none → g (.ref T) σ (upd H T (.tup [.int (i : Nat), x])) fun σ2 H2 => tb { D with nx := Pv (i + 1), ct := Pv (i + 1), bk := D.nx } σ2 H2) (hd : ∀ σ H, Pv xs.length σ H → D.nx σ H) :
    ∃ W : Nat → Nat → L2.St → Hp → Prop, (∃ m, W 0 m σ H) ∧ ∀ i m σ H, W i m σ H →
      ((Ite K a).stop i H ∧ D.nx σ H) ∨ ((Ite K a).go i H ∧ ∃ N : L2.St → Hp → Prop, (∀ σ' H', N σ' H' → ∃ m', m' < m ∧ W (i + 1) m' σ' H') ∧ ∀ x H', (Ite K a).yld i H x H' → g x σ H' fun σ2 H2 => tb { D with nx := N, ct := N, bk := D.nx } σ2 H2) := by
  refine ⟨fun i m σ H => m = xs.length - i ∧ i ≤ xs.length ∧ Pv i σ H, ⟨xs.length, (Nat.sub_zero _).symm, Nat.zero_le _, h0⟩, ?_⟩
  rintro i m σ H ⟨rfl, hi, p⟩
  have q := hl i σ H hi p
  rcases Nat.lt_or_ge i xs.length with lt | ge
  · refine .inr ⟨⟨xs, _, q, List.getElem?_eq_getElem lt⟩, Pv (i + 1), fun σ' H' p' => ⟨xs.length - (i + 1), by omega, rfl, lt, p'⟩, fun x H' y => ?_⟩
    obtain ⟨T, u, rfl, hT, rfl, hx⟩ := y
    exact hs i u σ H T (hx xs q) p hT
  · obtain rfl : i = xs.length := Nat.le_antisymm hi ge
    exact .inl ⟨⟨xs, q, Nat.le_refl _⟩, hd _ _ p⟩
/-! ### constructors -/
structure Kx (P : Program) (w : World) (K : PySem.W.Frag) (mg : Str → Option Value) (base : Heap) (k : Nat) (x : Str) (C : Addr) (ps : List Str) (sp : Sp) : Prop where
  ex : ∃ (f : Addr) (fd : FuncData), Mk K C f ∧ mg x = some (.ref C) ∧ Binds K fd ps [] ∧ FnOk P w K mg base CX0 k f fd ps sp
section
variable {X : Cx} {k C : Nat} {x : Str} {ps : List Str} {sp : Sp} {p pos : Pos} {e : Expr} {es : List Expr} {t : TA}
theorem pe_K (F : Kx X.prog X.w X.K X.mg X.base k x C ps sp) (hr : Room (k + 1) X.A) (hg : Gl X x) (ha : PA X (e :: es) t) (hdb : (x == ("__debug__" : Str)) = false := by decide)
    (he : starEach (e :: es) X.env = (false, eval e X.env) :: starEach es X.env := by rfl) (hpl : (backTo pos (starEach es X.env)).any (·.1) = false := by rfl) : PE X (.Call (.Name x p) (e :: es) [] pos) (tMake C sp [] E0 t) := by
  obtain ⟨f, fd, hm, hx, hb, hf⟩ := F.ex
  exact pe_make hm hf hr hg hx hb .nil pass0 ha hdb he hpl
end
section
variable {P : Program} {w : World} {K : PySem.W.Frag} {mg : Str → Option Value} {base : Heap}
theorem Mx.imp {k : Nat} {C : Addr} {m : Str} {ps : List Str} {sp sp' : Sp} (F : Mx P w K mg base k C m ps sp) (h : ∀ vs H Q E, sp' vs H Q E → sp vs H Q E) : Mx P w K mg base k C m ps sp' :=
  let ⟨f, fd, h1, h2, h3, h4⟩ := F.ex
  ⟨f, fd, h1, h2, h3, h4.imp h⟩
theorem kx_of (T : Tp K mg) (i j l : Nat) {c q : Str} {st : Stmt} {N ps : List Str} {k : Nat} {sp : Sp} (hd : fn[i]? = some ⟨(c, some "__init__"), "__init__", q, defArgs st, defBody st, defScope st, [], []⟩) (hj : fa[j]? = some (.mkr c)) (hl : fa[l]? = some (.glo c)) (S : FnScope N ps (defScope st))
    (hb : ∀ (kV doc pm : Value) (an : Option Addr) (cdv ct : Value) (us : List Value), us.length = ps.length → bindArgs (PySem.W.fnOf "__init__" q (defArgs st) (defBody st) (defScope st) .none kV doc pm an cdv ct) ⟨us, []⟩ = pure (ps.zip us))
    (len : ∀ vs H Q E, sp vs H Q E → vs.length = ps.length)
    (hbody : ∀ (f : Addr) (cdv : Value) (A : Around) (outer : List Env) (s : Shared) (H : Hp) (vs : List V) (Q : VK) (E : XK), Room k (A.deeper (envOfC q (defScope st) s.heap.objs.size f cdv)) → sp vs H Q E →
      ∃ t, PSs (cxOf CX0 P w K mg base N q (defScope st) f cdv A outer s H E).nox (defBody st) t ∧ t { nx := fun _ H' => Q .non H', rt := Q } (start N vs) H) : Kx P w K mg base (k + 1) c (He.ga K c) ps sp := by
  obtain ⟨fd, F⟩ := T.def_ i hd
  refine ⟨He.ma K (He.ga K c) "__init__", fd, T.mkr j hj, T.glo l hl, F.bindsN hb, ?_⟩
  refine F.ok S len fun cdv A outer s H vs Q E hr h => ?_
  obtain ⟨t, h1, h2⟩ := hbody _ cdv A outer s H vs Q E hr h
  exact ⟨t, h1.nox, h2⟩
end
end Kz
set_option Elab.async false
set_option linter.all false
set_option maxRecDepth 100000
set_option maxHeartbeats 4000000
set_option pp.maxSteps 3000
/-! ZCl: class Layer: how long, flat. -/
namespace Kz
open PySem PySem.Spec PyProof.Rows L2
abbrev LyC (K : PySem.W.Frag) : Addr := He.ga K "Layer"
/-- a layer -/
structure LyO (K : PySem.W.Frag) (H : Hp) (y : Addr) (env : Env') : Prop where
  ex : ∃ (dx d : Addr) (kvs : List (Key × V)), H y = some (.ins (LyC K) dx [("helpers", .ref d)]) ∧ H d = some (.dK kvs) ∧ ∀ f b, env f = some b → ∃ q bv, valV kvs (Sum.inr f : Key) = some (.ref q) ∧ H q = some (.tup bv) ∧ RL H 6 bv b
theorem LyO.fr {K : PySem.W.Frag} {H H' : Hp} {y : Addr} {env : Env'} (l : LyO K H y env) (x : Fr [] H H') : LyO K H' y env := by
  obtain ⟨dx, d, kvs, h1, h2, h3⟩ := l.ex
  refine ⟨dx, d, kvs, x.keep _ _ (fun z => nomatch z) h1, x.keep _ _ (fun z => nomatch z) h2, fun f b e => ?_⟩
  obtain ⟨q, bv, e1, e2, e3⟩ := h3 f b e
  exact ⟨q, bv, e1, x.tups _ _ e2, RL.mono x.tu e3⟩
def spLInit (K : PySem.W.Frag) : Sp := fun vs H Q _ => ∃ (y dx a : Addr) (ps : List Addr) (kvs : List (Key × V)), vs = [.ref y, .ref a] ∧ H y = some (.ins (LyC K) dx []) ∧ TnO H a (ps.map V.ref) ∧ Paired (fun p kv => SqT K H p [kV kv.1, kv.2]) ps kvs ∧
  ∀ d H', H d = none → Fr [] H H' → H' d = some (.dK (mergeK [] kvs)) → Q .non (upd H' y (.ins (LyC K) dx [("helpers", .ref d)]))
section
variable (K : PySem.W.Frag) (C G : Str → Prop) (env : Env')
def spLongT (n : Nat) : Sp := fun vs H Q _ => ∃ (y p : Addr) (k : Nat) (vb : List V) (b : List Sm), vs = [.ref y, .ref p] ∧ LyO K H y env ∧ H p = some (.tup vb) ∧ RL H k vb b ∧ (∀ s ∈ b, Wf C G env n s) ∧ ∀ H', Fr [] H H' → Q (.int ((plL (plS env n) b).size : Nat)) H'
def spLongL (n : Nat) : Sp := fun vs H Q _ => ∃ (y p : Addr) (k : Nat) (vb : List V) (b : List Sm), vs = [.ref y, .ref p] ∧ LyO K H y env ∧ H p = some (.lst vb) ∧ vb.length ≤ 1000 ∧ RL H k vb b ∧ (∀ s ∈ b, Wf C G env n s) ∧ ∀ H', Fr [] H H' → Q (.int ((plL (plS env n) b).size : Nat)) H'
def spLongOf (n : Nat) : Sp := fun vs H Q _ => ∃ (y : Addr) (v : V) (k : Nat) (s : Sm), vs = [.ref y, v] ∧ LyO K H y env ∧ RS H k v s ∧ Wf C G env n s ∧ ∀ H', Fr [] H H' → Q (.int ((plS env n s).size : Nat)) H'
def spFlat (n : Nat) : Sp := fun vs H Q _ => ∃ (y p : Addr) (k : Nat) (vb : List V) (b : List Sm), vs = [.ref y, .ref p] ∧ LyO K H y env ∧ H p = some (.tup vb) ∧ RL H k vb b ∧ k ≤ 6 ∧ (∀ s ∈ b, Wf C G env n s) ∧ (plL (plS env n) b).size ≤ 60 ∧
  ∀ q H' us, H q = none → Fr [] H H' → H' q = some (.lst us) → RL H' 6 us (flL env n b) → Q (.ref q) H'
end
section
variable {P : Program} {w : World} {K : PySem.W.Frag} {mg : Str → Option Value} {base : Heap} {C G : Str → Prop} {env : Env'}
theorem ok_linit (T : Tp K mg) : Kx P w K mg base 1 "Layer" (LyC K) ["self", "helpers"] (spLInit K) := by
  refine kx_of T 3 71 38 rfl rfl rfl sc_Layer_init (fun _ _ _ _ _ _ us hl => match us, hl with | [_, _], _ => rfl) (fun vs H Q E h => ?_) (fun f cdv A outer s H vs Q E hr h => ?_)
  · obtain ⟨y, dx, a, ps, kvs, rfl, _⟩ := h
    rfl
  · obtain ⟨y, dx, a, ps, kvs, rfl, ey, ta, hp, q⟩ := h
    refine ⟨_, (pss_one (ps_fld (pv 0) (pe_callTy (call_dictPT rfl) (by rfl) T.n_dict (by decide +kernel) (pa_cons (pv 1) pa_nil)) rfl)), ?_⟩
    refine ⟨_, rfl, a, ps, kvs, rfl, ta, hp, fun d H1 n1 x1 e1 => ⟨_, rfl, y, _, dx, [], rfl, x1.keep _ _ (fun z => nomatch z) ey, T.c_Layer, T.a_Layer_helpers, by decide, q d H1 n1 x1 e1⟩⟩
theorem ok_longOf (T : Tp K mg) (n : Nat) (M_long : Mx P w K mg base (2 * n + 1) (LyC K) "long" ["self", "body"] (fun vs H Q E => ∃ j, n = j + 1 ∧ spLongT K C G env j vs H Q E)) : Mx P w K mg base (2 * n + 2) (LyC K) "long_of" ["self", "statement"] (spLongOf K C G env n) := by
  refine mx_of T 5 65 55 rfl rfl rfl sc_Layer_long_of (fun _ _ _ _ _ _ us hl => match us, hl with | [_, _], _ => rfl) (fun vs H Q E h => ?_) (fun f cdv A outer s H vs Q E hr h => ?_)
  · obtain ⟨y, v, k, s, rfl, _⟩ := h
    rfl
  · obtain ⟨y, v, k, s, rfl, ly, rs, wf, q⟩ := h
    have hu := hu_of hr
    refine ⟨_, (pss_cons (ps_set (i := 2) sc_Layer_long_of.nd rfl (Or.inl rfl) (pe_ix ix_tup (pv 1) pe_int (fun _ _ => rfl)))
    (pss_cons (ps_if (pt_cmpR op_eq (pv 2) pe_str (nomark _)) (pss_one (ps_ret (pe_op op_add (pe_op op_add pe_int (pe_M (pv 0) M_long (hr.mono (by omega)) (pa_cons (pe_ix ix_tup (pv 1) pe_int (fun _ _ => rfl)) pa_nil))) (pe_M (pv 0) M_long (hr.mono (by omega)) (pa_cons (pe_ix ix_tup (pv 1) pe_int (fun _ _ => rfl)) pa_nil)))))
     pss_nil)
    (pss_cons (ps_if (pt_cmpR op_eq (pv 2) pe_str (nomark _)) (pss_one (ps_ret (pe_op op_add pe_int (pe_M (pv 0) M_long (hr.mono (by omega)) (pa_cons (pe_ix ix_tup (pv 1) pe_int (fun _ _ => rfl)) pa_nil)))))
     pss_nil)
    (pss_cons (ps_if (pt_cmpR op_eq (pv 2) pe_str (nomark _)) (pss_one (ps_ret (pe_op op_mul (pe_ix ix_tup (pv 1) pe_int (fun _ _ => rfl)) (pe_M (pv 0) M_long (hr.mono (by omega)) (pa_cons (pe_ix ix_tup (pv 1) pe_int (fun _ _ => rfl)) pa_nil)))))
     pss_nil)
    (pss_cons (ps_if (pt_cmpR op_eq (pv 2) pe_str (nomark _)) (pss_one (ps_ret (pe_M (pv 0) M_long (hr.mono (by omega)) (pa_cons (pe_dget hu (pe_fld (pv 0) rfl) (pe_ix ix_tup (pv 1) pe_int (fun _ _ => rfl)) (fun _ _ => rfl)) pa_nil))))
     pss_nil)
    (pss_one (ps_ret pe_int))))))), ?_⟩
    obtain ⟨dx, d, kvs, ey, ed, eh⟩ := id ly.ex
    have one : ∀ {z : Sm}, z = s → (plS env n z).size = 1 → Q (.int 1) H := fun {z} e h1 => by
      have h := q H Fr.refl
      rw [← e, h1] at h
      exact h
    have done : ∀ {a b : Int} {H' : Hp}, a = b → Q (.int a) H' → Q (.int b) H' := fun e h => e ▸ h
    cases s with
    | ite tm a b =>
      cases k with
      | zero => exact rs.elim
      | succ k =>
      cases n with
      | zero => exact wf.elim
      | succ n =>
      obtain ⟨t, u, pa, pb, va, vb, rfl, et, rt, ea, rla, eb, rlb⟩ := rs
      obtain ⟨_, wa, wb⟩ := wf
      refine ⟨_, rfl, t, _, 0, .str "if", rfl, rfl, SqT.of et, at0, ?_⟩
      refine ⟨_, rfl, rfl, _, rfl, ite2 (fun _ => ?_) (fun c => absurd (by decide +kernel) c)⟩
      refine ⟨_, rfl, y, dx, _, rfl, ey, rfl, _, rfl, t, _, 2, .ref pa, rfl, rfl, SqT.of et, at2, n, rfl, y, pa, k, va, a, rfl, ly, ea, rla, wa, fun H1 x1 => ⟨_, _, rfl, rfl, ?_⟩⟩
      refine ⟨_, rfl, y, dx, _, rfl, x1.keep _ _ (fun z => nomatch z) ey, rfl, _, rfl, t, _, 3, .ref pb, rfl, rfl, SqT.of (x1.tups _ _ et), at3, n, rfl, y, pb, k, vb, b, rfl, ly.fr x1, x1.tups _ _ eb, RL.mono x1.tu rlb, wb, fun H2 x2 => ⟨_, _, rfl, rfl, ?_⟩⟩
      refine done ?_ (q H2 (x1.trans x2))
      show ((1 + (plL (plS env n) a).size + (plL (plS env n) b).size + 0 : Nat) : Int) = _
      omega
    | wh tm b =>
      cases k with
      | zero => exact rs.elim
      | succ k =>
      cases n with
      | zero => exact wf.elim
      | succ n =>
      obtain ⟨t, u, pb, vb, rfl, et, rt, eb, rlb⟩ := rs
      obtain ⟨_, wb⟩ := wf
      refine ⟨_, rfl, t, _, 0, .str "while", rfl, rfl, SqT.of et, at0, ?_⟩
      refine ⟨_, rfl, rfl, _, rfl, ite2 (fun c => absurd c (by decide +kernel)) (fun _ => ?_)⟩
      refine ⟨_, rfl, rfl, _, rfl, ite2 (fun _ => ?_) (fun c => absurd (by decide +kernel) c)⟩
      refine ⟨_, rfl, y, dx, _, rfl, ey, rfl, _, rfl, t, _, 2, .ref pb, rfl, rfl, SqT.of et, at2, n, rfl, y, pb, k, vb, b, rfl, ly, eb, rlb, wb, fun H1 x1 => ⟨_, _, rfl, rfl, ?_⟩⟩
      refine done ?_ (q H1 x1)
      show ((1 + (plL (plS env n) b).size + 0 : Nat) : Int) = _
      omega
    | times m b =>
      cases k with
      | zero => exact rs.elim
      | succ k =>
      cases n with
      | zero => exact wf.elim
      | succ n =>
      obtain ⟨t, pb, vb, rfl, et, eb, rlb⟩ := rs
      obtain ⟨⟨m1, m4, _⟩, wb⟩ := wf
      refine ⟨_, rfl, t, _, 0, .str "times", rfl, rfl, SqT.of et, at0, ?_⟩
      refine ⟨_, rfl, rfl, _, rfl, ite2 (fun c => absurd c (by decide +kernel)) (fun _ => ?_)⟩
      refine ⟨_, rfl, rfl, _, rfl, ite2 (fun c => absurd c (by decide +kernel)) (fun _ => ?_)⟩
      refine ⟨_, rfl, rfl, _, rfl, ite2 (fun _ => ?_) (fun c => absurd (by decide +kernel) c)⟩
      refine ⟨_, rfl, t, _, 1, .int m, rfl, rfl, SqT.of et, at1, ?_⟩
      refine ⟨_, rfl, y, dx, _, rfl, ey, rfl, _, rfl, t, _, 2, .ref pb, rfl, rfl, SqT.of et, at2, n, rfl, y, pb, k, vb, b, rfl, ly, eb, rlb, wb, fun H1 x1 => ⟨_, _, rfl, rfl, .inl ⟨by omega, by omega⟩, ?_⟩⟩
      refine done ?_ (q H1 x1)
      show ((((plL (plS env n) b).rep m.toNat).size : Nat) : Int) = _
      rw [Pl.size_rep, Int.natCast_mul, Int.toNat_of_nonneg (by omega)]
    | call fn =>
      cases n with
      | zero => exact absurd wf (by cases k <;> exact id)
      | succ n =>
      obtain ⟨t, rfl, et⟩ := rs_call rs
      obtain ⟨b, ef, wb⟩ := wf
      obtain ⟨qb, bv, h1, h2, h3⟩ := eh fn b ef
      refine ⟨_, rfl, t, _, 0, .str "call", rfl, rfl, SqT.of et, at0, ?_⟩
      refine ⟨_, rfl, rfl, _, rfl, ite2 (fun c => absurd c (by decide +kernel)) (fun _ => ?_)⟩
      refine ⟨_, rfl, rfl, _, rfl, ite2 (fun c => absurd c (by decide +kernel)) (fun _ => ?_)⟩
      refine ⟨_, rfl, rfl, _, rfl, ite2 (fun c => absurd c (by decide +kernel)) (fun _ => ?_)⟩
      refine ⟨_, rfl, rfl, _, rfl, ite2 (fun _ => ?_) (fun c => absurd (by decide +kernel) c)⟩
      refine ⟨_, rfl, y, dx, _, rfl, ey, rfl, _, rfl, y, _, dx, _, _, rfl, ey, T.c_Layer, T.a_Layer_helpers, rfl, _, rfl, t, _, 1, .str fn, rfl, rfl, SqT.of et, at1, d, _, rfl, dget ed h1, n, rfl, y, qb, 6, bv, b, rfl, ly, h2, h3, wb, fun H1 x1 => ?_⟩
      have e : plS env (n + 1) (.call fn) = plL (plS env n) b := by
        show (match env fn with | some b => plL (plS env n) b | none => .nil) = _
        rw [ef]
      have h := q H1 x1
      rw [e] at h
      exact h
    | set x tm =>
      obtain ⟨t, u, rfl, et, rt⟩ := rs_set rs
      refine ⟨_, rfl, t, _, 0, .str "set", rfl, rfl, SqT.of et, at0, ?_⟩
      refine ⟨_, rfl, rfl, _, rfl, ite2 (fun c => absurd c (by decide +kernel)) (fun _ => ?_)⟩
      refine ⟨_, rfl, rfl, _, rfl, ite2 (fun c => absurd c (by decide +kernel)) (fun _ => ?_)⟩
      refine ⟨_, rfl, rfl, _, rfl, ite2 (fun c => absurd c (by decide +kernel)) (fun _ => ?_)⟩
      refine ⟨_, rfl, rfl, _, rfl, ite2 (fun c => absurd c (by decide +kernel)) (fun _ => ?_)⟩
      exact one rfl (by cases n <;> rfl)
    | read x gg =>
      obtain ⟨t, rfl, et⟩ := rs_read rs
      refine ⟨_, rfl, t, _, 0, .str "read", rfl, rfl, SqT.of et, at0, ?_⟩
      refine ⟨_, rfl, rfl, _, rfl, ite2 (fun c => absurd c (by decide +kernel)) (fun _ => ?_)⟩
      refine ⟨_, rfl, rfl, _, rfl, ite2 (fun c => absurd c (by decide +kernel)) (fun _ => ?_)⟩
      refine ⟨_, rfl, rfl, _, rfl, ite2 (fun c => absurd c (by decide +kernel)) (fun _ => ?_)⟩
      refine ⟨_, rfl, rfl, _, rfl, ite2 (fun c => absurd c (by decide +kernel)) (fun _ => ?_)⟩
      exact one rfl (by cases n <;> rfl)
    | tell tm =>
      obtain ⟨t, u, rfl, et, rt⟩ := rs_tell rs
      refine ⟨_, rfl, t, _, 0, .str "tell", rfl, rfl, SqT.of et, at0, ?_⟩
      refine ⟨_, rfl, rfl, _, rfl, ite2 (fun c => absurd c (by decide +kernel)) (fun _ => ?_)⟩
      refine ⟨_, rfl, rfl, _, rfl, ite2 (fun c => absurd c (by decide +kernel)) (fun _ => ?_)⟩
      refine ⟨_, rfl, rfl, _, rfl, ite2 (fun c => absurd c (by decide +kernel)) (fun _ => ?_)⟩
      refine ⟨_, rfl, rfl, _, rfl, ite2 (fun c => absurd c (by decide +kernel)) (fun _ => ?_)⟩
      exact one rfl (by cases n <;> rfl)
    | sure xs z =>
      obtain ⟨t, px, rfl, et, ex⟩ := rs_sure rs
      refine ⟨_, rfl, t, _, 0, .str "sure", rfl, rfl, SqT.of et, at0, ?_⟩
      refine ⟨_, rfl, rfl, _, rfl, ite2 (fun c => absurd c (by decide +kernel)) (fun _ => ?_)⟩
      refine ⟨_, rfl, rfl, _, rfl, ite2 (fun c => absurd c (by decide +kernel)) (fun _ => ?_)⟩
      refine ⟨_, rfl, rfl, _, rfl, ite2 (fun c => absurd c (by decide +kernel)) (fun _ => ?_)⟩
      refine ⟨_, rfl, rfl, _, rfl, ite2 (fun c => absurd c (by decide +kernel)) (fun _ => ?_)⟩
      exact one rfl (by cases n <;> rfl)
theorem ok_longT (T : Tp K mg) (n : Nat) (M_long_of : Mx P w K mg base (2 * n + 2) (LyC K) "long_of" ["self", "statement"] (spLongOf K C G env n)) : Mx P w K mg base (2 * n + 3) (LyC K) "long" ["self", "body"] (spLongT K C G env n) := by
  refine mx_of T 4 64 55 rfl rfl rfl sc_Layer_long (fun _ _ _ _ _ _ us hl => match us, hl with | [_, _], _ => rfl) (fun vs H Q E h => ?_) (fun f cdv A outer s H vs Q E hr h => ?_)
  · obtain ⟨y, p, k, vb, b, rfl, _⟩ := h
    rfl
  · obtain ⟨y, p, k, vb, b, rfl, ly, ep, rl, wf, q⟩ := h
    refine ⟨_, (pss_one (ps_ret (pe_callB (cr_sum rfl) (by rfl) T.n_sum (by decide +kernel) (pa_cons (pe_lc (own := [("statement", 2)]) rfl sc_Layer_long.nd (pi_tupL (pv 1)) (blkOk_by (own := [("statement", 2)]) (N := N_Layer_long) (sc := defScope s_Layer_long) (by decide +kernel)) (fun _ _ _ _ _ => (pg_name (i := 2) sc_Layer_long.nd rfl (Or.inl rfl))) (fun _ _ _ _ _ => pts_nil) (fun _ _ _ _ _ => (pe_M (pv 0) M_long_of (hr.mono (by omega)) (pa_cons (pv 2) pa_nil)))) pa_nil)))), ?_⟩
    have nn : ∀ {a : Addr}, a ∉ ([] : List Addr) := fun z => nomatch z
    refine ⟨_, rfl, p, vb, rfl, SqT.of ep, fun lb L hL => ?_⟩
    refine lc_tup (xs := vb) (fun i H' => H' L = some (.lst (((b.take i).map fun s => ((plS env n s).size : Int)).map V.int)) ∧ Fr [] H H') ⟨upd_same, Fr.refl.new hL⟩ (fun i H' _ hP => SqT.of (hP.2.tups _ _ ep)) (fun i x H' hx hP => ?_) (fun H' hP => ?_)
    · obtain ⟨eL, y'⟩ := hP
      obtain ⟨s, es, rs⟩ := pd_at rl hx
      have hlt : i < vb.length := (List.getElem?_eq_some_iff.mp hx).1
      refine ⟨rfl, ?_⟩
      dsimp only [tYes]
      rw [if_pos rfl]
      have ly' := ly.fr y'
      obtain ⟨dx, d, kvs, ey, _⟩ := id ly'.ex
      refine ⟨_, rfl, y, dx, _, rfl, ey, rfl, _, rfl, y, x, k, s, rfl, ly', rs.mono y'.tu, wf s (List.mem_of_getElem? es), fun H1 x1 => ?_⟩
      have eL1 := x1.keep _ _ nn eL
      refine ⟨_, eL1, ?_, ?_, (y'.trans x1).own hL eL1⟩
      · rw [List.length_map, List.length_map, List.length_take]
        have := rl.length
        omega
      · rw [upd_same, List.take_add_one, es, List.map_append, List.map_append]
        rfl
    · obtain ⟨eL, y'⟩ := hP
      rw [rl.length, List.take_length] at eL
      refine ⟨L, _, rfl, SqL.of eL, ?_⟩
      rw [plL_sum]
      exact q H' y'
theorem ok_longL (T : Tp K mg) (n : Nat) (M_long_of : Mx P w K mg base (2 * n + 2) (LyC K) "long_of" ["self", "statement"] (spLongOf K C G env n)) : Mx P w K mg base (2 * n + 3) (LyC K) "long" ["self", "body"] (spLongL K C G env n) := by
  refine mx_of T 4 64 55 rfl rfl rfl sc_Layer_long (fun _ _ _ _ _ _ us hl => match us, hl with | [_, _], _ => rfl) (fun vs H Q E h => ?_) (fun f cdv A outer s H vs Q E hr h => ?_)
  · obtain ⟨y, p, k, vb, b, rfl, _⟩ := h
    rfl
  · obtain ⟨y, p, k, vb, b, rfl, ly, ep, lb, rl, wf, q⟩ := h
    refine ⟨_, (pss_one (ps_ret (pe_callB (cr_sum rfl) (by rfl) T.n_sum (by decide +kernel) (pa_cons (pe_lc (own := [("statement", 2)]) rfl sc_Layer_long.nd (pi_list (pv 1)) (blkOk_by (own := [("statement", 2)]) (N := N_Layer_long) (sc := defScope s_Layer_long) (by decide +kernel)) (fun _ _ _ _ _ => (pg_name (i := 2) sc_Layer_long.nd rfl (Or.inl rfl))) (fun _ _ _ _ _ => pts_nil) (fun _ _ _ _ _ => (pe_M (pv 0) M_long_of (hr.mono (by omega)) (pa_cons (pv 2) pa_nil)))) pa_nil)))), ?_⟩
    have nn : ∀ {a : Addr}, a ∉ ([] : List Addr) := fun z => nomatch z
    refine ⟨_, rfl, p, rfl, ⟨_, SqL.of ep⟩, fun L hL => ?_⟩
    refine lc_list (xs := vb) (fun i H' => H' L = some (.lst (((b.take i).map fun s => ((plS env n s).size : Int)).map V.int)) ∧ Fr [] H H') ⟨upd_same, Fr.refl.new hL⟩ (fun i H' _ hP => SqL.of (hP.2.keep _ _ nn ep)) (fun i x H' hx hP => ?_) (fun H' hP => ?_)
    · obtain ⟨eL, y'⟩ := hP
      obtain ⟨s, es, rs⟩ := pd_at rl hx
      have hlt : i < vb.length := (List.getElem?_eq_some_iff.mp hx).1
      refine ⟨rfl, ?_⟩
      dsimp only [tYes]
      rw [if_pos rfl]
      have ly' := ly.fr y'
      obtain ⟨dx, d, kvs, ey, _⟩ := id ly'.ex
      refine ⟨_, rfl, y, dx, _, rfl, ey, rfl, _, rfl, y, x, k, s, rfl, ly', rs.mono y'.tu, wf s (List.mem_of_getElem? es), fun H1 x1 => ?_⟩
      have eL1 := x1.keep _ _ nn eL
      refine ⟨_, eL1, ?_, ?_, (y'.trans x1).own hL eL1⟩
      · rw [List.length_map, List.length_map, List.length_take]
        exact small1000 (by omega)
      · rw [upd_same, List.take_add_one, es, List.map_append, List.map_append]
        rfl
    · obtain ⟨eL, y'⟩ := hP
      rw [rl.length, List.take_length] at eL
      refine ⟨L, _, rfl, SqL.of eL, ?_⟩
      rw [plL_sum]
      exact q H' y'
theorem no_long (T : Tp K mg) {sp : Sp} (no : ∀ vs H Q E, ¬ sp vs H Q E) : Mx P w K mg base 1 (LyC K) "long" ["self", "body"] sp := by
  refine mx_of T 4 64 55 rfl rfl rfl sc_Layer_long (fun _ _ _ _ _ _ us hl => match us, hl with | [_, _], _ => rfl) (fun vs H Q E h => absurd h (no _ _ _ _)) (fun f cdv A outer s H vs Q E hr h => absurd h (no _ _ _ _))
theorem ok_longs (T : Tp K mg) : ∀ n : Nat, Mx P w K mg base (2 * n + 3) (LyC K) "long" ["self", "body"] (spLongT K C G env n) ∧ Mx P w K mg base (2 * n + 3) (LyC K) "long" ["self", "body"] (spLongL K C G env n) ∧ Mx P w K mg base (2 * n + 2) (LyC K) "long_of" ["self", "statement"] (spLongOf K C G env n) := by
  intro n
  induction n with
  | zero =>
    have h := ok_longOf (P := P) (w := w) (base := base) (C := C) (G := G) (env := env) T 0 (no_long T fun vs H Q E ⟨j, e, _⟩ => by cases e)
    exact ⟨ok_longT T 0 h, ok_longL T 0 h, h⟩
  | succ n ih =>
    have h := ok_longOf (P := P) (w := w) (base := base) (C := C) (G := G) (env := env) T (n + 1) (Mx.imp ih.1 fun vs H Q E ⟨j, e, h⟩ => (by have e := Nat.succ.inj e; subst e; exact h))
    exact ⟨ok_longT T (n + 1) h, ok_longL T (n + 1) h, h⟩
theorem ok_flat (T : Tp K mg) (n : Nat) (M_flat : Mx P w K mg base (n + 1) (LyC K) "flat" ["self", "body"] (fun vs H Q E => ∃ j, n = j + 1 ∧ spFlat K C G env j vs H Q E)) : Mx P w K mg base (n + 2) (LyC K) "flat" ["self", "body"] (spFlat K C G env n) := by
  refine mx_of T 7 67 55 rfl rfl rfl sc_Layer_flat (fun _ _ _ _ _ _ us hl => match us, hl with | [_, _], _ => rfl) (fun vs H Q E h => ?_) (fun f cdv A outer s H vs Q E hr h => ?_)
  · obtain ⟨y, p, k, vb, b, rfl, _⟩ := h
    rfl
  · obtain ⟨y, p, k, vb, b, rfl, ly, ep, rl, hk, wf, sz, q⟩ := h
    have hu := hu_of hr
    refine ⟨_, (pss_cons (ps_set (i := 2) sc_Layer_flat.nd rfl (Or.inl rfl) (pe_lstC pa_nil))
    (pss_cons (ps_for PassesOwn.never rfl (pi_tup (pv 1)) (pg_name (i := 3) sc_Layer_flat.nd rfl (Or.inl rfl)) (pss_one (ps_if (pt_cmpR op_eq (pe_ix ix_tup (pv 3) pe_int (fun _ _ => rfl)) pe_str (nomark _)) (pss_one (ps_expr (pe_bm PySem.F.plainAttrs_list PySem.F.slot_list_extend PySem.F.type_list_extend mt_extend (pv 2) (pa_cons (pe_op op_repC (pe_M (pv 0) M_flat (hr.mono (by omega)) (pa_cons (pe_ix ix_tup (pv 3) pe_int (fun _ _ => rfl)) pa_nil)) (pe_ix ix_tup (pv 3) pe_int (fun _ _ => rfl))) pa_nil))))
       (pss_one (ps_if (pt_cmpR op_eq (pe_ix ix_tup (pv 3) pe_int (fun _ _ => rfl)) pe_str (nomark _)) (pss_one (ps_expr (pe_bm PySem.F.plainAttrs_list PySem.F.slot_list_extend PySem.F.type_list_extend mt_extend (pv 2) (pa_cons (pe_M (pv 0) M_flat (hr.mono (by omega)) (pa_cons (pe_dget hu (pe_fld (pv 0) rfl) (pe_ix ix_tup (pv 3) pe_int (fun _ _ => rfl)) (fun _ _ => rfl)) pa_nil)) pa_nil))))
        (pss_one (ps_expr (pe_bm PySem.F.plainAttrs_list PySem.F.slot_list_append PySem.F.type_list_append mt_append (pv 2) (pa_cons (pv 3) pa_nil)))))))))
    (pss_one (ps_ret (pv 2))))), ?_⟩
    have nn : ∀ {a : Addr}, a ∉ ([] : List Addr) := fun z => nomatch z
    refine ⟨Nat.zero_le _, fun F H1 n1 x1 e1 => ⟨_, rfl, p, rfl, ⟨_, SqT.of (x1.tups _ _ ep)⟩, ?_⟩⟩
    have bF : H F = none := n1
    refine for_tup (xs := vb) (fun i σ' H' => ∃ (y3 : Option V) (us : List V), σ' = [some (V.ref y), some (V.ref p), some (V.ref F), y3] ∧ H' F = some (.lst us) ∧ RL H' 6 us (flL env n (b.take i)) ∧ Fr [] H H') ⟨_, [], rfl, e1, .nil, x1⟩ (fun i σ' H' _ hP => ?_) (fun i x σ' H' hx hP => ?_) (fun σ' H' hP => ?_)
    · obtain ⟨_, _, _, _, _, yy⟩ := hP
      exact SqT.of (yy.tups _ _ ep)
    · obtain ⟨y3, us, rfl, eF, ru, yy⟩ := hP
      obtain ⟨sm, es, rs0⟩ := pd_at rl hx
      have rs := rs0.mono yy.tu
      have ws := wf sm (List.mem_of_getElem? es)
      have etk : b.take (i + 1) = b.take i ++ [sm] := by rw [List.take_add_one, es]; rfl
      have efl : flL env n (b.take (i + 1)) = flL env n (b.take i) ++ flS env n sm := by
        unfold flL
        rw [etk, List.flatMap_append, List.flatMap_cons, List.flatMap_nil, List.append_nil]
      have lall : us.length + (flS env n sm).length ≤ 60 := by
        have h1 := flL_len fun s hs => wf s (List.mem_of_mem_take (i := i + 1) hs)
        have h2 := plL_take (f := plS env n) b (i + 1)
        rw [efl, List.length_append] at h1
        have := ru.length
        omega
      have szm : (plS env n sm).size ≤ 60 := Nat.le_trans (plL_mem (List.mem_of_getElem? es)) sz
      have ly' := ly.fr yy
      obtain ⟨dx, d, kvs, ey, ed, eh⟩ := id ly'.ex
      dsimp only [gName]
      have more : ∀ {H2 : Hp} (us2 : List V) (x2 : Fr [] H' H2), RL H2 6 us2 (flS env n sm) → RL (upd H2 F (.lst (us ++ us2))) 6 (us ++ us2) (flL env n (b.take (i + 1))) ∧ Fr [] H (upd H2 F (.lst (us ++ us2))) := fun {H2} us2 x2 r2 => by
        have eF2 := x2.keep _ _ nn eF
        have y2 : Fr [F] H2 (upd H2 F (.lst (us ++ us2))) := Fr.refl.mutL (.head _) eF2
        rw [efl]
        exact ⟨pd_app (RL.mono (x2.tu.trans y2.tu) ru) (RL.mono y2.tu r2), (yy.trans x2).own bF eF2⟩
      cases sm with
      | times m bb =>
        cases k with
        | zero => exact rs.elim
        | succ k =>
        cases n with
        | zero => exact ws.elim
        | succ n =>
        obtain ⟨t, pb, vb2, rfl, et, eb, rlb⟩ := rs
        obtain ⟨⟨m1, m4, _⟩, wb⟩ := ws
        have szb : (plL (plS env n) bb).size ≤ 60 := by
          have h : ((plL (plS env n) bb).rep m.toNat).size ≤ 60 := szm
          rw [Pl.size_rep] at h
          exact Nat.le_trans (Nat.le_mul_of_pos_left _ (by omega)) h
        refine ⟨_, rfl, t, _, 0, .str "times", rfl, rfl, SqT.of et, at0, rfl, _, rfl, ite2 (fun _ => ?_) (fun c => absurd (by decide +kernel) c)⟩
        refine ⟨_, rfl, .inl ⟨rfl, _, SqL.of eF⟩, _, rfl, y, dx, _, rfl, ey, rfl, _, rfl, t, _, 2, .ref pb, rfl, rfl, SqT.of et, at2, n, rfl, y, pb, k, vb2, bb, rfl, ly', eb, rlb, by omega, wb, szb, fun l H2 us2 n2 x2 e2 r2 => ?_⟩
        have l2 : us2.length ≤ 60 := by rw [r2.length]; exact Nat.le_trans (flL_len wb) szb
        refine ⟨_, rfl, t, _, 1, .int m, rfl, rfl, SqT.of (x2.tups _ _ et), at1, l, m, us2, rfl, rfl, e2, by omega, by omega, by omega, fun p3 H3 n3 x3 e3 => ?_⟩
        have r3 : RL H3 6 (List.replicate m.toNat us2).flatten (flS env (n + 1) (.times m bb)) := pd_rep (RL.mono x3.tu r2) m.toNat
        obtain ⟨h1, h2⟩ := more _ (x2.trans x3) r3
        refine ⟨F, p3, us, _, rfl, rfl, (x2.trans x3).keep _ _ nn eF, e3, small40 (by have := r3.length; omega), ?_⟩
        exact ⟨_, _, rfl, upd_same, h1, h2⟩
      | call fn =>
        cases n with
        | zero => exact absurd ws (by cases k <;> exact id)
        | succ n =>
        obtain ⟨t, rfl, et⟩ := rs_call rs
        obtain ⟨bb, ef, wb⟩ := ws
        obtain ⟨qb, bv, h1, h2, h3⟩ := eh fn bb ef
        have e : plS env (n + 1) (.call fn) = plL (plS env n) bb := by
          show (match env fn with | some b => plL (plS env n) b | none => .nil) = _
          rw [ef]
        have e2 : flS env (n + 1) (.call fn) = flL env n bb := by
          show (match env fn with | some b => b.flatMap (flS env n) | none => []) = _
          rw [ef]
        rw [e] at szm
        refine ⟨_, rfl, t, _, 0, .str "call", rfl, rfl, SqT.of et, at0, rfl, _, rfl, ite2 (fun c => absurd c (by decide +kernel)) (fun _ => ?_)⟩
        refine ⟨_, rfl, t, _, 0, .str "call", rfl, rfl, SqT.of et, at0, rfl, _, rfl, ite2 (fun _ => ?_) (fun c => absurd (by decide +kernel) c)⟩
        refine ⟨_, rfl, .inl ⟨rfl, _, SqL.of eF⟩, _, rfl, y, dx, _, rfl, ey, rfl, _, rfl, y, _, dx, _, _, rfl, ey, T.c_Layer, T.a_Layer_helpers, rfl, _, rfl, t, _, 1, .str fn, rfl, rfl, SqT.of et, at1, d, _, rfl, dget ed h1, n, rfl, y, qb, 6, bv, bb, rfl, ly', h2, h3, by omega, wb, szm, fun l H2 us2 n2 x2 el r2 => ?_⟩
        obtain ⟨g1, g2⟩ := more _ x2 (by rw [e2]; exact r2)
        refine ⟨F, l, us, us2, rfl, rfl, x2.keep _ _ nn eF, el, small40 (by have := r2.length; rw [e2] at lall; omega), ?_⟩
        exact ⟨_, _, rfl, upd_same, g1, g2⟩
      | _ =>
        obtain ⟨g1, g2⟩ := more [x] Fr.refl (by cases n <;> exact .cons (rs.up hk) .nil)
        obtain ⟨t, z, rest, rfl, et, _⟩ := rs_word rs
        dsimp only [Sm.word] at et
        refine ⟨_, rfl, t, _, 0, _, rfl, rfl, SqT.of et, at0, rfl, _, rfl, ite2 (fun c => absurd c (by decide +kernel)) (fun _ => ?_)⟩
        refine ⟨_, rfl, t, _, 0, _, rfl, rfl, SqT.of et, at0, rfl, _, rfl, ite2 (fun c => absurd c (by decide +kernel)) (fun _ => ?_)⟩
        refine ⟨_, rfl, .inl ⟨rfl, _, SqL.of eF⟩, _, rfl, F, us, _, rfl, rfl, eF, small1000 (by omega), ?_⟩
        exact ⟨_, _, rfl, upd_same, g1, g2⟩
    · obtain ⟨y3, us, rfl, eF, ru, yy⟩ := hP
      rw [rl.length, List.take_length] at ru
      exact ⟨_, rfl, q F H' us n1 yy eF ru⟩
theorem no_flat (T : Tp K mg) {sp : Sp} {k : Nat} (no : ∀ vs H Q E, ¬ sp vs H Q E) : Mx P w K mg base (k + 1) (LyC K) "flat" ["self", "body"] sp := by
  refine mx_of T 7 67 55 rfl rfl rfl sc_Layer_flat (fun _ _ _ _ _ _ us hl => match us, hl with | [_, _], _ => rfl) (fun vs H Q E h => absurd h (no _ _ _ _)) (fun f cdv A outer s H vs Q E hr h => absurd h (no _ _ _ _))
end
end Kz
set_option Elab.async false
set_option linter.all false
set_option maxRecDepth 100000
set_option maxHeartbeats 4000000
set_option pp.maxSteps 3000
/-! ZCm: class Layer: laid; rows_of. -/
namespace Kz
open PySem PySem.Spec PyProof.Rows L2
theorem cutV_from (xs : List V) (k : Nat) : cutV xs (some ((k : Int) + 1)) none = xs.drop (k + 1) := by
  unfold cutV
  rw [show ((k : Int) + 1) = ((k + 1 : Nat) : Int) from rfl, HT.sIx_nat, HT.sIx_none]
  by_cases h : k + 1 ≤ xs.length
  · rw [Nat.min_eq_left h, List.take_of_length_le (by rw [List.length_drop]; exact Nat.le_refl _)]
  · rw [Nat.min_eq_right (by omega), List.drop_length, List.take_nil, List.drop_of_length_le (by omega)]
section
variable (K : PySem.W.Frag) (C G : Str → Prop) (env : Env')
def spLaidOne (n : Nat) : Sp := fun vs H Q _ => ∃ (y : Addr) (v : V) (k : Nat) (s : Sm) (i bh : Nat), vs = [.ref y, v, .int (i : Nat), .int (bh : Nat)] ∧ LyO K H y env ∧ RS H k v s ∧ k ≤ 6 ∧ Wf C G env n s ∧ s.fl = true ∧ (plS env n s).size ≤ 60 ∧
  ∀ q H' us, H q = none → Fr [] H H' → H' q = some (.lst us) → Paired (RR H') us ((plS env n s).lay i bh) → Q (.ref q) H'
def spLaid (n : Nat) : Sp := fun vs H Q _ => ∃ (y p : Addr) (k : Nat) (vb : List V) (b : List Sm) (i bh : Nat), vs = [.ref y, .ref p, .int (i : Nat), .int (bh : Nat)] ∧ LyO K H y env ∧ H p = some (.tup vb) ∧ RL H k vb b ∧ k ≤ 6 ∧ (∀ s ∈ b, Wf C G env n s) ∧ (plL (plS env n) b).size ≤ 60 ∧
  ∀ q H' us, H q = none → Fr [] H H' → H' q = some (.lst us) → Paired (RR H') us ((plL (plS env n) b).lay i bh) → Q (.ref q) H'
end
def spRowsOf (ws : List Str) (G : Str → Prop) : Sp := fun vs H Q _ => ∃ (p : Addr) (Pg : Prg), vs = [.ref p] ∧ RPg H 6 p Pg ∧ PgW ws G Pg ∧ ∀ q H' us, Fr [] H H' → H' q = some (.tup us) → Paired (RR H') us ((plP Pg).lay 0 (plP Pg).size ++ [.fin]) → Q (.ref q) H'
theorem rr_mono {H H' : Hp} (x : Tu H H') {us : List V} {rs : List Rw} (h : Paired (RR H) us rs) : Paired (RR H') us rs := Paired.mapP h fun _ _ z => z.mono x
section
variable {P : Program} {w : World} {K : PySem.W.Frag} {mg : Str → Option Value} {base : Heap} {C G : Str → Prop} {env : Env'}
theorem ok_laidOne (T : Tp K mg) (n : Nat) (M_laid : Mx P w K mg base (2 * n + 3) (LyC K) "laid" ["self", "body", "at", "behind"] (fun vs H Q E => ∃ j, n = j + 1 ∧ spLaid K C G env j vs H Q E)) : Mx P w K mg base (2 * n + 4) (LyC K) "laid_one" ["self", "statement", "at", "behind"] (spLaidOne K C G env n) := by
  refine mx_of T 8 68 55 rfl rfl rfl sc_Layer_laid_one (fun _ _ _ _ _ _ us hl => match us, hl with | [_, _, _, _], _ => rfl) (fun vs H Q E h => ?_) (fun f cdv A outer s H vs Q E hr h => ?_)
  · obtain ⟨y, v, k, s, i, bh, rfl, _⟩ := h
    rfl
  · obtain ⟨y, v, k, s, i, bh, rfl, ly, rs, hk, wf, hfl, sz, q⟩ := h
    have hu := hu_of hr
    refine ⟨_, (pss_cons (ps_if (pt_cmpR op_eq (pe_ix ix_tup (pv 1) pe_int (fun _ _ => rfl)) pe_str (nomark _)) (pss_cons (ps_set (i := 4) sc_Layer_laid_one.nd rfl (Or.inl rfl) (pe_M (pv 0) M_laid (hr.mono (by omega)) (pa_cons (pe_ix ix_tup (pv 1) pe_int (fun _ _ => rfl)) (pa_cons (pe_op op_add (pv 2) pe_int) (pa_cons (pv 2) pa_nil)))))
      (pss_cons (ps_set (i := 5) sc_Layer_laid_one.nd rfl (Or.inl rfl) (pv 2))
      (pss_cons (ps_if (pt_cmpR op_gt (pe_callB call_len_seq (by rfl) T.n_len PySem.boot_len (pa_cons (pv 4) pa_nil)) pe_int (nomark _)) (pss_one (ps_set (i := 5) sc_Layer_laid_one.nd rfl (Or.inl rfl) (pe_op op_add (pv 2) pe_int)))
       pss_nil)
      (pss_one (ps_ret (pe_op op_catL (pe_lstC (pa_cons (pe_tupC (pa_cons pe_str (pa_cons (pe_ix ix_tup (pv 1) pe_int (fun _ _ => rfl)) (pa_cons (pv 5) (pa_cons (pv 3) pa_nil))))) pa_nil)) (pv 4)))))))
     pss_nil)
    (pss_cons (ps_if (pt_cmpR op_ne (pe_ix ix_tup (pv 1) pe_int (fun _ _ => rfl)) pe_str (nomark _)) (pss_one (ps_ret (pe_lstC (pa_cons (pe_op op_catC (pv 1) (pe_tupC (pa_cons (pv 3) pa_nil))) pa_nil))))
     pss_nil)
    (pss_cons (ps_set (i := 6) sc_Layer_laid_one.nd rfl (Or.inl rfl) (pe_M (pv 0) M_laid (hr.mono (by omega)) (pa_cons (pe_ix ix_tup (pv 1) pe_int (fun _ _ => rfl)) (pa_cons (pe_op op_add (pv 2) pe_int) (pa_cons (pv 3) pa_nil)))))
    (pss_cons (ps_set (i := 7) sc_Layer_laid_one.nd rfl (Or.inl rfl) (pe_M (pv 0) M_laid (hr.mono (by omega)) (pa_cons (pe_ix ix_tup (pv 1) pe_int (fun _ _ => rfl)) (pa_cons (pe_op op_add (pe_op op_add (pv 2) pe_int) (pe_callB call_len_seq (by rfl) T.n_len PySem.boot_len (pa_cons (pv 6) pa_nil))) (pa_cons (pv 3) pa_nil)))))
    (pss_cons (ps_set (i := 8) sc_Layer_laid_one.nd rfl (Or.inl rfl) (pe_lstC pa_nil))
    (pss_cons (ps_for PassesOwn.never rfl (pi_list (pe_lstC (pa_cons (pe_tupC (pa_cons (pv 6) (pa_cons (pe_op op_add (pv 2) pe_int) pa_nil))) (pa_cons (pe_tupC (pa_cons (pv 7) (pa_cons (pe_op op_add (pe_op op_add (pv 2) pe_int) (pe_callB call_len_seq (by rfl) T.n_len PySem.boot_len (pa_cons (pv 6) pa_nil))) pa_nil))) pa_nil)))) (pg_tup rfl (pgs_cons (pg_name (i := 9) sc_Layer_laid_one.nd rfl (Or.inl rfl)) (pgs_cons (pg_name (i := 5) sc_Layer_laid_one.nd rfl (Or.inl rfl)) pgs_nil))) (pss_cons (ps_if (pt_cmpR op_eq (pe_callB call_len_seq (by rfl) T.n_len PySem.boot_len (pa_cons (pv 9) pa_nil)) pe_int (nomark _)) (pss_one (ps_set (i := 5) sc_Layer_laid_one.nd rfl (Or.inl rfl) (pv 3)))
       pss_nil)
      (pss_one (ps_expr (pe_bm PySem.F.plainAttrs_list PySem.F.slot_list_append PySem.F.type_list_append mt_append (pv 8) (pa_cons (pv 5) pa_nil))))))
    (pss_one (ps_ret (pe_op op_catL (pe_op op_catL (pe_lstC (pa_cons (pe_tupC (pa_cons pe_str (pa_cons (pe_ix ix_tup (pv 1) pe_int (fun _ _ => rfl)) (pa_cons (pe_ix ix_list (pv 8) pe_int (fun _ _ => rfl)) (pa_cons (pe_ix ix_list (pv 8) pe_int (fun _ _ => rfl)) pa_nil))))) pa_nil)) (pv 6)) (pv 7)))))))))), ?_⟩
    obtain ⟨dx, d, kvs, ey, ed, eh⟩ := id ly.ex
    have nn : ∀ {a : Addr}, a ∉ ([] : List Addr) := fun z => nomatch z
    -- a row of one statement
    have one : ∀ {t : Addr} {w0 : Str} {vs0 : List V} {r : Rw} (_ : V.ref t = v) (_ : H t = some (.tup (.str w0 :: vs0))) (_ : vs0.length ≤ 3) (hw : ¬ decide (V.str w0 = V.str "while") = true) (hi : (!decide (V.str w0 = V.str "if")) = true) (_ : (plS env n s).lay i bh = [r])
        (_ : ∀ (H' : Hp) (p2 : Addr), Fr [] H H' → H' p2 = some (.tup (.str w0 :: vs0 ++ [.int (bh : Nat)])) → RR H' (.ref p2) r), ∀ p1 H1, H p1 = none → Fr [] H H1 → H1 p1 = some (.tup [.int (bh : Nat)]) →
        rCatC (.ref t) (.ref p1) H1 fun x H2 => [x].length ≤ sizeLine ∧ ∀ p H', H2 p = none → Fr [] H2 H' → H' p = some (.lst [x]) → Q (.ref p) H' := fun {t w0 vs0 r} ev et lv hw hi el hr p1 H1 n1 x1 e1 => by
      refine ⟨t, p1, _, _, rfl, rfl, x1.tups _ _ et, e1, small40 (by show vs0.length + 1 + 1 ≤ 1000; omega), fun p2 H2 x2 e2 => ⟨Kz.sz1, fun p3 H3 n3 x3 e3 => q p3 H3 _ ((x1.trans x2).back _ n3) ((x1.trans x2).trans x3) e3 ?_⟩⟩
      rw [el]
      exact .cons (hr _ _ ((x1.trans x2).trans x3) (x3.tups _ _ e2)) .nil
    cases s with
    | wh tm b =>
      cases k with
      | zero => exact rs.elim
      | succ k =>
      cases n with
      | zero => exact wf.elim
      | succ n =>
      obtain ⟨t, u, pb, vb, rfl, et, rt, eb, rlb⟩ := rs
      obtain ⟨_, wb⟩ := wf
      have szb : (plL (plS env n) b).size ≤ 60 := by
        have h : 1 + (plL (plS env n) b).size + 0 ≤ 60 := sz
        omega
      refine ⟨_, rfl, t, _, 0, .str "while", rfl, rfl, SqT.of et, at0, rfl, _, rfl, ite2 (fun _ => ?_) (fun c => absurd (by decide +kernel) c)⟩
      refine ⟨_, rfl, y, dx, _, rfl, ey, rfl, _, rfl, t, _, 2, .ref pb, rfl, rfl, SqT.of et, at2, _, rfl, _, _, rfl, rfl, _, rfl, n, rfl, y, pb, k, vb, b, i + 1, i, rfl, ly, eb, rlb, by omega, wb, szb, fun lq H1 us n1 x1 e1 r1 => ?_⟩
      have lus : us.length = (plL (plS env n) b).size := by rw [r1.length, Pl.lay_len]
      refine ⟨_, rfl, ?_⟩
      try dsimp only [gName]
      refine seq_cut (fun σ' H2 => σ' = [some (V.ref y), some (V.ref t), some (V.int (i : Nat)), some (V.int (bh : Nat)), some (V.ref lq), some (V.int ((plL (plS env n) b).ent (i + 1) i : Nat)), none, none, none, none] ∧ H2 = H1) (fun D' hQ _ _ _ => ?_) (fun σ' H2 hP => ?_)
      · refine ⟨_, rfl, lq, _, rfl, .inl (SqL.of e1), _, _, rfl, rfl, _, rfl, ite2 (fun c => ?_) (fun c => ?_)⟩
        · have c : (us.length : Int) > 0 := of_decide_eq_true c
          refine ⟨_, rfl, _, _, rfl, rfl, hQ _ _ ⟨?_, rfl⟩⟩
          have e : (plL (plS env n) b).ent (i + 1) i = i + 1 := if_neg (by omega)
          rw [e]
          rfl
        · have c : ¬ (us.length : Int) > 0 := fun z => c (decide_eq_true z)
          refine hQ _ _ ⟨?_, rfl⟩
          have e : (plL (plS env n) b).ent (i + 1) i = i := if_pos (by omega)
          rw [e]
          rfl
      · obtain ⟨rfl, rfl⟩ := hP
        refine ⟨_, rfl, t, _, 1, u, rfl, rfl, SqT.of (x1.tups _ _ et), at1, _, rfl, _, rfl, sz4, fun p1 Ha na xa ea => ⟨Kz.sz1, fun p2 Hb nb xb eb' => ?_⟩⟩
        refine ⟨_, rfl, p2, lq, _, _, rfl, rfl, eb', (xa.trans xb).keep _ _ nn e1, small40 (by show 1 + us.length ≤ 1000; omega), fun p3 Hc nc xc ec => ?_⟩
        have xac := (xa.trans xb).trans xc
        refine q p3 Hc _ ((x1.trans (xa.trans xb)).back _ nc) (x1.trans xac) ec ?_
        show Paired (RR Hc) (.ref p1 :: us) (Pl.lay (.wh tm (plL (plS env n) b) .nil) i bh)
        rw [Pl.lay_wh]
        refine .cons ⟨p1, u, rfl, (xb.trans xc).tups _ _ ea, rt.mono (x1.tu.trans xac.tu)⟩ ?_
        show Paired _ us ((plL (plS env n) b).lay (i + 1) i ++ [])
        rw [List.append_nil]
        exact rr_mono xac.tu r1
    | ite tm a b =>
      cases k with
      | zero => exact rs.elim
      | succ k =>
      cases n with
      | zero => exact wf.elim
      | succ n =>
      obtain ⟨t, u, pa, pb, va, vb, rfl, et, rt, ea0, rla, eb0, rlb⟩ := rs
      obtain ⟨_, wa, wb⟩ := wf
      have szab : 1 + (plL (plS env n) a).size + (plL (plS env n) b).size + 0 ≤ 60 := sz
      refine ⟨_, rfl, t, _, 0, .str "if", rfl, rfl, SqT.of et, at0, rfl, _, rfl, ite2 (fun c => absurd c (by decide +kernel)) (fun _ => ?_)⟩
      refine ⟨_, rfl, t, _, 0, .str "if", rfl, rfl, SqT.of et, at0, rfl, _, rfl, ite2 (fun c => absurd c (by decide +kernel)) (fun _ => ?_)⟩
      refine ⟨_, rfl, y, dx, _, rfl, ey, rfl, _, rfl, t, _, 2, .ref pa, rfl, rfl, SqT.of et, at2, _, rfl, _, _, rfl, rfl, _, rfl, n, rfl, y, pa, k, va, a, i + 1, bh, rfl, ly, ea0, rla, by omega, wa, by omega, fun l1 H1 us1 n1 x1 e1 r1 => ?_⟩
      have lus1 : us1.length = (plL (plS env n) a).size := by rw [r1.length, Pl.lay_len]
      have e12 : ((i : Int) + 1 + (us1.length : Int)) = ((i + 1 + (plL (plS env n) a).size : Nat) : Int) := by rw [lus1]; rfl
      refine ⟨_, rfl, y, dx, _, rfl, x1.keep _ _ nn ey, rfl, _, rfl, t, _, 3, .ref pb, rfl, rfl, SqT.of (x1.tups _ _ et), at3, _, rfl, _, _, rfl, rfl, _, rfl, l1, _, rfl, .inl (SqL.of e1), _, _, rfl, rfl, _, rfl, n, rfl, y, pb, k, vb, b, i + 1 + (plL (plS env n) a).size, bh, by rw [← e12]; rfl, ly.fr x1, x1.tups _ _ eb0, RL.mono x1.tu rlb, by omega, wb, by omega, fun l2 H2 us2 n2 x2 e2 r2 => ?_⟩
      have lus2 : us2.length = (plL (plS env n) b).size := by rw [r2.length, Pl.lay_len]
      refine ⟨Nat.zero_le _, fun ld H3 n3 x3 e3 => ?_⟩
      refine ⟨_, rfl, _, rfl, _, _, rfl, rfl, sz2, fun t1 Ha na xa ea => ⟨_, rfl, _, rfl, _, _, rfl, rfl, _, rfl, l1, _, rfl, .inl (SqL.of ((x2.trans (x3.trans xa)).keep _ _ nn e1)), _, _, rfl, rfl, sz2, fun t2 Hb nb xb eb => ⟨sz2, fun ll Hc nc xc ec => ?_⟩⟩⟩
      have x3c : Fr [] H3 Hc := (xa.trans xb).trans xc
      have e1c := (x2.trans (x3.trans x3c)).keep _ _ nn e1
      have e2c := (x3.trans x3c).keep _ _ nn e2
      have eld := x3c.keep _ _ nn e3
      have ea' := (xb.trans xc).tups _ _ ea
      have eb' := xc.tups _ _ eb
      have nld : ∀ {a : Addr} {o : HO}, H2 a = some o → a ∉ [ld] := fun e z => by
        rw [List.mem_singleton.mp z, n3] at e
        cases e
      have nll : ll ∉ [ld] := fun z => by
        rw [List.mem_singleton.mp z, (xa.trans xb).keep _ _ nn e3] at nc
        cases nc
      have e1ld := nld (x2.keep _ _ nn e1)
      have e2ld := nld e2
      refine ⟨ll, rfl, ⟨_, SqL.of ec⟩, for_list (xs := [.ref t1, .ref t2]) (fun j σ' H' => ∃ (y4 y5 y9 : Option V), σ' = [some (V.ref y), some (V.ref t), some (V.int (i : Nat)), some (V.int (bh : Nat)), y4, y5, some (V.ref l1), some (V.ref l2), some (V.ref ld), y9] ∧
        H' ld = some (.lst ([V.int ((plL (plS env n) a).ent (i + 1) bh : Nat), V.int ((plL (plS env n) b).ent (i + 1 + (plL (plS env n) a).size) bh : Nat)].take j)) ∧ Fr [ld] Hc H') ⟨_, _, _, rfl, eld, Fr.refl⟩ (fun j σ' H' _ hP => ?_) (fun j x σ' H' hx hP => ?_) (fun σ' H' hP => ?_)⟩
      · obtain ⟨_, _, _, _, _, yy⟩ := hP
        exact SqL.of (yy.keep _ _ nll ec)
      · obtain ⟨y4, y5, y9, rfl, el, yy⟩ := hP
        have fin : ∀ {ls : List V} {z : V} {D1 : Ends} {σ1 : L2.St}, (∀ H2, H2 ld = some (.lst (ls ++ [z])) → Fr [ld] Hc H2 → D1.nx σ1 H2) → H' ld = some (.lst ls) → D1.nx σ1 (upd H' ld (.lst (ls ++ [z]))) := fun h e => h _ upd_same (yy.mutL (.head _) e)
        match j, hx with
        | 0, hx =>
          cases hx
          refine ⟨t1, _, rfl, SqT.of (yy.tups _ _ ea'), rfl, _, _, rfl, ?_⟩
          dsimp only [gName]
          refine ⟨_, _, rfl, ?_⟩
          dsimp only [gName]
          refine ⟨rfl, ?_⟩
          try dsimp only [gName]
          refine seq_cut (fun σ' H2 => σ' = [some (V.ref y), some (V.ref t), some (V.int (i : Nat)), some (V.int (bh : Nat)), y4, some (V.int ((plL (plS env n) a).ent (i + 1) bh : Nat)), some (V.ref l1), some (V.ref l2), some (V.ref ld), some (V.ref l1)] ∧ H2 = H') (fun D' hQ _ _ _ => ?_) (fun σ' H2 hP => ?_)
          · refine ⟨_, rfl, l1, _, rfl, .inl (SqL.of (yy.keep _ _ e1ld e1c)), rfl, _, rfl, ite2 (fun c => ?_) (fun c => ?_)⟩
            · have c : (us1.length : Int) = 0 := by have := of_decide_eq_true c; injection this
              refine ⟨_, rfl, hQ _ _ ⟨?_, rfl⟩⟩
              have e : (plL (plS env n) a).ent (i + 1) bh = bh := if_pos (by omega)
              rw [e]
              rfl
            · have c : ¬ (us1.length : Int) = 0 := fun z => c (decide_eq_true (by rw [z]))
              refine hQ _ _ ⟨?_, rfl⟩
              have e : (plL (plS env n) a).ent (i + 1) bh = i + 1 := if_neg (by omega)
              rw [e]
              rfl
          · obtain ⟨rfl, rfl⟩ := hP
            refine ⟨_, rfl, .inl ⟨rfl, _, SqL.of el⟩, _, rfl, ld, _, _, rfl, rfl, el, (by decide : 0 < sizeLine), ?_⟩
            exact ⟨_, _, _, rfl, upd_same, yy.mutL (.head _) el⟩
        | 1, hx =>
          cases hx
          refine ⟨t2, _, rfl, SqT.of (yy.tups _ _ eb'), rfl, _, _, rfl, ?_⟩
          dsimp only [gName]
          refine ⟨_, _, rfl, ?_⟩
          dsimp only [gName]
          refine ⟨rfl, ?_⟩
          try dsimp only [gName]
          refine seq_cut (fun σ' H2 => σ' = [some (V.ref y), some (V.ref t), some (V.int (i : Nat)), some (V.int (bh : Nat)), y4, some (V.int ((plL (plS env n) b).ent (i + 1 + (plL (plS env n) a).size) bh : Nat)), some (V.ref l1), some (V.ref l2), some (V.ref ld), some (V.ref l2)] ∧ H2 = H') (fun D' hQ _ _ _ => ?_) (fun σ' H2 hP => ?_)
          · refine ⟨_, rfl, l2, _, rfl, .inl (SqL.of (yy.keep _ _ e2ld e2c)), rfl, _, rfl, ite2 (fun c => ?_) (fun c => ?_)⟩
            · have c : (us2.length : Int) = 0 := by have := of_decide_eq_true c; injection this
              refine ⟨_, rfl, hQ _ _ ⟨?_, rfl⟩⟩
              have e : (plL (plS env n) b).ent (i + 1 + (plL (plS env n) a).size) bh = bh := if_pos (by omega)
              rw [e]
              rfl
            · have c : ¬ (us2.length : Int) = 0 := fun z => c (decide_eq_true (by rw [z]))
              refine hQ _ _ ⟨?_, rfl⟩
              have e : (plL (plS env n) b).ent (i + 1 + (plL (plS env n) a).size) bh = i + 1 + (plL (plS env n) a).size := if_neg (by omega)
              rw [e, ← e12]
              rfl
          · obtain ⟨rfl, rfl⟩ := hP
            refine ⟨_, rfl, .inl ⟨rfl, _, SqL.of el⟩, _, rfl, ld, _, _, rfl, rfl, el, (by decide : 1 < sizeLine), ?_⟩
            exact ⟨_, _, _, rfl, upd_same, yy.mutL (.head _) el⟩
        | j + 2, hx => exact absurd hx (by simp)
      · obtain ⟨y4, y5, y9, rfl, el, yy⟩ := hP
        have el : H' ld = some (.lst [V.int ((plL (plS env n) a).ent (i + 1) bh : Nat), V.int ((plL (plS env n) b).ent (i + 1 + (plL (plS env n) a).size) bh : Nat)]) := el
        have xH : Fr [] H H' := (((x1.trans x2).trans x3).trans x3c).step yy fun a h => by rw [List.mem_singleton.mp h]; exact .inr ((x1.trans x2).back _ n3)
        have tu1 : Tu H1 H' := (x2.tu.trans (x3.tu.trans x3c.tu)).trans yy.tu
        have tu2 : Tu H2 H' := (x3.tu.trans x3c.tu).trans yy.tu
        refine ⟨_, rfl, t, _, 1, u, rfl, rfl, SqT.of (xH.tups _ _ et), at1, _, rfl, ld, _, 0, _, rfl, rfl, SqL.of el, at0, _, rfl, ld, _, 1, _, rfl, rfl, SqL.of el, at1, sz4, fun p1 Hd nd xd ed' => ⟨Kz.sz1, fun p2 He ne xe ee => ?_⟩⟩
        have xde := xd.trans xe
        refine ⟨_, rfl, p2, l1, _, _, rfl, rfl, ee, xde.keep _ _ nn (yy.keep _ _ e1ld e1c), small40 (by show 1 + us1.length ≤ 1000; omega), fun p3 Hf nf xf ef => ?_⟩
        refine ⟨_, rfl, p3, l2, _, _, rfl, rfl, ef, (xde.trans xf).keep _ _ nn (yy.keep _ _ e2ld e2c), small40 (by rw [List.length_append]; show 1 + us1.length + us2.length ≤ 1000; omega), fun p4 Hg ng xg eg => ?_⟩
        have xdg := (xde.trans xf).trans xg
        refine q p4 Hg _ ((xH.trans (xde.trans xf)).back _ ng) (xH.trans xdg) eg ?_
        show Paired (RR Hg) (.ref p1 :: us1 ++ us2) (Pl.lay (.ite tm (plL (plS env n) a) (plL (plS env n) b) .nil) i bh)
        rw [Pl.lay_ite]
        refine .cons ⟨p1, u, rfl, ((xe.trans xf).trans xg).tups _ _ ed', rt.mono (xH.tu.trans xdg.tu)⟩ ?_
        refine pd_app (rr_mono (tu1.trans xdg.tu) r1) ?_
        show Paired (RR Hg) us2 ((plL (plS env n) b).lay (i + 1 + (plL (plS env n) a).size) bh ++ [])
        rw [List.append_nil]
        exact rr_mono (tu2.trans xdg.tu) r2
    | set x tm =>
      obtain ⟨t, u, rfl, et, rt⟩ := rs_set rs
      refine ⟨_, rfl, t, _, 0, .str "set", rfl, rfl, SqT.of et, at0, rfl, _, rfl, ite2 (fun c => absurd c (by decide +kernel)) (fun _ => ?_)⟩
      refine ⟨_, rfl, t, _, 0, .str "set", rfl, rfl, SqT.of et, at0, rfl, _, rfl, ite2 (fun _ => ?_) (fun c => absurd (by decide +kernel) c)⟩
      exact ⟨_, rfl, _, rfl, Kz.sz1, one (r := .set x tm bh) rfl et (by show 2 ≤ 3; decide) (by decide +kernel) (by decide +kernel) (by cases n <;> rfl) fun H' p2 x2 e2 => ⟨p2, u, rfl, e2, rt.mono x2.tu⟩⟩
    | read x gg =>
      obtain ⟨t, rfl, et⟩ := rs_read rs
      refine ⟨_, rfl, t, _, 0, .str "read", rfl, rfl, SqT.of et, at0, rfl, _, rfl, ite2 (fun c => absurd c (by decide +kernel)) (fun _ => ?_)⟩
      refine ⟨_, rfl, t, _, 0, .str "read", rfl, rfl, SqT.of et, at0, rfl, _, rfl, ite2 (fun _ => ?_) (fun c => absurd (by decide +kernel) c)⟩
      exact ⟨_, rfl, _, rfl, Kz.sz1, one (r := .read x gg bh) rfl et (by show 2 ≤ 3; decide) (by decide +kernel) (by decide +kernel) (by cases n <;> rfl) fun H' p2 x2 e2 => ⟨p2, rfl, e2⟩⟩
    | tell tm =>
      obtain ⟨t, u, rfl, et, rt⟩ := rs_tell rs
      refine ⟨_, rfl, t, _, 0, .str "tell", rfl, rfl, SqT.of et, at0, rfl, _, rfl, ite2 (fun c => absurd c (by decide +kernel)) (fun _ => ?_)⟩
      refine ⟨_, rfl, t, _, 0, .str "tell", rfl, rfl, SqT.of et, at0, rfl, _, rfl, ite2 (fun _ => ?_) (fun c => absurd (by decide +kernel) c)⟩
      exact ⟨_, rfl, _, rfl, Kz.sz1, one (r := .tell tm bh) rfl et (by show 1 ≤ 3; decide) (by decide +kernel) (by decide +kernel) (by cases n <;> rfl) fun H' p2 x2 e2 => ⟨p2, u, rfl, e2, rt.mono x2.tu⟩⟩
    | sure xs z =>
      obtain ⟨t, px, rfl, et, ex⟩ := rs_sure rs
      refine ⟨_, rfl, t, _, 0, .str "sure", rfl, rfl, SqT.of et, at0, rfl, _, rfl, ite2 (fun c => absurd c (by decide +kernel)) (fun _ => ?_)⟩
      refine ⟨_, rfl, t, _, 0, .str "sure", rfl, rfl, SqT.of et, at0, rfl, _, rfl, ite2 (fun _ => ?_) (fun c => absurd (by decide +kernel) c)⟩
      exact ⟨_, rfl, _, rfl, Kz.sz1, one (r := .sure xs z bh) rfl et (by show 2 ≤ 3; decide) (by decide +kernel) (by decide +kernel) (by cases n <;> rfl) fun H' p2 x2 e2 => ⟨p2, px, rfl, e2, x2.tups _ _ ex⟩⟩
    | times m b => cases hfl
    | call fn => cases hfl
theorem ok_laid (T : Tp K mg) (n : Nat) (M_laid_one : Mx P w K mg base (2 * n + 4) (LyC K) "laid_one" ["self", "statement", "at", "behind"] (spLaidOne K C G env n)) (M_flat : Mx P w K mg base (n + 2) (LyC K) "flat" ["self", "body"] (spFlat K C G env n)) :
    Mx P w K mg base (2 * n + 5) (LyC K) "laid" ["self", "body", "at", "behind"] (spLaid K C G env n) := by
  have M_longL := (ok_longs (P := P) (w := w) (base := base) (C := C) (G := G) (env := env) T n).2.1
  have M_long_of := (ok_longs (P := P) (w := w) (base := base) (C := C) (G := G) (env := env) T n).2.2
  refine mx_of T 6 66 55 rfl rfl rfl sc_Layer_laid (fun _ _ _ _ _ _ us hl => match us, hl with | [_, _, _, _], _ => rfl) (fun vs H Q E h => ?_) (fun f cdv A outer s H vs Q E hr h => ?_)
  · obtain ⟨y, p, k, vb, b, i, bh, rfl, _⟩ := h
    rfl
  · obtain ⟨y, p, k, vb, b, i, bh, rfl, ly, ep, rl, hk, wf, sz, q⟩ := h
    refine ⟨_, (pss_cons (ps_set (i := 4) sc_Layer_laid.nd rfl (Or.inl rfl) (pe_lstC pa_nil))
    (pss_cons (ps_set (i := 5) sc_Layer_laid.nd rfl (Or.inl rfl) (pe_M (pv 0) M_flat (hr.mono (by omega)) (pa_cons (pv 1) pa_nil)))
    (pss_cons (ps_for PassesOwn.never rfl (pi_enum (by rfl) T.n_enumerate (pa_cons (pv 5) pa_nil)) (pg_tup rfl (pgs_cons (pg_name (i := 6) sc_Layer_laid.nd rfl (Or.inl rfl)) (pgs_cons (pg_name (i := 7) sc_Layer_laid.nd rfl (Or.inl rfl)) pgs_nil))) (pss_cons (ps_set (i := 8) sc_Layer_laid.nd rfl (Or.inl rfl) (pe_op op_add (pv 2) (pe_callB call_len_seq (by rfl) T.n_len PySem.boot_len (pa_cons (pv 4) pa_nil))))
      (pss_cons (ps_set (i := 9) sc_Layer_laid.nd rfl (Or.inl rfl) (pe_op op_add (pv 8) (pe_M (pv 0) M_long_of (hr.mono (by omega)) (pa_cons (pv 7) pa_nil))))
      (pss_cons (ps_if (pt_cmpR op_eq (pe_M (pv 0) M_longL (hr.mono (by omega)) (pa_cons (pe_slice sl_lstC (pv 5) (po_some (pe_op op_add (pv 6) pe_int)) po_none) pa_nil)) pe_int (nomark _)) (pss_one (ps_set (i := 9) sc_Layer_laid.nd rfl (Or.inl rfl) (pv 3)))
       pss_nil)
      (pss_one (ps_expr (pe_bm PySem.F.plainAttrs_list PySem.F.slot_list_extend PySem.F.type_list_extend mt_extend (pv 4) (pa_cons (pe_M (pv 0) M_laid_one (hr.mono (by omega)) (pa_cons (pv 7) (pa_cons (pv 8) (pa_cons (pv 9) pa_nil)))) pa_nil))))))))
    (pss_one (ps_ret (pv 4)))))), ?_⟩
    have nn : ∀ {a : Addr}, a ∉ ([] : List Addr) := fun z => nomatch z
    refine ⟨Nat.zero_le _, fun F H1 n1 x1 e1 => ?_⟩
    obtain ⟨dx, d, kvs, ey, ed, eh⟩ := (ly.fr x1).ex
    refine ⟨_, rfl, y, dx, _, rfl, ey, rfl, _, rfl, y, p, k, vb, b, rfl, ly.fr x1, x1.tups _ _ ep, RL.mono x1.tu rl, hk, wf, sz, fun lf H2 us n2 x2 e2 r2 => ?_⟩
    have wfl := flL_all wf
    have epl := flL_pl wf
    have lfl := flL_len wf
    have bF : H F = none := n1
    generalize flL env n b = fs at r2 wfl epl lfl
    rw [← epl] at sz q lfl
    have nlf : lf ∉ [F] := fun z => by
      rw [List.mem_singleton.mp z, e1] at n2
      cases n2
    refine ⟨_, rfl, lf, us, rfl, SqL.of e2, for_enum (xs := us) (fun j σ' H' => ∃ (y6 y7 y8 y9 : Option V) (vs : List V) (rs : List Rw), σ' = [some (V.ref y), some (V.ref p), some (V.int (i : Nat)), some (V.int (bh : Nat)), some (V.ref F), some (V.ref lf), y6, y7, y8, y9] ∧ H' F = some (.lst vs) ∧ Paired (RR H') vs rs ∧
      rs.length = (plL (plS env n) (fs.take j)).size ∧ rs ++ (plL (plS env n) (fs.drop j)).lay (i + rs.length) bh = (plL (plS env n) fs).lay i bh ∧ Fr [F] H2 H') ?_ (fun j σ' H' _ hP => ?_) (fun j x σ' H' tt hx hP ntt => ?_) (fun σ' H' hP => ?_)⟩
    · exact ⟨_, _, _, _, [], [], rfl, x2.keep _ _ nn e1, .nil, rfl, rfl, Fr.refl⟩
    · obtain ⟨_, _, _, _, _, _, _, _, _, _, _, yy⟩ := hP
      exact SqL.of (yy.keep _ _ nlf e2)
    · obtain ⟨y6, y7, y8, y9, vs, rs, rfl, eF, pr, lr, er, yy⟩ := hP
      obtain ⟨sm, es, rsm⟩ := pd_at r2 hx
      have hjl : j < fs.length := (List.getElem?_eq_some_iff.mp es).1
      obtain ⟨wsm, fsm⟩ := wfl sm (List.mem_of_getElem? es)
      have xt : Fr [] H' (upd H' tt (.tup [.int (j : Nat), x])) := Fr.refl.new ntt
      have ett : upd H' tt (.tup [.int (j : Nat), x]) tt = some (.tup [.int (j : Nat), x]) := upd_same
      have eFt := xt.keep _ _ nn eF
      have prt := rr_mono xt.tu pr
      have yt : Fr [F] H2 (upd H' tt (.tup [.int (j : Nat), x])) := yy.trans (xt.mono fun _ z => nomatch z)
      have edr : fs.drop j = sm :: fs.drop (j + 1) := by
        rw [List.drop_eq_getElem_cons hjl]
        rw [(List.getElem?_eq_some_iff.mp es).2]
      have etk : fs.take (j + 1) = fs.take j ++ [sm] := by rw [List.take_add_one, es]; rfl
      clear pr eF yy ntt
      generalize upd H' tt (.tup [.int (j : Nat), x]) = Ht at ett eFt prt yt xt ⊢
      have xHt : Fr [] H Ht := (x1.trans x2).step yt fun a h => by rw [List.mem_singleton.mp h]; exact .inr bF
      have lyt := ly.fr xHt
      obtain ⟨dx, d, kvs, ey, ed, eh⟩ := id lyt.ex
      have lv := prt.length
      have hS : (plS env n sm).size ≤ 60 := Nat.le_trans (plL_mem (List.mem_of_getElem? es)) sz
      have hsum : rs.length ≤ 60 := by rw [lr]; exact Nat.le_trans (plL_take fs j) sz
      refine ⟨tt, _, rfl, SqT.of ett, rfl, _, _, rfl, ?_⟩
      dsimp only [gName]
      refine ⟨_, _, rfl, ?_⟩
      dsimp only [gName]
      refine ⟨rfl, ?_⟩
      -- here, follows
      refine ⟨_, rfl, _, rfl, F, _, rfl, .inl (SqL.of eFt), _, _, rfl, rfl, ?_⟩
      refine ⟨_, rfl, _, rfl, y, dx, _, rfl, ey, rfl, _, rfl, y, x, 6, sm, rfl, lyt, rsm.mono yt.tu, wsm, fun H3 x3 => ⟨_, _, rfl, rfl, ?_⟩⟩
      have eh3 : ((i : Int) + (vs.length : Int)) = ((i + rs.length : Nat) : Int) := by rw [lv]; rfl
      have ef3 : ((i : Int) + (vs.length : Int) + ((plS env n sm).size : Int)) = ((i + rs.length + (plS env n sm).size : Nat) : Int) := by rw [eh3]; rfl
      try dsimp only [gName]
      refine seq_cut (fun σ' H4 => σ' = [some (V.ref y), some (V.ref p), some (V.int (i : Nat)), some (V.int (bh : Nat)), some (V.ref F), some (V.ref lf), some (V.int (j : Nat)), some x, some (V.int ((i + rs.length : Nat) : Int)), some (V.int ((plL (plS env n) (fs.drop (j + 1))).ent (i + rs.length + (plS env n sm).size) bh : Nat))] ∧ Fr [] H3 H4) (fun D' hQ _ _ _ => ?_) (fun σ' H4 hP => ?_)
      · refine ⟨_, rfl, y, dx, _, rfl, x3.keep _ _ nn ey, rfl, _, rfl, _, rfl, _, _, rfl, rfl, _, rfl, lf, us, rfl, x3.keep _ _ nn (yt.keep _ _ nlf e2), fun lc Hc nc xc ec => ?_⟩
        rw [cutV_from] at ec
        refine ⟨y, lc, 6, _, fs.drop (j + 1), rfl, (lyt.fr x3).fr xc, ec, by rw [List.length_drop]; have := r2.length; omega, RL.mono (yt.tu.trans (x3.tu.trans xc.tu)) (pd_drop (j + 1) r2), fun s hs => (wfl s (List.mem_of_mem_drop hs)).1, fun H4 x4 => ?_⟩
        refine ⟨rfl, _, rfl, ite2 (fun c => ?_) (fun c => ?_)⟩
        · have c : (((plL (plS env n) (fs.drop (j + 1))).size : Nat) : Int) = 0 := by have := of_decide_eq_true c; injection this
          refine ⟨_, rfl, hQ _ _ ⟨?_, xc.trans x4⟩⟩
          have e : (plL (plS env n) (fs.drop (j + 1))).ent (i + rs.length + (plS env n sm).size) bh = bh := if_pos (by omega)
          rw [e, ← eh3]
          rfl
        · have c : ¬ (((plL (plS env n) (fs.drop (j + 1))).size : Nat) : Int) = 0 := fun z => c (decide_eq_true (by rw [z]))
          refine hQ _ _ ⟨?_, xc.trans x4⟩
          have e : (plL (plS env n) (fs.drop (j + 1))).ent (i + rs.length + (plS env n sm).size) bh = i + rs.length + (plS env n sm).size := if_neg (by omega)
          rw [e, ← ef3, ← eh3]
          rfl
      · obtain ⟨rfl, x4⟩ := hP
        have x34 := x3.trans x4
        refine ⟨_, rfl, .inl ⟨rfl, _, SqL.of (x34.keep _ _ nn eFt)⟩, _, rfl, y, dx, _, rfl, x34.keep _ _ nn ey, rfl, _, rfl, _, rfl, _, rfl, y, x, 6, sm, i + rs.length, (plL (plS env n) (fs.drop (j + 1))).ent (i + rs.length + (plS env n sm).size) bh, rfl, lyt.fr x34, rsm.mono (yt.tu.trans x34.tu), Nat.le_refl 6, wsm, fsm, hS, fun l5 H5 us5 n5 x5 e5 r5 => ?_⟩
        have x35 := x34.trans x5
        have eF5 := x35.keep _ _ nn eFt
        have l5 : us5.length = (plS env n sm).size := by rw [r5.length, Pl.lay_len]
        refine ⟨F, _, vs, us5, rfl, rfl, eF5, e5, small40 (by omega), ?_⟩
        have y5 : Fr [F] H5 (upd H5 F (.lst (vs ++ us5))) := Fr.refl.mutL (.head _) eF5
        refine ⟨_, _, _, _, vs ++ us5, rs ++ _, rfl, upd_same, pd_app (rr_mono (x35.tu.trans y5.tu) prt) (rr_mono y5.tu r5), ?_, ?_, (yt.trans (x35.mono fun _ z => nomatch z)).trans y5⟩
        · rw [List.length_append, Pl.lay_len, lr, etk, plL_app, Pl.size_app, plL_one]
        · rw [← er, edr, List.append_assoc]
          show rs ++ _ = rs ++ ((plS env n sm).app (plL (plS env n) (fs.drop (j + 1)))).lay (i + rs.length) bh
          rw [Pl.lay_app, List.length_append, Pl.lay_len, Nat.add_assoc]
    · obtain ⟨y6, y7, y8, y9, vs, rs, rfl, eF, pr, lr, er, yy⟩ := hP
      have xH : Fr [] H H' := (x1.trans x2).step yy fun a h => by rw [List.mem_singleton.mp h]; exact .inr bF
      rw [r2.length, List.drop_length] at er
      have er : rs ++ [] = (plL (plS env n) fs).lay i bh := er
      rw [List.append_nil] at er
      rw [er] at pr
      exact ⟨_, rfl, q F H' vs n1 xH eF pr⟩
theorem no_laid (T : Tp K mg) {sp : Sp} {k : Nat} (no : ∀ vs H Q E, ¬ sp vs H Q E) : Mx P w K mg base (k + 1) (LyC K) "laid" ["self", "body", "at", "behind"] sp := by
  refine mx_of T 6 66 55 rfl rfl rfl sc_Layer_laid (fun _ _ _ _ _ _ us hl => match us, hl with | [_, _, _, _], _ => rfl) (fun vs H Q E h => absurd h (no _ _ _ _)) (fun f cdv A outer s H vs Q E hr h => absurd h (no _ _ _ _))
theorem ok_flats (T : Tp K mg) : ∀ n : Nat, Mx P w K mg base (n + 2) (LyC K) "flat" ["self", "body"] (spFlat K C G env n) := by
  intro n
  induction n with
  | zero => exact ok_flat T 0 (no_flat T fun vs H Q E ⟨j, e, _⟩ => by cases e)
  | succ n ih => exact ok_flat T (n + 1) (Mx.imp ih fun vs H Q E ⟨j, e, h⟩ => (by have e := Nat.succ.inj e; subst e; exact h))
theorem ok_laids (T : Tp K mg) : ∀ n : Nat, Mx P w K mg base (2 * n + 5) (LyC K) "laid" ["self", "body", "at", "behind"] (spLaid K C G env n) := by
  intro n
  induction n with
  | zero => exact ok_laid T 0 (ok_laidOne T 0 (no_laid T fun vs H Q E ⟨j, e, _⟩ => by cases e)) (ok_flats T 0)
  | succ n ih => exact ok_laid T (n + 1) (ok_laidOne T (n + 1) (Mx.imp ih fun vs H Q E ⟨j, e, h⟩ => (by have e := Nat.succ.inj e; subst e; exact h))) (ok_flats T (n + 1))
def spRowsX : Sp := fun vs H Q E => ∃ (ws : List Str) (G : Str → Prop), spRowsOf ws G vs H Q E
theorem ok_rowsX (T : Tp K mg) : Fx P w K mg base 30 "rows_of" ["program"] spRowsX := by
  refine fx_of T 9 3 rfl rfl sc_rows_of (fun _ _ _ _ _ _ us hl => match us, hl with | [_], _ => rfl) (fun vs H Q E h => ?_) (fun f cdv A outer s H vs Q E hr h => ?_)
  · obtain ⟨ws, G, p, Pg, rfl, _⟩ := h
    rfl
  · obtain ⟨ws, G, p, Pg, rfl, ⟨g, h, b, hv, bv, ep, eg, ehn, hp, eb, rlb⟩, pw, q⟩ := h
    have K_Layer := ok_linit (P := P) (w := w) (base := base) T
    have M_long := (ok_longs (P := P) (w := w) (base := base) (C := (· ∈ ws)) (G := G) (env := envL Pg.helpers) T 12).1
    have M_laid := ok_laids (P := P) (w := w) (base := base) (C := (· ∈ ws)) (G := G) (env := envL Pg.helpers) T 12
    obtain ⟨tk60, g_MOST_ROWS⟩ := T.i_MOST_ROWS
    refine ⟨_, (pss_cons (ps_set (i := 1) sc_rows_of.nd rfl (Or.inl rfl) (pe_K K_Layer (hr.mono (by omega)) (by rfl) (pa_cons (pe_ix ix_tup (pv 0) pe_int (fun _ _ => rfl)) pa_nil)))
    (pss_cons (ps_set (i := 2) sc_rows_of.nd rfl (Or.inl rfl) (pe_M (pv 1) M_long (hr.mono (by omega)) (pa_cons (pe_ix ix_tup (pv 0) pe_int (fun _ _ => rfl)) pa_nil)))
    (pss_cons (ps_if (pt_cmpR op_gt (pe_op op_add (pv 2) pe_int) (pe_glob (v := .int 60) (by rfl) g_MOST_ROWS ⟨_, rfl⟩) (nomark _)) (pss_one ps_never)
     pss_nil)
    (pss_one (ps_ret (pe_callTy call_tupC (by rfl) T.n_tuple (by decide +kernel) (pa_cons (pe_op op_catL (pe_M (pv 1) M_laid (hr.mono (by omega)) (pa_cons (pe_ix ix_tup (pv 0) pe_int (fun _ _ => rfl)) (pa_cons pe_int (pa_cons (pv 2) pa_nil)))) (pe_lstC (pa_cons (pe_tupC (pa_cons pe_str pa_nil)) pa_nil))) pa_nil))))))), ?_⟩
    have nn : ∀ {a : Addr}, a ∉ ([] : List Addr) := fun z => nomatch z
    obtain ⟨ps, kvs, ehv, hps, hkk, hi, he⟩ := hv_split (K := K) hp
    have mk : mergeK [] kvs = kvs := mergeK_new (kvs := []) (by
      rw [List.nil_append, hkk]
      have := nodup_inr pw.hn
      rw [List.map_map] at this
      exact this)
    have szE : (plL (plS (envL Pg.helpers) 12) Pg.body).size = (plP Pg).size := by
      unfold plP
      rw [plL_up pw.bw (by decide : 12 ≤ NN)]
    have layE : ∀ i bh, (plL (plS (envL Pg.helpers) 12) Pg.body).lay i bh = (plP Pg).lay i bh := fun i bh => by
      unfold plP
      rw [plL_up pw.bw (by decide : 12 ≤ NN)]
    have sz59 := pw.sz
    refine ⟨_, rfl, p, _, 1, .ref h, rfl, rfl, SqT.of ep, at1, fun y dx ny ndx nyd => ?_⟩
    have x1 : Fr [] H (upd (upd H dx (.own y)) y (.ins (LyC K) dx [])) := by
      have a : Fr [] H (upd H dx (.own y)) := Fr.refl.new ndx
      exact a.new (by rw [upd_ne nyd.symm]; exact ny)
    have ey1 : upd (upd H dx (.own y)) y (.ins (LyC K) dx []) y = some (.ins (LyC K) dx []) := upd_same
    generalize upd (upd H dx (.own y)) y (.ins (LyC K) dx []) = H1 at x1 ey1 ⊢
    refine ⟨y, dx, h, ps, kvs, rfl, ey1, by rw [← ehv]; exact ehn.fr x1, ?_, fun d H2 nd x2 ed => ⟨rfl, ?_⟩⟩
    · exact Paired.mapP hps fun _ _ z => by
        rcases z with z | ⟨o, its, n, z⟩
        · rcases z with z | ⟨o, z⟩
          · exact SqT.of (x1.tups _ _ z)
          · exact .inl (.inr ⟨o, x1.fz _ _ _ z⟩)
        · exact .inr ⟨o, its, n, z⟩
    · rw [mk] at ed
      have ey2 := x2.keep _ _ nn ey1
      have yd : y ≠ d := ne_of_none ey1 nd
      have y3 : Fr [y] H2 (upd H2 y (.ins (LyC K) dx [("helpers", .ref d)])) := Fr.refl.mutT (.head _) ey2 trivial
      have x3 : Fr [] H (upd H2 y (.ins (LyC K) dx [("helpers", .ref d)])) := (x1.trans x2).step y3 fun a h => by rw [List.mem_singleton.mp h]; exact .inr ny
      have ly : LyO K (upd H2 y (.ins (LyC K) dx [("helpers", .ref d)])) y (envL Pg.helpers) := ⟨⟨dx, d, kvs, upd_same, by rw [upd_ne yd.symm]; exact ed, fun f bb hf => by
        obtain ⟨q', bv', h1, h2, h3⟩ := he f bb hf
        exact ⟨q', bv', h1, x3.tups _ _ h2, h3.mono x3.tu⟩⟩⟩
      generalize upd H2 y (.ins (LyC K) dx [("helpers", .ref d)]) = H3 at x3 ly ⊢
      obtain ⟨dx, d, kvs, ey, ed, eh⟩ := id ly.ex
      refine ⟨_, rfl, y, dx, _, rfl, ey, rfl, _, rfl, p, _, 2, .ref b, rfl, rfl, SqT.of (x3.tups _ _ ep), at2, y, b, 6, bv, Pg.body, rfl, ly, x3.tups _ _ eb, RL.mono x3.tu rlb, pw.bw, fun H4 x4 => ?_⟩
      refine ⟨_, rfl, _, _, rfl, rfl, _, _, rfl, rfl, _, rfl, ite2 (fun c => ?_) (fun _ => ?_)⟩
      · have c := of_decide_eq_true c
        rw [szE] at c
        omega
      · have x04 := x3.trans x4
        refine ⟨_, rfl, y, dx, _, rfl, x4.keep _ _ nn ey, rfl, _, rfl, p, _, 2, .ref b, rfl, rfl, SqT.of (x04.tups _ _ ep), at2, _, rfl, y, b, 6, bv, Pg.body, 0, _, rfl, ly.fr x4, x04.tups _ _ eb, RL.mono x04.tu rlb, Nat.le_refl 6, pw.bw, by rw [szE]; omega, fun lq H5 us n5 x5 e5 r5 => ?_⟩
        refine ⟨Kz.sz1, fun t1 H6 n6 x6 e6 => ⟨Kz.sz1, fun l2 H7 n7 x7 e7 => ?_⟩⟩
        have lus := r5.length
        rw [Pl.lay_len, szE] at lus
        refine ⟨lq, l2, _, _, rfl, rfl, (x6.trans x7).keep _ _ nn e5, e7, small40 (by show us.length + 1 ≤ 1000; omega), fun l3 H8 n8 x8 e8 => ⟨l3, _, rfl, e8, fun qa H9 n9 x9 e9 => ?_⟩⟩
        have x59 := ((x6.trans x7).trans x8).trans x9
        refine q qa H9 _ ((x04.trans x5).trans x59) e9 ?_
        rw [layE, szE] at r5
        exact pd_app (rr_mono x59.tu r5) (.cons ⟨t1, rfl, ((x7.trans x8).trans x9).tups _ _ e6⟩ .nil)
theorem ok_rowsOf (T : Tp K mg) {ws : List Str} {G : Str → Prop} : Fx P w K mg base 30 "rows_of" ["program"] (spRowsOf ws G) := (ok_rowsX T).imp fun vs H Q E h => ⟨ws, G, h⟩
end
end Kz
set_option Elab.async false
set_option linter.all false
set_option maxRecDepth 100000
set_option maxHeartbeats 4000000
set_option pp.maxSteps 3000
/-! ZGo: class Goer. -/
namespace Kz
open PySem PySem.Spec PyProof.Rows L2
abbrev GoC (K : PySem.W.Frag) : Addr := He.ga K "Goer"
def goF (r c t g : Addr) (i : Int) (o : Bool) : List (Str × V) := [("rows", .ref r), ("cells", .ref c), ("told", .ref t), ("gone", .ref g), ("at", .int i), ("is_done", .bl o)]
theorem goF_at {r c t g : Addr} {i j : Int} {o : Bool} : putF "at" (.int j) (goF r c t g i o) = goF r c t g j o := rfl
theorem goF_done {r c t g : Addr} {i : Int} {o : Bool} : putF "is_done" (.bl true) (goF r c t g i o) = goF r c t g i true := rfl
/-- cells in a dict: the named ones, in a row -/
def cK (ns : List Str) (c : Str → Int) : List (Key × V) := ns.map fun x => (Sum.inr x, V.int (c x))
theorem cK_val {c : Str → Int} : ∀ {ns : List Str} {x : Str}, x ∈ ns → valV (cK ns c) (Sum.inr x : Key) = some (.int (c x))
  | z :: r, x, h => by
    show valV ((Sum.inr z, V.int (c z)) :: cK r c) (Sum.inr x : Key) = _
    by_cases e : z = x
    · rw [e]
      exact valV_pos rfl
    · rw [valV_neg (fun q => e (Sum.inr.inj q))]
      exact cK_val ((List.mem_cons.mp h).elim (fun q => absurd q.symm e) id)
theorem cK_none {c : Str → Int} {ns : List Str} {x : Str} (h : x ∉ ns) : valV (cK ns c) (Sum.inr x : Key) = none := by
  induction ns with
  | nil => rfl
  | cons z r ih =>
    show valV ((Sum.inr z, V.int (c z)) :: cK r c) (Sum.inr x : Key) = _
    rw [valV_neg (fun q => h (by rw [← Sum.inr.inj q]; exact List.mem_cons_self))]
    exact ih fun q => h (List.mem_cons_of_mem _ q)
theorem cK_put {ns : List Str} {c : Str → Int} {x : Str} {v : Int} (h : x ∈ ns) : putK (cK ns c) (Sum.inr x) (.int v) = cK ns (put c x v) := by
  unfold putK
  rw [valV_any, cK_val h, Option.isSome_some, if_pos rfl]
  unfold cK
  rw [List.map_map]
  refine List.map_congr_left fun y _ => ?_
  show (if (Sum.inr y : Key) = Sum.inr x then _ else _) = _
  by_cases e : y = x
  · rw [if_pos (by rw [e]), e, put_same]
  · rw [if_neg (fun q => e (Sum.inr.inj q)), put_ne e]
theorem cK_len {ns : List Str} {c : Str → Int} : (cK ns c).length = ns.length := List.length_map ..
theorem cK_keys {ns : List Str} {c : Str → Int} : (cK ns c).map (·.1) = ns.map (fun x => (Sum.inr x : Key)) := by
  unfold cK
  rw [List.map_map]
  rfl
structure GoO (K : PySem.W.Frag) (H : Hp) (y c t g : Addr) (rows : List Rw) (ns : List Str) (m : Mc) : Prop where
  ex : ∃ (dx r : Addr) (us : List V), H y = some (.ins (GoC K) dx (goF r c t g (m.i : Nat) m.over)) ∧ H r = some (.tup us) ∧ Paired (RR H) us rows
  ec : H c = some (.dK (cK ns m.c))
  et : H t = some (.lst (m.told.map V.int))
  eg : H g = some (.lst (m.gone.map fun (n : Nat) => V.int (n : Int)))
  tg : t ≠ g
  out : ∀ x, x ∉ ns → m.c x = 0
  nl : ns.length ≤ 60
theorem GoO.fr {K : PySem.W.Frag} {H H' : Hp} {y c t g : Addr} {rows : List Rw} {ns : List Str} {m : Mc} (o : GoO K H y c t g rows ns m) (x : Fr [] H H') : GoO K H' y c t g rows ns m := by
  obtain ⟨dx, r, us, h1, h2, h3⟩ := o.ex
  have nn : ∀ {a : Addr}, a ∉ ([] : List Addr) := fun z => nomatch z
  exact ⟨⟨dx, r, us, x.keep _ _ nn h1, x.tups _ _ h2, rr_mono x.tu h3⟩, x.keep _ _ nn o.ec, x.keep _ _ nn o.et, x.keep _ _ nn o.eg, o.tg, o.out, o.nl⟩
def spGInit (K : PySem.W.Frag) (ws : List Str) (G : Str → Prop) : Sp := fun vs H Q _ => ∃ (y dx p : Addr) (Pg : Prg), vs = [.ref y, .ref p] ∧ H y = some (.ins (GoC K) dx []) ∧ RPg H 6 p Pg ∧ PgW ws G Pg ∧
  ∀ c t g (ns : List Str) H', H c = none → H t = none → H g = none → Fr [y] H H' → GoO K H' y c t g ((plP Pg).lay 0 (plP Pg).size ++ [.fin]) ns m0 → ns.Nodup → (∀ x, x ∈ ns ↔ x ∈ Pg.nm) → Q .non H'
def wV (r : Rw) : V := match r.wants with
  | some g => .str g
  | none => .non
def spWants (K : PySem.W.Frag) : Sp := fun vs H Q _ => ∃ (y c t g : Addr) (rows : List Rw) (ns : List Str) (m : Mc) (r : Rw), vs = [.ref y] ∧ GoO K H y c t g rows ns m ∧ rows[m.i]? = some r ∧ Q (wV r) H
def spStep (K : PySem.W.Frag) : Sp := fun vs H Q _ => ∃ (y c t g : Addr) (rows : List Rw) (ns : List Str) (m : Mc) (r : Rw) (v : V) (x : Int) (C G : Str → Prop), vs = [.ref y, v] ∧ GoO K H y c t g rows ns m ∧ rows[m.i]? = some r ∧ r.Ok (· ∈ ns) G ∧ Vok m.c ∧ m.gone.length < 600 ∧ m.told.length ≤ m.gone.length ∧
  (r.wants = none ∨ v = .int x) ∧ ∀ H', Fr [y, c, t, g] H H' → GoO K H' y c t g rows ns (stepM r x m) → Q .non H'
section
variable {P : Program} {w : World} {K : PySem.W.Frag} {mg : Str → Option Value} {base : Heap}
theorem ok_ginit (T : Tp K mg) {ws : List Str} {G : Str → Prop} : Kx P w K mg base 31 "Goer" (GoC K) ["self", "program"] (spGInit K ws G) := by
  have F_rows_of := ok_rowsOf (P := P) (w := w) (base := base) T (ws := ws) (G := G)
  have F_cells_in := ok_cellsIn (P := P) (w := w) (base := base) T (ws := ws) (G := G)
  refine kx_of T 15 72 39 rfl rfl rfl sc_Goer_init (fun _ _ _ _ _ _ us hl => match us, hl with | [_, _], _ => rfl) (fun vs H Q E h => ?_) (fun f cdv A outer s H vs Q E hr h => ?_)
  · obtain ⟨y, dx, p, Pg, rfl, _⟩ := h
    rfl
  · obtain ⟨y, dx, p, Pg, rfl, ey, rp, pw, q⟩ := h
    have hu := hu_of hr
    refine ⟨_, (pss_cons (ps_fld (pv 0) (pe_F F_rows_of (hr.mono (by omega)) (by rfl) (pa_cons (pv 1) pa_nil)) rfl)
    (pss_cons (ps_fld (pv 0) (pe_dnC pe_dnewK) rfl)
    (pss_cons (ps_for PassesOwn.never rfl (pi_tup (pe_F F_cells_in (hr.mono (by omega)) (by rfl) (pa_cons (pv 1) pa_nil))) (pg_name (i := 2) sc_Goer_init.nd rfl (Or.inl rfl)) (pss_one (ps_dput hu (pe_fld (pv 0) rfl) (pv 2) pe_int rfl)))
    (pss_cons (ps_fld (pv 0) (pe_lstC pa_nil) rfl)
    (pss_cons (ps_fld (pv 0) (pe_lstC pa_nil) rfl)
    (pss_cons (ps_fld (pv 0) pe_int rfl)
    (pss_one (ps_fld (pv 0) pe_bl rfl)))))))), ?_⟩
    have nn : ∀ {a : Addr}, a ∉ ([] : List Addr) := fun z => nomatch z
    have cg := T.c_Goer
    -- rows
    refine ⟨_, rfl, p, Pg, rfl, rp, pw, fun r H1 us x1 er rr => ?_⟩
    have ey1 := x1.keep _ _ nn ey
    refine ⟨_, rfl, y, _, dx, [], rfl, ey1, cg, T.a_Goer_rows, by decide, ?_⟩
    have w1 : Fr [y] H (upd H1 y (.ins (GoC K) dx (putF "rows" (.ref r) []))) := (x1.mono fun _ z => nomatch z).mutT (.head _) ey1 trivial
    have t1 : Tu H1 (upd H1 y (.ins (GoC K) dx (putF "rows" (.ref r) []))) := (Fr.refl.mutT (S := [y]) (.head _) ey1 trivial).tu
    have e1 : upd H1 y (.ins (GoC K) dx (putF "rows" (.ref r) [])) y = some (.ins (GoC K) dx [("rows", .ref r)]) := upd_same
    have er1 := t1 _ _ er
    have rr1 := rr_mono t1 rr
    generalize upd H1 y (.ins (GoC K) dx (putF "rows" (.ref r) [])) = Ha at w1 e1 er1 rr1 ⊢
    -- cells
    refine fun c H2 nc xc ec => ⟨_, rfl, y, _, dx, _, rfl, xc.keep _ _ nn e1, cg, T.a_Goer_cells, (by show 1 < 1000; decide), ?_⟩
    have yc : y ≠ c := ne_of_none e1 nc
    have bc : H c = none := w1.back _ nc
    have ey2 := xc.keep _ _ nn e1
    have w2 : Fr [y] H (upd H2 y (.ins (GoC K) dx (putF "cells" (.ref c) [("rows", .ref r)]))) := (w1.trans (xc.mono fun _ z => nomatch z)).mutT (.head _) ey2 trivial
    have t2 : Tu Ha (upd H2 y (.ins (GoC K) dx (putF "cells" (.ref c) [("rows", .ref r)]))) := xc.tu.trans (Fr.refl.mutT (S := [y]) (.head _) ey2 trivial).tu
    have e2 : upd H2 y (.ins (GoC K) dx (putF "cells" (.ref c) [("rows", .ref r)])) y = some (.ins (GoC K) dx [("rows", .ref r), ("cells", .ref c)]) := upd_same
    have ec2 : upd H2 y (.ins (GoC K) dx (putF "cells" (.ref c) [("rows", .ref r)])) c = some (.dK []) := by rw [upd_ne yc.symm]; exact ec
    have er2 := t2 _ _ er1
    have rr2 := rr_mono t2 rr1
    clear er rr er1 rr1 t1 x1 ey1 ec xc ey2 t2 e1
    generalize upd H2 y (.ins (GoC K) dx (putF "cells" (.ref c) [("rows", .ref r)])) = Hb at w2 e2 ec2 er2 rr2 ⊢
    refine ⟨_, rfl, p, Pg, rfl, rp.fr w2, pw, fun q2 H3 ns x3 e3 nd nl mm => ⟨q2, rfl, ⟨_, SqT.of e3⟩, for_tup (xs := ns.map V.str) (fun i σ' H' => ∃ (y2 : Option V), σ' = [some (V.ref y), some (V.ref p), y2] ∧ H' c = some (.dK (cK (ns.take i) fun _ => 0)) ∧ Fr [c] H3 H') ⟨_, rfl, x3.keep _ _ nn ec2, Fr.refl⟩ (fun i σ' H' _ hP => ?_) (fun i x σ' H' hx hP => ?_) (fun σ' H' hP => ?_)⟩⟩
    · obtain ⟨_, _, _, z⟩ := hP
      exact SqT.of (z.tups _ _ e3)
    · obtain ⟨y2, rfl, ec', z⟩ := hP
      rw [List.getElem?_map] at hx
      obtain ⟨nm, en, rfl⟩ := Option.map_eq_some_iff.mp hx
      have ey' := z.keep _ _ (fun h => yc (List.mem_singleton.mp h)) (x3.keep _ _ nn e2)
      have hil : i < ns.length := (List.getElem?_eq_some_iff.mp en).1
      dsimp only [gName]
      refine ⟨_, rfl, y, _, dx, _, _, rfl, ey', cg, T.a_Goer_cells, rfl, _, rfl, c, _, rfl, DPut.k (k := Sum.inr nm) ec' (small1000 (by rw [cK_len, List.length_take]; omega)), ?_⟩
      refine ⟨_, rfl, ?_, z.mutD (.head _) ec'⟩
      rw [upd_same]
      have hno : nm ∉ ns.take i := fun h => by
        obtain ⟨j, hj, e⟩ := List.mem_iff_getElem.mp h
        rw [List.length_take] at hj
        rw [List.getElem_take] at e
        have e2 := (List.getElem?_eq_some_iff.mp en).2
        have := (List.getElem_inj nd).mp (e.trans e2.symm)
        omega
      rw [L2.putK_new _ (cK_none hno)]
      show some (HO.dK (cK (ns.take i) (fun _ => 0) ++ [(Sum.inr nm, .int 0)])) = _
      rw [List.take_add_one, en]
      unfold cK
      rw [List.map_append]
      rfl
    · obtain ⟨y2, rfl, ec', z⟩ := hP
      rw [List.length_map, List.take_length] at ec'
      have w4 : Fr [y] H H' := (w2.trans (x3.mono fun _ z => nomatch z)).step z fun a h => .inr (by rw [List.mem_singleton.mp h]; exact bc)
      have t4 : Tu Hb H' := x3.tu.trans z.tu
      have e4 := z.keep _ _ (fun h => yc (List.mem_singleton.mp h)) (x3.keep _ _ nn e2)
      have er4 := t4 _ _ er2
      have rr4 := rr_mono t4 rr2
      clear e2 ec2 er2 rr2 w2 w1 z t4 x3 e3
      -- told
      refine ⟨Nat.zero_le _, fun t H5 nt x5 e5 => ⟨_, rfl, y, _, dx, _, rfl, x5.keep _ _ nn e4, cg, T.a_Goer_told, (by show 2 < 1000; decide), ?_⟩⟩
      have yt : y ≠ t := ne_of_none e4 nt
      have bt : H t = none := w4.back _ nt
      have ct : c ≠ t := ne_of_none ec' nt
      have ey5 := x5.keep _ _ nn e4
      have w5 : Fr [y] H (upd H5 y (.ins (GoC K) dx (putF "told" (.ref t) [("rows", .ref r), ("cells", .ref c)]))) := (w4.trans (x5.mono fun _ z => nomatch z)).mutT (.head _) ey5 trivial
      have t5 : Tu H' (upd H5 y (.ins (GoC K) dx (putF "told" (.ref t) [("rows", .ref r), ("cells", .ref c)]))) := x5.tu.trans (Fr.refl.mutT (S := [y]) (.head _) ey5 trivial).tu
      have e6 : upd H5 y (.ins (GoC K) dx (putF "told" (.ref t) [("rows", .ref r), ("cells", .ref c)])) y = some (.ins (GoC K) dx [("rows", .ref r), ("cells", .ref c), ("told", .ref t)]) := upd_same
      have ec6 : upd H5 y (.ins (GoC K) dx (putF "told" (.ref t) [("rows", .ref r), ("cells", .ref c)])) c = some (.dK (cK ns fun _ => 0)) := by rw [upd_ne yc.symm]; exact x5.keep _ _ nn ec'
      have et6 : upd H5 y (.ins (GoC K) dx (putF "told" (.ref t) [("rows", .ref r), ("cells", .ref c)])) t = some (.lst []) := by rw [upd_ne yt.symm]; exact e5
      have er6 := t5 _ _ er4
      have rr6 := rr_mono t5 rr4
      clear e4 er4 rr4 w4 ec' t5 ey5 e5 x5
      generalize upd H5 y (.ins (GoC K) dx (putF "told" (.ref t) [("rows", .ref r), ("cells", .ref c)])) = H6 at w5 e6 ec6 et6 er6 rr6 ⊢
      -- gone
      refine ⟨Nat.zero_le _, fun g H7 ng x7 e7 => ⟨_, rfl, y, _, dx, _, rfl, x7.keep _ _ nn e6, cg, T.a_Goer_gone, (by show 3 < 1000; decide), ?_⟩⟩
      have yg : y ≠ g := ne_of_none e6 ng
      have bg : H g = none := w5.back _ ng
      have tg : t ≠ g := ne_of_none et6 ng
      have ey7 := x7.keep _ _ nn e6
      have w7 : Fr [y] H (upd H7 y (.ins (GoC K) dx (putF "gone" (.ref g) [("rows", .ref r), ("cells", .ref c), ("told", .ref t)]))) := (w5.trans (x7.mono fun _ z => nomatch z)).mutT (.head _) ey7 trivial
      have t7 : Tu H6 (upd H7 y (.ins (GoC K) dx (putF "gone" (.ref g) [("rows", .ref r), ("cells", .ref c), ("told", .ref t)]))) := x7.tu.trans (Fr.refl.mutT (S := [y]) (.head _) ey7 trivial).tu
      have e8 : upd H7 y (.ins (GoC K) dx (putF "gone" (.ref g) [("rows", .ref r), ("cells", .ref c), ("told", .ref t)])) y = some (.ins (GoC K) dx [("rows", .ref r), ("cells", .ref c), ("told", .ref t), ("gone", .ref g)]) := upd_same
      have ec8 : upd H7 y (.ins (GoC K) dx (putF "gone" (.ref g) [("rows", .ref r), ("cells", .ref c), ("told", .ref t)])) c = some (.dK (cK ns fun _ => 0)) := by rw [upd_ne yc.symm]; exact x7.keep _ _ nn ec6
      have et8 : upd H7 y (.ins (GoC K) dx (putF "gone" (.ref g) [("rows", .ref r), ("cells", .ref c), ("told", .ref t)])) t = some (.lst []) := by rw [upd_ne yt.symm]; exact x7.keep _ _ nn et6
      have eg8 : upd H7 y (.ins (GoC K) dx (putF "gone" (.ref g) [("rows", .ref r), ("cells", .ref c), ("told", .ref t)])) g = some (.lst []) := by rw [upd_ne yg.symm]; exact e7
      have er8 := t7 _ _ er6
      have rr8 := rr_mono t7 rr6
      clear e6 er6 rr6 w5 ec6 et6 t7 ey7 e7 x7
      generalize upd H7 y (.ins (GoC K) dx (putF "gone" (.ref g) [("rows", .ref r), ("cells", .ref c), ("told", .ref t)])) = H8 at w7 e8 ec8 et8 eg8 er8 rr8 ⊢
      -- at, is_done
      refine ⟨_, rfl, y, _, dx, _, rfl, e8, cg, T.a_Goer_at, (by show 4 < 1000; decide), ?_⟩
      refine ⟨_, rfl, y, _, dx, _, rfl, upd_same, cg, T.a_Goer_is_done, (by show 5 < 1000; decide), ?_⟩
      have w9 : Fr [y] H8 (upd (upd H8 y (.ins (GoC K) dx (putF "at" (.int 0) [("rows", .ref r), ("cells", .ref c), ("told", .ref t), ("gone", .ref g)]))) y (.ins (GoC K) dx (putF "is_done" (.bl false) (putF "at" (.int 0) [("rows", .ref r), ("cells", .ref c), ("told", .ref t), ("gone", .ref g)])))) :=
        (Fr.refl.mutT (.head _) e8 trivial).mutT (.head _) upd_same trivial
      have k9 : ∀ {a : Addr} {o : HO}, y ≠ a → H8 a = some o → upd (upd H8 y (.ins (GoC K) dx (putF "at" (.int 0) [("rows", .ref r), ("cells", .ref c), ("told", .ref t), ("gone", .ref g)]))) y (.ins (GoC K) dx (putF "is_done" (.bl false) (putF "at" (.int 0) [("rows", .ref r), ("cells", .ref c), ("told", .ref t), ("gone", .ref g)]))) a = some o := fun n e => w9.keep _ _ (fun z => n (List.mem_singleton.mp z).symm) e
      exact q c t g ns _ bc bt bg (w7.trans w9) ⟨⟨dx, r, us, upd_same, w9.tups _ _ er8, rr_mono w9.tu rr8⟩, k9 yc ec8, k9 yt et8, k9 yg eg8, tg, fun _ _ => rfl, nl⟩ nd mm
theorem ok_wants (T : Tp K mg) : Mx P w K mg base 1 (GoC K) "wants" ["self"] (spWants K) := by
  refine mx_of T 16 69 56 rfl rfl rfl sc_Goer_wants (fun _ _ _ _ _ _ us hl => match us, hl with | [_], _ => rfl) (fun vs H Q E h => ?_) (fun f cdv A outer s H vs Q E hr h => ?_)
  · obtain ⟨y, c, t, g, rows, ns, m, r, rfl, _⟩ := h
    rfl
  · obtain ⟨y, c, t, g, rows, ns, m, r, rfl, o, er, q⟩ := h
    refine ⟨_, (pss_cons (ps_if (pt_cmpR op_eq (pe_ix ix_tup (pe_ix ix_tup (pe_fld (pv 0) rfl) (pe_fld (pv 0) rfl) (fun _ _ => rfl)) pe_int (fun _ _ => rfl)) pe_str (nomark _)) (pss_one (ps_ret (pe_ix ix_tup (pe_ix ix_tup (pe_fld (pv 0) rfl) (pe_fld (pv 0) rfl) (fun _ _ => rfl)) pe_int (fun _ _ => rfl))))
     pss_nil)
    (pss_one (ps_ret pe_non))), ?_⟩
    obtain ⟨dx, ra, us, ey, eu, ru⟩ := o.ex
    obtain ⟨v, ev, rv⟩ := pd_at' ru er
    have cg := T.c_Goer
    have word : ∀ {a : Addr} {w0 : Str} {z : List V}, v = .ref a → H a = some (.tup (.str w0 :: z)) → ¬ decide (V.str w0 = V.str "read") = true → wV r = .non → Q .non H := fun _ _ _ e => by
      rw [e] at q
      exact q
    cases r with
    | read x gg k =>
      obtain ⟨a, rfl, ea⟩ := rv
      refine ⟨_, rfl, y, _, dx, _, _, rfl, ey, cg, T.a_Goer_rows, rfl, _, rfl, y, _, dx, _, _, rfl, ey, cg, T.a_Goer_at, rfl, ra, us, _, _, rfl, rfl, SqT.of eu, atI_nat ev, a, _, 0, .str "read", rfl, rfl, SqT.of ea, at0, rfl, _, rfl, ite2 (fun _ => ?_) (fun c => absurd (by decide +kernel) c)⟩
      exact ⟨_, rfl, y, _, dx, _, _, rfl, ey, cg, T.a_Goer_rows, rfl, _, rfl, y, _, dx, _, _, rfl, ey, cg, T.a_Goer_at, rfl, ra, us, _, _, rfl, rfl, SqT.of eu, atI_nat ev, a, _, 2, .str gg, rfl, rfl, SqT.of ea, at2, q⟩
    | set x tm k =>
      obtain ⟨a, u, rfl, ea, _⟩ := rv
      exact ⟨_, rfl, y, _, dx, _, _, rfl, ey, cg, T.a_Goer_rows, rfl, _, rfl, y, _, dx, _, _, rfl, ey, cg, T.a_Goer_at, rfl, ra, us, _, _, rfl, rfl, SqT.of eu, atI_nat ev, a, _, 0, .str "set", rfl, rfl, SqT.of ea, at0, rfl, _, rfl, ite2 (fun c => absurd c (by decide +kernel)) (fun c => word rfl ea c rfl)⟩
    | tell tm k =>
      obtain ⟨a, u, rfl, ea, _⟩ := rv
      exact ⟨_, rfl, y, _, dx, _, _, rfl, ey, cg, T.a_Goer_rows, rfl, _, rfl, y, _, dx, _, _, rfl, ey, cg, T.a_Goer_at, rfl, ra, us, _, _, rfl, rfl, SqT.of eu, atI_nat ev, a, _, 0, .str "tell", rfl, rfl, SqT.of ea, at0, rfl, _, rfl, ite2 (fun c => absurd c (by decide +kernel)) (fun c => word rfl ea c rfl)⟩
    | sure xs n k =>
      obtain ⟨a, u, rfl, ea, _⟩ := rv
      exact ⟨_, rfl, y, _, dx, _, _, rfl, ey, cg, T.a_Goer_rows, rfl, _, rfl, y, _, dx, _, _, rfl, ey, cg, T.a_Goer_at, rfl, ra, us, _, _, rfl, rfl, SqT.of eu, atI_nat ev, a, _, 0, .str "sure", rfl, rfl, SqT.of ea, at0, rfl, _, rfl, ite2 (fun c => absurd c (by decide +kernel)) (fun c => word rfl ea c rfl)⟩
    | ite tm k l =>
      obtain ⟨a, u, rfl, ea, _⟩ := rv
      exact ⟨_, rfl, y, _, dx, _, _, rfl, ey, cg, T.a_Goer_rows, rfl, _, rfl, y, _, dx, _, _, rfl, ey, cg, T.a_Goer_at, rfl, ra, us, _, _, rfl, rfl, SqT.of eu, atI_nat ev, a, _, 0, .str "if", rfl, rfl, SqT.of ea, at0, rfl, _, rfl, ite2 (fun c => absurd c (by decide +kernel)) (fun c => word rfl ea c rfl)⟩
    | fin =>
      obtain ⟨a, rfl, ea⟩ := rv
      exact ⟨_, rfl, y, _, dx, _, _, rfl, ey, cg, T.a_Goer_rows, rfl, _, rfl, y, _, dx, _, _, rfl, ey, cg, T.a_Goer_at, rfl, ra, us, _, _, rfl, rfl, SqT.of eu, atI_nat ev, a, _, 0, .str "end", rfl, rfl, SqT.of ea, at0, rfl, _, rfl, ite2 (fun c => absurd c (by decide +kernel)) (fun c => word rfl ea c rfl)⟩
theorem ok_step (T : Tp K mg) : Mx P w K mg base 14 (GoC K) "step_on" ["self", "value"] (spStep K) := by
  have F_worth := ok_worth (P := P) (w := w) (base := base) T 11
  refine mx_of T 17 70 56 rfl rfl rfl sc_Goer_step_on (fun _ _ _ _ _ _ us hl => match us, hl with | [_, _], _ => rfl) (fun vs H Q E h => ?_) (fun f cdv A outer s H vs Q E hr h => ?_)
  · obtain ⟨y, c, t, g, rows, ns, m, r, v, x, C, G, rfl, _⟩ := h
    rfl
  · obtain ⟨y, c, t, g, rows, ns, m, r, v, x, C, G, rfl, o, er, ok, vk, lg, lt, hv, q⟩ := h
    have hu := hu_of hr
    refine ⟨_, (pss_cons (ps_set (i := 2) sc_Goer_step_on.nd rfl (Or.inl rfl) (pe_ix ix_tup (pe_fld (pv 0) rfl) (pe_fld (pv 0) rfl) (fun _ _ => rfl)))
    (pss_cons (ps_expr (pe_bm PySem.F.plainAttrs_list PySem.F.slot_list_append PySem.F.type_list_append mt_append (pe_fld (pv 0) rfl) (pa_cons (pe_fld (pv 0) rfl) pa_nil)))
    (pss_one (ps_if (pt_cmpR op_eq (pe_ix ix_tup (pv 2) pe_int (fun _ _ => rfl)) pe_str (nomark _)) (pss_one (ps_fld (pv 0) pe_bl rfl))
     (pss_one (ps_if (pt_cmpR op_eq (pe_ix ix_tup (pv 2) pe_int (fun _ _ => rfl)) pe_str (nomark _)) (pss_one (ps_fld (pv 0) (pe_ix ix_tup (pv 2) (pe_op op_sub pe_int (pe_callTy call_int1 (by rfl) T.n_int (by decide +kernel) (pa_cons (pe_cmpR op_ne (pe_F F_worth (hr.mono (by omega)) (by rfl) (pa_cons (pe_ix ix_tup (pv 2) pe_int (fun _ _ => rfl)) (pa_cons (pe_fld (pv 0) rfl) pa_nil))) pe_int (nomark _)) pa_nil))) (fun _ _ => rfl)) rfl))
      (pss_cons (ps_if (pt_cmpR op_eq (pe_ix ix_tup (pv 2) pe_int (fun _ _ => rfl)) pe_str (nomark _)) (pss_one (ps_dput hu (pe_fld (pv 0) rfl) (pe_ix ix_tup (pv 2) pe_int (fun _ _ => rfl)) (pv 1) rfl))
       (pss_one (ps_if (pt_cmpR op_eq (pe_ix ix_tup (pv 2) pe_int (fun _ _ => rfl)) pe_str (nomark _)) (pss_one (ps_dput hu (pe_fld (pv 0) rfl) (pe_ix ix_tup (pv 2) pe_int (fun _ _ => rfl)) (pe_F F_worth (hr.mono (by omega)) (by rfl) (pa_cons (pe_ix ix_tup (pv 2) pe_int (fun _ _ => rfl)) (pa_cons (pe_fld (pv 0) rfl) pa_nil))) rfl))
        (pss_one (ps_if (pt_cmpR op_eq (pe_ix ix_tup (pv 2) pe_int (fun _ _ => rfl)) pe_str (nomark _)) (pss_one (ps_expr (pe_bm PySem.F.plainAttrs_list PySem.F.slot_list_append PySem.F.type_list_append mt_append (pe_fld (pv 0) rfl) (pa_cons (pe_F F_worth (hr.mono (by omega)) (by rfl) (pa_cons (pe_ix ix_tup (pv 2) pe_int (fun _ _ => rfl)) (pa_cons (pe_fld (pv 0) rfl) pa_nil))) pa_nil))))
         pss_nil)))))
      (pss_one (ps_fld (pv 0) (pe_ix ix_tup (pv 2) (pe_un un_neg pe_int) (fun _ _ => rfl)) rfl))))))))), ?_⟩
    obtain ⟨dx, ra, us, ey, eu, ru⟩ := o.ex
    obtain ⟨rv0, ev, rv⟩ := pd_at' ru er
    have cg := T.c_Goer
    have ec := o.ec
    have et := o.et
    have eg := o.eg
    have yg : y ≠ g := ne_of ey eg (fun z => by cases z)
    have yc : y ≠ c := ne_of ey ec (fun z => by cases z)
    have yt : y ≠ t := ne_of ey et (fun z => by cases z)
    have gc : g ≠ c := ne_of eg ec (fun z => by cases z)
    have tc : t ≠ c := ne_of et ec (fun z => by cases z)
    have tg := o.tg
    refine ⟨_, rfl, y, _, dx, _, _, rfl, ey, cg, T.a_Goer_rows, rfl, _, rfl, y, _, dx, _, _, rfl, ey, cg, T.a_Goer_at, rfl, ra, us, _, rv0, rfl, rfl, SqT.of eu, atI_nat ev, ?_⟩
    refine ⟨_, rfl, y, _, dx, _, _, rfl, ey, cg, T.a_Goer_gone, rfl, .inl ⟨rfl, _, SqL.of eg⟩, _, rfl, y, _, dx, _, _, rfl, ey, cg, T.a_Goer_at, rfl, g, _, _, rfl, rfl, eg, small1000 (by rw [List.length_map]; omega), ?_⟩
    have x1 : Fr [y, c, t, g] H (upd H g (.lst ((m.gone.map fun (n : Nat) => V.int (n : Int)) ++ [V.int (m.i : Nat)]))) := Fr.refl.mutL (by simp) eg
    have eg1 : upd H g (.lst ((m.gone.map fun (n : Nat) => V.int (n : Int)) ++ [V.int (m.i : Nat)])) g = some (.lst ((m.gone ++ [m.i]).map fun (n : Nat) => V.int (n : Int))) := by rw [upd_same, List.map_append]; rfl
    have ey1 : upd H g (.lst ((m.gone.map fun (n : Nat) => V.int (n : Int)) ++ [V.int (m.i : Nat)])) y = some (.ins (GoC K) dx (goF ra c t g (m.i : Nat) m.over)) := by rw [upd_ne yg]; exact ey
    have ec1 : upd H g (.lst ((m.gone.map fun (n : Nat) => V.int (n : Int)) ++ [V.int (m.i : Nat)])) c = some (.dK (cK ns m.c)) := by rw [upd_ne gc.symm]; exact ec
    have et1 : upd H g (.lst ((m.gone.map fun (n : Nat) => V.int (n : Int)) ++ [V.int (m.i : Nat)])) t = some (.lst (m.told.map V.int)) := by rw [upd_ne tg]; exact et
    have eu1 := x1.tups _ _ eu
    have ru1 := rr_mono x1.tu ru
    have rv1 := rv.mono x1.tu
    have out := o.out
    have nl := o.nl
    generalize upd H g (.lst ((m.gone.map fun (n : Nat) => V.int (n : Int)) ++ [V.int (m.i : Nat)])) = H1 at x1 eg1 ey1 ec1 et1 eu1 ru1 rv1 ⊢
    clear ey eu ru rv ec et eg o
    have cd : CD H1 c m.c := ⟨_, ec1, fun z => by
      by_cases hz : z ∈ ns
      · exact .inl (cK_val hz)
      · exact .inr ⟨cK_none hz, out z hz⟩⟩
    -- the end of a row that goes on
    have go : ∀ (H2 : Hp) (k : Nat) (c2 : Str → Int) (told2 : List Int), Fr [y, c, t, g] H H2 → H2 y = some (.ins (GoC K) dx (goF ra c t g (m.i : Nat) m.over)) → H2 c = some (.dK (cK ns c2)) → H2 t = some (.lst (told2.map V.int)) → H2 g = some (.lst ((m.gone ++ [m.i]).map fun (n : Nat) => V.int (n : Int))) → (∀ x, x ∉ ns → c2 x = 0) → Tu H1 H2 →
        (∀ m2 : Mc, m2.i = k → m2.c = c2 → m2.told = told2 → m2.gone = m.gone ++ [m.i] → m2.over = m.over → (∀ H', Fr [y, c, t, g] H H' → GoO K H' y c t g rows ns m2 → Q .non H') → Q .non (upd H2 y (.ins (GoC K) dx (putF "at" (.int (k : Nat)) (goF ra c t g (m.i : Nat) m.over))))) := fun H2 k c2 told2 x2 e2 ec2 et2 eg2 out2 tu2 m2 h1 h2 h3 h4 h5 qq => by
      have x3 : Fr [y, c, t, g] H (upd H2 y (.ins (GoC K) dx (putF "at" (.int (k : Nat)) (goF ra c t g (m.i : Nat) m.over)))) := x2.mutT (.head _) e2 trivial
      have t3 : Tu H1 (upd H2 y (.ins (GoC K) dx (putF "at" (.int (k : Nat)) (goF ra c t g (m.i : Nat) m.over)))) := tu2.trans (Fr.refl.mutT (S := [y]) (.head _) e2 trivial).tu
      refine qq _ x3 ⟨⟨dx, ra, us, by rw [upd_same, h1, h5]; rfl, t3 _ _ eu1, rr_mono t3 ru1⟩, by rw [upd_ne yc.symm, h2]; exact ec2, by rw [upd_ne yt.symm, h3]; exact et2, by rw [upd_ne yg.symm, h4]; exact eg2, tg, by rw [h2]; exact out2, nl⟩
    have gl : (goF ra c t g (m.i : Nat) m.over).length < 1000 := by show 6 < 1000; decide
    cases r with
    | fin =>
      obtain ⟨a, rfl, ea⟩ := rv1
      refine ⟨_, rfl, a, _, 0, .str "end", rfl, rfl, SqT.of ea, at0, rfl, _, rfl, ite2 (fun _ => ?_) (fun c => absurd (by decide +kernel) c)⟩
      refine ⟨_, rfl, y, _, dx, _, rfl, ey1, cg, T.a_Goer_is_done, gl, ?_⟩
      have x3 : Fr [y, c, t, g] H (upd H1 y (.ins (GoC K) dx (putF "is_done" (.bl true) (goF ra c t g (m.i : Nat) m.over)))) := x1.mutT (.head _) ey1 trivial
      have t3 : Tu H1 (upd H1 y (.ins (GoC K) dx (putF "is_done" (.bl true) (goF ra c t g (m.i : Nat) m.over)))) := (Fr.refl.mutT (S := [y]) (.head _) ey1 trivial).tu
      exact q _ x3 ⟨⟨dx, ra, us, upd_same, t3 _ _ eu1, rr_mono t3 ru1⟩, by rw [upd_ne yc.symm]; exact ec1, by rw [upd_ne yt.symm]; exact et1, by rw [upd_ne yg.symm]; exact eg1, tg, out, nl⟩
    | ite tm k l =>
      obtain ⟨a, u, rfl, ea, rt⟩ := rv1
      obtain ⟨pu, rfl⟩ := rt_ref rt
      refine ⟨_, rfl, a, _, 0, .str "if", rfl, rfl, SqT.of ea, at0, rfl, _, rfl, ite2 (fun c => absurd c (by decide +kernel)) (fun _ => ?_)⟩
      refine ⟨_, rfl, a, _, 0, .str "if", rfl, rfl, SqT.of ea, at0, rfl, _, rfl, ite2 (fun _ => ?_) (fun c => absurd (by decide +kernel) c)⟩
      refine ⟨_, rfl, _, rfl, a, _, 1, .ref pu, rfl, rfl, SqT.of ea, at1, _, rfl, y, _, dx, _, _, rfl, ey1, cg, T.a_Goer_cells, rfl, pu, c, tm, m.c, _, rfl, rt, cd, vk, ok.1, ok.2, rfl, .inr ⟨_, rfl, _, _, rfl, rfl, ?_⟩⟩
      by_cases hz : tm.worth m.c = 0
      · refine ⟨a, _, 3, .int (l : Nat), rfl, by rw [hz]; rfl, SqT.of ea, at3, _, rfl, y, _, dx, _, rfl, ey1, cg, T.a_Goer_at, gl, ?_⟩
        exact go H1 l m.c m.told x1 ey1 ec1 et1 eg1 out (fun _ _ h => h) (stepM (.ite tm k l) x m) (if_neg (fun h => h hz)) rfl rfl rfl rfl q
      · refine ⟨a, _, 2, .int (k : Nat), rfl, ?_, SqT.of ea, at2, _, rfl, y, _, dx, _, rfl, ey1, cg, T.a_Goer_at, gl, ?_⟩
        · rw [show (!decide (V.int (tm.worth m.c) = V.int 0)) = true by rw [decide_eq_false (fun e => hz (by injection e))]; rfl]
          rfl
        · exact go H1 k m.c m.told x1 ey1 ec1 et1 eg1 out (fun _ _ h => h) (stepM (.ite tm k l) x m) (if_pos hz) rfl rfl rfl rfl q
    | read xx gg k =>
      obtain ⟨a, rfl, ea⟩ := rv1
      have ev : v = .int x := hv.elim (fun h => by cases h) id
      subst ev
      refine ⟨_, rfl, a, _, 0, .str "read", rfl, rfl, SqT.of ea, at0, rfl, _, rfl, ite2 (fun c => absurd c (by decide +kernel)) (fun _ => ?_)⟩
      refine ⟨_, rfl, a, _, 0, .str "read", rfl, rfl, SqT.of ea, at0, rfl, _, rfl, ite2 (fun c => absurd c (by decide +kernel)) (fun _ => ?_)⟩
      refine ⟨_, rfl, a, _, 0, .str "read", rfl, rfl, SqT.of ea, at0, rfl, _, rfl, ite2 (fun _ => ?_) (fun c => absurd (by decide +kernel) c)⟩
      refine ⟨_, rfl, _, rfl, y, _, dx, _, _, rfl, ey1, cg, T.a_Goer_cells, rfl, _, rfl, a, _, 1, .str xx, rfl, rfl, SqT.of ea, at1, c, _, rfl, DPut.k (k := Sum.inr xx) ec1 (small1000 (by rw [cK_len]; omega)), ?_⟩
      have y2 : Fr [c] H1 (upd H1 c (.dK (putK (cK ns m.c) (Sum.inr xx) (.int x)))) := Fr.refl.mutD (.head _) ec1
      have x2 : Fr [y, c, t, g] H (upd H1 c (.dK (putK (cK ns m.c) (Sum.inr xx) (.int x)))) := x1.mutD (by simp) ec1
      have k2 : ∀ {a : Addr} {o : HO}, a ≠ c → H1 a = some o → upd H1 c (.dK (putK (cK ns m.c) (Sum.inr xx) (.int x))) a = some o := fun n e => y2.keep _ _ (fun z => n (List.mem_singleton.mp z)) e
      refine ⟨_, rfl, _, rfl, a, _, _, .int (k : Nat), rfl, rfl, SqT.of (y2.tups _ _ ea), atI_last [V.str "read", V.str xx, V.str gg] (V.int (k : Nat)), _, rfl, y, _, dx, _, rfl, k2 yc ey1, cg, T.a_Goer_at, gl, ?_⟩
      exact go _ k (put m.c xx x) m.told x2 (k2 yc ey1) (by rw [upd_same, cK_put ok.1]) (k2 tc et1) (k2 gc eg1) (fun z hz => (put_ne (fun e : z = xx => hz (by rw [e]; exact ok.1))).trans (out z hz)) y2.tu (stepM (.read xx gg k) x m) rfl rfl rfl rfl rfl q
    | set xx tm k =>
      obtain ⟨a, u, rfl, ea, rt⟩ := rv1
      obtain ⟨pu, rfl⟩ := rt_ref rt
      refine ⟨_, rfl, a, _, 0, .str "set", rfl, rfl, SqT.of ea, at0, rfl, _, rfl, ite2 (fun c => absurd c (by decide +kernel)) (fun _ => ?_)⟩
      refine ⟨_, rfl, a, _, 0, .str "set", rfl, rfl, SqT.of ea, at0, rfl, _, rfl, ite2 (fun c => absurd c (by decide +kernel)) (fun _ => ?_)⟩
      refine ⟨_, rfl, a, _, 0, .str "set", rfl, rfl, SqT.of ea, at0, rfl, _, rfl, ite2 (fun c => absurd c (by decide +kernel)) (fun _ => ?_)⟩
      refine ⟨_, rfl, a, _, 0, .str "set", rfl, rfl, SqT.of ea, at0, rfl, _, rfl, ite2 (fun _ => ?_) (fun c => absurd (by decide +kernel) c)⟩
      refine ⟨_, rfl, a, _, 2, .ref pu, rfl, rfl, SqT.of ea, at2, _, rfl, y, _, dx, _, _, rfl, ey1, cg, T.a_Goer_cells, rfl, pu, c, tm, m.c, _, rfl, rt, cd, vk, ok.2.1, ok.2.2, ?_⟩
      refine ⟨_, rfl, y, _, dx, _, _, rfl, ey1, cg, T.a_Goer_cells, rfl, _, rfl, a, _, 1, .str xx, rfl, rfl, SqT.of ea, at1, c, _, rfl, DPut.k (k := Sum.inr xx) ec1 (small1000 (by rw [cK_len]; omega)), ?_⟩
      have y2 : Fr [c] H1 (upd H1 c (.dK (putK (cK ns m.c) (Sum.inr xx) (.int (tm.worth m.c))))) := Fr.refl.mutD (.head _) ec1
      have x2 : Fr [y, c, t, g] H (upd H1 c (.dK (putK (cK ns m.c) (Sum.inr xx) (.int (tm.worth m.c))))) := x1.mutD (by simp) ec1
      have k2 : ∀ {a : Addr} {o : HO}, a ≠ c → H1 a = some o → upd H1 c (.dK (putK (cK ns m.c) (Sum.inr xx) (.int (tm.worth m.c)))) a = some o := fun n e => y2.keep _ _ (fun z => n (List.mem_singleton.mp z)) e
      refine ⟨_, rfl, _, rfl, a, _, _, .int (k : Nat), rfl, rfl, SqT.of (y2.tups _ _ ea), atI_last [V.str "set", V.str xx, V.ref pu] (V.int (k : Nat)), _, rfl, y, _, dx, _, rfl, k2 yc ey1, cg, T.a_Goer_at, gl, ?_⟩
      exact go _ k (put m.c xx (tm.worth m.c)) m.told x2 (k2 yc ey1) (by rw [upd_same, cK_put ok.1]) (k2 tc et1) (k2 gc eg1) (fun z hz => (put_ne (fun e : z = xx => hz (by rw [e]; exact ok.1))).trans (out z hz)) y2.tu (stepM (.set xx tm k) x m) rfl rfl rfl rfl rfl q
    | tell tm k =>
      obtain ⟨a, u, rfl, ea, rt⟩ := rv1
      obtain ⟨pu, rfl⟩ := rt_ref rt
      refine ⟨_, rfl, a, _, 0, .str "tell", rfl, rfl, SqT.of ea, at0, rfl, _, rfl, ite2 (fun c => absurd c (by decide +kernel)) (fun _ => ?_)⟩
      refine ⟨_, rfl, a, _, 0, .str "tell", rfl, rfl, SqT.of ea, at0, rfl, _, rfl, ite2 (fun c => absurd c (by decide +kernel)) (fun _ => ?_)⟩
      refine ⟨_, rfl, a, _, 0, .str "tell", rfl, rfl, SqT.of ea, at0, rfl, _, rfl, ite2 (fun c => absurd c (by decide +kernel)) (fun _ => ?_)⟩
      refine ⟨_, rfl, a, _, 0, .str "tell", rfl, rfl, SqT.of ea, at0, rfl, _, rfl, ite2 (fun c => absurd c (by decide +kernel)) (fun _ => ?_)⟩
      refine ⟨_, rfl, a, _, 0, .str "tell", rfl, rfl, SqT.of ea, at0, rfl, _, rfl, ite2 (fun _ => ?_) (fun c => absurd (by decide +kernel) c)⟩
      refine ⟨_, rfl, y, _, dx, _, _, rfl, ey1, cg, T.a_Goer_told, rfl, .inl ⟨rfl, _, SqL.of et1⟩, _, rfl, a, _, 1, .ref pu, rfl, rfl, SqT.of ea, at1, _, rfl, y, _, dx, _, _, rfl, ey1, cg, T.a_Goer_cells, rfl, pu, c, tm, m.c, _, rfl, rt, cd, vk, ok.1, ok.2, t, _, _, rfl, rfl, et1, small1000 (by rw [List.length_map]; omega), ?_⟩
      have y2 : Fr [t] H1 (upd H1 t (.lst (m.told.map V.int ++ [.int (tm.worth m.c)]))) := Fr.refl.mutL (.head _) et1
      have x2 : Fr [y, c, t, g] H (upd H1 t (.lst (m.told.map V.int ++ [.int (tm.worth m.c)]))) := x1.mutL (by simp) et1
      have k2 : ∀ {a : Addr} {o : HO}, a ≠ t → H1 a = some o → upd H1 t (.lst (m.told.map V.int ++ [.int (tm.worth m.c)])) a = some o := fun n e => y2.keep _ _ (fun z => n (List.mem_singleton.mp z)) e
      refine ⟨_, rfl, _, rfl, a, _, _, .int (k : Nat), rfl, rfl, SqT.of (y2.tups _ _ ea), atI_last [V.str "tell", V.ref pu] (V.int (k : Nat)), _, rfl, y, _, dx, _, rfl, k2 yt ey1, cg, T.a_Goer_at, gl, ?_⟩
      exact go _ k m.c (m.told ++ [tm.worth m.c]) x2 (k2 yt ey1) (k2 tc.symm ec1) (by rw [upd_same, List.map_append]; rfl) (k2 tg.symm eg1) out y2.tu (stepM (.tell tm k) x m) rfl rfl rfl rfl rfl q
    | sure xs n k =>
      obtain ⟨a, px, rfl, ea, ex⟩ := rv1
      refine ⟨_, rfl, a, _, 0, .str "sure", rfl, rfl, SqT.of ea, at0, rfl, _, rfl, ite2 (fun c => absurd c (by decide +kernel)) (fun _ => ?_)⟩
      refine ⟨_, rfl, a, _, 0, .str "sure", rfl, rfl, SqT.of ea, at0, rfl, _, rfl, ite2 (fun c => absurd c (by decide +kernel)) (fun _ => ?_)⟩
      refine ⟨_, rfl, a, _, 0, .str "sure", rfl, rfl, SqT.of ea, at0, rfl, _, rfl, ite2 (fun c => absurd c (by decide +kernel)) (fun _ => ?_)⟩
      refine ⟨_, rfl, a, _, 0, .str "sure", rfl, rfl, SqT.of ea, at0, rfl, _, rfl, ite2 (fun c => absurd c (by decide +kernel)) (fun _ => ?_)⟩
      refine ⟨_, rfl, a, _, 0, .str "sure", rfl, rfl, SqT.of ea, at0, rfl, _, rfl, ite2 (fun c => absurd c (by decide +kernel)) (fun _ => ?_)⟩
      refine ⟨_, rfl, _, rfl, a, _, _, .int (k : Nat), rfl, rfl, SqT.of ea, atI_last [V.str "sure", V.ref px, V.int n] (V.int (k : Nat)), _, rfl, y, _, dx, _, rfl, ey1, cg, T.a_Goer_at, gl, ?_⟩
      exact go H1 k m.c m.told x1 ey1 ec1 et1 eg1 out (fun _ _ h => h) (stepM (.sure xs n k) x m) rfl rfl rfl rfl rfl q
end
end Kz
set_option Elab.async false
set_option linter.all false
set_option maxRecDepth 100000
set_option maxHeartbeats 4000000
set_option pp.maxSteps 3000
/-! ZLm: functions made within a def, known from then on; handed to another def, called there. -/
namespace Kz
open PySem PySem.Spec PyProof.Rows L2 LamX NdefX
/-- the object at f is the lambda F with the body e -/
def FnL (f : Addr) (F : NF) (e : Expr) : HO := .ext fun h => ∃ (pm ctv : Value), h.get? f = some (PySem.W.kla_obj F.name F.qual F.params e F.scope F.cl pm F.c ctv)
theorem fnL_at {P : Program} {w : World} {H : Hp} {h : Heap} {f : Addr} {F : NF} {e : Expr} (hok : L2.HOk P w H h) (q : H f = some (FnL f F e)) : ∃ (pm ctv : Value), h.get? f = some (PySem.W.kla_obj F.name F.qual F.params e F.scope F.cl pm F.c ctv) := (hok f _ q).1
section
variable {X : Cx} {pins : List (Addr × Obj)} {σ : L2.St} {H : Hp} {s : Shared}
theorem inv_lam {F : NF} {e : Expr} {o : Obj} {t' : Nat} {pm ctv : Value} (I : Inv X pins σ H s) (ho : o = PySem.W.kla_obj F.name F.qual F.params e F.scope F.cl pm F.c ctv) :
    Inv X pins σ (upd H s.heap.objs.size (FnL s.heap.objs.size F e)) { s with heap := s.heap.push o, toks := t' } := by
  subst ho
  refine I.laid (a := s.heap.objs.size) (fun b u q => Heap.get?_push_of_some _ q) (Nat.le_refl _) ?_
  have q : (s.heap.push (PySem.W.kla_obj F.name F.qual F.params e F.scope F.cl pm F.c ctv)).get? s.heap.objs.size = some (PySem.W.kla_obj F.name F.qual F.params e F.scope F.cl pm F.c ctv) := Heap.get?_push_size _ rfl
  exact ⟨⟨pm, ctv, q⟩, ⟨_, q⟩, fun h1 h2 ⟨p, t, z⟩ st => ⟨p, t, st _ z⟩⟩
/-- what is made: the table grows, the code object and the function are new -/
theorem fr_make {P c f : Addr} {ps : Array Value} {o1 o2 o3 : HO} (hP : H P = some (.tbl ps)) (nC : H c = none) (nF : upd (upd H P o1) c o2 f = none) : Fr [P] H (upd (upd (upd H P o1) c o2) f o3) :=
  ((Fr.refl.mutT (.head _) hP trivial).new (by rw [upd_ne (ne_of_none hP nC).symm]; exact nC)).new nF
theorem make_lam {c P : Addr} {params : Arguments} {body : Expr} {scope : Scope} {pos : Pos} {E : Value → Shared → Prop} {Q : Value → Shared → Prop} (I : Inv X pins σ H s) (TB : TabB X.base X.mg c P) (hcode : X.env.code = .ref c)
    (hT : TabS H P (X.env.qual ++ "<lambda>")) (hdef : defaultsOf params X.env = ([], [])) (hfree : ∀ y ∈ scope.names, y.2 = .free → ∃ c, X.env.cells.lookup y.1 = some c)
    (h : ∀ (f c' : Addr) (H1 : Hp) (s' : Shared), Inv X pins σ H1 s' → Fr [P] H H1 → TabS H1 P (X.env.qual ++ "<lambda>") → H f = none → H1 f = some (FnL f ⟨"<lambda>", X.env.qual ++ "<lambda>", params, [], scope, cloFrom X.env.cells scope.names [], c'⟩ body) → H1 c' = some (CodeO c' (X.env.qual ++ "<lambda>")) → Q (.ref f) s') :
    wpAny (model X.prog X.w) X.A (eval (.Lambda params body scope pos) X.env) Q E s := by
  obtain ⟨ps, hP, ht, ha⟩ := hT
  refine PySem.W.kla_eval hdef ?_
  have bP : s.heap.BuiltinsAt X.mg P := TB.bm.keeps I.bk
  have hP' : s.heap.get? P = some { cls := .none, data := .fields ps } := I.hok P _ hP
  cases hc : codeAmong pos ps.toList with
  | none =>
    refine PySem.W.kla_makeFunction (mg := X.mg) (c := c) (P := P) (ps := ps) (closure_ok hfree) I.ok.glob (I.mod.glob.keeps I.bk) hcode (TB.code.keeps I.bk) hP' ht hc TB.gP bP fun c' ctv h' tk hx hge hlt hrec htb => ?_
    obtain ⟨c2, oc, vs, t, e2, hoc, hd, hv⟩ := hrec
    cases e2
    have nC : H c' = none := I.hok.fresh hge
    have nPc : P ≠ c' := ne_of_none hP nC
    have I1 := inv_table (t' := tk) (q := X.env.qual ++ "<lambda>") (more := #[rawInt pos.line, rawInt pos.col, .ref c']) (h' := h') I hP (fun b o hb e => hx b o hb e) htb hge ⟨oc, vs, t, hoc, hd, hv⟩
    have nF := I1.hok.fresh (Nat.le_refl _)
    have I2 := inv_lam (F := ⟨"<lambda>", X.env.qual ++ "<lambda>", params, [], scope, cloFrom X.env.cells scope.names [], c'⟩) (e := body) (t' := tk) (pm := (X.mg "__name__").getD .none) (ctv := ctv) I1 rfl
    have fr := fr_make (o3 := FnL h'.objs.size ⟨"<lambda>", X.env.qual ++ "<lambda>", params, [], scope, cloFrom X.env.cells scope.names [], c'⟩ body) hP nC nF
    have eL : (ps ++ #[rawInt pos.line, rawInt pos.col, .ref c']).toList = ps.toList ++ [rawInt pos.line, rawInt pos.col, .ref c'] := by simp
    have nf : ∀ {b : Addr} {o : HO}, upd (upd H P (.tbl (ps ++ #[rawInt pos.line, rawInt pos.col, .ref c']))) c' (CodeO c' (X.env.qual ++ "<lambda>")) b = some o → upd (upd (upd H P (.tbl (ps ++ #[rawInt pos.line, rawInt pos.col, .ref c']))) c' (CodeO c' (X.env.qual ++ "<lambda>"))) h'.objs.size (FnL h'.objs.size ⟨"<lambda>", X.env.qual ++ "<lambda>", params, [], scope, cloFrom X.env.cells scope.names [], c'⟩ body) b = some o := fun e => (upd_ne (ne_of_none e nF)).trans e
    refine h h'.objs.size c' _ _ I2 fr ⟨_, nf (by rw [upd_ne nPc, upd_same]), by rw [eL]; exact PySem.TriplesOk_snoc _ _ _ _ ht, fun p' cv hcv => ?_⟩ (I.hok.fresh (Nat.le_trans hge (Nat.le_of_lt hlt))) upd_same (nf upd_same)
    rw [eL] at hcv
    rcases among_app _ ht hcv with z | z
    · obtain ⟨c0, e1, e2⟩ := ha p' cv z
      refine ⟨c0, e1, nf ?_⟩
      rw [upd_ne (ne_of_none e2 nC), upd_ne (fun z => by rw [z, hP] at e2; exact codeO_ne ps (Option.some.inj e2).symm)]
      exact e2
    · exact ⟨c', z, nf upd_same⟩
  | some cv =>
    obtain ⟨c', e, hco⟩ := ha pos cv hc
    subst e
    refine PySem.W.kla_makeFunctionHit (mg := X.mg) (c := c) (P := P) (ps := ps) (closure_ok hfree) I.ok.glob (I.mod.glob.keeps I.bk) hcode (TB.code.keeps I.bk) hP' ht hc bP fun ctv h' tk hx hsz => ?_
    have I1 : Inv X pins σ H { s with heap := h', toks := tk } := I.kept hx
    have nF : H h'.objs.size = none := I1.hok.fresh (Nat.le_refl _)
    have I2 := inv_lam (F := ⟨"<lambda>", X.env.qual ++ "<lambda>", params, [], scope, cloFrom X.env.cells scope.names [], c'⟩) (e := body) (t' := tk) (pm := (X.mg "__name__").getD .none) (ctv := ctv) I1 rfl
    have nf : ∀ {b : Addr} {o : HO}, H b = some o → upd H h'.objs.size (FnL h'.objs.size ⟨"<lambda>", X.env.qual ++ "<lambda>", params, [], scope, cloFrom X.env.cells scope.names [], c'⟩ body) b = some o := fun e => (upd_ne (ne_of_none e nF)).trans e
    exact h h'.objs.size c' _ _ I2 (Fr.refl.new nF) (TabS.ext ⟨ps, hP, ht, ha⟩ fun b o e => nf e) nF upd_same (nf hco)
/-- the same for a def -/
theorem make_def {c P : Addr} {name : Str} {params : Arguments} {body : List Stmt} {scope : Scope} {pos : Pos} {E : Value → Shared → Prop} {Q : Value → Shared → Prop} (I : Inv X pins σ H s) (TB : TabB X.base X.mg c P) (hcode : X.env.code = .ref c)
    (hT : TabS H P (X.env.qual ++ name)) (hfree : ∀ y ∈ scope.names, y.2 = .free → ∃ c, X.env.cells.lookup y.1 = some c)
    (h : ∀ (f c' : Addr) (H1 : Hp) (s' : Shared), Inv X pins σ H1 s' → Fr [P] H H1 → TabS H1 P (X.env.qual ++ name) → H f = none → H1 f = some (FnO f ⟨name, X.env.qual ++ name, params, body, scope, cloFrom X.env.cells scope.names [], c'⟩) → H1 c' = some (CodeO c' (X.env.qual ++ name)) → Q (.ref f) s') :
    wpAny (model X.prog X.w) X.A (makeFunction name (X.env.qual ++ name) params (.stmts body) scope X.env [] [] [] pos pos.line) Q E s := by
  obtain ⟨ps, hP, ht, ha⟩ := hT
  have bP : s.heap.BuiltinsAt X.mg P := TB.bm.keeps I.bk
  have hP' : s.heap.get? P = some { cls := .none, data := .fields ps } := I.hok P _ hP
  cases hc : codeAmong pos ps.toList with
  | none =>
    refine PySem.W.makeFunction_K (mg := X.mg) (c := c) (P := P) (ps := ps) (closure_ok hfree) I.ok.glob (I.mod.glob.keeps I.bk) hcode (TB.code.keeps I.bk) hP' ht hc TB.gP bP fun c' ctv doc h' tk hx hge hlt hrec htb => ?_
    obtain ⟨c2, oc, vs, t, e2, hoc, hd, hv⟩ := hrec
    cases e2
    have nC : H c' = none := I.hok.fresh hge
    have nPc : P ≠ c' := ne_of_none hP nC
    have I1 := inv_table (t' := tk) (q := X.env.qual ++ name) (more := #[rawInt pos.line, rawInt pos.col, .ref c']) (h' := h') I hP (fun b o hb e => hx b o hb e) htb hge ⟨oc, vs, t, hoc, hd, hv⟩
    have nF := I1.hok.fresh (Nat.le_refl _)
    have I2 := inv_fn (F := ⟨name, X.env.qual ++ name, params, body, scope, cloFrom X.env.cells scope.names [], c'⟩) (t' := tk) (doc := doc) (pm := (X.mg "__name__").getD .none) (ctv := ctv) I1 rfl
    have fr := fr_make (o3 := FnO h'.objs.size ⟨name, X.env.qual ++ name, params, body, scope, cloFrom X.env.cells scope.names [], c'⟩) hP nC nF
    have eL : (ps ++ #[rawInt pos.line, rawInt pos.col, .ref c']).toList = ps.toList ++ [rawInt pos.line, rawInt pos.col, .ref c'] := by simp
    have nf : ∀ {b : Addr} {o : HO}, upd (upd H P (.tbl (ps ++ #[rawInt pos.line, rawInt pos.col, .ref c']))) c' (CodeO c' (X.env.qual ++ name)) b = some o → upd (upd (upd H P (.tbl (ps ++ #[rawInt pos.line, rawInt pos.col, .ref c']))) c' (CodeO c' (X.env.qual ++ name))) h'.objs.size (FnO h'.objs.size ⟨name, X.env.qual ++ name, params, body, scope, cloFrom X.env.cells scope.names [], c'⟩) b = some o := fun e => (upd_ne (ne_of_none e nF)).trans e
    refine h h'.objs.size c' _ _ I2 fr ⟨_, nf (by rw [upd_ne nPc, upd_same]), by rw [eL]; exact PySem.TriplesOk_snoc _ _ _ _ ht, fun p' cv hcv => ?_⟩ (I.hok.fresh (Nat.le_trans hge (Nat.le_of_lt hlt))) upd_same (nf upd_same)
    rw [eL] at hcv
    rcases among_app _ ht hcv with z | z
    · obtain ⟨c0, e1, e2⟩ := ha p' cv z
      refine ⟨c0, e1, nf ?_⟩
      rw [upd_ne (ne_of_none e2 nC), upd_ne (fun z => by rw [z, hP] at e2; exact codeO_ne ps (Option.some.inj e2).symm)]
      exact e2
    · exact ⟨c', z, nf upd_same⟩
  | some cv =>
    obtain ⟨c', e, hco⟩ := ha pos cv hc
    subst e
    refine PySem.W.makeFunction_hit (mg := X.mg) (c := c) (P := P) (ps := ps) (closure_ok hfree) I.ok.glob (I.mod.glob.keeps I.bk) hcode (TB.code.keeps I.bk) hP' ht hc bP fun ctv doc h' tk hx hsz => ?_
    have I1 : Inv X pins σ H { s with heap := h', toks := tk } := I.kept hx
    have nF : H h'.objs.size = none := I1.hok.fresh (Nat.le_refl _)
    have I2 := inv_fn (F := ⟨name, X.env.qual ++ name, params, body, scope, cloFrom X.env.cells scope.names [], c'⟩) (t' := tk) (doc := doc) (pm := (X.mg "__name__").getD .none) (ctv := ctv) I1 rfl
    have nf : ∀ {b : Addr} {o : HO}, H b = some o → upd H h'.objs.size (FnO h'.objs.size ⟨name, X.env.qual ++ name, params, body, scope, cloFrom X.env.cells scope.names [], c'⟩) b = some o := fun e => (upd_ne (ne_of_none e nF)).trans e
    exact h h'.objs.size c' _ _ I2 (Fr.refl.new nF) (TabS.ext ⟨ps, hP, ht, ha⟩ fun b o e => nf e) nF upd_same (nf hco)
end
section
variable {X : Cx}
/-- the reading of a lambda -/
def tLamE (P : Addr) (q : Str) (mk : Addr → NF) (body : Expr) : TE := fun σ H Q => TabS H P q ∧ ∀ (f c' : Addr) (H1 : Hp), Fr [P] H H1 → TabS H1 P q → H f = none → H1 f = some (FnL f (mk c') body) → H1 c' = some (CodeO c' q) → Q (.ref f) H1
theorem pe_lam {c P : Addr} {params : Arguments} {body : Expr} {scope : Scope} {pos : Pos} (TB : TabB X.base X.mg c P) (hcode : X.env.code = .ref c) (hdef : defaultsOf params X.env = ([], [])) (hfree : ∀ y ∈ scope.names, y.2 = .free → X.env.scope.names.lookup y.1 = some .cell ∨ X.env.scope.names.lookup y.1 = some .free) :
    PE X (.Lambda params body scope pos) (tLamE P (X.env.qual ++ "<lambda>") (fun c' => ⟨"<lambda>", X.env.qual ++ "<lambda>", params, [], scope, cloFrom X.env.cells scope.names [], c'⟩) body) := by
  refine ⟨fun pins s σ H Q I ⟨hT, h⟩ => ?_⟩
  refine make_lam I TB hcode hT hdef (fun y hy e => (hfree y hy e).elim (fun z => I.ok.has _ (.inl z)) fun z => I.ok.has _ (.inr z)) fun f c' H1 s' I1 fr T1 f0 f1 c1 => ?_
  exact ⟨.ref f, H1, I1, rfl, h f c' H1 fr T1 f0 f1 c1⟩
/-- the reading of a def within a def -/
def tDefE (P : Addr) (q : Str) (i : Nat) (mk : Addr → NF) : TS := fun D σ H => TabS H P q ∧ ∀ (f c' : Addr) (H1 : Hp), Fr [P] H H1 → TabS H1 P q → H f = none → H1 f = some (FnO f (mk c')) → H1 c' = some (CodeO c' q) → D.nx (σ.set i (some (.ref f))) H1
theorem ps_def {c P : Addr} {name : Str} {params : Arguments} {body : List Stmt} {scope : Scope} {pos : Pos} {i : Nat} (TB : TabB X.base X.mg c P) (hcode : X.env.code = .ref c)
    (hfree : ∀ y ∈ scope.names, y.2 = .free → X.env.scope.names.lookup y.1 = some .cell ∨ X.env.scope.names.lookup y.1 = some .free) (hd0 : params.defaults = []) (hk0 : params.kw_defaults = []) (ha : annTrees params none X.env = [])
    (hN : X.N.Nodup) (hi : X.N[i]? = some name) (hx : Loc X.env.scope name) (hf : X.fn name = true ∨ X.env.scope.names.lookup name = some .local) :
    PS X (.FunctionDef name params body [] none [] scope none name pos) (tDefE P (X.env.qual ++ name) i fun c' => ⟨name, X.env.qual ++ name, params, body, scope, cloFrom X.env.cells scope.names [], c'⟩) := by
  refine ⟨fun pins s σ H D I ⟨hT, h⟩ => ?_⟩
  have hq : qualnameIn X.env name name = X.env.qual ++ name := by
    have hk : X.env.kindOf name = some .local ∨ X.env.kindOf name = some .cell := hx
    unfold qualnameIn
    rcases hk with k | k <;> rw [k] <;> first | rfl | exact if_neg (by decide)
  refine PySem.W.nestDef_K hd0 hk0 ha ?_
  rw [hq]
  refine make_def I TB hcode hT (fun y hy e => (hfree y hy e).elim (fun z => I.ok.has _ (.inl z)) fun z => I.ok.has _ (.inr z)) fun f c' H1 s' I1 fr T1 f0 f1 c1 => ?_
  exact store_ok I1 hN hi hx (v := .ref f) rfl (fun s'' J => ⟨_, H1, J, h f c' H1 fr T1 f0 f1 c1⟩) hf
end
/-! ### what it promises, however it was made -/
structure FOk (P : Program) (w : World) (K : PySem.W.Frag) (mg : Str → Option Value) (base : Heap) (k : Nat) (f : Addr) (F : NF) (O : HO) (fr : List Str) (sp : List (Option V) → Sp) : Prop where
  at_ : ∀ {H : Hp} {h : Heap}, L2.HOk P w H h → H f = some O → PySem.W.FnAt f h
  run : ∀ (A : Around) (outer : List Env) (s : Shared) (H : Hp) (us : List Value) (vs : List V) (ws : List (Option V)) (Q : VK), Room k A → Env0 P w K mg base A outer s H → H f = some O → H F.c = some (CodeO F.c F.qual) →
    CellsAt F.cl fr ws s.heap H → Vals vs us → sp ws vs H Q E0 → codeAny (model P w) A (.call (.ref f) ⟨us, []⟩) (CR CX0 outer P w H s Q E0) s
section
variable {P : Program} {w : World} {K : PySem.W.Frag} {mg : Str → Option Value} {base : Heap} {N ps fr : List Str} {F : NF} {f : Addr} {k : Nat} {sp : List (Option V) → Sp}
theorem fok_def (S : NScope N ps fr F.scope) (hb : ∀ (doc pm ctv : Value) (us : List Value), us.length = ps.length → bindArgs (F.fd doc pm ctv) ⟨us, []⟩ = pure (ps.zip us)) (len : ∀ ws vs H Q E, sp ws vs H Q E → vs.length = ps.length)
    (hbody : ∀ (A : Around) (outer : List Env) (s : Shared) (H : Hp) (vs : List V) (ws : List (Option V)) (Q : VK) (E : XK), Room k (A.deeper (envF F f s.heap.objs.size)) → ws.length = fr.length → sp ws vs H Q E →
      ∃ t, PSs (ncx CX0 P w K mg base N F f A outer s H E) F.body t ∧ t { nx := fun _ H' => Q .non H', rt := Q } (startF N vs ws) H) : FOk P w K mg base (k + 1) f F (FnO f F) fr sp :=
  have q := nok_of (CX := CX0) (P := P) (w := w) (K := K) (mg := mg) (base := base) (f := f) S hb len fun A outer s H vs ws Q E hr _ _ l h => hbody A outer s H vs ws Q E hr l h
  ⟨fun hok e => let ⟨od, sl, doc, pm, ctv, ho⟩ := fnO_at hok e; ⟨_, od, _, sl, ho⟩, fun A outer s H us vs ws Q hr e0 hf hc C r h => q.run A outer s H us vs ws Q E0 hr e0 hf hc C r h⟩
theorem fok_lam {body : Expr} (S : NScope N ps fr F.scope) (hb : ∀ (pm ctv : Value) (us : List Value), us.length = ps.length → bindArgs (PySem.W.kla_fn F.name F.qual F.params body F.scope F.cl pm (.ref F.c) ctv) ⟨us, []⟩ = pure (ps.zip us)) (len : ∀ ws vs H Q E, sp ws vs H Q E → vs.length = ps.length)
    (hbody : ∀ (A : Around) (outer : List Env) (s : Shared) (H : Hp) (vs : List V) (ws : List (Option V)) (Q : VK) (E : XK), Room k (A.deeper (envF F f s.heap.objs.size)) → ws.length = fr.length → sp ws vs H Q E →
      ∃ t, PE (ncx CX0 P w K mg base N F f A outer s H E) body t ∧ t (startF N vs ws) H Q) : FOk P w K mg base (k + 1) f F (FnL f F body) fr sp := by
  refine ⟨fun hok e => let ⟨pm, ctv, ho⟩ := fnL_at hok e; ⟨_, _, _, _, ho⟩, fun A outer s H us vs ws Q hr e0 hf hc C r hsp => ?_⟩
  have hl := len _ _ _ _ _ hsp
  have lim : s.heap.NoLimit := e0.mod.nolimit.keeps fun b o e => (e0.bs b o e).1
  obtain ⟨pm, ctv, ho⟩ := fnL_at e0.hok hf
  refine PySem.W.kla_callFunE hr.depth ho rfl S.co S.gen rfl (codeO_at e0.hok hc) ?_
  rw [hb pm ctv us (by rw [← r.length]; exact hl)]
  refine wpAny_pure (wpAny_newFunctionEnv S.nocell (fun ⟨n, _⟩ hy => S.par n (List.of_mem_zip hy).1) (fun h₁ hns hsb => ⟨lim.fresh _ hsb, ?_⟩) S.kind)
  show codeAny _ _ (.expr body (envF F f s.heap.objs.size)) _ _
  have kp : ∀ b o, s.heap.get? b = some o → h₁.get? b = some o := fun b o e => hsb.extBut b o (Nat.ne_of_lt (Heap.lt_size e)) (Heap.get?_push_of_some _ e)
  obtain ⟨t, ht, hq⟩ := hbody A outer s H vs ws Q E0 (hr.deeper _) C.len hsp
  have I : Inv (ncx CX0 P w K mg base N F f A outer s H E0) [] (startF N vs ws) H { s with heap := h₁, toks := s.toks + (ps.zip us).length } := inv_startN S hr.hd e0 hl r C hns kp
  refine PySem.W.kla_codeExpr (wpAny_mono (ht.run [] _ (startF N vs ws) H Q I hq) (fun v s' hs => ?_) fun e s' hs => hs)
  obtain ⟨w', H', J, rv, q⟩ := hs
  exact ⟨w', H', J.os, J.bare, J.base, J.hok, rv, q⟩
end
/-! ### called in the def that got it -/
def TkC (inp : Nat → Str → Int) (Gs : Str → Prop) (vs : List V) (H : Hp) (Q : VK) : Prop := ∃ (k : Nat) (g : Str), vs = [.int (k : Nat), .str g] ∧ k < 280 ∧ Gs g ∧ ∀ H', Fr [] H H' → Q (.int (inp k g)) H'
structure Callee (X : Cx) (f : Addr) (Gs : Str → Prop) (inp : Nat → Str → Int) : Prop where
  at_ : ∀ pins s σ H, Inv X pins σ H s → Fr [] X.H_0 H → PySem.W.FnAt f s.heap
  run : ∀ pins s σ H us vs Q, Inv X pins σ H s → Fr [] X.H_0 H → Vals vs us → TkC inp Gs vs H Q → codeAny (model X.prog X.w) X.A (.call (.ref f) ⟨us, []⟩) (CR CX0 X.stack X.prog X.w H s Q E0) s
section
variable {X : Cx} {f : Addr} {F : NF} {O : HO} {fr : List Str} {k : Nat} {sp : List (Option V) → Sp} {ws : List (Option V)} {Gs : Str → Prop} {inp : Nat → Str → Int}
theorem callee_of (Fo : FOk X.prog X.w X.K X.mg X.base k f F O fr sp) (hr : Room k X.A) (hf : X.H_0 f = some O) (hc : X.H_0 F.c = some (CodeO F.c F.qual)) (C0 : CellsAt F.cl fr ws X.s_0.heap X.H_0) (nf : ∀ y c, F.cl.lookup y = some c → c ∉ X.fs) (hx : ∀ y c, F.cl.lookup y = some c → c ∉ X.ex)
    (hsp : ∀ vs H Q, Fr [] X.H_0 H → TkC inp Gs vs H Q → sp ws vs H Q E0) : Callee X f Gs inp := by
  have nn : ∀ {a : Addr}, a ∉ ([] : List Addr) := fun z => nomatch z
  exact ⟨fun pins s σ H I x => Fo.at_ I.hok (x.keep _ _ nn hf), fun pins s σ H us vs Q I x r q => Fo.run X.A X.stack s H us vs ws Q hr I.env0 (x.keep _ _ nn hf) (x.keep _ _ nn hc) (CellsAt.later C0 nf hx I) r (hsp vs H Q x q)⟩
/-- take(e, ..) -/
def tTk (X : Cx) (i : Nat) (f : Addr) (Gs : Str → Prop) (inp : Nat → Str → Int) (ta : TA) : TE := fun σ H Q => σ[i]? = some (some (.ref f)) ∧ Fr [] X.H_0 H ∧ ta σ H fun vs H1 => Fr [] X.H_0 H1 ∧ TkC inp Gs vs H1 Q
theorem pe_take {x : Str} {i : Nat} {p pos : Pos} {e : Expr} {es : List Expr} {ta : TA} (C : Callee X f Gs inp) (hN : X.N[i]? = some x) (hv : Vis X.env.scope x) (ha : PA X (e :: es) ta)
    (he : starEach (e :: es) X.env = (false, eval e X.env) :: starEach es X.env) (hpl : (backTo pos (starEach es X.env)).any (·.1) = false) (hd : (x == ("__debug__" : Str)) = false := by decide) (hcd : (x == ("__classdict__" : Str)) = false := by decide) :
    PE X (.Call (.Name x p) (e :: es) [] pos) (tTk X i f Gs inp ta) := by
  refine ⟨fun pins s σ H Q I h => ?_⟩
  obtain ⟨hs, x0, ht⟩ := h
  refine wpAny_Call_Name_kw (thn ((pe_var (pos := p) hN hv hd hcd).run pins s σ H (fun v H1 => v = .ref f ∧ H1 = H) I ⟨.ref f, hs, rfl, rfl⟩) fun u s1 ⟨v, H1, I1, r1, q1⟩ => ?_)
  obtain ⟨ev, eH⟩ := q1
  subst ev
  rw [eH] at I1
  obtain rfl : u = Value.ref f := r1
  refine PySem.W.callWith_F (first := []) (C.at_ pins s1 σ H I1 x0) (thn (ha.run pos pins s1 σ H _ I1 ht) fun us s2 ⟨vs, H2, I2, r, x2, q⟩ => ⟨C.at_ pins s2 σ H2 I2 x2, ?_⟩) he hpl
  show wpAny _ _ (call (.ref f) us) _ _ _
  refine wpAny_call (codeAny_mono (C.run pins s2 σ H2 us vs Q I2 x2 r q) fun r s' hq => ?_)
  cases r with
  | error e => exact (show False from hq).elim
  | ok fl =>
    cases fl with
    | ret u => exact I2.after hq
    | next => exact False.elim hq
    | brk => exact False.elim hq
    | cont => exact False.elim hq
end
/-- a cell of a def's own is no frame -/
theorem cell_nofr {X : Cx} {pins : List (Addr × Obj)} {σ : L2.St} {H : Hp} {s : Shared} (I : Inv X pins σ H s) {y : Str} {c : Addr} (hfn : X.fn y = true) (e : X.env.cells.lookup y = some c) : c ∉ frs X.stack := fun z => by
  rcases List.mem_cons.mp (I.stkSub c z) with q | q
  · exact I.cne y c e q
  · obtain ⟨_, o, ho, _⟩ := I.ok.funs.mem q
    exact absurd (Heap.lt_size ho) (Nat.not_lt_of_le (I.ok.cab y c hfn e))
end Kz
set_option Elab.async false
set_option linter.all false
set_option maxRecDepth 100000
set_option maxHeartbeats 4000000
set_option pp.maxSteps 3000
/-! ZRn: run_with. -/
namespace Kz
open PySem PySem.Spec PyProof.Rows L2 LamX NdefX
theorem tm_nm {C C' : Str → Prop} {t : Tm} (h : t.Ok C) (k : ∀ x ∈ cellsT t, C' x) : t.Ok C' := by
  induction t with
  | num z => exact h
  | cell y => exact k y (List.mem_singleton.mpr rfl)
  | op s a b iha ihb => exact ⟨h.1, iha h.2.1 fun x hx => k x (List.mem_append_left _ hx), ihb h.2.2 fun x hx => k x (List.mem_append_right _ hx)⟩
theorem pd_mem {α β : Type} {F : α → β → Prop} {a : List α} {b : List β} (h : Paired F a b) {y : β} (hy : y ∈ b) : ∃ x, F x y := by
  obtain ⟨i, hi, e⟩ := List.mem_iff_getElem.mp hy
  obtain ⟨x, _, q⟩ := pd_at' h (i := i) (y := y) (by rw [List.getElem?_eq_getElem hi, e])
  exact ⟨x, q⟩
theorem wf_nm {H : Hp} {C C' G : Str → Prop} {env : Env'} (hE : ∀ f b, env f = some b → ∃ vs, RL H 6 vs b ∧ ∀ s ∈ b, ∀ x ∈ nmS 6 s, C' x) : ∀ {n k : Nat} {v : V} {s : Sm}, RS H k v s → Wf C G env n s → (∀ x ∈ nmS k s, C' x) → Wf C' G env n s := by
  intro n
  induction n with
  | zero =>
    intro k v s r w h
    cases s with
    | set x t => exact ⟨h x (by cases k <;> exact List.mem_cons_self), tm_nm w.2.1 fun y hy => h y (by cases k <;> exact List.mem_cons_of_mem _ hy), w.2.2⟩
    | read x g => exact ⟨h x (by cases k <;> exact List.mem_cons_self), w.2⟩
    | tell t => exact ⟨tm_nm w.1 fun y hy => h y (by cases k <;> exact hy), w.2⟩
    | sure xs z => exact ⟨fun x hx => h x (by cases k <;> exact hx), w.2⟩
    | _ => exact w.elim
  | succ n ih =>
    have sub : ∀ {k : Nat} {vs : List V} {b : List Sm}, RL H k vs b → (∀ s ∈ b, Wf C G env n s) → (∀ x ∈ b.flatMap (nmS k), C' x) → ∀ s ∈ b, Wf C' G env n s := fun r w h s hs => by
      obtain ⟨v, q⟩ := pd_mem r hs
      exact ih q (w s hs) fun x hx => h x (List.mem_flatMap.mpr ⟨s, hs, hx⟩)
    intro k v s r w h
    cases s with
    | set x t => exact ⟨h x (by cases k <;> exact List.mem_cons_self), tm_nm w.2.1 fun y hy => h y (by cases k <;> exact List.mem_cons_of_mem _ hy), w.2.2⟩
    | read x g => exact ⟨h x (by cases k <;> exact List.mem_cons_self), w.2⟩
    | tell t => exact ⟨tm_nm w.1 fun y hy => h y (by cases k <;> exact hy), w.2⟩
    | sure xs z => exact ⟨fun x hx => h x (by cases k <;> exact hx), w.2⟩
    | ite t a b =>
      cases k with
      | zero => exact r.elim
      | succ k =>
        obtain ⟨_, _, _, _, _, _, _, _, _, _, ra, _, rb⟩ := r
        refine ⟨⟨tm_nm w.1.1 fun y hy => h y (List.mem_append_left _ hy), w.1.2⟩, sub ra w.2.1 fun x hx => h x (List.mem_append_right _ (List.mem_append_left _ hx)), sub rb w.2.2 fun x hx => h x (List.mem_append_right _ (List.mem_append_right _ hx))⟩
    | wh t b =>
      cases k with
      | zero => exact r.elim
      | succ k =>
        obtain ⟨_, _, _, _, _, _, _, _, rb⟩ := r
        exact ⟨⟨tm_nm w.1.1 fun y hy => h y (List.mem_append_left _ hy), w.1.2⟩, sub rb w.2 fun x hx => h x (List.mem_append_right _ hx)⟩
    | times m b =>
      cases k with
      | zero => exact r.elim
      | succ k =>
        obtain ⟨_, _, _, _, _, _, rb⟩ := r
        exact ⟨w.1, sub rb w.2 fun x hx => h x hx⟩
    | call f =>
      obtain ⟨b, e, wb⟩ := w
      obtain ⟨vs, rb, hb⟩ := hE f b e
      exact ⟨b, e, sub rb wb fun x hx => by
        obtain ⟨s, hs, hx⟩ := List.mem_flatMap.mp hx
        exact hb s hs x hx⟩
/-- the rows of a program, their names among those that it names -/
theorem rows_ok {H : Hp} {ws ns : List Str} {G : Str → Prop} {p : Addr} {Pg : Prg} (rp : RPg H 6 p Pg) (pw : PgW ws G Pg) (hn : ∀ x ∈ Pg.nm, x ∈ ns) : ∀ r ∈ (plP Pg).lay 0 (plP Pg).size ++ [.fin], r.Ok (· ∈ ns) G := fun r hr => by
  obtain ⟨g, h, b, hv, bv, ep, eg, ehn, hp, eb, rlb⟩ := rp.ex
  rcases List.mem_append.mp hr with hr | hr
  · have hE : ∀ f b, envL Pg.helpers f = some b → ∃ vs, RL H 6 vs b ∧ ∀ s ∈ b, ∀ x ∈ nmS 6 s, x ∈ ns := fun f b e => by
      obtain ⟨hh, h1, h2, h3⟩ := envL_some e
      obtain ⟨v, a, q, vb, _, _, _, rl⟩ := pd_mem hp h1
      rw [← h3]
      exact ⟨vb, rl, fun s hs x hx => hn x (List.mem_flatMap.mpr ⟨hh.2, List.mem_append_left _ (List.mem_map.mpr ⟨hh, h1, rfl⟩), List.mem_flatMap.mpr ⟨s, hs, hx⟩⟩)⟩
    have wf : ∀ s ∈ Pg.body, Wf (· ∈ ns) G (envL Pg.helpers) 12 s := fun s hs => by
      obtain ⟨v, q⟩ := pd_mem rlb hs
      exact wf_nm hE q (pw.bw s hs) fun x hx => hn x (List.mem_flatMap.mpr ⟨Pg.body, List.mem_append_right _ (List.mem_singleton.mpr rfl), List.mem_flatMap.mpr ⟨s, hs, hx⟩⟩)
    have ok : (plP Pg).Ok (· ∈ ns) G := plL_ok fun s hs => plS_ok ((wf s hs).up (by decide : 12 ≤ NN))
    exact Pl.lay_ok ok r hr
  · rw [List.mem_singleton.mp hr]
    trivial
section
variable {P : Program} {w : World} {K : PySem.W.Frag} {mg : Str → Option Value} {base : Heap}
theorem ok_run (T : Tp K mg) {ws : List Str} {G Gs : Str → Prop} {inp : Nat → Str → Int} {A : Around} {outer : List Env} {s : Shared} {H : Hp} {f : Addr} {cdv : Value} {E : XK} {p tk : Addr} {Pg : Prg} {n : Nat} {e : Mc} {Q : VK}
    (hr : Room 32 (A.deeper (envOfC "run_with" (defScope s_run_with) s.heap.objs.size f cdv))) (htk : Callee (cxOf CX0 P w K mg base N_run_with "run_with" (defScope s_run_with) f cdv A outer s H E).nox tk Gs inp)
    (rp : RPg H 6 p Pg) (pw : PgW ws G Pg) (hG : ∀ g, G g → Gs g) (hI : Inp inp) (go : goM ((plP Pg).lay 0 (plP Pg).size ++ [.fin]) inp n m0 = some e) (hn : n ≤ 280)
    (q : ∀ qa pt pc pg H' (ns : List Str), Fr [] H H' → H' qa = some (.tup [.ref pt, .ref pc, .ref pg]) → H' pt = some (.tup (e.told.map V.int)) → H' pc = some (.dK (cK ns e.c)) → H' pg = some (.tup (e.gone.map fun (n : Nat) => V.int (n : Int))) → ns.Nodup → (∀ x, x ∈ ns ↔ x ∈ Pg.nm) → ns.length ≤ 60 → Q (.ref qa) H') :
    ∃ t, PSs (cxOf CX0 P w K mg base N_run_with "run_with" (defScope s_run_with) f cdv A outer s H E).nox (defBody s_run_with) t ∧ t { nx := fun _ H' => Q .non H', rt := Q } (L2.start N_run_with [.ref p, .ref tk, .int 500]) H := by
  have K_Goer := ok_ginit (P := P) (w := w) (base := base) T (ws := ws) (G := G)
  have M_wants := ok_wants (P := P) (w := w) (base := base) T
  have M_step_on := ok_step (P := P) (w := w) (base := base) T
  have hu := hu_of hr
  refine ⟨_, (pss_cons (ps_set (i := 3) sc_run_with.nd rfl (Or.inl rfl) (pe_K K_Goer (hr.mono (by omega)) (by rfl) (pa_cons (pv 0) pa_nil)))
    (pss_cons (ps_set (i := 4) sc_run_with.nd rfl (Or.inl rfl) pe_int)
    (pss_cons (ps_while PassesOwn.never (pt_not (pt_val (pe_fld (pv 3) rfl))) (pss_cons (ps_set (i := 5) sc_run_with.nd rfl (Or.inl rfl) pe_non)
      (pss_cons (ps_if (pt_cmpR op_notN (pe_M0 (pv 3) M_wants (hr.mono (by omega))) pe_non (nomark _)) (pss_cons (ps_set (i := 5) sc_run_with.nd rfl (Or.inl rfl) (pe_take htk (i := 1) rfl (Or.inl rfl) (pa_cons (pv 4) (pa_cons (pe_M0 (pv 3) M_wants (hr.mono (by omega))) pa_nil)) (by rfl) (by rfl)))
        (pss_cons (ps_if (pt_cmpR op_isN (pv 5) pe_non (nomark _)) (pss_one ps_never)
         pss_nil)
        (pss_one (ps_aug (i := 4) sc_run_with.nd rfl (Or.inl rfl) pe_int ip_add))))
       pss_nil)
      (pss_cons (ps_if (pt_cmpR op_eq (pe_callB call_len_seq (by rfl) T.n_len PySem.boot_len (pa_cons (pe_fld (pv 3) rfl) pa_nil)) (pv 2) (nomark _)) (pss_one ps_never)
       pss_nil)
      (pss_one (ps_expr (pe_M (pv 3) M_step_on (hr.mono (by omega)) (pa_cons (pv 5) pa_nil))))))))
    (pss_one (ps_ret (pe_tupC (pa_cons (pe_callTy call_tupC (by rfl) T.n_tuple (by decide +kernel) (pa_cons (pe_fld (pv 3) rfl) pa_nil)) (pa_cons (pe_fld (pv 3) rfl) (pa_cons (pe_callTy call_tupC (by rfl) T.n_tuple (by decide +kernel) (pa_cons (pe_fld (pv 3) rfl) pa_nil)) pa_nil))))))))), ?_⟩
  have cg := T.c_Goer
  refine ⟨_, rfl, fun y dx ny ndx nyd => ?_⟩
  have x1 : Fr [] H (upd (upd H dx (.own y)) y (.ins (GoC K) dx [])) := by
    have a : Fr [] H (upd H dx (.own y)) := Fr.refl.new ndx
    exact a.new (by rw [upd_ne nyd.symm]; exact ny)
  have ey1 : upd (upd H dx (.own y)) y (.ins (GoC K) dx []) y = some (.ins (GoC K) dx []) := upd_same
  generalize upd (upd H dx (.own y)) y (.ins (GoC K) dx []) = H1 at x1 ey1 ⊢
  refine ⟨y, dx, p, Pg, rfl, ey1, rp.fr x1, pw, fun c t g ns H2 nc nt ng fr o nd mm => ⟨rfl, ?_⟩⟩
  have bc : H c = none := x1.back _ nc
  have bt : H t = none := x1.back _ nt
  have bg : H g = none := x1.back _ ng
  have x2 : Fr [] H H2 := x1.step fr fun a h => by rw [List.mem_singleton.mp h]; exact .inr ny
  have rok := rows_ok rp pw (ns := ns) fun x hx => (mm x).mpr hx
  generalize hrw : (plP Pg).lay 0 (plP Pg).size ++ [.fin] = rows at o go rok
  have nl := o.nl
  refine ⟨fun m σ' H' => ∃ (m2 : Mc) (y5 : Option V), σ' = [some (V.ref p), some (V.ref tk), some (V.int 500), some (V.ref y), some (V.int (m2.used : Nat)), y5] ∧ GoO K H' y c t g rows ns m2 ∧ Vok m2.c ∧ m2.used ≤ m2.gone.length ∧ m2.told.length ≤ m2.gone.length ∧
    ((m2.over = false ∧ goM rows inp m m2 = some e ∧ m2.gone.length + m ≤ 280) ∨ (m2.over = true ∧ m2 = e)) ∧ Fr [] H H', ⟨n, m0, _, rfl, o, vok0, Nat.le_refl 0, Nat.le_refl 0, .inl ⟨rfl, go, by show 0 + n ≤ 280; omega⟩, x2⟩, fun m σ' H' hW => ?_⟩
  obtain ⟨m2, y5, rfl, o2, vk, us, ts, cs, xx⟩ := hW
  obtain ⟨dx2, ra, rus, ey, eu, ru⟩ := id o2.ex
  refine ⟨_, rfl, y, _, dx2, _, _, rfl, ey, cg, T.a_Goer_is_done, rfl, _, rfl, ?_⟩
  rcases cs with ⟨hov, go2, hlen⟩ | ⟨hov, rfl⟩
  · rw [hov]
    refine ⟨fun σ' H' => ∃ m', m' < m ∧ ∃ (m2 : Mc) (y5 : Option V), σ' = [some (V.ref p), some (V.ref tk), some (V.int 500), some (V.ref y), some (V.int (m2.used : Nat)), y5] ∧ GoO K H' y c t g rows ns m2 ∧ Vok m2.c ∧ m2.used ≤ m2.gone.length ∧ m2.told.length ≤ m2.gone.length ∧
      ((m2.over = false ∧ goM rows inp m' m2 = some e ∧ m2.gone.length + m' ≤ 280) ∨ (m2.over = true ∧ m2 = e)) ∧ Fr [] H H', fun _ _ h => h, ?_⟩
    cases m with
    | zero => cases go2
    | succ m =>
      unfold goM at go2
      cases er : rows[m2.i]? with
      | none => rw [er] at go2; cases go2
      | some r =>
        rw [er] at go2
        have go2 : (if (stepM r (inpOf inp r m2) m2).over = true then some (stepM r (inpOf inp r m2) m2) else goM rows inp m (stepM r (inpOf inp r m2) m2)) = some e := go2
        have hrok := rok r (List.mem_of_getElem? er)
        -- what is read
        refine seq_cut (fun σ' H2 => σ' = [some (V.ref p), some (V.ref tk), some (V.int 500), some (V.ref y), some (V.int (m2.used : Nat)), some V.non] ∧ H2 = H') (fun D' hQ _ _ _ => hQ _ _ ⟨rfl, rfl⟩) (fun σ' H2 hP => ?_)
        obtain ⟨rfl, hH⟩ := hP
        rw [hH]
        clear hH H2
        refine seq_cut (fun σ' H2 => ∃ v : V, σ' = [some (V.ref p), some (V.ref tk), some (V.int 500), some (V.ref y), some (V.int ((stepM r (inpOf inp r m2) m2).used : Nat)), some v] ∧ Fr [] H' H2 ∧ (r.wants = none ∨ v = .int (inpOf inp r m2))) (fun D' hQ _ _ _ => ?_) (fun σ' H2 hP => ?_)
        · refine ⟨_, rfl, y, dx2, _, rfl, ey, rfl, y, c, t, g, rows, ns, m2, r, rfl, o2, er, rfl, _, rfl, ?_⟩
          cases hwn : r.wants with
          | none =>
            have e1 : wV r = .non := by unfold wV; rw [hwn]
            rw [e1]
            have e2 : (stepM r (inpOf inp r m2) m2).used = m2.used := by cases r <;> first | rfl | cases hwn
            rw [e2] at hQ
            exact ite2 (fun c => absurd c (by decide)) (fun _ => hQ _ _ ⟨.non, rfl, Fr.refl, .inl hwn⟩)
          | some gg =>
            have e1 : wV r = .str gg := by unfold wV; rw [hwn]
            have e2 : (stepM r (inpOf inp r m2) m2).used = m2.used + 1 := by cases r <;> first | rfl | cases hwn
            have e3 : inpOf inp r m2 = inp m2.used gg := by unfold inpOf; rw [hwn]
            have hgg : Gs gg := by
              cases r with
              | read xx gx k => cases hwn; exact hG _ hrok.2
              | _ => cases hwn
            rw [e1]
            refine ite2 (fun _ => ?_) (fun c => absurd (by rw [decide_eq_false (fun z => by cases z)]; rfl) c)
            refine ⟨rfl, xx, _, rfl, _, rfl, y, dx2, _, rfl, ey, rfl, y, c, t, g, rows, ns, m2, r, rfl, o2, er, xx, m2.used, gg, by rw [e1], by omega, hgg, fun H3 x3 => ?_⟩
            refine ⟨_, rfl, rfl, _, rfl, ite2 (fun c => absurd (of_decide_eq_true c) (fun z => by cases z)) (fun _ => ?_)⟩
            refine ⟨_, rfl, _, _, rfl, rfl, ?_⟩
            rw [e2] at hQ
            exact hQ _ _ ⟨.int (inp m2.used gg), rfl, x3, .inr (by rw [e3])⟩
        · obtain ⟨v, rfl, x3, hv⟩ := hP
          have o3 := o2.fr x3
          obtain ⟨dx3, ra3, rus3, ey3, eu3, ru3⟩ := id o3.ex
          refine ⟨_, rfl, y, _, dx3, _, _, rfl, ey3, cg, T.a_Goer_gone, rfl, g, _, rfl, .inl (SqL.of o3.eg), _, rfl, rfl, _, rfl, ite2 (fun c => ?_) (fun _ => ?_)⟩
          · have c := of_decide_eq_true c
            injection c with c
            rw [List.length_map] at c
            omega
          · refine ⟨_, rfl, y, dx3, _, rfl, ey3, rfl, _, rfl, y, c, t, g, rows, ns, m2, r, v, inpOf inp r m2, G, G, rfl, o3, er, hrok, vk, by omega, ts, hv, fun H4 fr4 o4 => ?_⟩
            have x4 : Fr [] H H4 := (xx.trans x3).step fr4 fun a h => by
              simp only [List.mem_cons, List.not_mem_nil, or_false] at h
              rcases h with rfl | rfl | rfl | rfl
              · exact .inr ny
              · exact .inr bc
              · exact .inr bt
              · exact .inr bg
            have hi := hI m2.used
            have vk2 : Vok (stepM r (inpOf inp r m2) m2).c := by
              cases r with
              | set xx tm k => exact vk.put (tm.worth_ok vk hrok.2.1).1 (tm.worth_ok vk hrok.2.1).2
              | read xx gx k => exact vk.put (hi gx).1 (hi gx).2
              | _ => exact vk
            have hg2 : (stepM r (inpOf inp r m2) m2).gone.length = m2.gone.length + 1 := by rw [step_gone, List.length_append]; rfl
            have hu2 := step_used (r := r) (v := inpOf inp r m2) (m := m2)
            have ht2 : (stepM r (inpOf inp r m2) m2).told.length ≤ m2.told.length + 1 := by
              cases r with
              | tell tm k => exact Nat.le_of_eq (List.length_append ..)
              | _ => exact Nat.le_succ _
            by_cases hov2 : (stepM r (inpOf inp r m2) m2).over = true
            · rw [if_pos hov2] at go2
              exact ⟨m, Nat.lt_succ_self m, stepM r (inpOf inp r m2) m2, _, rfl, o4, vk2, by omega, by omega, .inr ⟨hov2, Option.some.inj go2⟩, x4⟩
            · rw [if_neg hov2] at go2
              exact ⟨m, Nat.lt_succ_self m, stepM r (inpOf inp r m2) m2, _, rfl, o4, vk2, by omega, by omega, .inl ⟨by simpa using hov2, go2, by omega⟩, x4⟩
  · rw [hov]
    have nn : ∀ {a : Addr}, a ∉ ([] : List Addr) := fun z => nomatch z
    refine ⟨_, rfl, y, _, dx2, _, _, rfl, ey, cg, T.a_Goer_told, rfl, t, _, rfl, o2.et, fun pt Ha na xa ea => ?_⟩
    refine ⟨_, rfl, y, _, dx2, _, _, rfl, xa.keep _ _ nn ey, cg, T.a_Goer_cells, rfl, ?_⟩
    refine ⟨_, rfl, y, _, dx2, _, _, rfl, xa.keep _ _ nn ey, cg, T.a_Goer_gone, rfl, g, _, rfl, xa.keep _ _ nn o2.eg, fun pg Hb nb xb eb => ⟨sz3, fun qa Hc nc' xc ec => ?_⟩⟩
    exact q qa pt c pg Hc ns (((xx.trans xa).trans xb).trans xc) ec ((xb.trans xc).tups _ _ ea) (((xa.trans xb).trans xc).keep _ _ nn o2.ec) (xc.tups _ _ eb) nd mm nl
end
end Kz
set_option Elab.async false
set_option linter.all false
set_option maxRecDepth 100000
set_option maxHeartbeats 4000000
set_option pp.maxSteps 3000
/-! ZRq: ran, ran_at. -/
namespace Kz
open PySem PySem.Spec PyProof.Rows L2 LamX NdefX
/-! ### run_with(.., a function made here, ..) -/
/-- what a run gives -/
def RunGives (Pg : Prg) (e : Mc) (H' : Hp) (qa pt pc pg : Addr) (ns : List Str) : Prop := H' qa = some (.tup [.ref pt, .ref pc, .ref pg]) ∧ H' pt = some (.tup (e.told.map V.int)) ∧ H' pc = some (.dK (cK ns e.c)) ∧ H' pg = some (.tup (e.gone.map fun (n : Nat) => V.int (n : Int))) ∧ ns.Nodup ∧ (∀ x, x ∈ ns ↔ x ∈ Pg.nm) ∧ ns.length ≤ 60
def tRun (O : Addr → Addr → HO) (mk : Addr → NF) (js : List Nat) (sp : List (Option V) → Sp) (ta : TA) : TE := fun σ H Q => ta σ H fun vs H1 => ∃ (p f c' : Addr) (Pg : Prg) (ws : List Str) (G Gs : Str → Prop) (inp : Nat → Str → Int) (n : Nat) (e : Mc), vs = [.ref p, .ref f, .int 500] ∧ H1 f = some (O f c') ∧ H1 (mk c').c = some (CodeO (mk c').c (mk c').qual) ∧
  RPg H1 6 p Pg ∧ PgW ws G Pg ∧ (∀ g, G g → Gs g) ∧ Inp inp ∧ goM ((plP Pg).lay 0 (plP Pg).size ++ [.fin]) inp n m0 = some e ∧ n ≤ 280 ∧ (∀ vs H2 Q2, Fr [] H1 H2 → TkC inp Gs vs H2 Q2 → sp (js.map (slotAt σ)) vs H2 Q2 E0) ∧
  ∀ qa pt pc pg H' ns, Fr [] H1 H' → RunGives Pg e H' qa pt pc pg ns → Q (.ref qa) H'
section
variable {X : Cx} {O : Addr → Addr → HO} {mk : Addr → NF} {cl : List (Str × Addr)} {fr : List Str} {js : List Nat} {k : Nat} {sp : List (Option V) → Sp}
theorem pe_run (T : Tp X.K X.mg) (hg : Gl X "run_with") (hr : Room 33 X.A) {e : Expr} {es : List Expr} {ta : TA} {p pos : Pos} (ha : PA X (e :: es) ta) (Fo : ∀ f c', FOk X.prog X.w X.K X.mg X.base k f (mk c') (O f c') fr sp) (hcl : ∀ c', (mk c').cl = cl) (hk : k ≤ 32) (cp : X.Ok → Caps X cl fr js) (hfn : ∀ y, X.fn y = true)
    (he : starEach (e :: es) X.env = (false, eval e X.env) :: starEach es X.env := by rfl) (hpl : (backTo pos (starEach es X.env)).any (·.1) = false := by rfl) : PE X (.Call (.Name "run_with" p) (e :: es) [] pos) (tRun O mk js sp ta) := by
  refine ⟨fun pins s σ H Q I h => ?_⟩
  obtain ⟨fd, F⟩ := T.def_ 18 (d := d_run_with) rfl
  have hm : X.mg "run_with" = some (.ref (He.ga X.K "run_with")) := T.glo 9 rfl
  have hb : Binds X.K fd ["program", "take", "most"] [] := F.bindsN (fun kV doc pm an cdv ct us hl => match us, hl with | [_, _, _], _ => rfl)
  refine wpAny_Call_Name_kw (ld_glob I hg hm ?_)
  refine PySem.W.callWith_K (h₀ := X.base) I.ok.mod.kin F.kp (thn (ha.run pos pins s σ H _ I h) fun us s1 ⟨vs, H1, I1, r, q⟩ => ⟨I1.kIn, ?_⟩) he hpl
  obtain ⟨pa, f, c', Pg, ws, G, Gs, inp, n, em, rfl, hO, hc, rp, pw, hG, hI, go, hn, hsp, q⟩ := q
  obtain ⟨oc, od, dV, kV, doc, pm, an, cdv, ct, osl, rfl, lk, hcd, _, _⟩ := F.ex
  have hl3 : us.length = 3 := by rw [← r.length]; rfl
  have rc : codeAny (model X.prog X.w) X.A (.call (.ref (He.ga X.K "run_with")) ⟨us, []⟩) (CR CX0 X.stack X.prog X.w H1 s1 Q E0) s1 := by
    refine run_ofS (N := N_run_with) (ps := ["program", "take", "most"]) lk hcd sc_run_with hr I1.env0 (by
      have q := hb s1 us I1.kIn (by rw [List.append_nil]; exact hl3)
      rw [List.append_nil] at q
      exact q) r rfl fun hr' => ?_
    have C0 : CellsAt (mk c').cl fr (js.map (slotAt σ)) s1.heap H1 := by
      rw [hcl c']
      exact NdefX.cells_of I1 (cp I1.ok)
    have htk : Callee (cxOf CX0 X.prog X.w X.K X.mg X.base N_run_with "run_with" (defScope s_run_with) (He.ga X.K "run_with") cdv X.A X.stack s1 H1 E0).nox f Gs inp :=
      callee_of (ws := js.map (slotAt σ)) (Fo f c') (hr'.mono hk) hO hc C0 (fun y c ec => cell_nofr I1 (hfn y) ((cp I1.ok).sub y c (by rw [← hcl c']; exact ec))) (fun _ _ _ z => nomatch z) hsp
    obtain ⟨t, ht, hq⟩ := ok_run (P := X.prog) (w := X.w) (base := X.base) T (Q := Q) hr' htk rp pw hG hI go hn fun qa pt pc pg H' ns x h1 h2 h3 h4 h5 h6 h7 => q qa pt pc pg H' ns x ⟨h1, h2, h3, h4, h5, h6, h7⟩
    exact ⟨t, ht.nox, hq⟩
  refine wpAny_call (codeAny_mono rc fun r s2 hq => ?_)
  cases r with
  | error e => exact (show False from hq).elim
  | ok fl =>
    cases fl with
    | ret u => exact I1.after hq
    | next => exact False.elim hq
    | brk => exact False.elim hq
    | cont => exact False.elim hq
end
/-! ### defs with a default -/
structure Fd (P : Program) (w : World) (K : PySem.W.Frag) (mg : Str → Option Value) (base : Heap) (k : Nat) (x : Str) (ps : List Str) (dvs : List V) (sp : Sp) : Prop where
  ex : ∃ (f : Addr) (fd : FuncData) (ds : List Value), mg x = some (.ref f) ∧ PySem.W.keepIn K (.ref f) = true ∧ Binds K fd ps ds ∧ Vals dvs ds ∧ FnOk P w K mg base CX0 k f fd ps sp
theorem pe_Fd {X : Cx} {k : Nat} {x : Str} {ps : List Str} {dvs : List V} {sp : Sp} {p pos : Pos} {e : Expr} {es : List Expr} {t : TA} (F : Fd X.prog X.w X.K X.mg X.base k x ps dvs sp) (hr : Room k X.A) (hg : Gl X x) (ha : PA X (e :: es) t) (hdb : (x == ("__debug__" : Str)) = false := by decide)
    (he : starEach (e :: es) X.env = (false, eval e X.env) :: starEach es X.env := by rfl) (hpl : (backTo pos (starEach es X.env)).any (·.1) = false := by rfl) : PE X (.Call (.Name x p) (e :: es) [] pos) (tCall sp dvs E0 t) := by
  obtain ⟨f, fd, ds, hm, hk, hb, hd, hf⟩ := F.ex
  exact pe_call hf hr hg hm hk hb hd pass0 ha hdb he hpl
/-- a def that makes functions: its code object is known -/
theorem okC {P : Program} {w : World} {K : PySem.W.Frag} {mg : Str → Option Value} {base : Heap} {x : Str} {params : Arguments} {body : List Stmt} {scope : Scope} {dvs : List V} {fd : FuncData} {N ps : List Str} {k : Nat} {sp : Sp} {d : He.Defn}
    (F : FunD K x x params body scope dvs [] (He.fAd K d) fd) (S : FnScope N ps scope) (len : ∀ vs H Q E, sp vs H Q E → vs.length = ps.length)
    (hbody : ∀ (A : Around) (outer : List Env) (s : Shared) (H : Hp) (vs : List V) (Q : VK) (E : XK), Room k (A.deeper (envOfC x scope s.heap.objs.size (He.fAd K d) (.ref (He.codeOf K d)))) → sp vs H Q E →
      ∃ t, PSs (cxOf CX0 P w K mg base N x scope (He.fAd K d) (.ref (He.codeOf K d)) A outer s H E).nox body t ∧ t { nx := fun _ H' => Q .non H', rt := Q } (L2.start N vs) H) : FnOk P w K mg base CX0 (k + 1) (He.fAd K d) fd ps sp := by
  obtain ⟨oc, od, dV, kV, doc, pm, an, cdv, ct, osl, rfl, lk, hcd, _, _⟩ := F.ex
  obtain ⟨c, ec⟩ : ∃ c, cdv = .ref c := by
    unfold PySem.W.codeIn at hcd
    cases cdv with
    | ref c => exact ⟨c, rfl⟩
    | _ => cases hcd
  have e : cdv = .ref (He.codeOf K d) := by rw [He.codeOf_eq lk ec]; exact ec
  subst e
  refine fn_of lk hcd S len fun A outer s H vs Q E hr h => ?_
  obtain ⟨t, h1, h2⟩ := hbody A outer s H vs Q E hr h
  exact ⟨t, h1.nox, h2⟩
/-! ### ran -/
def ranLam : Expr := match defBody s_ran with
  | [.Return (some (.Call _ [_, l, _] _ _)) _] => l
  | _ => .Name "" default
def ranPs : Arguments := match ranLam with
  | .Lambda a _ _ _ => a
  | _ => defArgs s_ran
def ranBd : Expr := match ranLam with
  | .Lambda _ b _ _ => b
  | _ => .Name "" default
def ranSc : Scope := match ranLam with
  | .Lambda _ _ s _ => s
  | _ => defScope s_ran
abbrev qRan : Str := (envOfC "ran" (defScope s_ran) 0 0 .none).qual ++ "<lambda>"
abbrev nfRan (cells : List (Str × Addr)) (c' : Addr) : NF := ⟨"<lambda>", qRan, ranPs, [], ranSc, cloFrom cells ranSc.names [], c'⟩
def inpV (xs : List Int) : Nat → Str → Int := fun k _ => xs.getD k 0
def spRanL (ws : List (Option V)) : Sp := fun vs H Q _ => ∃ (vl : Addr) (xs : List Int) (k : Nat) (g : Str), ws = [some (.ref vl)] ∧ H vl = some (.lst (xs.map V.int)) ∧ vs = [.int (k : Nat), .str g] ∧ k < xs.length ∧ Q (.int (inpV xs k g)) H
def spRan (Pt : Addr) : Sp := fun vs H Q _ => ∃ (p vl : Addr) (Pg : Prg) (ws : List Str) (G : Str → Prop) (xs : List Int) (n : Nat) (e : Mc), vs = [.ref p, .ref vl, .int 500] ∧ TabS H Pt qRan ∧ RPg H 6 p Pg ∧ PgW ws G Pg ∧ H vl = some (.lst (xs.map V.int)) ∧ xs.length = 280 ∧ (∀ x ∈ xs, 0 ≤ x ∧ x < WD) ∧
  goM ((plP Pg).lay 0 (plP Pg).size ++ [.fin]) (inpV xs) n m0 = some e ∧ n ≤ 280 ∧ ∀ qa pt pc pg H' ns, Fr [Pt] H H' → TabS H' Pt qRan → RunGives Pg e H' qa pt pc pg ns → Q (.ref qa) H'
theorem wd0 : (0 : Int) < WD := by decide
theorem inpV_ok {xs : List Int} (h : ∀ x ∈ xs, 0 ≤ x ∧ x < WD) : Inp (inpV xs) := fun k g => by
  unfold inpV
  rw [List.getD_eq_getElem?_getD]
  cases e : xs[k]? with
  | none => exact ⟨Int.le_refl 0, wd0⟩
  | some x => exact h x (List.mem_of_getElem? e)
section
variable {P : Program} {w : World} {K : PySem.W.Frag} {mg : Str → Option Value} {base : Heap}
theorem fok_ran (T : Tp K mg) (cells : List (Str × Addr)) (f c' : Addr) : FOk P w K mg base 2 f (nfRan cells c') (FnL f (nfRan cells c') ranBd) ["values"] spRanL := by
  refine fok_lam (N := ["at", "gauge", "values"]) (ps := ["at", "gauge"]) (nscope_by (show nscB ["at", "gauge", "values"] ["at", "gauge"] ["values"] ranSc = true by decide +kernel)) (fun pm ctv us hl => match us, hl with | [_, _], _ => rfl) (fun ws vs H Q E ⟨_, _, _, _, _, _, e, _⟩ => by rw [e]; rfl) (fun A outer s H vs ws Q E hr hw h => ?_)
  obtain ⟨vl, xs, k, g, rfl, ev, rfl, hk, q⟩ := h
  refine ⟨_, show PE _ (.IfExp _ _ _ _) _ from pe_ifExp (pt_cmpR op_lt (pv 0) (pe_callB call_len_seq (by rfl) T.n_len PySem.boot_len (pa_cons (pv 2) pa_nil)) (nomark _)) (pe_ix ix_list (pv 2) (pv 0) (fun _ _ => rfl)) pe_non, ?_⟩
  refine ⟨_, rfl, _, rfl, vl, _, rfl, .inl (SqL.of ev), _, _, rfl, rfl, _, rfl, ite2 (fun _ => ?_) (fun c => ?_)⟩
  · refine ⟨_, rfl, _, rfl, vl, _, _, _, rfl, rfl, SqL.of ev, atI_nat (j := k) ?_, q⟩
    rw [List.getElem?_map, List.getElem?_eq_getElem hk]
    unfold inpV
    rw [List.getD_eq_getElem?_getD, List.getElem?_eq_getElem hk]
    rfl
  · refine absurd (decide_eq_true ?_) c
    show (k : Int) < ((xs.map V.int).length : Nat)
    rw [List.length_map]
    omega
theorem ok_ran (T : Tp K mg) {Pt : Addr} (TB : TabB base mg (He.codeOf K ("ran", none)) Pt) : Fd P w K mg base 34 "ran" ["program", "values", "most"] [.int 500] (spRan Pt) := by
  obtain ⟨fd, F⟩ := T.def_ 19 (d := d_ran) rfl
  obtain ⟨ds, rds, hb⟩ := F.binds1 (ps := ["program", "values", "most"]) 2 0 (List.cons_ne_nil _ _) rfl (fun Tt kV doc pm an cdv ct us its h1 h2 => match us, h1, its, h2 with | [_, _], _, [_], _ => ⟨_, rfl, rfl⟩)
  refine ⟨He.ga K "ran", fd, ds, T.glo 10 rfl, F.kp, hb, rds, ?_⟩
  refine okC (d := ("ran", none)) F sc_ran (fun vs H Q E ⟨_, _, _, _, _, _, _, _, e, _⟩ => by rw [e]; rfl) (fun A outer s H vs Q E hr h => ?_)
  obtain ⟨p, vl, Pg, ws, G, xs, n, e, rfl, hT, rp, pw, ev, lx, bx, go, hn, q⟩ := h
  have hB := ndef_free (sc := defScope s_ran) (nsc := ranSc) (fr := ["values"]) (by decide +kernel)
  have hF := ndef_fr (sc := defScope s_ran) (nsc := ranSc) (fr := ["values"]) (by decide +kernel)
  have nn : ∀ {a : Addr}, a ∉ ([] : List Addr) := fun z => nomatch z
  refine ⟨_, pss_one (ps_ret (pe_run (O := fun f c' => FnL f (nfRan (cellsFrom (s.heap.objs.size + 1) (defScope s_ran).names []) c') ranBd) (mk := nfRan (cellsFrom (s.heap.objs.size + 1) (defScope s_ran).names [])) (js := [1]) T (by rfl) hr
    (pa_cons (pv 0) (pa_cons (pe_lam TB rfl rfl hB) (pa_cons (pv 2) pa_nil))) (fun f c' => fok_ran T _ f c') (fun _ => rfl) (by decide) (fun ok => Caps.made ok hB hF rfl) (fun _ => rfl))), ?_⟩
  refine ⟨_, rfl, hT, fun f c' H1 fr T1 f0 f1 c1 => ⟨_, rfl, p, f, c', Pg, ws, G, fun _ => True, inpV xs, n, e, rfl, f1, c1, rp.fr fr, pw, fun _ _ => trivial, inpV_ok bx, go, hn, fun vs H2 Q2 x2 ⟨k, g, e, hk, _, q2⟩ => ?_, fun qa pt pc pg H' ns x hg => ?_⟩⟩
  · refine ⟨vl, xs, k, g, rfl, x2.keep _ _ nn (fr.keep _ _ (fun z => ?_) ev), e, by omega, q2 H2 Fr.refl⟩
    obtain ⟨ps, hP, _⟩ := hT
    rw [← List.mem_singleton.mp z, ev] at hP
    cases hP
  · exact q qa pt pc pg H' ns (fr.trans (x.mono fun _ h => nomatch h)) (TabS.ext T1 fun b o e => x.keep _ _ nn e) hg
end
/-! ### ran_at -/
def takSt : Stmt := match defBody s_ran_at with
  | st :: _ => st
  | [] => s_ran_at
abbrev qTak : Str := (envOfC "ran_at" (defScope s_ran_at) 0 0 .none).qual ++ "taken"
abbrev nfTak (cells : List (Str × Addr)) (c' : Addr) : NF := ⟨"taken", qTak, C8.fnArgs takSt, C8.fnBody takSt, C8.fnScope takSt, cloFrom cells (C8.fnScope takSt).names [], c'⟩
/-- what gauges tell: by row, by moment -/
def inpA (row : Str → List Int) (ms : List Int) : Nat → Str → Int := fun k g => (row g).getD (ms.getD k 0 % ((row g).length : Int)).toNat 0
/-- the gauges' dict -/
structure GgD (H : Hp) (d : Addr) (Gs : Str → Prop) (row : Str → List Int) : Prop where
  ex : ∃ kvs : List (Key × V), H d = some (.dK kvs) ∧ ∀ g, Gs g → ∃ r, valV kvs (Sum.inr g : Key) = some (.ref r) ∧ H r = some (.tup ((row g).map V.int)) ∧ row g ≠ []
theorem GgD.keep {S : List Addr} {H H' : Hp} {d : Addr} {Gs : Str → Prop} {row : Str → List Int} (o : GgD H d Gs row) (x : Fr S H H') (n : d ∉ S) : GgD H' d Gs row := by
  obtain ⟨kvs, h1, h2⟩ := o.ex
  exact ⟨kvs, x.keep _ _ n h1, fun g hg => let ⟨r, e1, e2, e3⟩ := h2 g hg; ⟨r, e1, x.tups _ _ e2, e3⟩⟩
def spReads : Sp := fun vs H Q _ => ∃ (r : Addr) (xs : List Int) (m : Int), vs = [.ref r, .int m] ∧ H r = some (.tup (xs.map V.int)) ∧ xs ≠ [] ∧ Q (.int (xs.getD (m % (xs.length : Int)).toNat 0)) H
def spTak (Gs : Str → Prop) (row : Str → List Int) (ms : List Int) (ws : List (Option V)) : Sp := fun vs H Q _ => ∃ (d ml : Addr) (k : Nat) (g : Str), ws = [some (.ref d), some (.ref ml)] ∧ GgD H d Gs row ∧ H ml = some (.lst (ms.map V.int)) ∧ vs = [.int (k : Nat), .str g] ∧ k < ms.length ∧ Gs g ∧ Q (.int (inpA row ms k g)) H
def spRanAt (Pt : Addr) : Sp := fun vs H Q _ => ∃ (p d ml : Addr) (Pg : Prg) (ws : List Str) (G Gs : Str → Prop) (row : Str → List Int) (ms : List Int) (n : Nat) (e : Mc), vs = [.ref p, .ref d, .ref ml, .int 500] ∧ TabS H Pt qTak ∧ RPg H 6 p Pg ∧ PgW ws G Pg ∧ (∀ g, G g → Gs g) ∧ GgD H d Gs row ∧ H ml = some (.lst (ms.map V.int)) ∧ ms.length = 280 ∧
  (∀ g, ∀ x ∈ row g, 0 ≤ x ∧ x < WD) ∧ goM ((plP Pg).lay 0 (plP Pg).size ++ [.fin]) (inpA row ms) n m0 = some e ∧ n ≤ 280 ∧ ∀ qa pt pc pg H' ns, Fr [Pt] H H' → TabS H' Pt qTak → RunGives Pg e H' qa pt pc pg ns → Q (.ref qa) H'
theorem inpA_ok {row : Str → List Int} {ms : List Int} (h : ∀ g, ∀ x ∈ row g, 0 ≤ x ∧ x < WD) : Inp (inpA row ms) := fun k g => by
  unfold inpA
  rw [List.getD_eq_getElem?_getD]
  cases e : (row g)[(ms.getD k 0 % ((row g).length : Int)).toNat]? with
  | none => exact ⟨Int.le_refl 0, wd0⟩
  | some x => exact h g x (List.mem_of_getElem? e)
section
variable {P : Program} {w : World} {K : PySem.W.Frag} {mg : Str → Option Value} {base : Heap}
theorem ok_reads (T : Tp K mg) : Fx P w K mg base 1 "reads" ["gauge", "moment"] spReads := by
  refine fx_of T 20 11 rfl rfl sc_reads (fun _ _ _ _ _ _ us hl => match us, hl with | [_, _], _ => rfl) (fun vs H Q E h => ?_) (fun f cdv A outer s H vs Q E hr h => ?_)
  · obtain ⟨r, xs, m, rfl, _⟩ := h
    rfl
  · obtain ⟨r, xs, m, rfl, er, ne, q⟩ := h
    refine ⟨_, (pss_one (ps_ret (pe_ix ix_tup (pv 0) (pe_op op_mod (pv 1) (pe_callB call_len_seq (by rfl) T.n_len PySem.boot_len (pa_cons (pv 0) pa_nil))) (fun _ _ => rfl)))), ?_⟩
    have hp : 0 < xs.length := List.length_pos_iff.mpr ne
    have hl : ((xs.map V.int).length : Int) = (xs.length : Int) := by rw [List.length_map]
    have h0 : 0 ≤ m % (xs.length : Int) := Int.emod_nonneg _ (by omega)
    have h1 : m % (xs.length : Int) < (xs.length : Int) := Int.emod_lt_of_pos _ (by omega)
    refine ⟨_, rfl, _, rfl, _, rfl, r, _, rfl, .inr (SqT.of er), _, _, rfl, rfl, by rw [hl]; omega, r, _, _, _, rfl, rfl, SqT.of er, ?_, q⟩
    show atI (xs.map V.int) (m % ((xs.map V.int).length : Int)) = _
    rw [hl]
    have e := atI_nat (xs := xs.map V.int) (j := (m % (xs.length : Int)).toNat) (v := .int (xs.getD (m % (xs.length : Int)).toNat 0)) (by
      have hlt : (m % (xs.length : Int)).toNat < xs.length := by omega
      rw [List.getElem?_map, List.getD_eq_getElem?_getD, List.getElem?_eq_getElem hlt]
      rfl)
    rw [Int.toNat_of_nonneg h0] at e
    exact e
theorem fok_tak (T : Tp K mg) {Gs : Str → Prop} {row : Str → List Int} {ms : List Int} (cells : List (Str × Addr)) (f c' : Addr) : FOk P w K mg base 3 f (nfTak cells c') (FnO f (nfTak cells c')) ["gauges", "moments"] (spTak Gs row ms) := by
  have F_reads := ok_reads (P := P) (w := w) (base := base) T
  refine fok_def (N := ["at", "gauge", "gauges", "moments"]) (ps := ["at", "gauge"]) (nscope_by (show nscB ["at", "gauge", "gauges", "moments"] ["at", "gauge"] ["gauges", "moments"] (C8.fnScope takSt) = true by decide +kernel)) (fun doc pm ctv us hl => match us, hl with | [_, _], _ => rfl) (fun ws vs H Q E ⟨_, _, _, _, _, _, _, e, _⟩ => by rw [e]; rfl) (fun A outer s H vs ws Q E hr hw h => ?_)
  obtain ⟨d, ml, k, g, rfl, gd, em, rfl, hk, hg, q⟩ := h
  have hu := hu_of hr
  obtain ⟨kvs, ed, hd⟩ := gd.ex
  obtain ⟨r, ev, er, ne⟩ := hd g hg
  refine ⟨_, show PSs _ (_ :: _ :: []) _ from pss_cons (ps_if (pt_cmpR op_eq (pv 0) (pe_callB call_len_seq (by rfl) T.n_len PySem.boot_len (pa_cons (pv 3) pa_nil)) (nomark _)) (pss_one (ps_ret pe_non)) pss_nil)
    (pss_one (ps_ret (pe_F F_reads (hr.mono (by omega)) (by rfl) (pa_cons (pe_dget hu (pv 2) (pv 1) (fun _ _ => rfl)) (pa_cons (pe_ix ix_list (pv 3) (pv 0) (fun _ _ => rfl)) pa_nil))))), ?_⟩
  refine ⟨_, rfl, _, rfl, ml, _, rfl, .inl (SqL.of em), rfl, _, rfl, ite2 (fun c => ?_) (fun _ => ?_)⟩
  · have c := of_decide_eq_true c
    injection c with c
    rw [List.length_map] at c
    omega
  · refine ⟨_, rfl, _, rfl, d, _, rfl, dget ed ev, _, rfl, _, rfl, ml, _, _, .int (ms.getD k 0), rfl, rfl, SqL.of em, atI_nat (j := k) ?_, r, row g, _, rfl, er, ne, q⟩
    rw [List.getElem?_map, List.getElem?_eq_getElem hk, List.getD_eq_getElem?_getD, List.getElem?_eq_getElem hk]
    rfl
theorem ok_ranAt (T : Tp K mg) {Pt : Addr} (TB : TabB base mg (He.codeOf K ("ran_at", none)) Pt) : Fd P w K mg base 34 "ran_at" ["program", "gauges", "moments", "most"] [.int 500] (spRanAt Pt) := by
  obtain ⟨fd, F⟩ := T.def_ 21 (d := d_ran_at) rfl
  obtain ⟨ds, rds, hb⟩ := F.binds1 (ps := ["program", "gauges", "moments", "most"]) 3 0 (List.cons_ne_nil _ _) rfl (fun Tt kV doc pm an cdv ct us its h1 h2 => match us, h1, its, h2 with | [_, _, _], _, [_], _ => ⟨_, rfl, rfl⟩)
  refine ⟨He.ga K "ran_at", fd, ds, T.glo 12 rfl, F.kp, hb, rds, ?_⟩
  refine okC (d := ("ran_at", none)) F sc_ran_at (fun vs H Q E ⟨_, _, _, _, _, _, _, _, _, _, _, e, _⟩ => by rw [e]; rfl) (fun A outer s H vs Q E hr h => ?_)
  obtain ⟨p, d, ml, Pg, ws, G, Gs, row, ms, n, e, rfl, hT, rp, pw, hG, gd, em, lm, bx, go, hn, q⟩ := h
  have hB := ndef_free (sc := defScope s_ran_at) (nsc := C8.fnScope takSt) (fr := ["gauges", "moments"]) (by decide +kernel)
  have hF := ndef_fr (sc := defScope s_ran_at) (nsc := C8.fnScope takSt) (fr := ["gauges", "moments"]) (by decide +kernel)
  have nn : ∀ {a : Addr}, a ∉ ([] : List Addr) := fun z => nomatch z
  refine ⟨_, pss_cons (ps_def (i := 4) TB rfl hB rfl rfl rfl sc_ran_at.nd rfl (Or.inl rfl) (Or.inl rfl)) (pss_one (ps_ret (pe_run (O := fun f c' => FnO f (nfTak (cellsFrom (s.heap.objs.size + 1) (defScope s_ran_at).names []) c')) (mk := nfTak (cellsFrom (s.heap.objs.size + 1) (defScope s_ran_at).names [])) (js := [1, 2]) (sp := spTak Gs row ms) T (by rfl) hr
    (pa_cons (pv 0) (pa_cons (pv 4) (pa_cons (pv 3) pa_nil))) (fun f c' => fok_tak T _ f c') (fun _ => rfl) (by decide) (fun ok => Caps.made ok hB hF rfl) (fun _ => rfl)))), ?_⟩
  refine ⟨hT, fun f c' H1 fr T1 f0 f1 c1 => ⟨_, rfl, _, rfl, _, rfl, p, f, c', Pg, ws, G, Gs, inpA row ms, n, e, rfl, f1, c1, rp.fr fr, pw, hG, inpA_ok bx, go, hn, fun vs H2 Q2 x2 ⟨k, g, e, hk, hg, q2⟩ => ?_, fun qa pt pc pg H' ns x hg => ?_⟩⟩
  · have nP : ∀ {a : Addr} {o : HO}, H a = some o → (∀ ps, o ≠ .tbl ps) → a ∉ [Pt] := fun {a o} ea no z => by
      obtain ⟨ps, hP, _⟩ := hT
      rw [← List.mem_singleton.mp z, ea] at hP
      exact no ps (Option.some.inj hP)
    obtain ⟨kvs, ed, _⟩ := gd.ex
    exact ⟨d, ml, k, g, rfl, (gd.keep fr (nP ed fun _ z => by cases z)).keep x2 nn, x2.keep _ _ nn (fr.keep _ _ (nP em fun _ z => by cases z) em), e, by omega, hg, q2 H2 Fr.refl⟩
  · exact q qa pt pc pg H' ns (fr.trans (x.mono fun _ h => nomatch h)) (TabS.ext T1 fun b o e => x.keep _ _ nn e) hg
end
end Kz
set_option Elab.async false
set_option linter.all false
set_option maxRecDepth 100000
set_option maxHeartbeats 4000000
set_option pp.maxSteps 3000
/-! ZDd: what is shown of rows is not too long: names are letters, numbers are small. -/
namespace Kz
open PySem PySem.Spec PyProof.Rows L2
/-! ### letters -/
theorem letC_small (k : Nat) : letC k < 128 := by
  unfold letC
  omega
theorem namesL_let {wl : List Nat} {at_ first longer : Nat} (hw : ∀ c ∈ wl, c < 128) : ∀ k : Nat, ∀ n ∈ namesL wl at_ first longer k, ∀ c ∈ n, c < 128 := by
  intro k
  induction k with
  | zero => intro n hn; exact absurd hn List.not_mem_nil
  | succ k ih =>
    have hc : ∀ c ∈ candL wl at_ first longer (namesL wl at_ first longer k) k, c < 128 := fun c h => by
      unfold candL at h
      dsimp only at h
      have hi : ∀ c ∈ insL wl at_ (letC (first + 7 * k)), c < 128 := fun c h => by
        unfold insL at h
        rcases List.mem_append.mp h with h | h
        · exact hw c (List.mem_of_mem_take h)
        · rcases List.mem_cons.mp h with h | h
          · rw [h]; exact letC_small _
          · exact hw c (List.mem_of_mem_drop h)
      split at h
      · rename_i z
        rcases List.mem_append.mp h with h | h
        · have h := List.mem_of_mem_take h
          cases e : namesL wl at_ first longer k with
          | nil => rw [e] at z; exact absurd z.2.2 (by decide)
          | cons x r =>
            rw [e, List.getLastD_cons] at h
            have hm : r.getLastD x ∈ x :: r := by
              cases r with
              | nil => exact List.mem_cons_self
              | cons y r2 =>
                rw [List.getLastD_cons]
                have : (r2.getLastD y) ∈ y :: r2 := by
                  rw [List.getLastD_eq_getLast?]
                  cases e2 : r2.getLast? with
                  | none => exact List.mem_cons_self
                  | some u => exact List.mem_cons_of_mem _ (List.mem_of_getLast? e2)
                exact List.mem_cons_of_mem _ this
            exact ih _ (by rw [e]; exact hm) c h
        · rw [List.mem_singleton.mp h]; exact letC_small _
      · exact hi c h
    intro n hn
    unfold namesL stepL at hn
    dsimp only at hn
    split at hn
    · rcases List.mem_append.mp hn with h | h
      · exact ih n h
      · rw [List.mem_singleton.mp h]; exact hc
    · exact ih n hn
structure NmOk (x : Str) : Prop where
  sz : x.cps.size ≤ 6
  le : ∀ c ∈ x.cps.toList, c < 128
theorem namesF_ok (f : Fl) : ∀ x ∈ namesF f, NmOk x := fun x hx => by
  refine ⟨namesF_short f x hx, ?_⟩
  obtain ⟨n, hn, rfl⟩ := List.mem_map.mp hx
  refine namesL_let (fun c hc => ?_) 26 n hn
  obtain ⟨d, _, rfl⟩ := List.mem_map.mp hc
  exact letC_small _
/-! ### data that is shown -/
structure DOk (d : PyData) (w k : Nat) : Prop where
  lay : d.canLay0 = true
  int : d.intsShort 13 = true
  sh : d.showable = true
  wt : d.weight ≤ w
  dp : d.depth ≤ k
structure DAll (ds : List PyData) (w k : Nat) : Prop where
  lay : PyData.canLayAll0 ds = true
  int : PyData.intsShortAll 13 ds = true
  sh : PyData.showableAll ds = true
  wt : PyData.weightAll ds ≤ w
  dp : PyData.depthAll ds ≤ k
theorem DAll.nil : DAll [] 0 k := ⟨rfl, rfl, rfl, Nat.le_refl 0, Nat.zero_le _⟩
theorem DAll.cons {d : PyData} {ds : List PyData} {w w2 k : Nat} (a : DOk d w k) (b : DAll ds w2 k) : DAll (d :: ds) (w + 1 + w2) k := by
  refine ⟨?_, ?_, ?_, ?_, ?_⟩
  · rw [PyData.canLayAll0, a.lay, b.lay]; rfl
  · rw [PyData.intsShortAll, a.int, b.int]; rfl
  · rw [PyData.showableAll, a.sh, b.sh]; rfl
  · rw [PyData.weightAll]
    have := a.wt
    have := b.wt
    omega
  · rw [PyData.depthAll]
    exact Nat.max_le.mpr ⟨a.dp, b.dp⟩
theorem DAll.tup {ds : List PyData} {w k : Nat} (a : DAll ds w k) : DOk (.tuple ds) w (k + 1) := by
  refine ⟨?_, ?_, ?_, ?_, ?_⟩
  · rw [PyData.canLay0]; exact a.lay
  · rw [PyData.intsShort]; exact a.int
  · rw [PyData.showable]; exact a.sh
  · rw [PyData.weight]; exact a.wt
  · rw [PyData.depth]; exact Nat.succ_le_succ a.dp
theorem DOk.mono {d : PyData} {w k w2 k2 : Nat} (a : DOk d w k) (h1 : w ≤ w2) (h2 : k ≤ k2) : DOk d w2 k2 := ⟨a.lay, a.int, a.sh, Nat.le_trans a.wt h1, Nat.le_trans a.dp h2⟩
theorem DAll.mono {d : List PyData} {w k w2 k2 : Nat} (a : DAll d w k) (h1 : w ≤ w2) (h2 : k ≤ k2) : DAll d w2 k2 := ⟨a.lay, a.int, a.sh, Nat.le_trans a.wt h1, Nat.le_trans a.dp h2⟩
theorem DOk.str {x : Str} (h : NmOk x) (k : Nat) : DOk (.str x) 6 k := by
  refine ⟨?_, rfl, rfl, ?_, ?_⟩
  · rw [PyData.canLay0]
    show x.cps.all (fun c => decide (c < 0x110000)) = true
    rw [Array.all_eq_true_iff_forall_mem]
    intro c hc
    have := h.le c (Array.mem_toList_iff.mpr hc)
    exact decide_eq_true (by omega)
  · rw [PyData.weight]; exact h.sz
  · rw [PyData.depth]; exact Nat.zero_le _
theorem DOk.int' {i : Int} (h0 : 0 ≤ i) (h1 : i < WD) (k : Nat) : DOk (.int i) 20 k := by
  obtain ⟨n, rfl⟩ : ∃ n : Nat, i = (n : Int) := ⟨i.toNat, by omega⟩
  have hn : n < 1000000 := by unfold WD at h1; omega
  have hl : ((n : Int).natAbs).log2 < 20 := by
    show n.log2 < 20
    by_cases z : n = 0
    · rw [z]; decide
    · exact (Nat.log2_lt z).mpr (by omega)
  refine ⟨rfl, ?_, ?_, ?_, ?_⟩
  · have q := intsShortAll_ints2 [(n : Int)] fun z hz => by
      rw [List.mem_singleton.mp hz]
      exact ⟨by omega, by omega⟩
    rw [List.map_cons, PyData.intsShortAll] at q
    exact (Bool.and_eq_true_iff.mp q).1
  · rw [PyData.showable]
    exact decide_eq_true (by omega)
  · rw [PyData.weight]
    split <;> omega
  · rw [PyData.depth]; exact Nat.zero_le _
theorem word_ok : ∀ x ∈ (["num", "cell", "op", "+", "-", "*", "<", "=", "set", "read", "tell", "sure", "if", "end"] : List Str), x.cps.size ≤ 6 ∧ ∀ c ∈ x.cps.toList, c < 128 := by decide +kernel
theorem DOk.word {x : Str} (k : Nat) (h : x ∈ (["num", "cell", "op", "+", "-", "*", "<", "=", "set", "read", "tell", "sure", "if", "end"] : List Str)) : DOk (.str x) 6 k := DOk.str ⟨(word_ok x h).1, (word_ok x h).2⟩ k
theorem tm_dok {C : Str → Prop} (hC : ∀ x, C x → NmOk x) : ∀ t : Tm, t.Ok C → DOk t.enc (40 * t.parts) t.parts
  | .num k, h => ((DAll.cons (DOk.word 0 (by decide +kernel)) (DAll.cons (DOk.int' h.1 h.2 0) .nil)).tup).mono (by show _ ≤ 40 * 1; omega) (Nat.le_refl 1)
  | .cell x, h => ((DAll.cons (DOk.word 0 (by decide +kernel)) (DAll.cons (DOk.str (hC x h) 0) .nil)).tup).mono (by show _ ≤ 40 * 1; omega) (Nat.le_refl 1)
  | .op s a b, h => by
    have ha := tm_dok hC a h.2.1
    have hb := tm_dok hC b h.2.2
    have hs : s ∈ (["num", "cell", "op", "+", "-", "*", "<", "=", "set", "read", "tell", "sure", "if", "end"] : List Str) := by
      rcases h.1 with e | e | e | e | e <;> rw [e] <;> decide +kernel
    refine ((DAll.cons (DOk.word (a.parts + b.parts) (by decide +kernel)) (DAll.cons (DOk.word _ hs) (DAll.cons (ha.mono (Nat.le_refl _) (Nat.le_add_right _ _)) (DAll.cons (hb.mono (Nat.le_refl _) (Nat.le_add_left _ _)) .nil)))).tup).mono ?_ ?_
    · show _ ≤ 40 * (1 + a.parts + b.parts)
      omega
    · show _ ≤ 1 + a.parts + b.parts
      omega
def Rw.tg (M : Nat) : Rw → Prop
  | .set _ _ k => k ≤ M
  | .read _ _ k => k ≤ M
  | .tell _ k => k ≤ M
  | .sure _ _ k => k ≤ M
  | .ite _ k m => k ≤ M ∧ m ≤ M
  | .fin => True
theorem ent_le {p : Pl} {i bh M : Nat} (h1 : i + p.size ≤ M) (h2 : bh ≤ M) : p.ent i bh ≤ M := by
  unfold Pl.ent
  split <;> omega
theorem lay_tg {M : Nat} : ∀ (p : Pl) (i bh : Nat), i + p.size ≤ M → bh ≤ M → ∀ r ∈ p.lay i bh, r.tg M
  | .nil, _, _, _, _, r, hr => absurd hr List.not_mem_nil
  | .set x t k, i, bh, h, hb, r, hr => by
    have h : i + (1 + k.size) ≤ M := h
    rcases List.mem_cons.mp hr with e | hr
    · rw [e]; exact ent_le (by omega) hb
    · exact lay_tg k (i + 1) bh (by omega) hb r hr
  | .read x g k, i, bh, h, hb, r, hr => by
    have h : i + (1 + k.size) ≤ M := h
    rcases List.mem_cons.mp hr with e | hr
    · rw [e]; exact ent_le (by omega) hb
    · exact lay_tg k (i + 1) bh (by omega) hb r hr
  | .tell t k, i, bh, h, hb, r, hr => by
    have h : i + (1 + k.size) ≤ M := h
    rcases List.mem_cons.mp hr with e | hr
    · rw [e]; exact ent_le (by omega) hb
    · exact lay_tg k (i + 1) bh (by omega) hb r hr
  | .sure xs n k, i, bh, h, hb, r, hr => by
    have h : i + (1 + k.size) ≤ M := h
    rcases List.mem_cons.mp hr with e | hr
    · rw [e]; exact ent_le (by omega) hb
    · exact lay_tg k (i + 1) bh (by omega) hb r hr
  | .ite t a b k, i, bh, h, hb, r, hr => by
    have h : i + (1 + a.size + b.size + k.size) ≤ M := h
    have hk : k.ent (i + 1 + a.size + b.size) bh ≤ M := ent_le (by omega) hb
    rw [Pl.lay_ite] at hr
    rcases List.mem_cons.mp hr with e | hr
    · rw [e]; exact ⟨ent_le (by omega) hk, ent_le (by omega) hk⟩
    rcases List.mem_append.mp hr with hr | hr
    · exact lay_tg a _ _ (by omega) hk r hr
    rcases List.mem_append.mp hr with hr | hr
    · exact lay_tg b _ _ (by omega) hk r hr
    · exact lay_tg k _ _ (by omega) hb r hr
  | .wh t b k, i, bh, h, hb, r, hr => by
    have h : i + (1 + b.size + k.size) ≤ M := h
    rw [Pl.lay_wh] at hr
    rcases List.mem_cons.mp hr with e | hr
    · rw [e]; exact ⟨ent_le (by omega) (by omega), ent_le (by omega) hb⟩
    rcases List.mem_append.mp hr with hr | hr
    · exact lay_tg b _ _ (by omega) (by omega) r hr
    · exact lay_tg k _ _ (by omega) hb r hr
theorem strs_dall {xs : List Str} (h : ∀ x ∈ xs, NmOk x) (k : Nat) : DAll (xs.map PyData.str) (7 * xs.length) k := by
  induction xs with
  | nil => exact .nil
  | cons x r ih =>
    refine (DAll.cons (DOk.str (h x List.mem_cons_self) k) (ih fun z hz => h z (List.mem_cons_of_mem _ hz))).mono ?_ (Nat.le_refl _)
    rw [List.length_cons]
    omega
theorem rw_dok {C G : Str → Prop} (hC : ∀ x, C x → NmOk x) (hG : ∀ x, G x → NmOk x) {M : Nat} (hM : M < 1000000) {r : Rw} (h : r.Ok C G) (t : r.tg M) : DOk r.enc 600 13 := by
  have num : ∀ {k : Nat} (d : Nat), k ≤ M → DOk (.int (k : Nat)) 20 d := fun d h => DOk.int' (by omega) (by unfold WD; omega) d
  cases r with
  | set x tm k =>
    have ht := (tm_dok hC tm h.2.1).mono (w2 := 440) (k2 := 12) (by have := h.2.2; omega) (by have := h.2.2; omega)
    exact ((DAll.cons (DOk.word 12 (by decide +kernel)) (DAll.cons (DOk.str (hC x h.1) 12) (DAll.cons ht (DAll.cons (num 12 t) .nil)))).tup).mono (by decide) (by decide)
  | read x g k => exact ((DAll.cons (DOk.word 12 (by decide +kernel)) (DAll.cons (DOk.str (hC x h.1) 12) (DAll.cons (DOk.str (hG g h.2) 12) (DAll.cons (num 12 t) .nil)))).tup).mono (by decide) (by decide)
  | tell tm k =>
    have ht := (tm_dok hC tm h.1).mono (w2 := 440) (k2 := 12) (by have := h.2; omega) (by have := h.2; omega)
    exact ((DAll.cons (DOk.word 12 (by decide +kernel)) (DAll.cons ht (DAll.cons (num 12 t) .nil))).tup).mono (by decide) (by decide)
  | sure xs n k =>
    have hs := ((strs_dall (fun x hx => hC x (h.1 x hx)) 11).tup).mono (w2 := 28) (k2 := 12) (by have := h.2.1; omega) (by decide)
    exact ((DAll.cons (DOk.word 12 (by decide +kernel)) (DAll.cons hs (DAll.cons (DOk.int' h.2.2.1 h.2.2.2 12) (DAll.cons (num 12 t) .nil)))).tup).mono (by decide) (by decide)
  | ite tm k m =>
    have ht := (tm_dok hC tm h.1).mono (w2 := 440) (k2 := 12) (by have := h.2; omega) (by have := h.2; omega)
    exact ((DAll.cons (DOk.word 12 (by decide +kernel)) (DAll.cons ht (DAll.cons (num 12 t.1) (DAll.cons (num 12 t.2) .nil)))).tup).mono (by decide) (by decide)
  | fin => exact ((DAll.cons (DOk.word 12 (by decide +kernel)) .nil).tup).mono (by decide) (by decide)
theorem rows_dall {C G : Str → Prop} (hC : ∀ x, C x → NmOk x) (hG : ∀ x, G x → NmOk x) {M : Nat} (hM : M < 1000000) {rs : List Rw} (h : ∀ r ∈ rs, r.Ok C G ∧ r.tg M) : DAll (rs.map Rw.enc) (601 * rs.length) 13 := by
  induction rs with
  | nil => exact .nil
  | cons r q ih =>
    refine (DAll.cons (rw_dok hC hG hM (h r List.mem_cons_self).1 (h r List.mem_cons_self).2) (ih fun z hz => h z (List.mem_cons_of_mem _ hz))).mono ?_ (Nat.le_refl _)
    rw [List.length_cons]
    omega
/-- what is shown of a whole -/
theorem DOk.fits {d : PyData} {w k : Nat} (a : DOk d w k) (hw : w ≤ 1000000) (hk : k ≤ 64) : d.showable = true ∧ d.hasDict = false ∧ d.shown.length ≤ sizeLine := by
  have hl : d.layable0 = true := by
    show (d.canLay0 && decide (d.depth ≤ 64) && decide (d.weight ≤ 2 ^ 20)) = true
    rw [a.lay, decide_eq_true (Nat.le_trans a.dp hk), decide_eq_true (Nat.le_trans a.wt (Nat.le_trans hw (by decide)))]
    rfl
  exact ⟨a.sh, PyData.hasDict_of_canLay d a.lay, PyData.shown_fits_of_layable0 (B := 13) (by decide) (by decide) hl a.int⟩
end Kz
set_option Elab.async false
set_option linter.all false
set_option maxRecDepth 100000
set_option maxHeartbeats 4000000
set_option pp.maxSteps 3000
/-! ZSo: sorted of pairs of a text and a number; repr of data. -/
namespace Kz
open PySem PySem.Spec PyProof.Rows L2
abbrev Pr' : Type := Str × Int
def encP (b : Pr') : PyData := .tuple [.str b.1, .int b.2]
def srt (l : List Pr') : List Pr' := l.mergeSort (PySem.W.dataLe false encP)
theorem keyP (b : Pr') : PySem.W.keyToks (encP b) = [.inl 1, .inr b.1.cps.toList, .inl 1, .inl b.2, .inl 0] := by
  unfold encP
  simp [PySem.W.keyToks, PySem.W.keyToksAll]
theorem keyP_inj {a b : Pr'} (h : PySem.W.keyToks (encP a) = PySem.W.keyToks (encP b)) : a = b := by
  rw [keyP, keyP] at h
  injection h with _ h
  injection h with h1 h
  injection h with _ h
  injection h with h2 _
  injection h1 with h1
  injection h2 with h2
  obtain ⟨x, i⟩ := a
  obtain ⟨y, j⟩ := b
  have e1 : x = y := PySem.W.str_of_cps h1
  have e2 : i = j := h2
  rw [e1, e2]
theorem srt_tot : PySem.W.TotalLe (PySem.W.dataLe false encP) := PySem.W.sortLe_total _ _ _
theorem srt_perm {l m : List Pr'} (h : l.Perm m) : srt l = srt m := by
  have s : ∀ z : List Pr', (srt z).Pairwise (fun a b => PySem.W.dataLe false encP a b = true) := fun z => List.pairwise_mergeSort (fun a b c h1 h2 => srt_tot.trans a b c h1 h2) (fun a b => Bool.or_eq_true_iff.mpr (srt_tot.total a b)) z
  refine List.Perm.eq_of_pairwise (le := fun a b => PySem.W.dataLe false encP a b = true) (fun a b _ _ h1 h2 => ?_) (s l) (s m) (((List.mergeSort_perm _ _).trans h).trans (List.mergeSort_perm _ _).symm)
  refine keyP_inj ?_
  have e1 : (!PySem.W.dataLt (encP b) (encP a)) = true := h1
  have e2 : (!PySem.W.dataLt (encP a) (encP b)) = true := h2
  rw [Bool.not_eq_true'] at e1 e2
  exact PyProof.Rows.lex_total _ _ e2 e1
theorem srt_len (l : List Pr') : (srt l).length = l.length := (List.mergeSort_perm _ _).length_eq
theorem alikeP (l : List Pr') : PySem.W.AllAlike (l.map encP) := PySem.W.AllAlike.of fun b b' => by
  unfold encP
  simp [PySem.W.alike, PySem.W.alikeAll]
theorem sortP (l : List Pr') : PySem.W.Sortable (l.map encP) := PySem.W.Sortable.tuples fun b => ⟨_, _, rfl⟩
theorem depthP (b : Pr') : (encP b).depth = 1 := by
  unfold encP
  simp [PyData.depth, PyData.depthAll]
section
variable {X : Cx}
/-- pairs in the heap -/
def PrAt (H : Hp) (v : V) (b : Pr') : Prop := ∃ a, v = .ref a ∧ H a = some (.tup [.str b.1, .int b.2])
theorem PrAt.dp {K : PySem.W.Frag} {H : Hp} {v : V} {b : Pr'} : PrAt H v b → Dp K H v (encP b) := fun ⟨a, e, h⟩ => by
  subst e
  exact .tup (SqT.of h) (.cons (.str _) (.cons (.int _) .nil))
theorem PrAt.mono {H H' : Hp} (t : Tu H H') {v : V} {b : Pr'} : PrAt H v b → PrAt H' v b := fun ⟨a, e, h⟩ => ⟨a, e, t _ _ h⟩
/-- a value that stands for a pair -/
def PrV (H : Hp) (u : Value) (b : Pr') : Prop := ∃ a, u = .ref a ∧ H a = some (.tup [.str b.1, .int b.2])
theorem prs_each {H : Hp} : ∀ {xs : List V} {bs : List Pr'} {us : List Value}, Paired (PrAt H) xs bs → Vals xs us → PySem.W.EachIs (PrV H) us bs
  | _, _, _, .nil, .nil => .nil
  | _, _, _, .cons ⟨a, e, h⟩ t, .cons r rr => by
    subst e
    cases r
    exact .cons ⟨a, rfl, h⟩ (prs_each t rr)
theorem each_prs {H : Hp} : ∀ {bs : List Pr'} {us : List Value}, PySem.W.EachIs (PrV H) us bs → ∃ xs, Vals xs us ∧ Paired (PrAt H) xs bs
  | _, _, .nil => ⟨[], .nil, .nil⟩
  | _, _, .cons ⟨a, e, h⟩ t => by
    obtain ⟨xs, h1, h2⟩ := each_prs t
    subst e
    exact ⟨.ref a :: xs, .cons rfl h1, .cons ⟨a, rfl, h⟩ h2⟩
theorem each_reads {pins : List (Addr × Obj)} {σ : L2.St} {H : Hp} {s : Shared} (I : Inv X pins σ H s) : ∀ {bs : List Pr'} {us : List Value}, PySem.W.EachIs (PrV H) us bs → PySem.W.EachIs (fun v b => ∃ as, Reads s.heap v (encP b) as) us bs
  | _, _, .nil => .nil
  | _, _, .cons ⟨a, e, h⟩ t => .cons (Dp.reads I _ (.ref a) _ (PrAt.dp (K := X.K) ⟨a, rfl, h⟩) (by rw [e]; rfl)) (each_reads I t)
def rSortP (K : PySem.W.Frag) : List V → Hp → VK → Prop := fun vs H Q => ∃ (a : Addr) (xs : List V) (bs : List Pr'), vs = [.ref a] ∧ SqL K H a xs ∧ Paired (PrAt H) xs bs ∧
  ∀ p H' ys, H p = none → Fr [] H H' → H' p = some (.lst ys) → Paired (PrAt H') ys (srt bs) → Q (.ref p) H'
theorem cr_sortP (hu : X.A.units + 10 < cLine) : CallR X (.builtin "sorted") (rSortP X.K) := by
  intro pins s σ H vs us Q I r h
  obtain ⟨a, xs, bs, rfl, hs, pr, q⟩ := h
  obtain ⟨its, rv, hl, hz⟩ := I.list hs
  rw [Vals.ref1 r]
  have e := prs_each pr rv
  have hn : bs.length ≤ sizeLine := by rw [← pr.length]; exact hz
  refine PySem.W.sorted_data hl.isList e (each_reads I e) (alikeP bs) (sortP bs) hn (fun b _ => by rw [depthP]; omega) fun out ho he => ?_
  obtain ⟨ep, he'⟩ := PyProof.Rows.sortedAll_at s.heap its (List.toArray out)
  obtain ⟨ys, v1, v2⟩ := each_prs he
  have hlen : ys.length ≤ sizeLine := by rw [v1.length, ho]; exact hn
  have hp : H (s.heap.objs.size + 1) = none := I.hok.fresh (Nat.le_succ _)
  refine ⟨.ref _, upd H (s.heap.objs.size + 1) (.lst ys), I.laid (t' := s.toks) (fun _ _ => PyProof.Rows.sortedAll_old) (Nat.le_succ _) ⟨hlen, out, ep, v1, he'⟩, rfl, q _ _ ys hp (Fr.refl.new hp) upd_same (Paired.mapP v2 fun _ _ z => z.mono (Tu.new hp))⟩
/-! ### repr -/
def rRepr (K : PySem.W.Frag) : List V → Hp → VK → Prop := fun vs H Q => ∃ (a : Addr) (d : PyData), vs = [.ref a] ∧ Dp K H (.ref a) d ∧ d.showable = true ∧ d.hasDict = false ∧ d.depth ≤ 64 ∧ d.shown.length ≤ sizeLine ∧ Q (.str d.shown) H
theorem cr_repr (hu : X.A.units + 100 < cLine) (hg : X.A.guards = some []) : CallR X (.builtin "repr") (rRepr X.K) := by
  intro pins s σ H vs us Q I r h
  obtain ⟨a, d, rfl, hd, h1, h2, h3, h4, q⟩ := h
  obtain ⟨as, rd⟩ := Dp.reads I d (.ref a) (.ref a) hd rfl
  rw [Vals.ref1 r]
  refine PySem.repr_of_reads' rd h1 (fun z => by rw [h2] at z; cases z) hg (by omega) (fun _ _ e => e) (fun h' u tk k => ?_) h4
  exact ⟨.str d.shown, H, I.kept k, ⟨u, rfl⟩, q⟩
end
end Kz
set_option Elab.async false
set_option linter.all false
set_option maxRecDepth 100000
set_option maxHeartbeats 4000000
set_option pp.maxSteps 3000
/-! ZSi: d.items() as a value, sorted of it. -/
namespace Kz
open PySem PySem.Spec PyProof.Rows L2 L2.DX
abbrev enc2 (b : Pr') : L2.Key × V := (Sum.inr b.1, V.int b.2)
theorem each_at {β : Type} {R : Value → β → Prop} : ∀ {us : List Value} {bs : List β}, us.length = bs.length → (∀ (j : Nat) (u : Value) (b : β), us[j]? = some u → bs[j]? = some b → R u b) → PySem.W.EachIs R us bs
  | [], [], _, _ => .nil
  | u :: us, b :: bs, e, h => .cons (h 0 u b rfl rfl) (each_at (by simpa using e) fun j v c h1 h2 => h (j + 1) v c (by simpa using h1) (by simpa using h2))
  | [], _ :: _, e, _ => by simp at e
  | _ :: _, [], e, _ => by simp at e
theorem each_refs {Z : Addr → Pr' → Prop} : ∀ {bs : List Pr'} {us : List Value}, PySem.W.EachIs (fun u b => ∃ a, u = .ref a ∧ Z a b) us bs → ∃ xs : List V, Vals xs us ∧ Paired (fun v b => ∃ a, v = V.ref a ∧ Z a b) xs bs
  | _, _, .nil => ⟨[], .nil, .nil⟩
  | _, _, .cons ⟨a, e, h⟩ t => by
    obtain ⟨xs, h1, h2⟩ := each_refs t
    subst e
    exact ⟨.ref a :: xs, .cons rfl h1, .cons ⟨a, rfl, h⟩ h2⟩
section
variable {X : Cx}
/-- d.items() -/
def rItemsK : V → List V → Hp → VK → Prop := fun x xs H Q => ∃ (a : Addr) (kvs : List (L2.Key × V)), x = .ref a ∧ xs = [] ∧ H a = some (.dK kvs) ∧ ∀ p H', H p = none → Fr [] H H' → H' p = some (itemsO p a) → H' a = some (.dK kvs) → Q (.ref p) H'
theorem mt_itemsK : MtR X "dict.items" rItemsK := by
  intro pins s σ H x xs v us Q I rx rxs h
  obtain ⟨a, kvs, rfl, rfl, ha, q⟩ := h
  cases rx
  cases rxs
  obtain ⟨z, hd, vs, kv, o, es, ep, ho, hx, hdat, _⟩ := dk_of I.hok ha
  refine DT.callItems (es := es) (ep := ep) hd ⟨o, ho, hx, hdat⟩ ?_
  have hf : H s.heap.objs.size = none := I.hok.fresh (Nat.le_refl _)
  exact ⟨.ref s.heap.objs.size, upd H s.heap.objs.size (itemsO s.heap.objs.size a), I.laid (t' := s.toks) (fun b u e => Heap.get?_push_of_some _ e) (Nat.le_refl _) (itemsO_ok (Heap.get?_push_size _ rfl)), rfl,
    q _ _ hf (Fr.refl.new hf) upd_same (by rw [upd_ne (ne_of_none ha hf)]; exact ha)⟩
/-- sorted of the pairs of a dict from texts to ints -/
def rSortI : List V → Hp → VK → Prop := fun vs H Q => ∃ (p a : Addr) (l : List Pr'), vs = [.ref p] ∧ H p = some (itemsO p a) ∧ H a = some (.dK (l.map enc2)) ∧
  ∀ p' H' ys, H p' = none → Fr [] H H' → H' p' = some (.lst ys) → Paired (PrAt H') ys (srt l) → Q (.ref p') H'
theorem cr_sortI (hc : X.calm = true) (hu : X.A.units + 10 < cLine) : CallR X (.builtin "sorted") rSortI := by
  intro pins s σ H vs us Q I r h
  obtain ⟨p, a, l, rfl, hp, ha, q⟩ := h
  rw [Vals.ref1 r]
  have view : s.heap.IsItemsView p a := (show ObjOk X.prog X.w H s.heap p (itemsO p a) from I.hok p _ hp).1
  obtain ⟨z, hd, ws, kv, o, es, ep, ho, hx, hdat, hk, hpr, hn⟩ := dk_of I.hok ha
  have hl : l.length = ws.length := by
    have e := Paired.length kv
    rw [List.length_map] at e
    exact e
  rw [List.length_map] at z
  have esz : es.size = ws.length := hpr.length
  refine DT.sortedI (es := es) (ep := ep) (I.ok.hd hc) view ⟨o, ho, hx, hdat⟩ (by rw [esz, ← hl]; exact z) fun h' tk as k hlt hlen G => ?_
  have pr : ∀ (j : Nat) (c : Addr), as[j]? = some c → ∃ (b : Pr') (t t' : Tok), l[j]? = some b ∧ h'.get? c = some { cls := .type "tuple", data := .seq #[.str b.1 t, .int b.2 t'] } := fun j c ec => by
    obtain ⟨e, e1, e3⟩ := G.pairs j c ec
    have hjl : j < l.length := by rw [hl, ← esz, ← hlen]; exact (List.getElem?_eq_some_iff.mp ec).1
    obtain ⟨u, hu', ru⟩ := kv_get kv (i := j) (k := Sum.inr l[j].1) (v := V.int l[j].2) (by rw [List.getElem?_map, List.getElem?_eq_getElem hjl]; rfl)
    obtain ⟨hkey, hval⟩ := hpr.get? (e := e) (by rw [Array.getElem?_toList]; exact e1) hu'
    obtain ⟨t', rfl⟩ := ru
    obtain ⟨t, et⟩ := relV_key (show keyIs (Sum.inr l[j].1) e.key = true from hkey)
    rw [et, hval] at e3
    exact ⟨l[j], t, t', List.getElem?_eq_getElem hjl, e3⟩
  have lz : (as.map Value.ref).length = l.length := by rw [List.length_map, hlen, esz, hl]
  have hoL : (h'.push { cls := .type "list", data := .seq (as.map Value.ref).toArray }).get? h'.objs.size = some (seqObj "list" (as.map Value.ref).toArray 0) := Heap.get?_push_size _ rfl
  have ev : PySem.W.EachIs (fun u (b : Pr') => ∃ c, u = .ref c ∧ ∃ t t', c ∈ as ∧ h'.get? c = some { cls := .type "tuple", data := .seq #[.str b.1 t, .int b.2 t'] }) (as.map Value.ref) l := each_at lz fun j u b h1 h2 => by
    rw [List.getElem?_map] at h1
    cases ec : as[j]? with
    | none => rw [ec] at h1; cases h1
    | some c =>
      rw [ec] at h1
      cases h1
      obtain ⟨b', t, t', e1, e3⟩ := pr j c ec
      rw [h2] at e1
      cases e1
      exact ⟨c, rfl, t, t', List.mem_of_getElem? ec, e3⟩
  generalize hh2 : h'.push { cls := .type "list", data := .seq (as.map Value.ref).toArray } = h2 at hoL ⊢
  have ka : ∀ b o, h'.get? b = some o → h2.get? b = some o := fun b o e => by rw [← hh2]; exact Heap.get?_push_of_some _ e
  have ne0 : ∀ b o, h'.get? b = some o → b ≠ h'.objs.size := fun b o e => Nat.ne_of_lt (Heap.lt_size e)
  have er : PySem.W.EachIs (fun v b => ∃ cs, Reads h2 v (encP b) cs ∧ h'.objs.size ∉ cs) (as.map Value.ref) l := ev.mono fun u b ⟨c, e1, t, t', _, e3⟩ => by
    subst e1
    exact ⟨_, .tuple (ka _ _ e3) rfl rfl (.cons (.str _ _) (.cons (.int _ _) .nil)), by simp⟩
  have lS : s.heap.objs.size ≤ h'.objs.size := Nat.le_of_lt hlt
  refine PySem.W.list_sort_data (s := { s with heap := h2, toks := tk }) (A := X.A.in1) hoL ev er (alikeP l) (sortP l) z (fun b _ => by rw [depthP]; show X.A.units + 1 + 1 + 1 < cLine; omega) fun out lo eo => ?_
  show EP X pins σ Q (.ref h'.objs.size) { s with heap := sortedHeap h2 h'.objs.size (as.map Value.ref) (List.toArray out), toks := tk }
  have kF : ∀ b o, b ≠ h'.objs.size → h2.get? b = some o → (sortedHeap h2 h'.objs.size (as.map Value.ref) (List.toArray out)).get? b = some o := fun b o hb e => (PyProof.Rows.sortedHeap_old hb (Heap.lt_size e)).trans e
  have kS : ∀ b o, s.heap.get? b = some o → (sortedHeap h2 h'.objs.size (as.map Value.ref) (List.toArray out)).get? b = some o := fun b o e => kF b o (ne0 _ _ (k b o e)) (ka _ _ (k b o e))
  obtain ⟨eF, heF⟩ := PyProof.Rows.sortedHeap_at (vs := as.map Value.ref) (out := List.toArray out) hoL
  have I1 : Inv X pins σ H { s with heap := sortedHeap h2 h'.objs.size (as.map Value.ref) (List.toArray out), toks := tk } := I.kept (t' := tk) kS
  have hn0 : H h'.objs.size = none := I.hok.fresh lS
  obtain ⟨ys, v1, v2⟩ := each_refs eo
  have lys : ys.length ≤ sizeLine := by rw [v1.length, lo]; exact z
  have I2 : Inv X pins σ (upd H h'.objs.size (.lst ys)) { s with heap := sortedHeap h2 h'.objs.size (as.map Value.ref) (List.toArray out), toks := tk } :=
    I1.take (h' := sortedHeap h2 h'.objs.size (as.map Value.ref) (List.toArray out)) (t' := tk) (fun b ob _ e => e) (I.fpOk lS hn0) ⟨lys, out, eF, v1, heF⟩
  obtain ⟨H2, I3, g, qt⟩ := takeT (P := fun b vs => ∃ (x : Pr') (t t' : Tok), vs = [.str x.1, .int x.2] ∧ h'.get? b = some { cls := .type "tuple", data := .seq #[.str x.1 t, .int x.2 t'] }) I as _ I2 (List.Pairwise.imp (fun h => Nat.ne_of_lt h) G.rise) fun b hb => by
    have hbl : s.heap.objs.size ≤ b := Nat.le_of_lt (G.above b hb)
    obtain ⟨j, hj⟩ := List.mem_iff_getElem?.mp hb
    obtain ⟨x, t, t', _, e3⟩ := pr j b hj
    exact ⟨hbl, by rw [upd_ne (ne0 _ _ e3)]; exact I.hok.fresh hbl, _, ⟨x, t, t', rfl, e3⟩, fun H3 => ⟨(by show 2 ≤ sizeLine; decide), [.str x.1 t, .int x.2 t'], .cons ⟨_, rfl⟩ (.cons ⟨_, rfl⟩ .nil), ⟨_, kF _ _ (ne0 _ _ e3) (ka _ _ e3), rfl, 0, rfl⟩⟩⟩
  have gr : ∀ b o, H b = some o → H2 b = some o := fun b o e => g b o (by rw [upd_ne (ne_of_none e hn0)]; exact e)
  have fr1 : Fr [] H H2 := ⟨fun b o _ e => gr b o e, fun b xs e => gr b _ e, fun b e => (by
    rcases hb : H b with _ | o
    · rfl
    · rw [gr b o hb] at e
      cases e), fun b o xs e => gr b _ e⟩
  refine ⟨.ref h'.objs.size, H2, I3, rfl, q _ H2 ys hn0 fr1 (g _ _ upd_same) (Paired.mapP v2 fun v b ⟨c, e1, t, t', hc, e3⟩ => ?_)⟩
  obtain ⟨vs, ⟨⟨x1, x2⟩, t2, t2', ev, e4⟩, hH⟩ := qt c hc
  rw [e3] at e4
  obtain ⟨b1, b2⟩ := b
  cases e4
  subst ev
  exact ⟨c, e1, hH⟩
end
end Kz
set_option Elab.async false
set_option linter.all false
set_option maxRecDepth 100000
set_option maxHeartbeats 4000000
set_option pp.maxSteps 3000
/-! ZPr: a whole program called otherwise, plainly. -/
namespace Kz
open PySem L2
def Prg.ren (c g h : Str → Str) (P : Prg) : Prg := ⟨P.gauges.map g, P.helpers.map fun z => (h z.1, z.2.map (renS c g h 12)), P.body.map (renS c g h 12)⟩
section
variable {c g h : Str → Str} {C G C' G' : Str → Prop} {env env' : Env'}
theorem Tm.Ok.ren (hC : ∀ x, C x → C' (c x)) : ∀ {t : Tm}, t.Ok C → (t.ren c).Ok C'
  | .num _, q => q
  | .cell x, q => hC x q
  | .op _ _ _, q => ⟨q.1, Tm.Ok.ren hC q.2.1, Tm.Ok.ren hC q.2.2⟩
theorem Tm.parts_ren : ∀ t : Tm, (t.ren c).parts = t.parts
  | .num _ => rfl
  | .cell _ => rfl
  | .op _ a b => by show 1 + (a.ren c).parts + (b.ren c).parts = 1 + a.parts + b.parts; rw [Tm.parts_ren a, Tm.parts_ren b]
theorem Wf.ren (hC : ∀ x, C x → C' (c x)) (hG : ∀ x, G x → G' (g x)) (hE : ∀ f b, env f = some b → env' (h f) = some (b.map (renS c g h 12))) : ∀ {n : Nat} {s : Sm}, n ≤ 12 → Wf C G env n s → Wf C' G' env' n (renS c g h n s) := by
  have tm : ∀ {t : Tm}, t.Ok C ∧ t.parts ≤ 11 → (t.ren c).Ok C' ∧ (t.ren c).parts ≤ 11 := fun q => ⟨q.1.ren hC, by rw [Tm.parts_ren]; exact q.2⟩
  have sr : ∀ {xs : List Str} {n : Int}, ((∀ x ∈ xs, C x) ∧ xs ≠ [] ∧ xs.length ≤ 4 ∧ 0 ≤ n ∧ n < WD) → ((∀ x ∈ xs.map c, C' x) ∧ xs.map c ≠ [] ∧ (xs.map c).length ≤ 4 ∧ 0 ≤ n ∧ n < WD) := fun q =>
    ⟨fun x hx => let ⟨y, hy, e⟩ := List.mem_map.mp hx; e ▸ hC y (q.1 y hy), fun z => q.2.1 (List.map_eq_nil_iff.mp z), by rw [List.length_map]; exact q.2.2.1, q.2.2.2⟩
  intro n
  induction n with
  | zero =>
    intro s _ w
    cases s with
    | set x t => exact ⟨hC x w.1, tm w.2⟩
    | read x gg => exact ⟨hC x w.1, hG gg w.2⟩
    | tell t => exact tm w
    | sure xs z => exact sr w
    | _ => exact w.elim
  | succ n ih =>
    have bd : ∀ {b : List Sm}, n + 1 ≤ 12 → (∀ s ∈ b, Wf C G env n s) → ∀ s ∈ b.map (renS c g h n), Wf C' G' env' n s := fun l q s hs => by
      obtain ⟨z, hz, rfl⟩ := List.mem_map.mp hs
      exact ih (by omega) (q z hz)
    intro s l w
    cases s with
    | set x t => exact ⟨hC x w.1, tm w.2⟩
    | read x gg => exact ⟨hC x w.1, hG gg w.2⟩
    | tell t => exact tm w
    | sure xs z => exact sr w
    | ite t a b => exact ⟨tm w.1, bd l w.2.1, bd l w.2.2⟩
    | wh t b => exact ⟨tm w.1, bd l w.2⟩
    | times k b => exact ⟨⟨w.1.1, w.1.2.1, fun z => w.1.2.2 (List.map_eq_nil_iff.mp z)⟩, bd l w.2⟩
    | call f =>
      obtain ⟨b, e, hb⟩ := w
      refine ⟨_, hE f b e, fun s hs => ?_⟩
      obtain ⟨z, hz, rfl⟩ := List.mem_map.mp hs
      rw [renS_up (hb z hz) (by omega : n ≤ 12)]
      exact ih (by omega) (hb z hz)
theorem ownS_ren {n : Nat} {s : Sm} (w : Wf C G env n s) : ownS (renS c g h n s) = (ownS s).map c := by
  cases n with
  | zero =>
    cases s with
    | set x t => show c x :: cellsT (t.ren c) = (x :: cellsT t).map c; rw [cellsT_ren, List.map_cons]
    | read x gg => rfl
    | tell t => exact cellsT_ren c t
    | sure xs z => rfl
    | _ => exact w.elim
  | succ n =>
    cases s with
    | set x t => show c x :: cellsT (t.ren c) = (x :: cellsT t).map c; rw [cellsT_ren, List.map_cons]
    | read x gg => rfl
    | tell t => exact cellsT_ren c t
    | sure xs z => rfl
    | ite t a b => exact cellsT_ren c t
    | wh t b => exact cellsT_ren c t
    | times k b => rfl
    | call f => rfl
theorem nmS_renX : ∀ {k n : Nat} {s : Sm}, Wf C G env n s → nmS k (renS c g h n s) = (nmS k s).map c := by
  intro k
  induction k with
  | zero =>
    intro n s w
    have e := ownS_ren (c := c) (g := g) (h := h) w
    cases n <;> cases s <;> first | exact w.elim | exact e
  | succ k ih =>
    have fl : ∀ {n : Nat} {b : List Sm}, (∀ s ∈ b, Wf C G env n s) → (b.map (renS c g h n)).flatMap (nmS k) = (b.flatMap (nmS k)).map c := fun {n b} hb => by
      induction b with
      | nil => rfl
      | cons s r ihr =>
        rw [List.map_cons, List.flatMap_cons, List.flatMap_cons, List.map_append, ih (hb s List.mem_cons_self), ihr fun z hz => hb z (List.mem_cons_of_mem _ hz)]
    intro n s w
    have e := ownS_ren (c := c) (g := g) (h := h) w
    cases n with
    | zero => cases s <;> first | exact w.elim | exact e
    | succ n =>
      cases s with
      | ite t a b =>
        show cellsT (t.ren c) ++ ((a.map (renS c g h n)).flatMap (nmS k) ++ (b.map (renS c g h n)).flatMap (nmS k)) = (cellsT t ++ (a.flatMap (nmS k) ++ b.flatMap (nmS k))).map c
        rw [cellsT_ren, fl w.2.1, fl w.2.2, List.map_append, List.map_append]
      | wh t b =>
        show cellsT (t.ren c) ++ (b.map (renS c g h n)).flatMap (nmS k) = (cellsT t ++ b.flatMap (nmS k)).map c
        rw [cellsT_ren, fl w.2, List.map_append]
      | times m b => exact fl w.2
      | _ => exact e
theorem envL_ren {hs : List (Str × List Sm)} {f : Str} {b : List Sm} : (∀ z ∈ hs, h z.1 = h f → z.1 = f) → envL hs f = some b → envL (hs.map fun z => (h z.1, z.2.map (renS c g h 12))) (h f) = some (b.map (renS c g h 12)) := by
  induction hs with
  | nil => intro _ e; cases e
  | cons z r ih =>
    intro hi e
    have e : (if f = z.1 then some z.2 else envL r f) = some b := e
    show (if h f = h z.1 then some (z.2.map (renS c g h 12)) else envL (r.map fun z => (h z.1, z.2.map (renS c g h 12))) (h f)) = _
    by_cases q : f = z.1
    · rw [if_pos q] at e
      rw [if_pos (by rw [q]), Option.some.inj e]
    · rw [if_neg q] at e
      rw [if_neg fun w => q (hi z List.mem_cons_self w.symm).symm]
      exact ih (fun y hy => hi y (List.mem_cons_of_mem _ hy)) e
end
section
variable {c g h : Str → Str} {ws ws' : List Str} {G : Str → Prop} {P : Prg}
theorem PgW.env (p : PgW ws G P) (hw : ∀ z ∈ P.helpers, z.1 ∈ ws) (hi : ∀ x ∈ ws, ∀ y ∈ ws, h x = h y → x = y) : ∀ f b, envL P.helpers f = some b → envL (P.ren c g h).helpers (h f) = some (b.map (renS c g h 12)) := fun f b e => by
  obtain ⟨z, hz, e1, _⟩ := envL_some e
  exact envL_ren (fun y hy q => hi _ (hw y hy) _ (e1 ▸ hw z hz) q) e
theorem map_ren {C G' : Str → Prop} {env : Env'} {n m : Nat} {b : List Sm} (h' : ∀ s ∈ b, Wf C G' env n s) (l : n ≤ m) : b.map (renS c g h m) = b.map (renS c g h n) := List.map_congr_left fun s hs => renS_up (h' s hs) l
theorem PgW.plR (p : PgW ws G P) (hw : ∀ z ∈ P.helpers, z.1 ∈ ws) (hi : ∀ x ∈ ws, ∀ y ∈ ws, h x = h y → x = y) {b : List Sm} (hb : ∀ s ∈ b, Wf (· ∈ ws) G (envL P.helpers) 12 s) :
    plL (plS (envL (P.ren c g h).helpers) NN) (b.map (renS c g h 12)) = (plL (plS (envL P.helpers) NN) b).ren c g := by
  rw [← map_ren hb (by decide : 12 ≤ NN)]
  refine plL_renS (N := NN) (fun f b e => ?_) fun s hs => (hb s hs).up (by decide)
  rw [p.env (c := c) (g := g) hw hi f b e]
  obtain ⟨z, hz, e1, e2⟩ := envL_some e
  rw [← e2, map_ren (p.hb z hz) (by decide : 9 ≤ NN), map_ren (p.hb z hz) (by decide : 9 ≤ 12)]
theorem PgW.plP (p : PgW ws G P) (hw : ∀ z ∈ P.helpers, z.1 ∈ ws) (hi : ∀ x ∈ ws, ∀ y ∈ ws, h x = h y → x = y) : Kz.plP (P.ren c g h) = (Kz.plP P).ren c g := p.plR hw hi p.bw
theorem PgW.ren (p : PgW ws G P) (hw : ∀ z ∈ P.helpers, z.1 ∈ ws) (hi : ∀ x ∈ ws, ∀ y ∈ ws, h x = h y → x = y) (hC : ∀ x ∈ ws, c x ∈ ws') (wl : ws'.length ≤ 60) : PgW ws' (fun y => ∃ x, G x ∧ g x = y) (P.ren c g h) := by
  have hE := p.env (c := c) (g := g) hw hi
  refine ⟨?_, ?_, fun z hz => ?_, fun s hs => ?_, ?_, fun z hz => ?_, fun z hz => ?_, wl⟩
  · show ((P.helpers.map fun z => (h z.1, z.2.map (renS c g h 12))).map (·.1)).Nodup
    have e1 : (P.helpers.map fun z => (h z.1, z.2.map (renS c g h 12))).map (·.1) = (P.helpers.map (·.1)).map h := by
      rw [List.map_map, List.map_map]
      rfl
    rw [e1]
    refine List.pairwise_map.mpr (List.Pairwise.imp_of_mem (fun {a b} ha hb n e => n ?_) p.hn)
    obtain ⟨x, hx, rfl⟩ := List.mem_map.mp ha
    obtain ⟨y, hy, rfl⟩ := List.mem_map.mp hb
    exact hi _ (hw x hx) _ (hw y hy) e
  · show (P.helpers.map _).length ≤ 3
    rw [List.length_map]
    exact p.hl
  · obtain ⟨y, hy, rfl⟩ := List.mem_map.mp hz
    intro s hs
    obtain ⟨t, ht, rfl⟩ := List.mem_map.mp hs
    rw [renS_up (p.hb y hy t ht) (by decide : 9 ≤ 12)]
    exact (p.hb y hy t ht).ren hC (fun x hx => ⟨x, hx, rfl⟩) hE (by decide)
  · obtain ⟨t, ht, rfl⟩ := List.mem_map.mp hs
    exact (p.bw t ht).ren hC (fun x hx => ⟨x, hx, rfl⟩) hE (by decide)
  · rw [p.plP hw hi, Pl.size_ren]
    exact p.sz
  · obtain ⟨y, hy, rfl⟩ := List.mem_map.mp hz
    exact fun q => p.ne y hy (List.map_eq_nil_iff.mp q)
  · obtain ⟨y, hy, rfl⟩ := List.mem_map.mp hz
    rw [p.plR hw hi (fun s hs => (p.hb y hy s hs).up (by decide)), Pl.size_ren]
    exact p.hs y hy
theorem PgW.nmR (p : PgW ws G P) : (P.ren c g h).nm = P.nm.map c := by
  have one : ∀ {n : Nat} {b : List Sm}, n ≤ 12 → (∀ s ∈ b, Wf (· ∈ ws) G (envL P.helpers) n s) → (b.map (renS c g h 12)).flatMap (nmS 6) = (b.flatMap (nmS 6)).map c := fun {n b} l hb => by
    rw [map_ren hb l]
    induction b with
    | nil => rfl
    | cons s r ih => rw [List.map_cons, List.flatMap_cons, List.flatMap_cons, List.map_append, nmS_renX (hb s List.mem_cons_self), ih fun z hz => hb z (List.mem_cons_of_mem _ hz)]
  have hl : ∀ {l : List (Str × List Sm)}, (∀ z ∈ l, z ∈ P.helpers) → ((l.map fun z => (h z.1, z.2.map (renS c g h 12))).map (·.2)).flatMap (fun b => b.flatMap (nmS 6)) = ((l.map (·.2)).flatMap fun b => b.flatMap (nmS 6)).map c := fun {l} hl => by
    induction l with
    | nil => rfl
    | cons z r ih => rw [List.map_cons, List.map_cons, List.map_cons, List.flatMap_cons, List.flatMap_cons, List.map_append, one (by decide : 9 ≤ 12) (p.hb z (hl z List.mem_cons_self)), ih fun y hy => hl y (List.mem_cons_of_mem _ hy)]
  show (((P.helpers.map fun z => (h z.1, z.2.map (renS c g h 12))).map (·.2)) ++ [P.body.map (renS c g h 12)]).flatMap _ = ((P.helpers.map (·.2) ++ [P.body]).flatMap _).map c
  rw [List.flatMap_append, List.flatMap_append, List.map_append, hl fun z hz => hz]
  refine congrArg (fun z => (List.flatMap (fun b => List.flatMap (nmS 6) b) (P.helpers.map (·.2))).map c ++ z) ?_
  rw [List.flatMap_cons, List.flatMap_nil, List.append_nil, List.flatMap_cons, List.flatMap_nil, List.append_nil]
  exact one (Nat.le_refl 12) p.bw
/-! ### both run alike -/
abbrev rowsP (P : Prg) : List Rw := (plP P).lay 0 (plP P).size ++ [.fin]
theorem PgW.rowsR (p : PgW ws G P) (hw : ∀ z ∈ P.helpers, z.1 ∈ ws) (hi : ∀ x ∈ ws, ∀ y ∈ ws, h x = h y → x = y) : rowsP (P.ren c g h) = (rowsP P).map (Rw.ren c g) := by
  show (Kz.plP (P.ren c g h)).lay 0 (Kz.plP (P.ren c g h)).size ++ [.fin] = _
  rw [p.plP hw hi, Pl.size_ren, Pl.lay_ren, List.map_append]
  rfl
theorem PgW.rows_ok (p : PgW ws G P) : ∀ r ∈ rowsP P, r.Ok (· ∈ ws) G := fun r hr => by
  rcases List.mem_append.mp hr with hr | hr
  · exact Pl.lay_ok (plL_ok fun s hs => plS_ok ((p.bw s hs).up (by decide : 12 ≤ NN))) r hr
  · rw [List.mem_singleton.mp hr]
    trivial
theorem PgOk.goes {t s : Nat} (p : PgOk ws P t s) {inp : Nat → Str → Int} (hI : Inp inp) : ∃ e, goM (rowsP P) inp (1 + t) m0 = some e := by
  refine goM_some hI rfl ?_
  have hs : Has (rowsP P) 0 ((Kz.plP P).lay 0 (Kz.plP P).size) := fun j r e => by
    rw [Nat.zero_add]
    show ((Kz.plP P).lay 0 (Kz.plP P).size ++ [Rw.fin])[j]? = some r
    rw [List.getElem?_append_left (List.getElem?_eq_some_iff.mp e).1]
    exact e
  have q := p.st (rowsP P) (Kz.plP P).size 1 hs fun c v => ?_
  · unfold Pl.ent at q
    split at q
    · rename_i z
      rw [z] at q
      exact q
    · exact q
  · refine hal_fin (n := 0) ?_
    show ((Kz.plP P).lay 0 (Kz.plP P).size ++ [Rw.fin])[(Kz.plP P).size]? = some .fin
    rw [List.getElem?_append_right (by rw [Pl.lay_len]; exact Nat.le_refl _), Pl.lay_len, Nat.sub_self]
    rfl
theorem runs_alike (p : PgW ws G P) (hw : ∀ z ∈ P.helpers, z.1 ∈ ws) (hi : ∀ x ∈ ws, ∀ y ∈ ws, h x = h y → x = y) (ci : ∀ x ∈ ws, ∀ y ∈ ws, c x = c y → x = y) {inp inp' : Nat → Str → Int} (hI : ∀ k x, G x → inp' k (g x) = inp k x) {n : Nat} {e : Mc} (he : goM (rowsP P) inp n m0 = some e) :
    ∃ e', goM (rowsP (P.ren c g h)) inp' n m0 = some e' ∧ RelM (· ∈ ws) c e e' := by
  rw [p.rowsR hw hi]
  exact goM_ren (fun x y hx hy q => ci x hx y hy q) p.rows_ok hI ⟨rfl, fun _ _ => rfl, rfl, rfl, rfl, rfl⟩ he
/-- what the cells hold, by name -/
theorem cells_perm (p : PgW ws G P) (ci : ∀ x ∈ ws, ∀ y ∈ ws, c x = c y → x = y) {e e' : Mc} (r : RelM (· ∈ ws) c e e') {ns ns' : List Str} (d : ns.Nodup) (m : ∀ x, x ∈ ns ↔ x ∈ P.nm) (d' : ns'.Nodup) (m' : ∀ x, x ∈ ns' ↔ x ∈ (P.ren c g h).nm) :
    (ns.map fun x => (c x, e.c x)).Perm (ns'.map fun y => (y, e'.c y)) := by
  have hin : ∀ x ∈ ns, x ∈ ws := fun x hx => p.nm_in x ((m x).mp hx)
  have dm : (ns.map c).Nodup := List.pairwise_map.mpr (List.Pairwise.imp_of_mem (fun {a b} ha hb n q => n (ci a (hin a ha) b (hin b hb) q)) d)
  have pm : (ns.map c).Perm ns' := (List.perm_ext_iff_of_nodup dm d').mpr fun y => by
    rw [m' y, p.nmR, List.mem_map, List.mem_map]
    exact ⟨fun ⟨x, hx, q⟩ => ⟨x, (m x).mp hx, q⟩, fun ⟨x, hx, q⟩ => ⟨x, (m x).mpr hx, q⟩⟩
  have q := pm.map fun y => (y, e'.c y)
  rw [List.map_map] at q
  rw [show (ns.map fun x => (c x, e.c x)) = ns.map ((fun y => (y, e'.c y)) ∘ c) from List.map_congr_left fun x hx => by show (c x, e.c x) = (c x, e'.c (c x)); rw [r.c x (hin x hx)]]
  exact q
end
end Kz
set_option Elab.async false
set_option linter.all false
set_option maxRecDepth 100000
set_option maxHeartbeats 4000000
set_option pp.maxSteps 3000
/-! ZLs: what the law knows between its parts. -/
namespace Kz
open PySem PySem.Spec PyProof.Rows L2 LamX NdefX
theorem code_ne_lst {H : Hp} {c : Addr} {q : Str} {xs : List V} (h : H c = some (CodeO c q)) : H c ≠ some (.lst xs) := fun z => by
  rw [h] at z
  cases z
theorem tab_fr {S : List Addr} {H H' : Hp} {P : Addr} {q : Str} (t : TabS H P q) (x : Fr S H H') (n : P ∉ S) (hs : ∀ b ∈ S, ∀ c r, H b ≠ some (CodeO c r)) : TabS H' P q := by
  obtain ⟨ps, h1, h2, h3⟩ := t
  refine ⟨ps, x.keep _ _ n h1, h2, fun pos cv hc => ?_⟩
  obtain ⟨c, e1, e2⟩ := h3 pos cv hc
  exact ⟨c, e1, x.keep _ _ (fun z => hs c z c q e2) e2⟩
theorem tab_ne {H : Hp} {P : Addr} {q : Str} (t : TabS H P q) {a : Addr} {o : HO} (e : H a = some o) (no : ∀ ps, o ≠ .tbl ps) : a ≠ P := fun z => by
  obtain ⟨ps, h1, _⟩ := t
  rw [z, h1] at e
  exact no ps (Option.some.inj e).symm
/-- names called otherwise: into fs, each otherwise -/
structure Nms (ws fs : List Str) (c g h : Str → Str) : Prop where
  cin : ∀ x ∈ ws, c x ∈ fs
  ci : ∀ x ∈ ws, ∀ y ∈ ws, c x = c y → x = y
  gin : ∀ x ∈ ws, g x ∈ fs
  gi : ∀ x ∈ ws, ∀ y ∈ ws, g x = g y → x = y
  hi : ∀ x ∈ ws, ∀ y ∈ ws, h x = h y → x = y
  fl : fs.length ≤ 60
  wl : ws.length ≤ 60
  ok : ∀ x ∈ fs, NmOk x
/-- where things are -/
structure La where
  f : Addr
  p : Addr
  dc : Addr
  dg : Addr
  dh : Addr
  Pt : Addr
  Pu : Addr
structure Lw (H : Hp) (L : La) (fl : Fl) (Pg : Prg) (ws : List Str) (c g h : Str → Str) : Prop where
  fl : FlAt H L.f fl
  pg : RPg H 6 L.p Pg
  c : DN H L.dc ws c
  g : DN H L.dg ws g
  h : DN H L.dh ws h
  t : TabS H L.Pt qRan
  u : TabS H L.Pu qTak
  tu : L.Pt ≠ L.Pu
section
variable {H H' : Hp} {L : La} {fl fl' : Fl} {Pg : Prg} {ws : List Str} {c g h : Str → Str}
theorem DN.ne {H : Hp} {d a : Addr} {c : Str → Str} (x : DN H d ws c) {o : HO} (e : H a = some o) (no : ∀ kvs, o ≠ .dK kvs) : d ≠ a := fun z => by
  obtain ⟨kvs, h1, _⟩ := x
  rw [z, e] at h1
  exact no kvs (Option.some.inj h1)
theorem not1 {a b : Addr} (h : a ≠ b) : a ∉ [b] := fun z => h (List.mem_singleton.mp z)
theorem Lw.f (l : Lw H L fl Pg ws c g h) (x : Fr [L.f] H H') (e : FlAt H' L.f fl') : Lw H' L fl' Pg ws c g h := by
  have nf : ∀ b ∈ [L.f], ∀ k r, H b ≠ some (CodeO k r) := fun b hb k r z => by
    rw [List.mem_singleton.mp hb, l.fl.at_] at z
    cases z
  exact ⟨e, l.pg.fr x, l.c.keep x (not1 (l.c.ne l.fl.at_ fun _ z => by cases z)), l.g.keep x (not1 (l.g.ne l.fl.at_ fun _ z => by cases z)), l.h.keep x (not1 (l.h.ne l.fl.at_ fun _ z => by cases z)),
    tab_fr l.t x (not1 (tab_ne l.t l.fl.at_ fun _ z => by cases z).symm) nf, tab_fr l.u x (not1 (tab_ne l.u l.fl.at_ fun _ z => by cases z).symm) nf, l.tu⟩
theorem Lw.e (l : Lw H L fl Pg ws c g h) (x : Fr [] H H') : Lw H' L fl Pg ws c g h := l.f (x.mono fun _ z => nomatch z) (l.fl.keep x fun z => nomatch z)
theorem Lw.nf (l : Lw H L fl Pg ws c g h) {b : Addr} (e : H b = none) : b ≠ L.f := (ne_of_none l.fl.at_ e).symm
theorem DN.neT {H : Hp} {d P : Addr} {q : Str} {c : Str → Str} (x : DN H d ws c) (t : TabS H P q) : d ≠ P := by
  obtain ⟨kvs, e, _⟩ := x
  exact tab_ne t e fun _ z => by cases z
theorem Lw.T (l : Lw H L fl Pg ws c g h) (x : Fr [L.Pt] H H') (e : TabS H' L.Pt qRan) : Lw H' L fl Pg ws c g h := by
  obtain ⟨ps, e1, _⟩ := id l.t
  have nf : ∀ b ∈ [L.Pt], ∀ k r, H b ≠ some (CodeO k r) := fun b hb k r z => by
    rw [List.mem_singleton.mp hb, e1] at z
    cases z
  exact ⟨l.fl.keep x (not1 (tab_ne l.t l.fl.at_ fun _ z => by cases z)), l.pg.fr x, l.c.keep x (not1 (l.c.neT l.t)), l.g.keep x (not1 (l.g.neT l.t)), l.h.keep x (not1 (l.h.neT l.t)), e, tab_fr l.u x (not1 l.tu.symm) nf, l.tu⟩
theorem Lw.U (l : Lw H L fl Pg ws c g h) (x : Fr [L.Pu] H H') (e : TabS H' L.Pu qTak) : Lw H' L fl Pg ws c g h := by
  obtain ⟨ps, e1, _⟩ := id l.u
  have nf : ∀ b ∈ [L.Pu], ∀ k r, H b ≠ some (CodeO k r) := fun b hb k r z => by
    rw [List.mem_singleton.mp hb, e1] at z
    cases z
  exact ⟨l.fl.keep x (not1 (tab_ne l.u l.fl.at_ fun _ z => by cases z)), l.pg.fr x, l.c.keep x (not1 (l.c.neT l.u)), l.g.keep x (not1 (l.g.neT l.u)), l.h.keep x (not1 (l.h.neT l.u)), tab_fr l.t x (not1 l.tu) nf, e, l.tu⟩
end
/-! ### a thing locked for a while -/
theorem lock_fr {H H' : Hp} {d : Addr} {u : HO} {od : Obj} (hd : H d = some u) (nt : NoTup u) (x : Fr [] (upd H d (.frz od u)) H') : Fr [] H (upd H' d u) := by
  have nn : ∀ {a : Addr}, a ∉ ([] : List Addr) := fun z => nomatch z
  refine ⟨fun a o _ e => ?_, fun a xs e => ?_, fun a e => ?_, fun a o xs e => ?_⟩
  · by_cases z : a = d
    · rw [z, hd] at e
      rw [z, upd_same]
      exact e
    · rw [upd_ne z]
      exact x.keep _ _ nn (by rw [upd_ne z]; exact e)
  · by_cases z : a = d
    · rw [z, hd] at e
      rw [z, upd_same]
      exact e
    · rw [upd_ne z]
      exact x.tups _ _ (by rw [upd_ne z]; exact e)
  · by_cases z : a = d
    · rw [z, upd_same] at e
      cases e
    · rw [upd_ne z] at e
      have q := x.back a e
      rw [upd_ne z] at q
      exact q
  · by_cases z : a = d
    · rw [z, hd] at e
      rw [z, upd_same]
      exact e
    · rw [upd_ne z]
      exact x.fz _ _ _ (by rw [upd_ne z]; exact e)
/-! ### dicts from texts to rows -/
abbrev encR (z : Str × Addr) : Key × V := (Sum.inr z.1, V.ref z.2)
def putL (l : List (Str × Addr)) (x : Str) (r : Addr) : List (Str × Addr) := if (l.any fun z => decide (z.1 = x)) = true then l.map (fun z => if z.1 = x then (z.1, r) else z) else l ++ [(x, r)]
theorem putL_enc (l : List (Str × Addr)) (x : Str) (r : Addr) : putK (l.map encR) (Sum.inr x : Key) (.ref r) = (putL l x r).map encR := by
  have ea : ((l.map encR).any fun kv => decide (kv.1 = (Sum.inr x : Key))) = l.any fun z => decide (z.1 = x) := by
    rw [List.any_map]
    refine congrArg (fun p => l.any p) (funext fun z => ?_)
    show decide ((Sum.inr z.1 : Key) = Sum.inr x) = decide (z.1 = x)
    exact decide_eq_decide.mpr ⟨fun e => Sum.inr.inj e, fun e => by rw [e]⟩
  unfold putK putL
  rw [ea]
  split
  · rw [List.map_map, List.map_map]
    refine List.map_congr_left fun z _ => ?_
    show (if (Sum.inr z.1 : Key) = Sum.inr x then ((Sum.inr z.1 : Key), V.ref r) else encR z) = encR (if z.1 = x then (z.1, r) else z)
    by_cases e : z.1 = x
    · rw [if_pos (by rw [e]), if_pos e]
    · rw [if_neg (fun q => e (Sum.inr.inj q)), if_neg e]
  · rw [List.map_append]
    rfl
theorem putL_mem {l : List (Str × Addr)} {x : Str} {r : Addr} {z : Str × Addr} (h : z ∈ putL l x r) : z = (x, r) ∨ (z ∈ l ∧ z.1 ≠ x) := by
  unfold putL at h
  split at h
  · obtain ⟨y, hy, e⟩ := List.mem_map.mp h
    by_cases q : y.1 = x
    · rw [if_pos q] at e
      rw [← e, q]
      exact .inl rfl
    · rw [if_neg q] at e
      rw [← e]
      exact .inr ⟨hy, q⟩
  · rename_i n
    rcases List.mem_append.mp h with q | q
    · refine .inr ⟨q, fun e => n ?_⟩
      exact List.any_eq_true.mpr ⟨z, q, decide_eq_true e⟩
    · exact .inl (List.mem_singleton.mp q)
theorem putL_has {l : List (Str × Addr)} {x : Str} {r : Addr} : ∀ y, (y = x ∨ y ∈ l.map (·.1)) → y ∈ (putL l x r).map (·.1) := fun y hy => by
  unfold putL
  split
  · rename_i n
    have em : (l.map (fun z => if z.1 = x then (z.1, r) else z)).map (·.1) = l.map (·.1) := by
      rw [List.map_map]
      refine List.map_congr_left fun z _ => ?_
      show (if z.1 = x then (z.1, r) else z).1 = z.1
      split <;> rfl
    rw [em]
    rcases hy with e | h
    · obtain ⟨z, hz, q⟩ := List.any_eq_true.mp n
      rw [e, ← of_decide_eq_true q]
      exact List.mem_map.mpr ⟨z, hz, rfl⟩
    · exact h
  · rw [List.map_append]
    rcases hy with e | h
    · exact List.mem_append_right _ (by rw [e]; exact List.mem_singleton.mpr rfl)
    · exact List.mem_append_left _ h
theorem putL_nd {l : List (Str × Addr)} {x : Str} {r : Addr} (h : (l.map (·.1)).Nodup) : ((putL l x r).map (·.1)).Nodup := by
  unfold putL
  split
  · have em : (l.map (fun z => if z.1 = x then (z.1, r) else z)).map (·.1) = l.map (·.1) := by
      rw [List.map_map]
      refine List.map_congr_left fun z _ => ?_
      show (if z.1 = x then (z.1, r) else z).1 = z.1
      split <;> rfl
    rw [em]
    exact h
  · rename_i n
    rw [List.map_append]
    refine List.nodup_append.mpr ⟨h, List.pairwise_singleton _ _, fun a ha b hb e => n ?_⟩
    have hb : b = x := List.mem_singleton.mp hb
    obtain ⟨z, hz, q⟩ := List.mem_map.mp ha
    exact List.any_eq_true.mpr ⟨z, hz, decide_eq_true (by rw [q, e, hb])⟩
theorem putL_len {l : List (Str × Addr)} {x : Str} {r : Addr} : (putL l x r).length ≤ l.length + 1 := by
  unfold putL
  split
  · rw [List.length_map]
    omega
  · rw [List.length_append]
    exact Nat.le_refl _
theorem valV_mem : ∀ {l : List (Str × Addr)} {z : Str × Addr}, (l.map (·.1)).Nodup → z ∈ l → valV (l.map encR) (Sum.inr z.1 : Key) = some (.ref z.2)
  | y :: l, z, nd, h => by
    rw [List.map_cons] at nd
    obtain ⟨n1, n2⟩ := List.nodup_cons.mp nd
    show valV (encR y :: l.map encR) _ = _
    rcases List.mem_cons.mp h with e | h
    · rw [e]
      exact valV_pos rfl
    · rw [valV_neg (fun e => n1 (by rw [show y.1 = z.1 from Sum.inr.inj e]; exact List.mem_map.mpr ⟨z, h, rfl⟩))]
      exact valV_mem n2 h
/-! ### data of runs -/
def dInts (xs : List Int) : PyData := .tuple (xs.map PyData.int)
theorem canLayAll_ints (xs : List Int) : PyData.canLayAll0 (xs.map PyData.int) = true := by
  induction xs with
  | nil => rfl
  | cons x r ih =>
    rw [List.map_cons, PyData.canLayAll0, ih]
    rfl
theorem depthAll_ints (xs : List Int) : PyData.depthAll (xs.map PyData.int) = 0 := by
  induction xs with
  | nil => rfl
  | cons x r ih =>
    rw [List.map_cons, PyData.depthAll, ih]
    rfl
theorem dInts_lay (xs : List Int) : (dInts xs).canLay0 = true := by
  unfold dInts
  rw [PyData.canLay0]
  exact canLayAll_ints xs
theorem dInts_depth (xs : List Int) : (dInts xs).depth = 1 := by
  unfold dInts
  rw [PyData.depth, depthAll_ints]
theorem dp_ints {K : PySem.W.Frag} {H : Hp} {a : Addr} {xs : List Int} (e : H a = some (.tup (xs.map V.int))) : Dp K H (.ref a) (dInts xs) := by
  refine .tup (SqT.of e) ?_
  clear e
  induction xs with
  | nil => exact .nil
  | cons x r ih => exact .cons (.int _) ih
theorem shaped_of {d : PyData} (h1 : d.canLay0 = true) (h2 : d.depth ≤ 64) : SeqAt.shaped d = true := by
  show (d.canLay0 && decide (d.depth ≤ 64)) = true
  rw [h1, decide_eq_true h2]
  rfl
theorem eqv_self {d : PyData} (h1 : d.canLay0 = true) : PyData.eqv d d = true := PySem.SeqAt.eqv_refl_plain d (PySem.PyData.plain_of_canLay0 d h1)
end Kz
set_option Elab.async false
set_option linter.all false
set_option maxRecDepth 100000
set_option maxHeartbeats 4000000
set_option pp.maxSteps 3000
/-! ZLt: the law's body in four parts. -/
namespace Kz
open PySem PySem.Spec PyProof.Rows L2 LamX NdefX
def lawB2 : List Stmt := match defBody s_law with
  | _ :: _ :: _ :: _ :: _ :: _ :: _ :: r => r
  | _ => []
def lawB3 : List Stmt := match lawB2 with
  | _ :: _ :: _ :: _ :: r => r
  | _ => []
def lawB4 : List Stmt := match lawB3 with
  | _ :: _ :: _ :: _ :: r => r
  | _ => []
/-- the law's own frame -/
abbrev XL (P : Program) (w : World) (K : PySem.W.Frag) (mg : Str → Option Value) (base : Heap) (f : Addr) (cdv : Value) (A : Around) (outer : List Env) (s : Shared) (H : Hp) : Cx := (cxOf CX0 P w K mg base N_law "law" (defScope s_law) f cdv A outer s H E0).nox
abbrev AL (A : Around) (f : Addr) (cdv : Value) (s : Shared) : Around := A.deeper (envOfC "law" (defScope s_law) s.heap.objs.size f cdv)
end Kz
set_option Elab.async false
set_option linter.all false
set_option maxRecDepth 100000
set_option maxHeartbeats 4000000
set_option pp.maxSteps 3000
/-! ZL4: the law's last part. -/
namespace Kz
open PySem PySem.Spec PyProof.Rows L2 LamX NdefX
/-- the rows by the other names -/
def rowR (ws : List Str) (g : Str → Str) (row : Str → List Int) : Str → List Int := fun y => match ws.find? (fun x => decide (g x = y)) with
  | some x => row x
  | none => []
theorem rowR_at {ws : List Str} {g : Str → Str} {row : Str → List Int} (gi : ∀ x ∈ ws, ∀ y ∈ ws, g x = g y → x = y) {x : Str} (hx : x ∈ ws) : rowR ws g row (g x) = row x := by
  unfold rowR
  cases e : ws.find? (fun z => decide (g z = g x)) with
  | none =>
    have q := List.find?_eq_none.mp e x hx
    exact absurd (decide_eq_true rfl) q
  | some z =>
    have q := List.find?_some e
    have m := List.mem_of_find?_eq_some e
    show row z = row x
    rw [gi z m x hx (of_decide_eq_true q)]
theorem rowR_ok {ws : List Str} {g : Str → Str} {row : Str → List Int} (h : ∀ g, ∀ x ∈ row g, 0 ≤ x ∧ x < WD) : ∀ y, ∀ x ∈ rowR ws g row y, 0 ≤ x ∧ x < WD := fun y x hx => by
  unfold rowR at hx
  split at hx
  · exact h _ x hx
  · exact absurd hx List.not_mem_nil
/-- told and gone, as data -/
def dTwo (e : Mc) : PyData := .tuple [dInts e.told, dInts (e.gone.map fun (n : Nat) => (n : Int))]
theorem dTwo_lay (e : Mc) : (dTwo e).canLay0 = true := by
  unfold dTwo
  rw [PyData.canLay0, PyData.canLayAll0, PyData.canLayAll0, dInts_lay, dInts_lay]
  rfl
theorem dTwo_depth (e : Mc) : (dTwo e).depth ≤ 64 := by
  unfold dTwo
  rw [PyData.depth, PyData.depthAll, PyData.depthAll, dInts_depth, dInts_depth]
  decide
theorem dTwo_dp {K : PySem.W.Frag} {H : Hp} {t pt pg : Addr} {e : Mc} (h : H t = some (.tup [.ref pt, .ref pg])) (h1 : H pt = some (.tup (e.told.map V.int))) (h2 : H pg = some (.tup (e.gone.map fun (n : Nat) => V.int (n : Int)))) : Dp K H (.ref t) (dTwo e) :=
  .tup (SqT.of h) (.cons (dp_ints h1) (.cons (dp_ints (by rw [h2, List.map_map]; rfl)) .nil))
section
variable {P : Program} {w : World} {K : PySem.W.Frag} {mg : Str → Option Value} {base : Heap}
theorem law_s4 (T : Tp K mg) {Pt Pu : Addr} (TT : TabB base mg (He.codeOf K ("ran", none)) Pt) (TU : TabB base mg (He.codeOf K ("ran_at", none)) Pu) {f : Addr} {cdv : Value} {A : Around} {outer : List Env} {s : Shared} {H0 : Hp} (hr : Room 34 (AL A f cdv s)) :
    ∃ t, PSs (XL P w K mg base f cdv A outer s H0) lawB4 t ∧ ∀ (D : Ends) (L : La) (H1 : Hp) (fl : Fl) (Pg : Prg) (ws fs : List Str) (c g h : Str → Str) (p2 vl : Addr) (xs : List Int) (y0 y3 y4 y8 y9 y10 y11 y12 y15 y16 y17 y18 y19 y20 y21 y22 y23 : Option V),
      L.Pt = Pt → L.Pu = Pu → Lw H1 L fl Pg ws c g h → Nms ws fs c g h → PgOk ws Pg 276 59 → RPg H1 6 p2 (Pg.ren c g h) → H1 vl = some (.lst (xs.map V.int)) → vl ≠ L.f → xs.length = 280 → (∀ x ∈ xs, 0 ≤ x ∧ x < WD) → (∀ H', D.rt (.bl true) H') →
      t D [y0, some (.ref L.f), some (.ref L.p), y3, y4, some (.ref L.dc), some (.ref L.dg), some (.ref L.dh), y8, y9, y10, y11, y12, some (.ref p2), some (.ref vl), y15, y16, y17, y18, y19, y20, y21, y22, y23] H1 := by
  have hu := hu_of hr
  have F_l_draw : Fx P w K mg base 1 "_law_draw" ["_law_flow_here", "_law_many"] spDrawC := ok_drawC T
  have F_l_values : Fx P w K mg base 2 "_law_values" ["_law_flow_here", "_law_many"] spValues := ok_values T
  have F_ran := ok_ran (P := P) (w := w) (base := base) T TT
  have F_ran_at := ok_ranAt (P := P) (w := w) (base := base) T TU
  refine ⟨_, show PSs (XL P w K mg base f cdv A outer s H0) lawB4 _ from ((pss_cons (ps_set (i := 17) sc_law.nd rfl (Or.inl rfl) (pe_dnC pe_dnewK))
    (pss_cons (ps_for PassesOwn.never rfl (pi_tup (pe_ix ix_tup (pv 2) pe_int (fun _ _ => rfl))) (pg_name (i := 12) sc_law.nd rfl (Or.inl rfl)) (pss_one (ps_dput hu (pv 17) (pv 12) (pe_callTy call_tupC (by rfl) T.n_tuple (by decide +kernel) (pa_cons (pe_F F_l_values (hr.mono (by omega)) (by rfl) (pa_cons (pv 1) (pa_cons (pe_op op_add pe_int (pe_F F_l_draw (hr.mono (by omega)) (by rfl) (pa_cons (pv 1) (pa_cons pe_int pa_nil)))) pa_nil))) pa_nil)) rfl)))
    (pss_cons (ps_setLc (i := 18) (own := [("_law_j", 20)]) rfl sc_law.nd rfl rfl (sw_true rfl rfl rfl (by decide +kernel)) (pi_range1 (by rfl) T.n_range (pa_cons pe_int pa_nil)) (blkOk_by (own := [("_law_j", 20)]) (N := N_law) (sc := defScope s_law) (by decide +kernel)) (fun _ _ _ _ _ => (pg_name (i := 20) sc_law.nd rfl (Or.inl rfl))) (fun _ _ _ _ _ => pts_nil) (fun _ _ _ _ _ => (pe_op op_add (pe_op op_mul pe_int (pv 20)) (pe_F F_l_draw (hr.mono (by omega)) (by rfl) (pa_cons (pv 1) (pa_cons pe_int pa_nil))))))
    (pss_cons (ps_set (i := 15) sc_law.nd rfl (Or.inl rfl) (pe_Fd F_ran_at (hr.mono (by omega)) (by rfl) (pa_cons (pv 2) (pa_cons (pv 17) (pa_cons (pv 18) pa_nil)))))
    (pss_cons (ps_set (i := 16) sc_law.nd rfl (Or.inl rfl) (pe_Fd F_ran_at (hr.mono (by omega)) (by rfl) (pa_cons (pv 13) (pa_cons (pe_callTy (call_dictP rfl) (by rfl) T.n_dict (by decide +kernel) (pa_cons (pe_lock (pe_lc (own := [("_law_g", 12), ("_law_row", 23)]) rfl sc_law.nd (pi_items (pv 17)) (blkOk_by (own := [("_law_g", 12), ("_law_row", 23)]) (N := N_law) (sc := defScope s_law) (by decide +kernel)) (fun _ _ _ _ _ => (pg_tupB (K := K) (n := 2) rfl rfl (pgs_cons (pg_name (i := 12) sc_law.nd rfl (Or.inl rfl) (by first | exact .inr rfl | exact .inl rfl)) (pgs_cons (pg_name (i := 23) sc_law.nd rfl (Or.inl rfl) (by first | exact .inr rfl | exact .inl rfl)) pgs_nil)) rfl rfl)) (fun _ _ _ _ _ => pts_nil) (fun _ _ _ _ _ => (pe_tupC (pa_cons (pe_dget hu (pv 6) (pv 12) (fun _ _ => rfl)) (pa_cons (pv 23) pa_nil)))))) pa_nil)) (pa_cons (pv 18) pa_nil)))))
    (pss_one (ps_ret (pe_and (pe_cmpR (op_eqD hr.units) (pe_tupC (pa_cons (pe_ix ix_tup (pv 15) pe_int (fun _ _ => rfl)) (pa_cons (pe_ix ix_tup (pv 15) pe_int (fun _ _ => rfl)) pa_nil))) (pe_tupC (pa_cons (pe_ix ix_tup (pv 16) pe_int (fun _ _ => rfl)) (pa_cons (pe_ix ix_tup (pv 16) pe_int (fun _ _ => rfl)) pa_nil))) (nomark _)) (pe_one (pe_cmpR (op_eqD hr.units) (pe_ix ix_tup (pe_Fd F_ran (hr.mono (by omega)) (by rfl) (pa_cons (pv 2) (pa_cons (pv 14) pa_nil))) pe_int (fun _ _ => rfl)) (pe_ix ix_tup (pe_Fd F_ran (hr.mono (by omega)) (by rfl) (pa_cons (pv 13) (pa_cons (pv 14) pa_nil))) pe_int (fun _ _ => rfl)) (nomark _))))))))))) ), fun D L H1 fl Pg ws fs c g h p2 vl xs y0 y3 y4 y8 y9 y10 y11 y12 y15 y16 y17 y18 y19 y20 y21 y22 y23 eT eU lw nm pok rp2 ev nv lx bx q => ?_⟩
  subst eT
  subst eU
  have nn : ∀ {a : Addr}, a ∉ ([] : List Addr) := fun z => nomatch z
  -- the rows
  refine fun d H2 n2 x2 e2 => ?_
  try dsimp only [gName]
  have lw2 := lw.e x2
  obtain ⟨gg, hh, bb, hv, bv, ep, eg, _⟩ := lw.pg.ex
  have ndf : d ≠ L.f := lw.nf n2
  have ndg : L.dg ≠ d := by
    obtain ⟨kvs, e1, _⟩ := lw.g
    exact ne_of_none e1 n2
  refine ⟨_, rfl, L.p, _, 0, .ref gg, rfl, rfl, SqT.of (x2.tups _ _ ep), at0, gg, rfl, ⟨_, SqT.of (x2.tups _ _ eg)⟩, ?_⟩
  refine for_tup (xs := Pg.gauges.map V.str) (fun i σ H' => ∃ (fl' : Fl) (l : List (Str × Addr)) (row : Str → List Int) (y12 : Option V), σ = [y0, some (.ref L.f), some (.ref L.p), y3, y4, some (.ref L.dc), some (.ref L.dg), some (.ref L.dh), y8, y9, y10, y11, y12, some (.ref p2), some (.ref vl), y15, y16, some (.ref d), y18, y19, y20, y21, y22, y23] ∧
    FlAt H' L.f fl' ∧ Fr [L.f] H1 H' ∧ H' d = some (.dK (l.map encR)) ∧ (l.map (·.1)).Nodup ∧ l.length ≤ i ∧ (∀ z ∈ l, z.1 ∈ Pg.gauges ∧ H' z.2 = some (.tup ((row z.1).map V.int)) ∧ row z.1 ≠ []) ∧ (∀ x ∈ Pg.gauges.take i, x ∈ l.map (·.1)) ∧ (∀ g, ∀ x ∈ row g, 0 ≤ x ∧ x < WD)) ?_ (fun i σ H' hi hP => ?_) (fun i x σ H' hx hP => ?_) (fun σ H' hP => ?_)
  · exact ⟨fl, [], fun _ => [], _, rfl, lw2.fl, x2.mono (fun _ z => nomatch z), e2, List.nodup_nil, Nat.le_refl 0, fun _ z => absurd z List.not_mem_nil, fun _ z => absurd z List.not_mem_nil, fun _ _ z => absurd z List.not_mem_nil⟩
  · obtain ⟨_, _, _, _, _, _, y, _⟩ := hP
    exact SqT.of (y.tups _ _ eg)
  · obtain ⟨fl', l, row, y12', rfl, hf, y, ed, nd, ll, hl, hg, hb⟩ := hP
    rw [List.getElem?_map] at hx
    obtain ⟨x, exx, rfl⟩ := Option.map_eq_some_iff.mp hx
    dsimp only [gName]
    have gl := pok.g2
    have hil : i < Pg.gauges.length := (List.getElem?_eq_some_iff.mp exx).1
    refine ⟨_, rfl, _, rfl, L.f, fl', 6, rfl, hf, by decide, by decide, fun v6 Ha fla a0 a1 ha xa => ⟨_, _, rfl, rfl, ?_⟩⟩
    obtain ⟨m, rfl⟩ : ∃ m : Nat, v6 = (m : Int) := ⟨v6.toNat, by omega⟩
    refine ⟨L.f, fla, 1 + m, (by show [V.ref L.f, V.int (1 + (m : Int))] = [V.ref L.f, V.int ((1 + m : Nat) : Int)]; rw [show (1 + (m : Int)) = ((1 + m : Nat) : Int) by omega]), ha, by omega, fun pl Hb flb ns hb' xb nb eb ln bn => ?_⟩
    refine ⟨pl, _, rfl, eb, fun pt Hc nc xc ec => ?_⟩
    have xbc : Fr [L.f] H' Hc := (xa.trans xb).trans (xc.mono fun _ z => nomatch z)
    have edc := xbc.keep _ _ (not1 ndf) ed
    refine ⟨_, rfl, _, rfl, d, _, rfl, DPut.k (k := Sum.inr x) edc (small1000 (by rw [List.length_map]; omega)), ?_⟩
    rw [putL_enc]
    have yd : Fr [d] Hc (upd Hc d (.dK ((putL l x pt).map encR))) := Fr.refl.mutD (.head _) edc
    have hc := hb'.keep xc nn
    have nptd : pt ≠ d := (ne_of_none ((xa.trans xb).keep _ _ (not1 ndf) ed) nc).symm
    refine ⟨flb, putL l x pt, fun z => if z = x then ns else row z, _, rfl, hc.keep yd (not1 ndf.symm), (y.trans xbc).own n2 edc, upd_same, putL_nd nd, Nat.le_trans putL_len (Nat.succ_le_succ ll), fun z hz => ?_, fun z hz => ?_, fun g z hz => ?_⟩
    · rcases putL_mem hz with e | ⟨h1, h2⟩
      · rw [e]
        dsimp only
        rw [if_pos rfl]
        refine ⟨List.mem_of_getElem? exx, yd.tups _ _ ec, fun z => ?_⟩
        rw [z] at ln
        exact absurd ln (by show ¬ 0 = 1 + m; omega)
      · obtain ⟨k1, k2, k3⟩ := hl z h1
        dsimp only
        rw [if_neg h2]
        exact ⟨k1, yd.tups _ _ (xbc.tups _ _ k2), k3⟩
    · rw [List.take_add_one, exx] at hz
      rcases List.mem_append.mp hz with h1 | h1
      · exact putL_has z (.inr (hg z h1))
      · exact putL_has z (.inl (List.mem_singleton.mp h1))
    · dsimp only at hz
      split at hz
      · exact bn z hz
      · exact hb g z hz
  · obtain ⟨fl3, l, row, y12', rfl, h3, y, ed, nd, ll, hl, hg, hb⟩ := hP
    rw [List.length_map] at ll hg
    rw [List.take_length] at hg
    have gin : ∀ z ∈ l, z.1 ∈ ws := fun z hz => pok.gw _ (hl z hz).1
    have pw := pok.w (by decide : 59 ≤ 59) nm.wl
    have pw2 := pw.ren (c := c) (g := g) (h := h) pok.hw nm.hi nm.cin nm.fl
    have lw3 := lw.f y h3
    have hd2 : ∀ {S : List Addr} {Hx Hy : Hp}, Fr S Hx Hy → d ∉ S → Hx d = some (.dK (l.map encR)) → (∀ z ∈ l, Hx z.2 = some (.tup ((row z.1).map V.int))) → GgD Hy d (· ∈ Pg.gauges) row := fun {S Hx Hy} x n e hz => by
      refine ⟨l.map encR, x.keep _ _ n e, fun k hk => ?_⟩
      obtain ⟨z, hz', rfl⟩ := List.mem_map.mp (hg k hk)
      exact ⟨z.2, valV_mem nd hz', x.tups _ _ (hz z hz'), (hl z hz').2.2⟩
    have gd3 := hd2 (Fr.refl (S := []) (H := H')) nn ed fun z hz => (hl z hz).2.1
    -- the moments
    refine ⟨280, rfl, by decide, by decide, fun M hM => ?_⟩
    have nMf : M ≠ L.f := lw3.nf hM
    refine lc_range (lo := 0) (n := 280) (fun i Hx => ∃ (fl' : Fl) (ms : List Int), Hx M = some (.lst (ms.map V.int)) ∧ FlAt Hx L.f fl' ∧ Fr [L.f] H' Hx ∧ ms.length = i) ⟨fl3, [], upd_same, h3.new hM, Fr.refl.new hM, rfl⟩ (fun i Hx hi hP => ?_) (fun H4 hP => ?_)
    · obtain ⟨fl', ms, eM, h', yx, lm⟩ := hP
      refine ⟨rfl, ?_⟩
      dsimp only [tYes]
      rw [if_pos rfl]
      refine ⟨_, rfl, _, _, rfl, rfl, .inl ⟨by omega, by omega⟩, _, rfl, L.f, fl', 3, rfl, h', by decide, by decide, fun v Ha fla a0 a1 ha xa => ⟨_, _, rfl, rfl, ?_⟩⟩
      have eMa := xa.keep _ _ (not1 nMf) eM
      have hi : i < 280 := hi
      refine ⟨_, eMa, small1000 (by rw [List.length_map]; omega), fla, ms ++ [3 * (0 + (i : Int)) + v], ?_, ⟨by rw [upd_ne nMf.symm]; exact ha.at_, ha.ok⟩, (yx.trans xa).own hM eMa, by rw [List.length_append, lm]; rfl⟩
      rw [upd_same, List.map_append]
      rfl
    · obtain ⟨fl4, ms, eM, h4, y4', lm⟩ := hP
      try dsimp only [gName]
      have y4 : Fr [L.f] H1 H4 := y.trans y4'
      have lw4 := lw.f y4 h4
      have gd4 := gd3.keep y4' (not1 ndf)
      have nMd : M ≠ d := (ne_of_none ed hM).symm
      obtain ⟨e, he⟩ := pok.goes (inpA_ok (ms := ms) hb)
      obtain ⟨e2, he2, re⟩ := runs_alike (g := g) (h := h) pw pok.hw nm.hi nm.ci (inp' := inpA (rowR ws g row) ms) (fun k x hx => (by
        unfold inpA
        rw [rowR_at nm.gi (pok.gw x hx)])) he
      have ndU : ∀ {Hx : Hp}, TabS Hx L.Pu qTak → Hx d = some (.dK (l.map encR)) → d ∉ [L.Pu] := fun t e => not1 (tab_ne t e fun _ z => by cases z)
      have ed4 := y4'.keep _ _ (not1 ndf) ed
      have hl4 : ∀ z ∈ l, H4 z.2 = some (.tup ((row z.1).map V.int)) := fun z hz => y4'.tups _ _ (hl z hz).2.1
      have rp4 := rp2.fr y4
      have ev4 := y4.keep _ _ (not1 nv) ev
      refine ⟨_, rfl, _, rfl, _, rfl, L.p, d, M, Pg, ws, (· ∈ Pg.gauges), (· ∈ Pg.gauges), row, ms, 1 + 276, e, rfl, lw4.u, lw4.pg, pw, fun _ hx => hx, gd4, eM, lm, hb, he, by decide, fun qa pt pc pg H5 ns x5 t5 rg => ?_⟩
      try dsimp only [gName]
      have lw5 := lw4.U x5 t5
      have nU : ∀ {a : Addr} {o : HO}, H4 a = some o → (∀ ps, o ≠ .tbl ps) → a ∉ [L.Pu] := fun ea no => not1 (tab_ne lw4.u ea no)
      have ed5 := x5.keep _ _ (nU ed4 fun _ z => by cases z) ed4
      have eM5 := x5.keep _ _ (nU eM fun _ z => by cases z) eM
      have ev5 := x5.keep _ _ (nU ev4 fun _ z => by cases z) ev4
      have rp5 := rp4.fr x5
      have hl5 : ∀ z ∈ l, H5 z.2 = some (.tup ((row z.1).map V.int)) := fun z hz => x5.tups _ _ (hl4 z hz)
      obtain ⟨r1, r2, r3, r4, _⟩ := rg
      clear x5 t5 lw4 gd4 ed4 hl4 rp4 ev4 eM h4 y4 y4' nU
      -- the other's gauges
      refine ⟨_, rfl, d, _, ed5, trivial, fun od => ⟨_, rfl, d, od, _, rfl, upd_same, fun D2 hD2 => ?_⟩⟩
      have nD2d : D2 ≠ d := fun z => by
        rw [z, upd_same] at hD2
        cases hD2
      refine lc_it walk_items (fun i Hx => ∃ ps : List Addr, Hx D2 = some (.lst (ps.map V.ref)) ∧ ps.length = i ∧ Paired (fun p kv => Hx p = some (.tup [kV kv.1, kv.2])) ps ((l.take i).map fun z => encR (g z.1, z.2)) ∧ Fr [] (upd H5 d (.frz od (.dK (l.map encR)))) Hx) ⟨[], upd_same, rfl, .nil, Fr.refl.new hD2⟩ (fun i Hx _ hP => ?_) (fun i x Hx Hy hi hP hY => ?_) (fun Hx hP => ?_)
      · obtain ⟨_, _, _, _, yy⟩ := hP
        exact yy.keep _ _ nn upd_same
      · obtain ⟨ps, eD, lp, pp, yy⟩ := hP
        obtain ⟨Tt, k1, v1, rfl, hT, rfl, hk, hv⟩ := hY
        have hil : i < l.length := by rw [List.length_map] at hi; exact hi
        dsimp only at hk hv
        rw [List.getElem?_map, List.getElem?_eq_getElem hil] at hk hv
        obtain rfl : V.str l[i].1 = k1 := Option.some.inj hk
        obtain rfl : V.ref l[i].2 = v1 := Option.some.inj hv
        have nTD : D2 ≠ Tt := ne_of_none eD hT
        have y1 : Fr [] Hx (upd Hx Tt (.tup [.str l[i].1, .ref l[i].2])) := Fr.refl.new hT
        refine ⟨Tt, _, rfl, SqT.of upd_same, rfl, _, _, rfl, ?_⟩
        dsimp only [gName]
        refine ⟨_, _, rfl, ?_⟩
        dsimp only [gName]
        refine ⟨rfl, rfl, ?_⟩
        dsimp only [tYes]
        rw [if_pos rfl]
        have gx : DN (upd Hx Tt (.tup [.str l[i].1, .ref l[i].2])) L.dg ws g := by
          refine DN.keep (S := []) (DN.keep (S := []) (H := upd H5 d (.frz od (.dK (l.map encR)))) ?_ yy nn) y1 nn
          obtain ⟨kvs, e1, e2'⟩ := lw5.g
          exact ⟨kvs, by rw [upd_ne ndg]; exact e1, e2'⟩
        refine ⟨_, rfl, _, rfl, L.dg, _, rfl, gx.get (gin _ (List.getElem_mem hil)), _, rfl, sz2, fun t Hz nt xt et => ?_⟩
        have yz : Fr [] Hx Hz := y1.trans xt
        have eDz := yz.keep _ _ nn eD
        have ll4 := pok.g2
        refine ⟨_, eDz, small1000 (by rw [List.length_map]; omega), ps ++ [t], ?_, by rw [List.length_append, lp]; rfl, ?_, (yy.trans yz).own hD2 eDz⟩
        · rw [upd_same, List.map_append]
          rfl
        · have et' : ∀ {b : Addr} {xs : List V}, Hz b = some (.tup xs) → upd Hz D2 (.lst (ps.map V.ref ++ [.ref t])) b = some (.tup xs) := fun {b xs} e => by
            rw [upd_ne (fun z => by rw [z, eDz] at e; cases e)]
            exact e
          rw [List.take_add_one, List.getElem?_eq_getElem hil, List.map_append]
          exact pd_app (Paired.mapP pp fun p kv e => et' (yz.tups _ _ e)) (.cons (et' et) .nil)
      · obtain ⟨ps, eD, lp, pp, yy⟩ := hP
        rw [List.length_map] at lp pp
        rw [List.take_length] at pp
        have edx := yy.keep _ _ nn upd_same
        have y6 : Fr [] H5 (upd Hx d (.dK (l.map encR))) := lock_fr ed5 trivial yy
        refine ⟨edx, D2, ps, (l.map fun z => (g z.1, z.2)).map encR, rfl, SqL.of (by rw [upd_ne nD2d]; exact eD), ?_, fun d2 nd2 => ?_⟩
        · rw [List.map_map]
          refine Paired.mapP pp fun p kv e => SqT.of ?_
          rw [upd_ne (fun z => by rw [z, edx] at e; cases e)]
          exact e
        have ndk : ((l.map fun z => (g z.1, z.2)).map (·.1)).Nodup := by
          rw [List.map_map, show ((fun z : Str × Addr => z.1) ∘ fun z : Str × Addr => (g z.1, z.2)) = g ∘ (fun z : Str × Addr => z.1) from rfl, ← List.map_map]
          refine List.pairwise_map.mpr (List.Pairwise.imp_of_mem (fun {a b} ha hb' n e => n ?_) nd)
          obtain ⟨x, hx, rfl⟩ := List.mem_map.mp ha
          obtain ⟨z, hz, rfl⟩ := List.mem_map.mp hb'
          exact nm.gi _ (gin x hx) _ (gin z hz) e
        have em : mergeK [] ((l.map fun z => (g z.1, z.2)).map encR) = (l.map fun z => (g z.1, z.2)).map encR := by
          refine mergeK_new (kvs := []) ?_
          rw [List.nil_append, List.map_map, show ((fun z : Key × V => z.1) ∘ encR) = Sum.inr ∘ (fun z : Str × Addr => z.1) from rfl, ← List.map_map]
          exact List.pairwise_map.mpr (List.Pairwise.imp (fun n e => n (Sum.inr.inj e)) ndk)
        rw [em]
        have y7 : Fr [] H5 (upd (upd Hx d (.dK (l.map encR))) d2 (.dK ((l.map fun z => (g z.1, z.2)).map encR))) := y6.new nd2
        have gd7 : GgD (upd (upd Hx d (.dK (l.map encR))) d2 (.dK ((l.map fun z => (g z.1, z.2)).map encR))) d2 (fun z => ∃ x, x ∈ Pg.gauges ∧ g x = z) (rowR ws g row) := by
          refine ⟨_, upd_same, fun z ⟨x, hx, hz⟩ => ?_⟩
          obtain ⟨u, hu', rfl⟩ := List.mem_map.mp (hg x hx)
          refine ⟨u.2, ?_, ?_, ?_⟩
          · rw [← hz]
            exact valV_mem (z := (g u.1, u.2)) ndk (List.mem_map.mpr ⟨u, hu', rfl⟩)
          · rw [← hz, rowR_at nm.gi (gin u hu')]
            exact y7.tups _ _ (hl5 u hu')
          · rw [← hz, rowR_at nm.gi (gin u hu')]
            exact (hl u hu').2.2
        generalize upd (upd Hx d (.dK (l.map encR))) d2 (.dK ((l.map fun z => (g z.1, z.2)).map encR)) = H7 at y7 gd7 ⊢
        clear pp lp edx eD y6 yy em
        have lw7 := lw5.e y7
        have eM7 := y7.keep _ _ nn eM5
        have ev7 := y7.keep _ _ nn ev5
        refine ⟨_, rfl, p2, d2, M, Pg.ren c g h, fs, _, _, rowR ws g row, ms, 1 + 276, e2, rfl, lw7.u, rp5.fr y7, pw2, fun _ hx => hx, gd7, eM7, lm, rowR_ok hb, he2, by decide, fun qb pt2 pc2 pg2 H8 ns2 x8 t8 rg2 => ?_⟩
        try dsimp only [gName]
        have lw8 := lw7.U x8 t8
        have y58 : Fr [L.Pu] H5 H8 := (y7.mono fun _ z => nomatch z).trans x8
        have ev8 := x8.keep _ _ (not1 (tab_ne lw7.u ev7 fun _ z => by cases z)) ev7
        have rp8 := (rp5.fr y7).fr x8
        obtain ⟨s1, s2, s3, s4, _⟩ := rg2
        rw [re.told] at s2
        rw [re.gone] at s4
        have q1 := y58.tups _ _ r1
        have q2 := y58.tups _ _ r2
        have q4 := y58.tups _ _ r4
        clear r1 r2 r3 r4 s3 y58 x8 t8 lw7 gd7 y7 eM7 ev7 eM5 ev5 ed5 hl5 rp5 lw5
        refine ⟨_, rfl, qa, _, 0, .ref pt, rfl, rfl, SqT.of q1, at0, _, rfl, qa, _, 2, .ref pg, rfl, rfl, SqT.of q1, at2, sz2, fun t1 Ha na xa ea => ?_⟩
        refine ⟨_, rfl, qb, _, 0, .ref pt2, rfl, rfl, SqT.of (xa.tups _ _ s1), at0, _, rfl, qb, _, 2, .ref pg2, rfl, rfl, SqT.of (xa.tups _ _ s1), at2, sz2, fun t2 Hb nb xb eb => ?_⟩
        have xab := xa.trans xb
        refine ⟨dTwo e, dTwo e, dTwo_dp (xb.tups _ _ ea) (xab.tups _ _ q2) (xab.tups _ _ q4), dTwo_dp eb (xab.tups _ _ s2) (xab.tups _ _ s4), shaped_of (dTwo_lay e) (dTwo_depth e), shaped_of (dTwo_lay e) (dTwo_depth e), true, by rw [eqv_self (dTwo_lay e)], ?_⟩
        rw [if_pos rfl]
        -- once more
        have lw9 := lw8.e xab
        have ev9 := xab.keep _ _ nn ev8
        obtain ⟨e3, he3⟩ := pok.goes (inpV_ok bx)
        obtain ⟨e4, he4, re4⟩ := runs_alike (g := g) (h := h) pw pok.hw nm.hi nm.ci (inp' := inpV xs) (fun k x hx => rfl) he3
        refine ⟨_, rfl, _, rfl, L.p, vl, Pg, ws, _, xs, 1 + 276, e3, rfl, lw9.t, lw9.pg, pw, ev9, lx, bx, he3, by decide, fun qc pt3 pc3 pg3 Hc ns3 xc tc rg3 => ?_⟩
        obtain ⟨u1, u2, _⟩ := rg3
        have lw10 := lw9.T xc tc
        refine ⟨qc, _, 0, .ref pt3, rfl, rfl, SqT.of u1, at0, ?_⟩
        refine ⟨_, rfl, _, rfl, p2, vl, Pg.ren c g h, fs, _, xs, 1 + 276, e4, rfl, lw10.t, (rp8.fr xab).fr xc, pw2, xc.keep _ _ (not1 (tab_ne lw9.t ev9 fun _ z => by cases z)) ev9, lx, bx, he4, by decide, fun qd pt4 pc4 pg4 Hd ns4 xd td rg4 => ?_⟩
        obtain ⟨v1, v2, _⟩ := rg4
        rw [re4.told] at v2
        refine ⟨qd, _, 0, .ref pt4, rfl, rfl, SqT.of v1, at0, ?_⟩
        refine ⟨dInts e3.told, dInts e3.told, dp_ints (xd.tups _ _ u2), dp_ints v2, shaped_of (dInts_lay _) (by rw [dInts_depth]; decide), shaped_of (dInts_lay _) (by rw [dInts_depth]; decide), ?_⟩
        rw [eqv_self (dInts_lay _)]
        exact q _
end
end Kz
set_option Elab.async false
set_option linter.all false
set_option maxRecDepth 100000
set_option maxHeartbeats 4000000
set_option pp.maxSteps 3000
/-! ZL3: both run, by one list of values. -/
namespace Kz
open PySem PySem.Spec PyProof.Rows L2 L2.DX LamX NdefX
theorem cK_int {c : Str → Int} {k : Key} {v : V} : ∀ {ns : List Str}, valV (cK ns c) k = some v → ∃ i, v = .int i
  | [], h => by cases h
  | x :: r, h => by
    by_cases e : (Sum.inr x : Key) = k
    · have q : valV ((Sum.inr x, V.int (c x)) :: cK r c) k = some (.int (c x)) := valV_pos e
      have h : valV ((Sum.inr x, V.int (c x)) :: cK r c) k = some v := h
      rw [q] at h
      exact ⟨_, (Option.some.inj h).symm⟩
    · have h : valV ((Sum.inr x, V.int (c x)) :: cK r c) k = some v := h
      rw [valV_neg e] at h
      exact cK_int h
theorem encP_lay {b : Pr'} (h : NmOk b.1) : (encP b).canLay0 = true := by
  have q := (DOk.str h 0).lay
  unfold encP
  rw [PyData.canLay0, PyData.canLayAll0, PyData.canLayAll0, q]
  rfl
def dPrs (bs : List Pr') : PyData := .list (bs.map encP)
theorem dPrs_lay {bs : List Pr'} (h : ∀ b ∈ bs, NmOk b.1) : (dPrs bs).canLay0 = true := by
  unfold dPrs
  rw [PyData.canLay0]
  induction bs with
  | nil => rfl
  | cons b r ih =>
    rw [List.map_cons, PyData.canLayAll0, encP_lay (h b List.mem_cons_self), ih fun z hz => h z (List.mem_cons_of_mem _ hz)]
    rfl
theorem dPrs_depth (bs : List Pr') : (dPrs bs).depth ≤ 64 := by
  have q : PyData.depthAll (bs.map encP) ≤ 1 := by
    induction bs with
    | nil => exact Nat.zero_le 1
    | cons b r ih =>
      rw [List.map_cons, PyData.depthAll, depthP]
      exact Nat.max_le.mpr ⟨Nat.le_refl 1, ih⟩
  unfold dPrs
  rw [PyData.depth]
  omega
theorem dp_prs {K : PySem.W.Frag} {H : Hp} {a : Addr} {ys : List V} {bs : List Pr'} (e : H a = some (.lst ys)) (p : Paired (PrAt H) ys bs) : Dp K H (.ref a) (dPrs bs) := by
  refine .lst (SqL.of e) ?_
  clear e
  induction p with
  | nil => exact .nil
  | cons h t ih => exact .cons h.dp ih
section
variable {P : Program} {w : World} {K : PySem.W.Frag} {mg : Str → Option Value} {base : Heap}
theorem law_s3 (T : Tp K mg) {Pt Pu : Addr} (TT : TabB base mg (He.codeOf K ("ran", none)) Pt) (TU : TabB base mg (He.codeOf K ("ran_at", none)) Pu) {f : Addr} {cdv : Value} {A : Around} {outer : List Env} {s : Shared} {H0 : Hp} (hr : Room 34 (AL A f cdv s)) :
    ∃ t, PSs (XL P w K mg base f cdv A outer s H0) lawB3 t ∧ ∀ (D : Ends) (L : La) (H1 : Hp) (fl : Fl) (Pg : Prg) (ws fs : List Str) (c g h : Str → Str) (p2 : Addr) (y0 y3 y4 y8 y9 y10 y11 y12 y14 y15 y16 y17 y18 y19 y20 y21 y22 y23 : Option V),
      L.Pt = Pt → L.Pu = Pu → Lw H1 L fl Pg ws c g h → Nms ws fs c g h → PgOk ws Pg 276 59 → RPg H1 6 p2 (Pg.ren c g h) → (∀ H', D.rt (.bl true) H') →
      t D [y0, some (.ref L.f), some (.ref L.p), y3, y4, some (.ref L.dc), some (.ref L.dg), some (.ref L.dh), y8, y9, y10, y11, y12, some (.ref p2), y14, y15, y16, y17, y18, y19, y20, y21, y22, y23] H1 := by
  have hu := hu_of hr
  have h10 : (AL A f cdv s).units + 10 < cLine := by have := hr.un; omega
  have F_l_values : Fx P w K mg base 2 "_law_values" ["_law_flow_here", "_law_many"] spValues := ok_values T
  have F_ran := ok_ran (P := P) (w := w) (base := base) T TT
  obtain ⟨t4, h4, q4⟩ := law_s4 (P := P) (w := w) T TT TU (outer := outer) (H0 := H0) hr
  refine ⟨_, show PSs (XL P w K mg base f cdv A outer s H0) lawB3 _ from ((pss_cons (ps_set (i := 14) sc_law.nd rfl (Or.inl rfl) (pe_op op_repC (pe_F F_l_values (hr.mono (by omega)) (by rfl) (pa_cons (pv 1) (pa_cons pe_int pa_nil))) pe_int))
    (pss_cons (ps_par (i := 15) (j := 16) rfl sc_law.nd rfl rfl (by decide) rfl rfl (pa_cons (pe_Fd F_ran (hr.mono (by omega)) (by rfl) (pa_cons (pv 2) (pa_cons (pv 14) pa_nil))) (pa_cons (pe_Fd F_ran (hr.mono (by omega)) (by rfl) (pa_cons (pv 13) (pa_cons (pv 14) pa_nil))) pa_nil)) (by rfl))
    (pss_cons (ps_if (pt_cmpR (op_neD hr.units) (pe_tupC (pa_cons (pe_ix ix_tup (pv 15) pe_int (fun _ _ => rfl)) (pa_cons (pe_ix ix_tup (pv 15) pe_int (fun _ _ => rfl)) pa_nil))) (pe_tupC (pa_cons (pe_ix ix_tup (pv 16) pe_int (fun _ _ => rfl)) (pa_cons (pe_ix ix_tup (pv 16) pe_int (fun _ _ => rfl)) pa_nil))) (nomark _)) (pss_one (ps_ret pe_bl))
     pss_nil)
    (pss_cons (ps_if (pt_cmpR (op_neD hr.units) (pe_callB (cr_sortP h10) (by rfl) T.n_sorted (by decide +kernel) (pa_cons (pe_lock (pe_lc (own := [("_law_x", 21), ("_law_value", 22)]) rfl sc_law.nd (pi_items (pe_ix ix_tup (pv 15) pe_int (fun _ _ => rfl))) (blkOk_by (own := [("_law_x", 21), ("_law_value", 22)]) (N := N_law) (sc := defScope s_law) (by decide +kernel)) (fun _ _ _ _ _ => (pg_tupB (K := K) (n := 2) rfl rfl (pgs_cons (pg_name (i := 21) sc_law.nd rfl (Or.inl rfl) (by first | exact .inr rfl | exact .inl rfl)) (pgs_cons (pg_name (i := 22) sc_law.nd rfl (Or.inl rfl) (by first | exact .inr rfl | exact .inl rfl)) pgs_nil)) rfl rfl)) (fun _ _ _ _ _ => pts_nil) (fun _ _ _ _ _ => (pe_tupC (pa_cons (pe_dget hu (pv 5) (pv 21) (fun _ _ => rfl)) (pa_cons (pv 22) pa_nil)))))) pa_nil)) (pe_callB (cr_sortI rfl h10) (by rfl) T.n_sorted (by decide +kernel) (pa_cons (pe_bm0 PySem.F.plainAttrs_dict PySem.F.slot_dict_items PySem.F.type_dict_items mt_itemsK (pe_ix ix_tup (pv 16) pe_int (fun _ _ => rfl))) pa_nil)) (nomark _)) (pss_one (ps_ret pe_bl))
     pss_nil)
    h4)))) ), fun D L H1 fl Pg ws fs c g h p2 y0 y3 y4 y8 y9 y10 y11 y12 y14 y15 y16 y17 y18 y19 y20 y21 y22 y23 eT eU lw nm pok rp2 q => ?_⟩
  subst eT
  subst eU
  have nn : ∀ {a : Addr}, a ∉ ([] : List Addr) := fun z => nomatch z
  have pw := pok.w (by decide : 59 ≤ 59) nm.wl
  have pw2 := pw.ren (c := c) (g := g) (h := h) pok.hw nm.hi nm.cin nm.fl
  -- the values
  refine ⟨_, rfl, L.f, fl, 40, rfl, lw.fl, by decide, fun pl H2 fl2 ns f2 x2 n2 e2 ln bn => ⟨pl, 7, _, rfl, rfl, e2, by decide, by decide, by rw [List.length_map]; omega, fun vl H3 n3 x3 e3 => ?_⟩⟩
  try dsimp only [gName]
  obtain ⟨xs, ex⟩ : ∃ xs : List Int, xs = (List.replicate 7 ns).flatten := ⟨_, rfl⟩
  have e3 : H3 vl = some (.lst (xs.map V.int)) := by
    rw [e3, ex, List.map_flatten, List.map_replicate]
    rfl
  have lx : xs.length = 280 := by
    rw [ex, List.length_flatten, List.map_replicate, ln]
    decide
  have bx : ∀ x ∈ xs, 0 ≤ x ∧ x < WD := fun x hx => by
    rw [ex] at hx
    obtain ⟨l, hl, hx⟩ := List.mem_flatten.mp hx
    rw [(List.mem_replicate.mp hl).2] at hx
    exact bn x hx
  have y3' : Fr [L.f] H1 H3 := x2.trans (x3.mono fun _ z => nomatch z)
  have lw3 := lw.f y3' (f2.keep x3 nn)
  have nvf : vl ≠ L.f := (lw.f x2 f2).nf n3
  have rp3 := rp2.fr y3'
  clear x2 x3 f2 n2 n3 e2 y3' ex
  -- the runs
  obtain ⟨e, he⟩ := pok.goes (inpV_ok bx)
  obtain ⟨e', he', re⟩ := runs_alike (g := g) (h := h) pw pok.hw nm.hi nm.ci (inp' := inpV xs) (fun k x hx => rfl) he
  refine ⟨_, rfl, _, rfl, L.p, vl, Pg, ws, _, xs, 1 + 276, e, rfl, lw3.t, lw3.pg, pw, e3, lx, bx, he, by decide, fun qa pt pc pg H4 na xa ta rga => ?_⟩
  have lw4 := lw3.T xa ta
  have e4 := xa.keep _ _ (not1 (tab_ne lw3.t e3 fun _ z => by cases z)) e3
  refine ⟨_, rfl, _, rfl, p2, vl, Pg.ren c g h, fs, _, xs, 1 + 276, e', rfl, lw4.t, rp3.fr xa, pw2, e4, lx, bx, he', by decide, fun qb pt2 pc2 pg2 H5 nb xb tb rgb => ⟨_, _, rfl, ?_⟩⟩
  have lw5 := lw4.T xb tb
  have e5 := xb.keep _ _ (not1 (tab_ne lw4.t e4 fun _ z => by cases z)) e4
  have rp5 := (rp3.fr xa).fr xb
  obtain ⟨r1, r2, r3, r4, da, ma, la⟩ := rga
  obtain ⟨s1, s2, s3, s4, db, mb, lb⟩ := rgb
  rw [re.told] at s2
  rw [re.gone] at s4
  have r1 := xb.tups _ _ r1
  have r2 := xb.tups _ _ r2
  have r3 := xb.keep _ _ (not1 (tab_ne lw4.t r3 fun _ z => by cases z)) r3
  have r4 := xb.tups _ _ r4
  clear xa xb ta tb lw3 lw4 rp3 e3 e4
  try dsimp only [gName]
  refine ⟨_, rfl, qa, _, 0, .ref pt, rfl, rfl, SqT.of r1, at0, _, rfl, qa, _, 2, .ref pg, rfl, rfl, SqT.of r1, at2, sz2, fun t1 Ha n1 xa ea => ?_⟩
  refine ⟨_, rfl, qb, _, 0, .ref pt2, rfl, rfl, SqT.of (xa.tups _ _ s1), at0, _, rfl, qb, _, 2, .ref pg2, rfl, rfl, SqT.of (xa.tups _ _ s1), at2, sz2, fun t2 Hb n2 xb eb => ?_⟩
  have xab := xa.trans xb
  refine ⟨dTwo e, dTwo e, dTwo_dp (xb.tups _ _ ea) (xab.tups _ _ r2) (xab.tups _ _ r4), dTwo_dp eb (xab.tups _ _ s2) (xab.tups _ _ s4), shaped_of (dTwo_lay e) (dTwo_depth e), shaped_of (dTwo_lay e) (dTwo_depth e), _, rfl, ite2 (fun c => absurd c (by rw [eqv_self (dTwo_lay e)]; decide)) (fun _ => ?_)⟩
  have lw6 := lw5.e xab
  have rp6 := rp5.fr xab
  have e6 := xab.keep _ _ nn e5
  have r1 := xab.tups _ _ r1
  have r3 := xab.keep _ _ nn r3
  have s1 := xab.tups _ _ s1
  have s3 := xab.keep _ _ nn s3
  clear xa xb xab ea eb n1 n2 lw5 rp5 e5 r2 r4 s2 s4
  -- what the cells hold
  have pm := cells_perm (c := c) (g := g) (h := h) pw nm.ci re da ma db mb
  have r1L : ∀ od, upd Hb pc (.frz od (.dK (cK na e.c))) qa = some (.tup [.ref pt, .ref pc, .ref pg]) := fun od => by
    rw [upd_ne (fun z => by rw [z, r3] at r1; cases r1)]
    exact r1
  have ndc : L.dc ≠ pc := fun z => by
    obtain ⟨kvs, e1, e2'⟩ := lw6.c
    rw [z, r3] at e1
    cases e1
    have hx := pok.gw _ (List.getElem_mem pok.g1)
    obtain ⟨i, ei⟩ := cK_int (e2' _ hx)
    cases ei
  refine ⟨pc, _, r3, trivial, fun od => ⟨_, rfl, qa, _, 1, .ref pc, rfl, rfl, SqT.of (r1L od), at1, pc, od, _, rfl, upd_same, fun D2 hD2 => ?_⟩⟩
  have nD2 : D2 ≠ pc := fun z => by
    rw [z, upd_same] at hD2
    cases hD2
  refine lc_it walk_items (fun i Hx => ∃ vs : List V, Hx D2 = some (.lst vs) ∧ vs.length = i ∧ Paired (PrAt Hx) vs ((na.take i).map fun x => (c x, e.c x)) ∧ Fr [] (upd Hb pc (.frz od (.dK (cK na e.c)))) Hx) ⟨[], upd_same, rfl, .nil, Fr.refl.new hD2⟩ (fun i Hx _ hP => ?_) (fun i x Hx Hy hi hP hY => ?_) (fun Hx hP => ?_)
  · obtain ⟨_, _, _, _, yy⟩ := hP
    exact yy.keep _ _ nn upd_same
  · obtain ⟨vs, eD, lp, pp, yy⟩ := hP
    obtain ⟨Tt, k1, v1, rfl, hT, rfl, hk, hv⟩ := hY
    have hil : i < na.length := by
      unfold cK at hi
      rw [List.length_map] at hi
      exact hi
    unfold cK at hk hv
    dsimp only at hk hv
    rw [List.getElem?_map, List.getElem?_eq_getElem hil] at hk hv
    obtain rfl : V.str na[i] = k1 := Option.some.inj hk
    obtain rfl : V.int (e.c na[i]) = v1 := Option.some.inj hv
    have y1 : Fr [] Hx (upd Hx Tt (.tup [.str na[i], .int (e.c na[i])])) := Fr.refl.new hT
    refine ⟨Tt, _, rfl, SqT.of upd_same, rfl, _, _, rfl, ?_⟩
    dsimp only [gName]
    refine ⟨_, _, rfl, ?_⟩
    dsimp only [gName]
    refine ⟨rfl, rfl, ?_⟩
    dsimp only [tYes]
    rw [if_pos rfl]
    have cx : DN (upd Hx Tt (.tup [.str na[i], .int (e.c na[i])])) L.dc ws c := by
      refine DN.keep (S := []) (DN.keep (S := []) (H := upd Hb pc (.frz od (.dK (cK na e.c)))) ?_ yy nn) y1 nn
      obtain ⟨kvs, e1, e2'⟩ := lw6.c
      exact ⟨kvs, by rw [upd_ne ndc]; exact e1, e2'⟩
    refine ⟨_, rfl, _, rfl, L.dc, _, rfl, cx.get (pw.nm_in _ ((ma _).mp (List.getElem_mem hil))), _, rfl, sz2, fun t Hz nt xt et => ?_⟩
    have yz : Fr [] Hx Hz := y1.trans xt
    have eDz := yz.keep _ _ nn eD
    refine ⟨_, eDz, small1000 (by omega), vs ++ [.ref t], upd_same, by rw [List.length_append, lp]; rfl, ?_, (yy.trans yz).own hD2 eDz⟩
    have et' : ∀ {b : Addr} {xs : List V}, Hz b = some (.tup xs) → upd Hz D2 (.lst (vs ++ [.ref t])) b = some (.tup xs) := fun {b xs} e => by
      rw [upd_ne (fun z => by rw [z, eDz] at e; cases e)]
      exact e
    rw [List.take_add_one, List.getElem?_eq_getElem hil, List.map_append]
    exact pd_app (Paired.mapP pp fun p kv ⟨a, e1, e2⟩ => ⟨a, e1, et' (yz.tups _ _ e2)⟩) (.cons ⟨t, rfl, et' et⟩ .nil)
  · obtain ⟨vs, eD, lp, pp, yy⟩ := hP
    unfold cK at lp pp
    rw [List.length_map] at lp pp
    rw [List.take_length] at pp
    have edx := yy.keep _ _ nn upd_same
    have y7 : Fr [] Hb (upd Hx pc (.dK (cK na e.c))) := lock_fr r3 trivial yy
    refine ⟨edx, D2, vs, _, rfl, SqL.of (by rw [upd_ne nD2]; exact eD), Paired.mapP pp fun p kv ⟨a, e1, e2⟩ => ⟨a, e1, by rw [upd_ne (fun z => by rw [z, edx] at e2; cases e2)]; exact e2⟩, fun l1 H8 ys1 n8 x8 e8 p8 => ?_⟩
    have y8 := y7.trans x8
    refine ⟨_, rfl, qb, _, 1, .ref pc2, rfl, rfl, SqT.of (y8.tups _ _ s1), at1, .inr (.inr (.inl ⟨rfl, .inl ⟨_, y8.keep _ _ nn s3⟩⟩)), pc2, _, rfl, rfl, y8.keep _ _ nn s3, fun pv H9 n9 x9 e9 k9 => ?_⟩
    refine ⟨pv, pc2, nb.map fun y => (y, e'.c y), rfl, e9, ?_, fun l2 Hc ys2 nc xc ec pc' => ?_⟩
    · rw [k9, List.map_map]
      rfl
    have y9 := x9.trans xc
    rw [← srt_perm pm] at pc'
    have lay : (dPrs (srt (na.map fun x => (c x, e.c x)))).canLay0 = true := dPrs_lay fun b hb => by
      obtain ⟨x, hx, rfl⟩ := List.mem_map.mp ((List.mergeSort_perm _ _).mem_iff.mp hb)
      exact nm.ok _ (nm.cin x (pw.nm_in x ((ma x).mp hx)))
    refine ⟨_, _, dp_prs (y9.keep _ _ nn e8) (Paired.mapP p8 fun _ _ z => z.mono y9.tu), dp_prs ec pc', shaped_of lay (dPrs_depth _), shaped_of lay (dPrs_depth _), _, rfl, ite2 (fun c => absurd c (by rw [eqv_self lay]; decide)) (fun _ => ?_)⟩
    have yF : Fr [] Hb Hc := y8.trans y9
    exact q4 D L Hc _ Pg ws fs c g h p2 vl xs _ _ _ _ _ _ _ _ _ _ _ _ _ _ _ _ _ rfl rfl (lw6.e yF) nm pok (rp6.fr yF) (yF.keep _ _ nn e6) nvf lx bx q
end
end Kz
set_option Elab.async false
set_option linter.all false
set_option maxRecDepth 100000
set_option maxHeartbeats 4000000
set_option pp.maxSteps 3000
/-! ZL2: the program called otherwise, its rows. -/
namespace Kz
open PySem PySem.Spec PyProof.Rows L2 L2.DX LamX NdefX
theorem rr_ref {H : Hp} {v : V} {r : Rw} (h : RR H v r) : ∃ a, v = .ref a := by
  cases r with
  | set x t k => exact let ⟨a, _, e, _⟩ := h; ⟨a, e⟩
  | read x g k => exact let ⟨a, e, _⟩ := h; ⟨a, e⟩
  | tell t k => exact let ⟨a, _, e, _⟩ := h; ⟨a, e⟩
  | sure xs n k => exact let ⟨a, _, e, _⟩ := h; ⟨a, e⟩
  | ite t k m => exact let ⟨a, _, e, _⟩ := h; ⟨a, e⟩
  | fin => exact let ⟨a, e, _⟩ := h; ⟨a, e⟩
theorem rows_len (Pg : Prg) : (rowsP Pg).length = (plP Pg).size + 1 := by
  show ((plP Pg).lay 0 (plP Pg).size ++ [Rw.fin]).length = _
  rw [List.length_append, Pl.lay_len]
  rfl
/-- the rows of the other program may be shown -/
theorem rows_shown {ws : List Str} {G : Str → Prop} {Pg : Prg} (pw : PgW ws G Pg) (hC : ∀ x ∈ ws, NmOk x) (hG : ∀ x, G x → NmOk x) : DOk (.tuple ((rowsP Pg).map Rw.enc)) 1000000 14 := by
  have q := (rows_dall (C := (· ∈ ws)) (G := G) (M := (plP Pg).size) hC hG (by have := pw.sz; omega) (rs := rowsP Pg) fun r hr => ⟨pw.rows_ok r hr, by
    rcases List.mem_append.mp hr with hr | hr
    · exact lay_tg (plP Pg) 0 _ (by omega) (Nat.le_refl _) r hr
    · rw [List.mem_singleton.mp hr]
      trivial⟩).tup
  refine q.mono ?_ (Nat.le_refl _)
  rw [rows_len]
  have := pw.sz
  omega
section
variable {P : Program} {w : World} {K : PySem.W.Frag} {mg : Str → Option Value} {base : Heap}
theorem law_s2 (T : Tp K mg) {Pt Pu : Addr} (TT : TabB base mg (He.codeOf K ("ran", none)) Pt) (TU : TabB base mg (He.codeOf K ("ran_at", none)) Pu) {f : Addr} {cdv : Value} {A : Around} {outer : List Env} {s : Shared} {H0 : Hp} (hr : Room 34 (AL A f cdv s)) (hg : (AL A f cdv s).guards = some []) :
    ∃ t, PSs (XL P w K mg base f cdv A outer s H0) lawB2 t ∧ ∀ (D : Ends) (L : La) (H1 : Hp) (fl : Fl) (Pg : Prg) (ws fs : List Str) (c g h : Str → Str) (y0 y3 y4 y8 y9 y10 y11 y12 y13 y14 y15 y16 y17 y18 y19 y20 y21 y22 y23 : Option V),
      L.Pt = Pt → L.Pu = Pu → Lw H1 L fl Pg ws c g h → Nms ws fs c g h → PgOk ws Pg 276 59 → (∀ H', D.rt (.bl true) H') →
      t D [y0, some (.ref L.f), some (.ref L.p), y3, y4, some (.ref L.dc), some (.ref L.dg), some (.ref L.dh), y8, y9, y10, y11, y12, y13, y14, y15, y16, y17, y18, y19, y20, y21, y22, y23] H1 := by
  have hu := hu_of hr
  have h100 : (AL A f cdv s).units + 100 < cLine := by have := hr.un; omega
  have F_l_body_anew := ok_bodyAnew (P := P) (w := w) (base := base) T 12 (by decide)
  have F_rows_of := ok_rowsX (P := P) (w := w) (base := base) T
  have F_l_row_anew := ok_rowAnew (P := P) (w := w) (base := base) T
  obtain ⟨t3, h3, q3⟩ := law_s3 (P := P) (w := w) T TT TU (outer := outer) (H0 := H0) hr
  refine ⟨_, show PSs (XL P w K mg base f cdv A outer s H0) lawB2 _ from ((pss_cons (ps_setLc (i := 11) (own := [("_law_f", 19), ("_law_body_here", 10)]) rfl sc_law.nd rfl rfl (sw_true rfl rfl rfl (by decide +kernel)) (pi_tup (pe_ix ix_tup (pv 2) pe_int (fun _ _ => rfl))) (blkOk_by (own := [("_law_f", 19), ("_law_body_here", 10)]) (N := N_law) (sc := defScope s_law) (by decide +kernel)) (fun _ _ _ _ _ => (pg_tupB (K := K) (n := 2) rfl rfl (pgs_cons (pg_name (i := 19) sc_law.nd rfl (Or.inl rfl) (by first | exact .inr rfl | exact .inl rfl)) (pgs_cons (pg_name (i := 10) sc_law.nd rfl (Or.inl rfl) (by first | exact .inr rfl | exact .inl rfl)) pgs_nil)) rfl rfl)) (fun _ _ _ _ _ => pts_nil) (fun _ _ _ _ _ => (pe_tupC (pa_cons (pe_dget hu (pv 7) (pv 19) (fun _ _ => rfl)) (pa_cons (pe_F F_l_body_anew (hr.mono (by omega)) (by rfl) (pa_cons (pv 10) (pa_cons (pv 5) (pa_cons (pv 6) (pa_cons (pv 7) pa_nil))))) pa_nil)))))
    (pss_cons (ps_set (i := 10) sc_law.nd rfl (Or.inl rfl) (pe_F F_l_body_anew (hr.mono (by omega)) (by rfl) (pa_cons (pe_ix ix_tup (pv 2) pe_int (fun _ _ => rfl)) (pa_cons (pv 5) (pa_cons (pv 6) (pa_cons (pv 7) pa_nil))))))
    (pss_cons (ps_set (i := 13) sc_law.nd rfl (Or.inl rfl) (pe_tupC (pa_cons (pe_callTy call_tupC (by rfl) T.n_tuple (by decide +kernel) (pa_cons (pe_lc (own := [("_law_g", 12)]) rfl sc_law.nd (pi_tup (pe_ix ix_tup (pv 2) pe_int (fun _ _ => rfl))) (blkOk_by (own := [("_law_g", 12)]) (N := N_law) (sc := defScope s_law) (by decide +kernel)) (fun _ _ _ _ _ => (pg_name (i := 12) sc_law.nd rfl (Or.inl rfl))) (fun _ _ _ _ _ => pts_nil) (fun _ _ _ _ _ => (pe_dget hu (pv 6) (pv 12) (fun _ _ => rfl)))) pa_nil)) (pa_cons (pe_callTy call_tupF (by rfl) T.n_tuple (by decide +kernel) (pa_cons (pv 11) pa_nil)) (pa_cons (pv 10) pa_nil)))))
    (pss_cons (ps_if (pt_cmpR op_ne (pe_callB (cr_repr h100 hg) (by rfl) T.n_repr (by decide +kernel) (pa_cons (pe_F F_rows_of (hr.mono (by omega)) (by rfl) (pa_cons (pv 13) pa_nil)) pa_nil)) (pe_callB (cr_repr h100 hg) (by rfl) T.n_repr (by decide +kernel) (pa_cons (pe_callTy call_tupC (by rfl) T.n_tuple (by decide +kernel) (pa_cons (pe_lc (own := [("_law_row", 23)]) rfl sc_law.nd (pi_tup (pe_F F_rows_of (hr.mono (by omega)) (by rfl) (pa_cons (pv 2) pa_nil))) (blkOk_by (own := [("_law_row", 23)]) (N := N_law) (sc := defScope s_law) (by decide +kernel)) (fun _ _ _ _ _ => (pg_name (i := 23) sc_law.nd rfl (Or.inl rfl))) (fun _ _ _ _ _ => pts_nil) (fun _ _ _ _ _ => (pe_F F_l_row_anew (hr.mono (by omega)) (by rfl) (pa_cons (pv 23) (pa_cons (pv 5) (pa_cons (pv 6) pa_nil)))))) pa_nil)) pa_nil)) (nomark _)) (pss_one (ps_ret pe_bl))
     pss_nil)
    h3)))) ), fun D L H1 fl Pg ws fs c g h y0 y3 y4 y8 y9 y10 y11 y12 y13 y14 y15 y16 y17 y18 y19 y20 y21 y22 y23 eT eU lw nm pok q => ?_⟩
  subst eT
  subst eU
  have nn : ∀ {a : Addr}, a ∉ ([] : List Addr) := fun z => nomatch z
  have pw := pok.w (by decide : 59 ≤ 59) nm.wl
  have pw2 := pw.ren (c := c) (g := g) (h := h) pok.hw nm.hi nm.cin nm.fl
  have hE : ∀ fn b, envL Pg.helpers fn = some b → fn ∈ ws := fun fn b e => by
    obtain ⟨z, hz, e1, _⟩ := envL_some e
    exact e1 ▸ pok.hw z hz
  obtain ⟨gg, hh, bb, hv, bv, ep, eg, ehn, hp, eb, rlb⟩ := lw.pg.ex
  -- the helpers
  refine ⟨_, rfl, L.p, _, 1, .ref hh, rfl, rfl, SqT.of ep, at1, hh, rfl, ⟨_, ehn.sq⟩, fun D1 hD1 => ?_⟩
  refine lc_tup (xs := hv) (fun i Hx => ∃ vs : List V, Hx D1 = some (.lst vs) ∧ vs.length = i ∧ Paired (RH Hx 6) vs ((Pg.helpers.take i).map fun z => (h z.1, z.2.map (renS c g h 12))) ∧ Fr [] H1 Hx) ⟨[], upd_same, rfl, .nil, Fr.refl.new hD1⟩ (fun i Hx _ hP => ?_) (fun i x Hx hx hP => ?_) (fun H2 hP => ?_)
  · obtain ⟨_, _, _, _, yy⟩ := hP
    exact (ehn.fr yy).sq
  · obtain ⟨vs, eD, lv, pv', yy⟩ := hP
    obtain ⟨z, ez, a, qb, bz, rfl, k1, k2, k3⟩ := pd_at hp hx
    have hz := List.mem_of_getElem? ez
    have hl := pok.hl
    have hil : i < Pg.helpers.length := (List.getElem?_eq_some_iff.mp ez).1
    have lx := lw.e yy
    refine ⟨a, _, rfl, SqT.of (yy.tups _ _ k1), rfl, _, _, rfl, ?_⟩
    dsimp only [gName]
    refine ⟨_, _, rfl, ?_⟩
    dsimp only [gName]
    refine ⟨rfl, rfl, ?_⟩
    dsimp only [tYes]
    rw [if_pos rfl]
    refine ⟨_, rfl, _, rfl, L.dh, _, rfl, lx.h.get (pok.hw z hz), _, rfl, _, rfl, _, rfl, _, rfl, ws, (· ∈ Pg.gauges), envL Pg.helpers, c, g, h, qb, L.dc, L.dg, L.dh, 6, bz, z.2, rfl, pok.gw, hE, yy.tups _ _ k2, RL.mono yy.tu k3, lx.c, lx.g, lx.h, fun s hs => (pok.hb z hz s hs).up (by decide), fun p1 Hb vb' xb eb' rlb' => ⟨sz2, fun pp Hc nc xc ec => ?_⟩⟩
    have y2 : Fr [] Hx Hc := xb.trans xc
    have eDc := y2.keep _ _ nn eD
    have yu : Fr [D1] Hc (upd Hc D1 (.lst (vs ++ [.ref pp]))) := Fr.refl.mutL (.head _) eDc
    refine ⟨vs, eDc, small1000 (by omega), vs ++ [.ref pp], upd_same, by rw [List.length_append, lv]; rfl, ?_, (yy.trans y2).own hD1 eDc⟩
    rw [List.take_add_one, ez, List.map_append]
    exact pd_app (Paired.mapP pv' fun _ _ z => z.mono (y2.tu.trans yu.tu)) (.cons ⟨pp, p1, vb', rfl, yu.tups _ _ ec, yu.tups _ _ (xc.tups _ _ eb'), RL.mono (xc.tu.trans yu.tu) rlb'⟩ .nil)
  · obtain ⟨vs, eD1, lv, ph, y12⟩ := hP
    have th : Pg.helpers.take hv.length = Pg.helpers := by rw [hp.length]; exact List.take_length
    rw [th] at ph
    try dsimp only [gName]
    have lw2 := lw.e y12
    refine ⟨_, rfl, L.p, _, 2, .ref bb, rfl, rfl, SqT.of (y12.tups _ _ ep), at2, _, rfl, _, rfl, _, rfl, ws, (· ∈ Pg.gauges), envL Pg.helpers, c, g, h, bb, L.dc, L.dg, L.dh, 6, bv, Pg.body, rfl, pok.gw, hE, y12.tups _ _ eb, RL.mono y12.tu rlb, lw2.c, lw2.g, lw2.h, pok.bw, fun pb H3 vb3 x3 e3 rl3 => ?_⟩
    try dsimp only [gName]
    have y13 := y12.trans x3
    have lw3 := lw.e y13
    refine ⟨_, rfl, L.p, _, 0, .ref gg, rfl, rfl, SqT.of (y13.tups _ _ ep), at0, gg, rfl, ⟨_, SqT.of (y13.tups _ _ eg)⟩, fun D2 hD2 => ?_⟩
    refine lc_tup (xs := Pg.gauges.map V.str) (fun i Hx => ∃ ys : List Str, Hx D2 = some (.lst (ys.map V.str)) ∧ ys = (Pg.gauges.take i).map g ∧ Fr [] H3 Hx) ⟨[], upd_same, rfl, Fr.refl.new hD2⟩ (fun i Hx _ hP => ?_) (fun i x Hx hx hP => ?_) (fun H4 hP => ?_)
    · obtain ⟨_, _, _, yy⟩ := hP
      exact SqT.of (yy.tups _ _ (y13.tups _ _ eg))
    · obtain ⟨ys, eL, ey, yy⟩ := hP
      refine ⟨rfl, ?_⟩
      dsimp only [tYes]
      rw [if_pos rfl]
      rw [List.getElem?_map] at hx
      obtain ⟨x, exx, rfl⟩ := Option.map_eq_some_iff.mp hx
      have hxm := List.mem_of_getElem? exx
      have g2 := pok.g2
      refine ⟨_, rfl, _, rfl, L.dg, _, rfl, (lw3.e yy).g.get (pok.gw x hxm), _, eL, small1000 (by rw [List.length_map, ey, List.length_map, List.length_take]; omega), ys ++ [g x], ?_, ?_, yy.own hD2 eL⟩
      · rw [upd_same, List.map_append]; rfl
      · rw [ey, List.take_add_one, exx, List.map_append]; rfl
    · obtain ⟨ys, eL, ey, y34⟩ := hP
      rw [List.length_map, List.take_length] at ey
      refine ⟨D2, _, rfl, eL, fun tg H5 n5 x5 e5 => ⟨_, rfl, D1, vs, rfl, SqL.of (x5.keep _ _ nn (y34.keep _ _ nn (x3.keep _ _ nn eD1))), fun th' H6 n6 x6 t6 => ⟨_, rfl, sz3, fun p2 H7 n7 x7 e7 => ?_⟩⟩⟩
      have y37 : Fr [] H3 H7 := ((y34.trans x5).trans x6).trans x7
      have y27 : Fr [] H2 H7 := x3.trans y37
      have lw7 := lw3.e y37
      have rp7 : RPg H7 6 p2 (Pg.ren c g h) := ⟨⟨tg, th', pb, vs, vb3, e7, by rw [(x6.trans x7).tups _ _ e5, ey]; rfl, t6.fr x7, Paired.mapP ph fun _ _ z => z.mono y27.tu, y37.tups _ _ e3, RL.mono y37.tu rl3⟩⟩
      clear y37 y27 e3 rl3 lw3 lw2 ph eD1 y34 eL x5 x6 x7 e5 t6 e7 y12 y13 x3
      try dsimp only [gName]
      have hG' : ∀ y, (∃ x, x ∈ Pg.gauges ∧ g x = y) → NmOk y := fun y ⟨x, hx, e⟩ => e ▸ nm.ok _ (nm.gin x (pok.gw x hx))
      have sh := rows_shown pw2 nm.ok hG'
      obtain ⟨sh1, sh2, sh3⟩ := sh.fits (Nat.le_refl _) (by decide)
      have sz := pw.sz
      refine ⟨_, rfl, fs, _, p2, Pg.ren c g h, rfl, rp7, pw2, fun q1 H8 us1 x8 e8 pr8 => ⟨q1, _, rfl, .tup (SqT.of e8) (RR.dps pr8), sh1, sh2, Nat.le_trans sh.dp (by decide), sh3, ?_⟩⟩
      have lw8 := lw7.e x8
      refine ⟨_, rfl, ws, _, L.p, Pg, rfl, lw8.pg, pw, fun q2 H9 us2 x9 e9 pr9 => ⟨q2, rfl, ⟨_, SqT.of e9⟩, fun D3 hD3 => ?_⟩⟩
      have lw9 := lw8.e x9
      have rl : us2.length = (plP Pg).size + 1 := by rw [pr9.length]; exact rows_len Pg
      refine lc_tup (xs := us2) (fun i Hx => ∃ vs : List V, Hx D3 = some (.lst vs) ∧ vs.length = i ∧ Paired (RR Hx) vs (((rowsP Pg).take i).map (Rw.ren c g)) ∧ Fr [] H9 Hx) ⟨[], upd_same, rfl, .nil, Fr.refl.new hD3⟩ (fun i Hx _ hP => ?_) (fun i x Hx hx hP => ?_) (fun Ha hP => ?_)
      · obtain ⟨_, _, _, _, yy⟩ := hP
        exact SqT.of (yy.tups _ _ e9)
      · obtain ⟨vs', eL, lv', pp, yy⟩ := hP
        refine ⟨rfl, ?_⟩
        dsimp only [tYes]
        rw [if_pos rfl]
        obtain ⟨r, er, rr⟩ := pd_at pr9 hx
        obtain ⟨a, rfl⟩ := rr_ref rr
        have hil : i < us2.length := (List.getElem?_eq_some_iff.mp hx).1
        have lx := lw9.e yy
        refine ⟨_, rfl, _, rfl, _, rfl, ws, _, c, g, a, L.dc, L.dg, r, rfl, pok.gw, rr.mono yy.tu, lx.c, lx.g, pw.rows_ok r (List.mem_of_getElem? er), fun p' Hb xb rb => ?_⟩
        have eLb := xb.keep _ _ nn eL
        have yu : Fr [D3] Hb (upd Hb D3 (.lst (vs' ++ [.ref p']))) := Fr.refl.mutL (.head _) eLb
        refine ⟨vs', eLb, small1000 (by omega), vs' ++ [.ref p'], upd_same, by rw [List.length_append, lv']; rfl, ?_, (yy.trans xb).own hD3 eLb⟩
        rw [List.take_add_one, er, List.map_append]
        exact pd_app (Paired.mapP pp fun _ _ z => z.mono (xb.tu.trans yu.tu)) (.cons (rb.mono yu.tu) .nil)
      · obtain ⟨vs', eL, lv', pp, yy⟩ := hP
        have tk : (rowsP Pg).take us2.length = rowsP Pg := by rw [pr9.length]; exact List.take_length
        rw [tk, ← pw.rowsR pok.hw nm.hi] at pp
        refine ⟨D3, _, rfl, eL, fun qq Hb nb xb eb' => ⟨qq, _, rfl, .tup (SqT.of eb') (RR.dps (rr_mono xb.tu pp)), sh1, sh2, Nat.le_trans sh.dp (by decide), sh3, ?_⟩⟩
        refine ⟨rfl, _, rfl, ite2 (fun c => absurd c (by rw [decide_eq_true rfl]; decide)) (fun _ => ?_)⟩
        have yF : Fr [] H7 Hb := ((x8.trans x9).trans yy).trans xb
        exact q3 D L Hb fl Pg ws fs c g h p2 _ _ _ _ _ _ _ _ _ _ _ _ _ _ _ _ _ _ rfl rfl (lw7.e yF) nm pok (rp7.fr yF) q
end
end Kz
set_option Elab.async false
set_option linter.all false
set_option maxRecDepth 100000
set_option maxHeartbeats 4000000
set_option pp.maxSteps 3000
/-! ZLn: the three dicts that name otherwise. -/
namespace Kz
open PySem PySem.Spec PyProof.Rows L2
def nth (fs : List Str) (j : Nat) : Str := fs.getD j ""
theorem nth_get {fs : List Str} {j : Nat} (h : j < fs.length) : fs[j]? = some (nth fs j) := by
  unfold nth
  rw [List.getD_eq_getElem?_getD, List.getElem?_eq_getElem h]
  rfl
theorem nth_mem {fs : List Str} {j : Nat} (h : j < fs.length) : nth fs j ∈ fs := List.mem_of_getElem? (nth_get h)
theorem nth_inj {fs : List Str} (nd : fs.Nodup) {i j : Nat} (hi : i < fs.length) (hj : j < fs.length) (e : nth fs i = nth fs j) : i = j := by
  refine (List.getElem?_inj hi nd).mp ?_
  rw [nth_get hi, nth_get hj, e]
/-- the name at the place that belongs to its place -/
def cyc (ws fs : List Str) (r : Nat → Nat) : Str → Str := fun x => nth fs (r (ws.idxOf x))
section
variable {ws fs : List Str} {r : Nat → Nat}
theorem cyc_in (lw : ws.length = 16) (lf : fs.length = 16) (hr : ∀ j, j < 16 → r j < 16) : ∀ x ∈ ws, cyc ws fs r x ∈ fs := fun x hx => by
  have h := List.idxOf_lt_length_of_mem hx
  rw [lw] at h
  exact nth_mem (by rw [lf]; exact hr _ h)
theorem cyc_inj (lw : ws.length = 16) (lf : fs.length = 16) (nd : fs.Nodup) (hr : ∀ j, j < 16 → r j < 16) (ri : ∀ i j, i < 16 → j < 16 → r i = r j → i = j) : ∀ x ∈ ws, ∀ y ∈ ws, cyc ws fs r x = cyc ws fs r y → x = y := fun x hx y hy e => by
  have h1 := List.idxOf_lt_length_of_mem hx
  have h2 := List.idxOf_lt_length_of_mem hy
  have h1' : ws.idxOf x < 16 := by rw [← lw]; exact h1
  have h2' : ws.idxOf y < 16 := by rw [← lw]; exact h2
  have q := ri _ _ h1' h2' (nth_inj nd (by rw [lf]; exact hr _ h1') (by rw [lf]; exact hr _ h2') e)
  have e1 := List.getElem_idxOf h1
  have e2 := List.getElem_idxOf h2
  rw [← e1, ← e2]
  simp only [q]
/-- the dict, behind i turns -/
def DJ (H : Hp) (d : Addr) (ws : List Str) (i : Nat) (m : Nat → Str) : Prop := ∃ kvs : List (Key × V), H d = some (.dK kvs) ∧ kvs.length ≤ i ∧ ∀ j x, j < i → ws[j]? = some x → valV kvs (Sum.inr x : Key) = some (.str (m j))
theorem DJ.keep {S : List Addr} {H H' : Hp} {d : Addr} {i : Nat} {m : Nat → Str} (o : DJ H d ws i m) (x : Fr S H H') (n : d ∉ S) : DJ H' d ws i m := let ⟨kvs, e, q⟩ := o; ⟨kvs, x.keep _ _ n e, q⟩
theorem DJ.zero {H : Hp} {d : Addr} {m : Nat → Str} (e : H d = some (.dK [])) : DJ H d ws 0 m := ⟨[], e, Nat.le_refl 0, fun j x h => absurd h (Nat.not_lt_zero j)⟩
theorem put_len (c : List (Key × V)) (k : Key) (x : V) : (putK c k x).length ≤ c.length + 1 := by
  unfold putK
  split
  · rw [List.length_map]
    omega
  · rw [List.length_append]
    exact Nat.le_refl _
/-- one more is put -/
theorem DJ.put {H : Hp} {d : Addr} {i : Nat} {m : Nat → Str} {x : Str} (nd : ws.Nodup) (o : DJ H d ws i m) (hx : ws[i]? = some x) (hi : i < 16) : ∃ H', DPut H d (.str x) (.str (m i)) H' ∧ Fr [d] H H' ∧ DJ H' d ws (i + 1) m := by
  obtain ⟨kvs, e, hl, hv⟩ := o
  refine ⟨_, DPut.k (k := Sum.inr x) e (small1000 (by omega)), Fr.refl.mutD (.head _) e, _, upd_same, Nat.le_trans (put_len _ _ _) (Nat.succ_le_succ hl), fun j y hj hy => ?_⟩
  rw [valV_put]
  by_cases q : j = i
  · subst q
    rw [hx] at hy
    rw [Option.some.inj hy, if_pos rfl]
  · rw [if_neg (fun z => ?_)]
    · exact hv j y (by omega) hy
    · have z : y = x := Sum.inr.inj z
      have hj' : j < ws.length := (List.getElem?_eq_some_iff.mp hy).1
      exact q ((List.getElem?_inj hj' nd).mp (by rw [hy, hx, z]))
theorem DJ.dn {H : Hp} {d : Addr} {r : Nat → Nat} (lw : ws.length = 16) (o : DJ H d ws 16 fun j => nth fs (r j)) : DN H d ws (cyc ws fs r) := by
  obtain ⟨kvs, e, _, hv⟩ := o
  refine ⟨kvs, e, fun x hx => ?_⟩
  have h := List.idxOf_lt_length_of_mem hx
  exact hv (ws.idxOf x) x (by rw [← lw]; exact h) (by rw [List.getElem?_eq_getElem h, List.getElem_idxOf h])
theorem DJ.ne {H : Hp} {d a : Addr} {i : Nat} {m : Nat → Str} (x : DJ H d ws i m) {o : HO} (e : H a = some o) (no : ∀ kvs, o ≠ .dK kvs) : d ≠ a := fun z => by
  obtain ⟨kvs, h1, _⟩ := x
  rw [z, e] at h1
  exact no kvs (Option.some.inj h1)
/-! ### places in a list of names -/
theorem at_nth {i : Nat} (h : i < fs.length) : atI (fs.map V.str) (i : Int) = some (.str (nth fs i)) := atI_nat (by rw [List.getElem?_map, nth_get h]; rfl)
def back (t j : Nat) : Nat := if t ≤ j then j - t else j + 16 - t
theorem at_back (lf : fs.length = 16) {i t : Nat} (hi : i < 16) (ht : t < 12) : atI (fs.map V.str) ((i : Int) - (t : Int)) = some (.str (nth fs (back t i))) := by
  unfold back
  split
  · rename_i h
    rw [show ((i : Int) - (t : Int)) = ((i - t : Nat) : Int) by omega]
    exact at_nth (by omega)
  · rename_i h
    unfold atI ixN
    rw [if_neg (by omega), if_pos (by rw [List.length_map, lf]; omega)]
    show (fs.map V.str)[((i : Int) - (t : Int) + ((fs.map V.str).length : Int)).toNat]? = _
    rw [List.length_map, lf, show ((i : Int) - (t : Int) + ((16 : Nat) : Int)).toNat = i + 16 - t by omega, List.getElem?_map, nth_get (by omega)]
    rfl
theorem back_lt {t : Nat} (ht : t < 12) : ∀ j, j < 16 → back t j < 16 := fun j hj => by
  unfold back
  split <;> omega
theorem back_inj {t : Nat} (ht : t < 12) : ∀ i j, i < 16 → j < 16 → back t i = back t j → i = j := fun i j hi hj e => by
  unfold back at e
  split at e <;> split at e <;> omega
theorem turn_inj {t : Nat} : ∀ i j, i < 16 → j < 16 → (i + t) % 16 = (j + t) % 16 → i = j := fun i j hi hj e => by omega
end
end Kz
set_option Elab.async false
set_option linter.all false
set_option maxRecDepth 100000
set_option maxHeartbeats 4000000
set_option pp.maxSteps 3000
/-! ZL1: the law's first part: the program, the names. -/
namespace Kz
open PySem PySem.Spec PyProof.Rows L2 L2.DX LamX NdefX
section
variable {P : Program} {w : World} {K : PySem.W.Frag} {mg : Str → Option Value} {base : Heap}
theorem law_s1 (T : Tp K mg) {Pt Pu : Addr} (TT : TabB base mg (He.codeOf K ("ran", none)) Pt) (TU : TabB base mg (He.codeOf K ("ran_at", none)) Pu) {f : Addr} {cdv : Value} {A : Around} {outer : List Env} {s : Shared} {H0 : Hp} (hr : Room 34 (AL A f cdv s)) (hg : (AL A f cdv s).guards = some []) :
    ∃ t, PSs (XL P w K mg base f cdv A outer s H0) (defBody s_law) t ∧ ∀ (D : Ends) (H : Hp) (a : Addr) (ns : List Int),
      SqL K H a (ns.map V.int) → TabS H Pt qRan → TabS H Pu qTak → Pt ≠ Pu → (∀ H', D.rt (.bl true) H') → t D (L2.start N_law [.ref a]) H := by
  have hu := hu_of hr
  have F_l_flow : Fx P w K mg base 2 "_law_flow" ["_law_script", "_law_k"] (spFlow K) := ok_flow T
  have F_l_draw : Fx P w K mg base 1 "_law_draw" ["_law_flow_here", "_law_many"] spDrawC := ok_drawC T
  have F_l_program : Fx P w K mg base 23 "_law_program" ["_law_flow_here", "_law_room_here"] spProgram := ok_program T
  have F_l_longer : Fx P w K mg base 16 "_law_longer" ["_law_flow_here", "_law_program_here"] spLonger := ok_longer T
  have F_l_names : Fx P w K mg base 2 "_law_names" ["_law_flow_here", "_law_many"] spNames := ok_names T
  obtain ⟨t2, h2, q2⟩ := law_s2 (P := P) (w := w) T TT TU (outer := outer) (H0 := H0) hr hg
  refine ⟨_, show PSs (XL P w K mg base f cdv A outer s H0) (defBody s_law) _ from ((pss_cons (ps_set (i := 1) sc_law.nd rfl (Or.inr rfl) (pe_F F_l_flow (hr.mono (by omega)) (by rfl) (pa_cons (pv 0) (pa_cons pe_int pa_nil))))
    (pss_cons (ps_set (i := 2) sc_law.nd rfl (Or.inl rfl) (pe_F F_l_program (hr.mono (by omega)) (by rfl) (pa_cons (pe_F F_l_flow (hr.mono (by omega)) (by rfl) (pa_cons (pv 0) (pa_cons pe_int pa_nil))) (pa_cons (pe_ix ix_list (pe_lstC (pa_cons pe_int (pa_cons pe_int (pa_cons pe_int pa_nil)))) (pe_F F_l_draw (hr.mono (by omega)) (by rfl) (pa_cons (pv 1) (pa_cons pe_int pa_nil))) (fun _ _ => rfl)) pa_nil))))
    (pss_cons (ps_set (i := 2) sc_law.nd rfl (Or.inl rfl) (pe_F F_l_longer (hr.mono (by omega)) (by rfl) (pa_cons (pv 1) (pa_cons (pv 2) pa_nil))))
    (pss_cons (ps_set (i := 3) sc_law.nd rfl (Or.inl rfl) (pe_F F_l_names (hr.mono (by omega)) (by rfl) (pa_cons (pe_F F_l_flow (hr.mono (by omega)) (by rfl) (pa_cons (pv 0) (pa_cons pe_int pa_nil))) (pa_cons pe_int pa_nil))))
    (pss_cons (ps_set (i := 4) sc_law.nd rfl (Or.inl rfl) (pe_F F_l_draw (hr.mono (by omega)) (by rfl) (pa_cons (pv 1) (pa_cons pe_int pa_nil))))
    (pss_cons (ps_asg (pe_tupC (pa_cons (pe_dnC pe_dnewK) (pa_cons (pe_dnC pe_dnewK) (pa_cons (pe_dnC pe_dnewK) pa_nil)))) (pg_tup rfl (pgs_cons (pg_name (i := 5) sc_law.nd rfl (Or.inr rfl)) (pgs_cons (pg_name (i := 6) sc_law.nd rfl (Or.inr rfl)) (pgs_cons (pg_name (i := 7) sc_law.nd rfl (Or.inr rfl)) pgs_nil)))))
    (pss_cons (ps_for PassesOwn.never rfl (pi_enum (by rfl) T.n_enumerate (pa_cons (pe_F F_l_names (hr.mono (by omega)) (by rfl) (pa_cons (pe_F F_l_flow (hr.mono (by omega)) (by rfl) (pa_cons (pv 0) (pa_cons pe_int pa_nil))) (pa_cons pe_int pa_nil))) pa_nil)) (pg_tup rfl (pgs_cons (pg_name (i := 8) sc_law.nd rfl (Or.inl rfl)) (pgs_cons (pg_name (i := 9) sc_law.nd rfl (Or.inl rfl)) pgs_nil))) (pss_cons (ps_dput hu (pv 5) (pv 9) (pe_ix ix_list (pv 3) (pv 8) (fun _ _ => rfl)) rfl)
      (pss_cons (ps_dput hu (pv 6) (pv 9) (pe_ix ix_list (pv 3) (pe_op op_mod (pe_op op_add (pv 8) (pv 4)) pe_int) (fun _ _ => rfl)) rfl)
      (pss_one (ps_dput hu (pv 7) (pv 9) (pe_ix ix_list (pv 3) (pe_op op_sub (pv 8) (pv 4)) (fun _ _ => rfl)) rfl)))))
    h2))))))) ), fun D H a ns sq tT tU nTU q => ?_⟩
  have nn : ∀ {a : Addr}, a ∉ ([] : List Addr) := fun z => nomatch z
  have ext : ∀ {Hx : Hp}, Fr [] H Hx → SqL K Hx a (ns.map V.int) := fun x => sq.elim (fun h => .inl (h.elim (fun h => .inl (x.keep _ _ nn h)) fun ⟨o, h⟩ => .inr ⟨o, x.keep _ _ nn h⟩)) fun h => .inr h
  -- the flow
  refine ⟨_, rfl, a, ns, 2, rfl, sq, by decide, fun fa nfa => ?_⟩
  try dsimp only [gName]
  have x1 : Fr [] H (upd H fa (.lst (flowF ns 2).lst)) := Fr.refl.new nfa
  have f1 : FlAt (upd H fa (.lst (flowF ns 2).lst)) fa (flowF ns 2) := ⟨upd_same, flowF_ok ns (by decide)⟩
  generalize upd H fa (.lst (flowF ns 2).lst) = H1 at x1 f1 ⊢
  -- the program
  refine ⟨_, rfl, a, ns, 0, rfl, ext x1, by decide, fun f0 nf0 => ?_⟩
  have x2 : Fr [] H1 (upd H1 f0 (.lst (flowF ns 0).lst)) := Fr.refl.new nf0
  have f02 : FlAt (upd H1 f0 (.lst (flowF ns 0).lst)) f0 (flowF ns 0) := ⟨upd_same, flowF_ok ns (by decide)⟩
  generalize upd H1 f0 (.lst (flowF ns 0).lst) = H2 at x2 f02 ⊢
  have n0f : f0 ≠ fa := (ne_of_none f1.at_ nf0).symm
  refine ⟨sz3, fun l H3 n3 x3 e3 => ⟨_, rfl, fa, flowF ns 2, 3, rfl, (f1.keep x2 nn).keep x3 nn, by decide, by decide, fun v H4 fl4 a0 a1 h4 x4 => ?_⟩⟩
  obtain ⟨room, r1, r2, ash⟩ : ∃ room : Int, 1 ≤ room ∧ room ≤ 24 ∧ atI [V.int 8, V.int 12, V.int 24] v = some (.int room) := by
    have : v = 0 ∨ v = 1 ∨ v = 2 := by omega
    rcases this with rfl | rfl | rfl
    · exact ⟨8, by decide, by decide, at0⟩
    · exact ⟨12, by decide, by decide, at1⟩
    · exact ⟨24, by decide, by decide, at2⟩
  have nlf : l ≠ fa := (ne_of_none (f1.keep x2 nn).at_ n3).symm
  refine ⟨l, _, _, _, rfl, rfl, SqL.of (x4.keep _ _ (not1 nlf) e3), ash, ?_⟩
  have y14 : Fr [fa] H1 H4 := (x2.mono fun _ z => nomatch z).trans ((x3.mono fun _ z => nomatch z).trans x4)
  have f04 : FlAt H4 f0 (flowF ns 0) := (f02.keep x3 nn).keep x4 (not1 n0f)
  refine ⟨f0, flowF ns 0, room, rfl, f04, r1, r2, fun p H5 f05 Pg h05 x5 rp5 pok5 => ?_⟩
  try dsimp only [gName]
  have wl := namesF_len (flowF ns 0)
  have wnd := namesF_nd (flowF ns 0)
  have f5 := h4.keep x5 (not1 n0f.symm)
  have one : ∀ {b c : Addr} {Hx : Hp}, Hx c = none → b ∈ [c] → b ∈ ([] : List Addr) ∨ Hx b = none := fun e hb => .inr (List.mem_singleton.mp hb ▸ e)
  have Y5 : Fr [] H H5 := (x1.step y14 fun b hb => one nfa hb).step x5 fun b hb => one (x1.back _ nf0) hb
  clear x5 y14 x4 x3 x2 f04 f02 h05 h4 e3 n3 ash nlf
  refine ⟨_, rfl, _, rfl, fa, p, fl4, Pg, namesF (flowF ns 0), 55, rfl, f5, rp5, pok5, by decide, fun p' H6 fl6 Pg' f6 x6 rp6 pok6 => ?_⟩
  try dsimp only [gName]
  have Y6 : Fr [] H H6 := Y5.step x6 fun b hb => one nfa hb
  -- the other names
  refine ⟨_, rfl, a, ns, 1, rfl, ext Y6, by decide, fun f1' nf1 => ?_⟩
  have x7 : Fr [] H6 (upd H6 f1' (.lst (flowF ns 1).lst)) := Fr.refl.new nf1
  have f17 : FlAt (upd H6 f1' (.lst (flowF ns 1).lst)) f1' (flowF ns 1) := ⟨upd_same, flowF_ok ns (by decide)⟩
  generalize upd H6 f1' (.lst (flowF ns 1).lst) = H7 at x7 f17 ⊢
  have n1f : f1' ≠ fa := (ne_of_none f6.at_ nf1).symm
  refine ⟨f1', flowF ns 1, rfl, f17, fun pf H8 f18 h18 x8 n8 e8 => ?_⟩
  try dsimp only [gName]
  have f8 := (f6.keep x7 nn).keep x8 (not1 n1f.symm)
  have npf : pf ≠ fa := (ne_of_none (f6.keep x7 nn).at_ n8).symm
  have y68 : Fr [f1'] H6 H8 := (x7.mono fun _ z => nomatch z).trans x8
  have rp8 := rp6.fr y68
  have Y8 : Fr [] H H8 := Y6.step y68 fun b hb => one (Y6.back _ nf1) hb
  have lf := namesF_len (flowF ns 1)
  have nf := namesF_nd (flowF ns 1)
  have okf := namesF_ok (flowF ns 1)
  generalize namesF (flowF ns 1) = fs at lf nf okf e8 ⊢
  -- the turn
  refine ⟨_, rfl, fa, fl6, 12, rfl, f8, by decide, by decide, fun tv H9 fl9 b0 b1 f9 x9 => ?_⟩
  try dsimp only [gName]
  obtain ⟨t, rfl⟩ : ∃ t : Nat, tv = (t : Int) := ⟨tv.toNat, by omega⟩
  have ht : t < 12 := by omega
  have e9 := x9.keep _ _ (not1 npf) e8
  have rp9 := rp8.fr x9
  have Y9 : Fr [] H H9 := Y8.step x9 fun b hb => one nfa hb
  clear y68 x9 x8 x7 e8 rp8 f8 h18 f17 rp6 f6 rp5 f5 pok5 Y5 Y6 Y8 n8
  -- the dicts
  refine fun dc Ha na xa ea => fun dg Hb nb xb eb => fun dh Hc nc xc ec => ⟨sz3, fun tt Hd nd xd ed => ⟨tt, _, rfl, SqT.of ed, rfl, _, _, rfl, ?_⟩⟩
  dsimp only [gName]
  refine ⟨_, _, rfl, ?_⟩
  dsimp only [gName]
  refine ⟨_, _, rfl, ?_⟩
  dsimp only [gName]
  refine ⟨rfl, ?_⟩
  have y9d : Fr [] H9 Hd := ((xa.trans xb).trans xc).trans xd
  have edc := ((xb.trans xc).trans xd).keep _ _ nn ea
  have edg := (xc.trans xd).keep _ _ nn eb
  have edh := xd.keep _ _ nn ec
  have ncg : dc ≠ dg := ne_of_none ea nb
  have nch : dc ≠ dh := ne_of_none (xb.keep _ _ nn ea) nc
  have ngh : dg ≠ dh := ne_of_none eb nc
  have Yd := Y9.trans y9d
  have bc : H dc = none := Y9.back _ na
  have bg : H dg = none := (Y9.trans xa).back _ nb
  have bh : H dh = none := ((Y9.trans xa).trans xb).back _ nc
  have fd := f9.keep y9d nn
  have e_d := y9d.keep _ _ nn e9
  have rpd := rp9.fr y9d
  clear y9d xa xb xc xd ea eb ec ed f9 e9 rp9 Y9 na nb nc nd
  -- the names once more
  refine ⟨_, rfl, a, ns, 0, rfl, ext Yd, by decide, fun f2 nf2 => ?_⟩
  have xe : Fr [] Hd (upd Hd f2 (.lst (flowF ns 0).lst)) := Fr.refl.new nf2
  have f2e : FlAt (upd Hd f2 (.lst (flowF ns 0).lst)) f2 (flowF ns 0) := ⟨upd_same, flowF_ok ns (by decide)⟩
  generalize upd Hd f2 (.lst (flowF ns 0).lst) = He at xe f2e ⊢
  have n2 : ∀ {b : Addr} {o : HO}, Hd b = some o → b ∉ [f2] := fun e => not1 (ne_of_none e nf2)
  refine ⟨f2, flowF ns 0, rfl, f2e, fun pn Hs f2s h2s xs nn' es => ?_⟩
  have yds : Fr [f2] Hd Hs := (xe.mono fun _ z => nomatch z).trans xs
  have Ys : Fr [] H Hs := Yd.step yds fun b hb => one (Yd.back _ nf2) hb
  have fS := fd.keep yds (n2 fd.at_)
  have eS := yds.keep _ _ (n2 e_d) e_d
  have rpS := rpd.fr yds
  have edc := yds.keep _ _ (n2 edc) edc
  have edg := yds.keep _ _ (n2 edg) edg
  have edh := yds.keep _ _ (n2 edh) edh
  clear yds xs xe f2e h2s fd e_d rpd Yd n2 nn' nf2
  generalize namesF (flowF ns 0) = ws at wl wnd pok6 es
  have sub3 : ∀ {b : Addr}, b ≠ dc → b ≠ dg → b ≠ dh → b ∉ [dc, dg, dh] := fun h1 h2 h3 z => by
    rcases List.mem_cons.mp z with e | z
    · exact h1 e
    rcases List.mem_cons.mp z with e | z
    · exact h2 e
    · exact h3 (List.mem_singleton.mp z)
  have nl : ∀ {b : Addr} {xs : List V}, Hs b = some (.lst xs) → b ∉ [dc, dg, dh] := fun e => sub3 (fun z => by rw [z, edc] at e; cases e) (fun z => by rw [z, edg] at e; cases e) (fun z => by rw [z, edh] at e; cases e)
  refine ⟨pn, _, rfl, SqL.of es, for_enum (xs := ws.map V.str) (fun i σ' H' => ∃ (y8 y9 : Option V), σ' = [some (.ref a), some (.ref fa), some (.ref p'), some (.ref pf), some (.int (t : Int)), some (.ref dc), some (.ref dg), some (.ref dh), y8, y9, none, none, none, none, none, none, none, none, none, none, none, none, none, none] ∧
    DJ H' dc ws i (fun j => nth fs j) ∧ DJ H' dg ws i (fun j => nth fs ((j + t) % 16)) ∧ DJ H' dh ws i (fun j => nth fs (back t j)) ∧ Fr [dc, dg, dh] Hs H') ?_ (fun j σ' H' _ hP => ?_) (fun j x σ' H' tu hx hP ntt => ?_) (fun σ' H' hP => ?_)⟩
  · exact ⟨_, _, rfl, .zero edc, .zero edg, .zero edh, Fr.refl⟩
  · obtain ⟨_, _, _, _, _, _, yy⟩ := hP
    exact SqL.of (yy.keep _ _ (nl es) es)
  · obtain ⟨y8, y9, rfl, jc, jg, jh, yy⟩ := hP
    rw [List.getElem?_map] at hx
    obtain ⟨x, exx, rfl⟩ := Option.map_eq_some_iff.mp hx
    have hj : j < 16 := by rw [← wl]; exact (List.getElem?_eq_some_iff.mp exx).1
    have xt : Fr [] H' (upd H' tu (.tup [.int (j : Nat), .str x])) := Fr.refl.new ntt
    have ett : upd H' tu (.tup [.int (j : Nat), .str x]) tu = some (.tup [.int (j : Nat), .str x]) := upd_same
    generalize upd H' tu (.tup [.int (j : Nat), .str x]) = Ht at xt ett ⊢
    refine ⟨tu, _, rfl, SqT.of ett, rfl, _, _, rfl, ?_⟩
    dsimp only [gName]
    refine ⟨_, _, rfl, ?_⟩
    dsimp only [gName]
    refine ⟨rfl, ?_⟩
    have yt : Fr [dc, dg, dh] Hs Ht := yy.trans (xt.mono fun _ z => nomatch z)
    have nlp := nl eS
    have jc := jc.keep xt nn
    have jg := jg.keep xt nn
    have jh := jh.keep xt nn
    obtain ⟨H1', p1, z1, jc⟩ := jc.put wnd exx hj
    refine ⟨_, rfl, _, rfl, pf, _, _, .str (nth fs j), rfl, rfl, SqL.of (yt.keep _ _ nlp eS), at_nth (by rw [lf]; exact hj), _, rfl, _, rfl, dc, _, rfl, p1, ?_⟩
    have jg := jg.keep z1 (not1 ncg.symm)
    have jh := jh.keep z1 (not1 nch.symm)
    have y1 : Fr [dc, dg, dh] Hs H1' := yt.trans (z1.mono fun b hb => by rw [List.mem_singleton.mp hb]; exact .head _)
    obtain ⟨H2', p2, z2, jg⟩ := jg.put wnd exx hj
    have am : atI (fs.map V.str) (((j : Int) + (t : Int)) % 16) = some (.str (nth fs ((j + t) % 16))) := by
      rw [show (((j : Int) + (t : Int)) % 16) = (((j + t) % 16 : Nat) : Int) by omega]
      exact at_nth (by omega)
    refine ⟨_, rfl, _, rfl, _, rfl, _, _, rfl, rfl, _, _, rfl, rfl, (by show (0:Int) < 16; decide), pf, _, _, .str (nth fs ((j + t) % 16)), rfl, rfl, SqL.of (y1.keep _ _ nlp eS), am, _, rfl, _, rfl, dg, _, rfl, p2, ?_⟩
    have jc := jc.keep z2 (not1 ncg)
    have jh := jh.keep z2 (not1 ngh.symm)
    have y2 : Fr [dc, dg, dh] Hs H2' := y1.trans (z2.mono fun b hb => by rw [List.mem_singleton.mp hb]; exact .tail _ (.head _))
    obtain ⟨H3', p3, z3, jh⟩ := jh.put wnd exx hj
    refine ⟨_, rfl, _, rfl, _, rfl, _, _, rfl, rfl, pf, _, _, .str (nth fs (back t j)), rfl, rfl, SqL.of (y2.keep _ _ nlp eS), at_back lf hj ht, _, rfl, _, rfl, dh, _, rfl, p3, ?_⟩
    exact ⟨_, _, rfl, jc.keep z3 (not1 nch), jg.keep z3 (not1 ngh), jh, y2.trans (z3.mono fun b hb => by rw [List.mem_singleton.mp hb]; exact .tail _ (.tail _ (.head _)))⟩
  · obtain ⟨y8, y9, rfl, jc, jg, jh, yy⟩ := hP
    rw [List.length_map, wl] at jc jg jh
    have YF : Fr [] H H' := Ys.step yy fun b hb => by
      rcases List.mem_cons.mp hb with e | hb
      · exact .inr (e ▸ bc)
      rcases List.mem_cons.mp hb with e | hb
      · exact .inr (e ▸ bg)
      · exact .inr (List.mem_singleton.mp hb ▸ bh)
    have te : ∀ {Pq : Addr} {r : Str}, TabS H Pq r → TabS H' Pq r := fun z => TabS.ext z fun b o e => YF.keep _ _ nn e
    exact q2 D ⟨fa, p', dc, dg, dh, Pt, Pu⟩ H' fl9 Pg' ws fs (cyc ws fs fun j => j) (cyc ws fs fun j => (j + t) % 16) (cyc ws fs (back t)) _ _ _ _ _ _ _ _ _ _ _ _ _ _ _ _ _ _ _ rfl rfl
      ⟨fS.keep yy (nl fS.at_), rpS.fr yy, jc.dn wl, jg.dn wl, jh.dn wl, te tT, te tU, nTU⟩
      ⟨cyc_in wl lf fun j hj => hj, cyc_inj wl lf nf (fun j hj => hj) fun i j _ _ e => e, cyc_in wl lf fun j hj => Nat.mod_lt _ (by decide), cyc_inj wl lf nf (fun j hj => Nat.mod_lt _ (by decide)) turn_inj, cyc_inj wl lf nf (back_lt ht) (back_inj ht), by rw [lf]; decide, by rw [wl]; decide, okf⟩ pok6 q
end
end Kz
set_option Elab.async false
set_option linter.all false
set_option maxRecDepth 100000
set_option maxHeartbeats 4000000
set_option pp.maxSteps 3000
/-! ZEn: the law's call from the outside, its frame known (repr wants to know that nothing is being shown). -/
namespace Kz
open PySem PySem.Spec PyProof.Rows L2 LamX NdefX
section
variable {P : Program} {w : World} {K : PySem.W.Frag} {mg mb : Str → Option Value} {fa a : Addr} {cs : List (Addr × Addr)} {s₁ : Shared} {vs : List Value} {ns : List Int}
/-- what is tracked at the start: the tables, the script's list where the module doesn't hold it -/
def hStart (K : PySem.W.Frag) (T : List Addr) (a : Addr) (o : Obj) (xs : List V) : Hp := fun b => if b ∈ T then some (.tbl #[]) else if b = a ∧ K.lookup a = none then some (.frz o (.lst xs)) else none
theorem hStart_in {T : List Addr} {o : Obj} {xs : List V} {b : Addr} {u : HO} (h : hStart K T a o xs b = some u) : (b ∈ T ∧ u = .tbl #[]) ∨ (b = a ∧ K.lookup a = none ∧ u = .frz o (.lst xs)) := by
  unfold hStart at h
  split at h
  · rename_i q
    exact .inl ⟨q, (Option.some.inj h).symm⟩
  · split at h
    · rename_i q
      exact .inr ⟨q.1, q.2, (Option.some.inj h).symm⟩
    · cases h
theorem hStart_tab {T : List Addr} {o : Obj} {xs : List V} {b : Addr} (h : b ∈ T) : hStart K T a o xs b = some (.tbl #[]) := if_pos h
abbrev tabObj : Obj := { cls := .none, data := .fields #[] }
theorem law_top (KX : K.In s₁.heap) (hns : s₁.heap.Ns mainGlobals mg) (hb : s₁.heap.Ns builtinsNs mb) (hbb : ∀ x : Str, x ≠ "__name__" → mb x = bootBuiltins x) (hlim : s₁.heap.NoLimit) (hg : s₁.gens = #[])
    (hT : ∀ p ∈ cs, s₁.heap.get? p.2 = some tabObj) (nT : ∀ p ∈ cs, K.lookup p.2 = none) (C : ∀ p ∈ cs, PySem.W.CodeHd s₁.heap p.1 p.2)
    (hbm : ∃ (bm : Addr) (ob : Obj), mg "__builtins__" = some (.ref bm) ∧ bm ≠ builtinsNs ∧ s₁.heap.get? bm = some ob ∧ ob.cls = .type "module" ∧ ob.dict = some builtinsNs ∧ ob.data = .plain)
    (ha : s₁.heap.get? a = some { cls := .type "list", data := .seq vs.toArray }) (hi : IntsAre vs ns) (hl : ns.length ≤ sizeLine)
    (F : ∀ (base : Heap) (H : Hp), (∀ p ∈ cs, TabB base mg p.1 p.2) → Env0 P w K mg base callerA [] s₁ H → (∀ p ∈ cs, H p.2 = some (.tbl #[])) → SqL K H a (ns.map V.int) →
      codeAny (model P w) callerA (.call (.ref fa) ⟨[.ref a], []⟩) (CR CX0 [] P w H s₁ (fun v _ => v = .bl true) E0) s₁) :
    codeAny (model P w) callerA (.call (.ref fa) ⟨[.ref a], []⟩) (fun r s' => r = .ok (.ret (.bool true)) ∧ OldK s₁.heap s'.heap ∧ s'.os = s₁.os ∧ AllBare s'.gens) s₁ := by
  have rv := vals_ints hi
  obtain ⟨T, eT⟩ : ∃ T, T = cs.map (·.2) := ⟨_, rfl⟩
  have tab : ∀ b ∈ T, ∃ p ∈ cs, p.2 = b := fun b h => by
    rw [eT] at h
    obtain ⟨p, hp, e⟩ := List.mem_map.mp h
    exact ⟨p, hp, e⟩
  have tabO : ∀ b ∈ T, s₁.heap.get? b = some tabObj := fun b h => let ⟨p, hp, e⟩ := tab b h; e ▸ hT p hp
  have inT : ∀ p ∈ cs, p.2 ∈ T := fun p hp => by rw [eT]; exact List.mem_map.mpr ⟨p, hp, rfl⟩
  obtain ⟨H, eH⟩ : ∃ H, H = hStart K T a { cls := .type "list", data := .seq vs.toArray } (ns.map V.int) := ⟨_, rfl⟩
  have hv : ∀ {b : Addr} {u : HO}, H b = some u → (b ∈ T ∧ u = .tbl #[]) ∨ (b = a ∧ K.lookup a = none ∧ u = .frz { cls := .type "list", data := .seq vs.toArray } (.lst (ns.map V.int))) := fun e => hStart_in (by rw [← eH]; exact e)
  have hH : ∀ p ∈ cs, H p.2 = some (.tbl #[]) := fun p hp => by rw [eH]; exact hStart_tab (inT p hp)
  have aT : a ∉ T := fun z => by
    have q := tabO a z
    rw [ha] at q
    have q' : Data.seq vs.toArray _ = Data.fields #[] := congrArg Obj.data (Option.some.inj q)
    cases q'
  have hok : L2.HOk P w H s₁.heap := fun b u e => by
    rcases hv e with ⟨h1, rfl⟩ | ⟨rfl, _, rfl⟩
    · exact tabO b h1
    · exact ⟨ha, by rw [List.length_map]; exact hl, vs, _, rv, ha⟩
  have hS : SqL K H a (ns.map V.int) := by
    cases q : K.lookup a with
    | none =>
      refine .inl (.inr ⟨{ cls := .type "list", data := .seq vs.toArray }, ?_⟩)
      rw [eH]
      unfold hStart
      rw [if_neg aT, if_pos ⟨rfl, q⟩]
    | some o =>
      have e := KX a o q
      rw [ha] at e
      cases e
      exact .inr ⟨_, vs.toArray, _, q, rfl, rfl, rfl, by rw [List.size_toArray, hi.length]; exact hl, by simpa using rv⟩
  -- what isn't tracked
  have no : ∀ {b : Addr} {o : Obj}, s₁.heap.get? b = some o → o.data ≠ .fields #[] → o.data ≠ .seq vs.toArray 0 → H b = none := fun {b o} e h1 h2 => by
    cases q : H b with
    | none => rfl
    | some u =>
      rcases hv q with ⟨h3, _⟩ | ⟨h3, _⟩
      · rw [tabO b h3] at e
        exact absurd (congrArg Obj.data (Option.some.inj e)).symm h1
      · rw [h3, ha] at e
        exact absurd (congrArg Obj.data (Option.some.inj e)).symm h2
  have at_ : ∀ {b : Addr} {o : Obj}, s₁.heap.get? b = some o → o.data ≠ .fields #[] → o.data ≠ .seq vs.toArray 0 → (hidT s₁.heap H).get? b = some o := fun e h1 h2 => hidT_get e (no e h1 h2)
  have nsK : ∀ {b : Addr} {m : Str → Option Value}, s₁.heap.Ns b m → (hidT s₁.heap H).Ns b m := fun ⟨o, es, ep, e, d, r⟩ => ⟨o, es, ep, at_ e (by rw [d]; exact fun z => by cases z) (by rw [d]; exact fun z => by cases z), d, r⟩
  have hKb : K.In (hidT s₁.heap H) := fun b o e => hidT_get (KX b o e) (by
    cases q : H b with
    | none => rfl
    | some u =>
      rcases hv q with ⟨h3, _⟩ | ⟨h3, h4, _⟩
      · obtain ⟨p, hp, ep⟩ := tab b h3
        rw [← ep, nT p hp] at e
        cases e
      · rw [h3, h4] at e
        cases e)
  have TB : ∀ p ∈ cs, TabB (hidT s₁.heap H) mg p.1 p.2 := fun p hp => by
    refine ⟨?_, ?_, fun z => ?_⟩
    · obtain ⟨o, us, file, tf, flags, tg, inF, text, tt, e1, r1, r2, r3, r4⟩ := C p hp
      refine ⟨o, us, file, tf, flags, tg, inF, text, tt, at_ e1 (fun z => ?_) (fun z => ?_), r1, r2, r3, r4⟩
      · rw [r2] at z
        cases z
        simp at r3
      · rw [r2] at z
        cases z
    · obtain ⟨bm, ob, b1, b2, b3, b4, b5, b6⟩ := hbm
      refine ⟨bm, ob, b1, b2, fun q => ?_, fun q => ?_, at_ b3 (by rw [b6]; exact fun z => by cases z) (by rw [b6]; exact fun z => by cases z), b4, b5, b6⟩
      · obtain ⟨o, es, ep, e, hd, _⟩ := hns
        rw [q, e] at b3
        cases b3
        rw [hd] at b6
        cases b6
      · rw [q, hT p hp] at b3
        cases b3
        cases b6
    · obtain ⟨o, es, ep, e, hd, _⟩ := hns
      rw [z, hT p hp] at e
      cases e
      cases hd
  have e0 : Env0 P w K mg (hidT s₁.heap H) callerA [] s₁ H :=
    ⟨rfl, ⟨hKb, nsK hns, ⟨mb, nsK hb, hbb⟩, let ⟨mc, h1, h2⟩ := hlim; ⟨mc, nsK h1, h2⟩⟩, fun b o e => of_hidT e, Nat.le_of_eq (hidT_size _ _), trivial, fun b hb => absurd (show b ∈ ([] : List Addr) from hb) (by simp), hok, .of_eq hg⟩
  refine codeAny_mono (F _ H TB e0 hH hS) fun r s' h => ?_
  cases r with
  | error e => exact (show False from h).elim
  | ok fl =>
    cases fl with
    | next => exact False.elim h
    | brk => exact False.elim h
    | cont => exact False.elim h
    | ret u =>
      obtain ⟨v, H', os, bare, un, hok', r', q⟩ := h
      have q : v = .bl true := q
      subst q
      obtain rfl : u = Value.bool true := r'
      have grown : ∀ b ∈ T, ∃ more : Array Value, s'.heap.get? b = some { cls := .none, data := .fields more } := fun b hb => by
        obtain ⟨p, hp, e⟩ := tab b hb
        obtain ⟨more, z⟩ := un.tbls p.2 #[] (hH p hp)
        rw [e] at z
        exact ⟨_, hok' b _ z⟩
      have kept : ∀ b o, b ∉ T → s₁.heap.get? b = some o → s'.heap.get? b = some o := fun b o nb e => by
        cases q : H b with
        | none => exact un.keep b o e q (by intro z; exact absurd (show b ∈ ([] : List Addr) from z) (by simp)) (by simp)
        | some u =>
          rcases hv q with ⟨h3, _⟩ | ⟨h3, _, h5⟩
          · exact absurd h3 nb
          · subst h5
            have z2 := un.frzs b _ _ q
            obtain ⟨e1, _⟩ := hok b _ q
            obtain ⟨e2, _⟩ := hok' b _ z2
            rw [e1] at e
            rw [← Option.some.inj e]
            exact e2
      refine ⟨rfl, ⟨fun b o e => ?_, fun b o e => ?_⟩, os, bare⟩
      · by_cases hb : b ∈ T
        · obtain ⟨p, hp, ep⟩ := tab b hb
          obtain ⟨more, hm⟩ := grown b hb
          rw [tabO b hb] at e
          cases e
          refine .inr (.inl ⟨ep ▸ ((C p hp).tab (hT p hp)).isCodeTable, rfl, #[], more, rfl, ?_⟩)
          rw [Array.empty_append]
          exact hm
        · exact .inl (kept b o hb e)
      · by_cases hb : b ∈ T
        · exact let ⟨more, hm⟩ := grown b hb; ⟨_, hm⟩
        · exact ⟨o, kept b o hb e⟩
/-- the law's own promise -/
theorem law_run (T : Tp K mg) {base : Heap} {Pt Pu : Addr} (TT : TabB base mg (He.codeOf K ("ran", none)) Pt) (TU : TabB base mg (He.codeOf K ("ran_at", none)) Pu) {A : Around} {outer : List Env} {s : Shared} {H : Hp} (hr : Room 35 A) (hg : A.guards = some []) (e0 : Env0 P w K mg base A outer s H)
    (sq : SqL K H a (ns.map V.int)) (t1 : TabS H Pt qRan) (t2 : TabS H Pu qTak) (nTU : Pt ≠ Pu) :
    codeAny (model P w) A (.call (.ref (He.ga K "law")) ⟨[.ref a], []⟩) (CR CX0 outer P w H s (fun v _ => v = .bl true) E0) s := by
  obtain ⟨fd, F⟩ := T.def_ 46 (d := d_law) rfl
  have hb : Binds K fd ["_law_script"] [] := F.bindsN (fun kV doc pm an cdv ct us hl => match us, hl with | [_], _ => rfl)
  obtain ⟨oc, od, dV, kV, doc, pm, an, cdv, ct, osl, rfl, lk, hcd, _, _⟩ := F.ex
  have KX : K.In s.heap := e0.mod.kin.keeps fun b o e => (e0.bs b o e).1
  refine run_ofS (N := N_law) (ps := ["_law_script"]) (us := [.ref a]) (vs := [.ref a]) lk hcd sc_law hr e0 (by
    have q := hb s [.ref a] KX rfl
    exact q) (.cons rfl .nil) rfl fun hr' => ?_
  obtain ⟨t, ht, hq⟩ := law_s1 (P := P) (w := w) T TT TU (f := He.fAd K ("law", none)) (cdv := cdv) (outer := outer) (s := s) (H0 := H) hr' hg
  exact ⟨t, ht.nox, hq _ H a ns sq t1 t2 nTU fun _ => rfl⟩
end
end Kz
set_option Elab.async false
set_option linter.all false
set_option maxRecDepth 100000
set_option maxHeartbeats 4000000
set_option pp.maxSteps 3000
/-! ZFi: the law. -/
namespace Kz
open PySem PySem.Spec PyProof.Rows L2 LamX NdefX
theorem law_all {w : World} {s₁ : Shared} {K : PySem.W.Frag} {mg mb : Str → Option Value} {fn0 a : Addr} {vs : List Value} {ns : List Int} {P : Program}
    (KX : K.In s₁.heap) (S : He.SaysX fa fn [] tf ex w s₁.heap K) (hns : s₁.heap.Ns mainGlobals mg) (hb : s₁.heap.Ns builtinsNs mb) (hbb : ∀ x : Str, x ≠ "__name__" → mb x = bootBuiltins x) (hlim : s₁.heap.NoLimit) (hg : s₁.gens = #[])
    (hbm : ∃ (bm : Addr) (ob : Obj), mg "__builtins__" = some (.ref bm) ∧ bm ≠ builtinsNs ∧ s₁.heap.get? bm = some ob ∧ ob.cls = .type "module" ∧ ob.dict = some builtinsNs ∧ ob.data = .plain)
    (hmg : mg "law" = some (.ref fn0)) (ha : s₁.heap.get? a = some { cls := .type "list", data := .seq vs.toArray }) (hi : IntsAre vs ns) (hl : ns.length ≤ sizeLine) :
    codeAny (model P w) callerA (.call (.ref fn0) ⟨[.ref a], []⟩) (fun r s' => r = .ok (.ret (.bool true)) ∧ OldK s₁.heap s'.heap ∧ s'.os = s₁.os ∧ AllBare s'.gens) s₁ := by
  have T : Tp K mg := ⟨⟨s₁.heap, KX, hns, congrArg (fun z : He.AlT => z.1) S.t⟩⟩
  have e : fn0 = He.ga K "law" := by
    have q := T.glo (x := "law") 37 rfl
    rw [hmg] at q
    cases q
    rfl
  subst e
  have m1 : (("ran", none) : He.Defn) ∈ tf := .head _
  have m2 : (("ran_at", none) : He.Defn) ∈ tf := .tail _ (.head _)
  have two : ∀ {q : Addr × Addr → Prop}, q (He.cT K ("ran", none)) → q (He.cT K ("ran_at", none)) → ∀ p ∈ [He.cT K ("ran", none), He.cT K ("ran_at", none)], q p := fun h1 h2 p hp => by
    rcases List.mem_cons.mp hp with e | hp
    · rw [e]; exact h1
    · rw [List.mem_singleton.mp hp]; exact h2
  have ne : (He.cT K ("ran", none)).2 ≠ (He.cT K ("ran_at", none)).2 := fun z => by
    have q : (!Nat.beq (He.cT K ("ran", none)).2 (He.cT K ("ran_at", none)).2) = true := S.more
    rw [z, Nat.beq_refl] at q
    cases q
  refine law_top (cs := [He.cT K ("ran", none), He.cT K ("ran_at", none)]) KX hns hb hbb hlim hg (two (S.empty _ m1) (S.empty _ m2)) (two (S.out _ m1) (S.out _ m2)) (two (PySem.W.codeHd_of_K KX (S.hd _ m1)) (PySem.W.codeHd_of_K KX (S.hd _ m2))) hbm ha hi hl fun base H TB e0 hH hS => ?_
  exact law_run T (TB _ (.head _)) (TB _ (.tail _ (.head _))) ⟨rfl, by decide, by decide⟩ rfl e0 hS (TabS.nil (hH _ (.head _))) (TabS.nil (hH _ (.tail _ (.head _)))) ne
end Kz
open PySem PySem.W PySem.Calls PyProof.Rows
theorem PySem.Challenge.cw_dimfits_k20_whole_names_are_nothing_holds : PySem.Challenge.rw_dimfits_k20_whole_names_are_nothing.Holds := by
  w_on; o_law
  refine HandSHeadRun.head_any (r := Kz.R) (q := view Kz.R.prog [52]) (H := Kz.hk) (ob := Kz.ob) (M := 20000) (loose := Kz.loose) (d := HandSHeadRun.topDef Kz.R.prog 52) (kwd := []) Kz.ob_eq
    (by kernel_rfl) (fun s => by kernel_rfl) Kz.run (by kernel_rfl) (by kernel_rfl) (by kernel_rfl) (by rfl) (by first | assumption | decide +kernel) (by decide +kernel) ⟨rfl, rfl, rfl, rfl, rfl, by decide +kernel⟩ ?hw ?hc
  case hw => w_witness2
  case hc =>
    refine Att.attach_callB (l := PySem.Challenge.rw_dimfits_k20_whole_names_are_nothing) (n := 63) rfl (by kernel_rfl) fun w s₀ s₁ mg mb fa o pm cd doc a vs ns G Y ho hd hcd hmg0 hobj hints hlen hbits hg => ?_
    obtain ⟨K, KX, S⟩ := Y
    have hmg : mg ("law" : PySem.Str) = some (.ref fa) := by
      have e : (HandSHeadRun.topDef Kz.R.prog 52).name = ("law" : PySem.Str) := by kernel_rfl
      rw [← e]
      exact hmg0
    exact Kz.law_all KX S G.T.g G.T.b G.T.builtins G.T.nolimit hg G.T.bmain hmg hobj hints (Nat.le_trans hlen (by decide))
