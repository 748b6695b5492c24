import PyProof.Rows.All
import Wide.All
import OpenK.AllK
import Wide.FinOn
import KE.HD4
import Open.SpecLaws
import KE.OsGo
import HandS.ForSpec
import HandS.ForMost
import HandS.ExcInit
import HandS.ExcField
import HandS.HeadHook4
import HandS.TupAny
import HandS.SortRule
import HandS.SetFor
import HandS.Style
import HandS.Zip
import HandS.CallLocal
import KE.KIntText
import HandS.Steps
import HandS.Walk
import HandS.SortInts
import PySem.Challenge.RW_growcells_s01_answers
set_option Elab.async false
set_option linter.all false
set_option maxRecDepth 100000
set_option maxHeartbeats 2000000
/-! The facts of the top: printed by gen/facts.py -/
namespace GW
open PySem PySem.Spec PyProof.Rows L2
abbrev Prg : Program := PySem.Challenge.pw_growcells_s01_answers
def top (i : Nat) : Stmt := Prg.main.body.getD i (.Pass ⟨0, 0, 0, 0⟩)
abbrev s_sign_of : Stmt := top 8
abbrev s_pieces_of : Stmt := top 9
abbrev s_word_of : Stmt := top 10
abbrev s_words_of : Stmt := top 11
abbrev s_word_at : Stmt := top 12
abbrev s_is_name : Stmt := top 13
abbrev s_is_number : Stmt := top 14
abbrev s_want_right : Stmt := top 29
abbrev s_place_of : Stmt := top 30
abbrev s_find_cell : Stmt := top 31
abbrev s_find_task : Stmt := top 32
abbrev s_want_new_name : Stmt := top 33
abbrev s_add_instruction : Stmt := top 34
abbrev s_read_term : Stmt := top 40
abbrev s_read_expression : Stmt := top 41
abbrev s_read_two : Stmt := top 42
abbrev s_result_of : Stmt := top 43
abbrev s_value_of : Stmt := top 44
abbrev s_first_state : Stmt := top 47
abbrev s_state_with : Stmt := top 48
abbrev s_narrowed : Stmt := top 49
abbrev s_is_reached : Stmt := top 50
abbrev s_told_state : Stmt := top 51
abbrev s_new_instance : Stmt := top 59
abbrev s_fail : Stmt := top 60
abbrev s_grow : Stmt := top 61
abbrev s_go_to : Stmt := top 62
abbrev s_put_in : Stmt := top 63
abbrev s_narrow : Stmt := top 64
abbrev s_do_put : Stmt := top 65
abbrev s_do_narrow : Stmt := top 66
abbrev s_do_wait : Stmt := top 67
abbrev s_do_read : Stmt := top 68
abbrev s_do_let : Stmt := top 69
abbrev s_do_if : Stmt := top 70
abbrev s_do_times : Stmt := top 71
abbrev s_do_again : Stmt := top 72
abbrev s_do_start : Stmt := top 73
abbrev s_next_instruction : Stmt := top 75
abbrev s_step : Stmt := top 76
abbrev s_steps_of : Stmt := top 77
abbrev s_run_on : Stmt := top 78
abbrev s_offer_in : Stmt := top 79
abbrev s_evaluated : Stmt := top 80
abbrev s_blocked_in : Stmt := top 81
abbrev s_outcome_of : Stmt := top 82
abbrev s_read_variable : Stmt := top 90
abbrev s_read_put : Stmt := top 91
abbrev s_read_narrow : Stmt := top 92
abbrev s_read_wait : Stmt := top 93
abbrev s_read_read : Stmt := top 94
abbrev s_read_let : Stmt := top 95
abbrev s_begin_block : Stmt := top 96
abbrev s_read_if : Stmt := top 97
abbrev s_read_times : Stmt := top 98
abbrev s_end_block : Stmt := top 99
abbrev s_read_fi : Stmt := top 100
abbrev s_read_again : Stmt := top 101
abbrev s_read_start : Stmt := top 102
abbrev s_read_end : Stmt := top 103
abbrev s_read_inside : Stmt := top 105
abbrev s_is_range_cell : Stmt := top 110
abbrev s_read_cell : Stmt := top 111
abbrev s_read_task : Stmt := top 112
abbrev s_read_go : Stmt := top 113
abbrev s_read_line : Stmt := top 115
abbrev s_code_of_line : Stmt := top 116
abbrev s_read_text : Stmt := top 117
abbrev s_load : Stmt := top 131
abbrev s_add_offer : Stmt := top 132
abbrev s_offer_put : Stmt := top 133
abbrev s_offer_narrow : Stmt := top 134
abbrev s_clear_offers : Stmt := top 135
abbrev s_is_selection : Stmt := top 136
abbrev s_check : Stmt := top 137
abbrev s_tell_cells : Stmt := top 138
abbrev s_longer : Stmt := top 139
abbrev s_all_selections : Stmt := top 140
abbrev s_smallest : Stmt := top 141
abbrev s_count_outcomes : Stmt := top 142
abbrev s_answer : Stmt := top 144
abbrev s_answers : Stmt := top 145
abbrev s_Wrong_init : Stmt := inClass (top 23) 0
abbrev s_Cell_init : Stmt := inClass (top 24) 0
abbrev s_Instruction_init : Stmt := inClass (top 25) 0
abbrev s_Task_init : Stmt := inClass (top 26) 0
abbrev s_Program_init : Stmt := inClass (top 27) 0
abbrev s_Reading_init : Stmt := inClass (top 28) 0
abbrev s_Reading_this_task : Stmt := inClass (top 28) 1
abbrev s_Instance_init : Stmt := inClass (top 57) 0
abbrev s_Run_init : Stmt := inClass (top 58) 0
abbrev s_Desk_init : Stmt := inClass (top 130) 0
def d_sign_of : He.DefD := ⟨("sign_of", none), "sign_of", "sign_of", defArgs s_sign_of, defBody s_sign_of, defScope s_sign_of, [], []⟩
def d_pieces_of : He.DefD := ⟨("pieces_of", none), "pieces_of", "pieces_of", defArgs s_pieces_of, defBody s_pieces_of, defScope s_pieces_of, [], []⟩
def d_word_of : He.DefD := ⟨("word_of", none), "word_of", "word_of", defArgs s_word_of, defBody s_word_of, defScope s_word_of, [], []⟩
def d_words_of : He.DefD := ⟨("words_of", none), "words_of", "words_of", defArgs s_words_of, defBody s_words_of, defScope s_words_of, [], []⟩
def d_word_at : He.DefD := ⟨("word_at", none), "word_at", "word_at", defArgs s_word_at, defBody s_word_at, defScope s_word_at, [], []⟩
def d_is_name : He.DefD := ⟨("is_name", none), "is_name", "is_name", defArgs s_is_name, defBody s_is_name, defScope s_is_name, [], []⟩
def d_is_number : He.DefD := ⟨("is_number", none), "is_number", "is_number", defArgs s_is_number, defBody s_is_number, defScope s_is_number, [], []⟩
def d_want_right : He.DefD := ⟨("want_right", none), "want_right", "want_right", defArgs s_want_right, defBody s_want_right, defScope s_want_right, [], []⟩
def d_place_of : He.DefD := ⟨("place_of", none), "place_of", "place_of", defArgs s_place_of, defBody s_place_of, defScope s_place_of, [], []⟩
def d_find_cell : He.DefD := ⟨("find_cell", none), "find_cell", "find_cell", defArgs s_find_cell, defBody s_find_cell, defScope s_find_cell, [], []⟩
def d_find_task : He.DefD := ⟨("find_task", none), "find_task", "find_task", defArgs s_find_task, defBody s_find_task, defScope s_find_task, [], []⟩
def d_want_new_name : He.DefD := ⟨("want_new_name", none), "want_new_name", "want_new_name", defArgs s_want_new_name, defBody s_want_new_name, defScope s_want_new_name, [], []⟩
def d_add_instruction : He.DefD := ⟨("add_instruction", none), "add_instruction", "add_instruction", defArgs s_add_instruction, defBody s_add_instruction, defScope s_add_instruction, [], []⟩
def d_read_term : He.DefD := ⟨("read_term", none), "read_term", "read_term", defArgs s_read_term, defBody s_read_term, defScope s_read_term, [], []⟩
def d_read_expression : He.DefD := ⟨("read_expression", none), "read_expression", "read_expression", defArgs s_read_expression, defBody s_read_expression, defScope s_read_expression, [], []⟩
def d_read_two : He.DefD := ⟨("read_two", none), "read_two", "read_two", defArgs s_read_two, defBody s_read_two, defScope s_read_two, [], []⟩
def d_result_of : He.DefD := ⟨("result_of", none), "result_of", "result_of", defArgs s_result_of, defBody s_result_of, defScope s_result_of, [], []⟩
def d_value_of : He.DefD := ⟨("value_of", none), "value_of", "value_of", defArgs s_value_of, defBody s_value_of, defScope s_value_of, [], []⟩
def d_first_state : He.DefD := ⟨("first_state", none), "first_state", "first_state", defArgs s_first_state, defBody s_first_state, defScope s_first_state, [], []⟩
def d_state_with : He.DefD := ⟨("state_with", none), "state_with", "state_with", defArgs s_state_with, defBody s_state_with, defScope s_state_with, [], []⟩
def d_narrowed : He.DefD := ⟨("narrowed", none), "narrowed", "narrowed", defArgs s_narrowed, defBody s_narrowed, defScope s_narrowed, [], []⟩
def d_is_reached : He.DefD := ⟨("is_reached", none), "is_reached", "is_reached", defArgs s_is_reached, defBody s_is_reached, defScope s_is_reached, [], []⟩
def d_told_state : He.DefD := ⟨("told_state", none), "told_state", "told_state", defArgs s_told_state, defBody s_told_state, defScope s_told_state, [], []⟩
def d_new_instance : He.DefD := ⟨("new_instance", none), "new_instance", "new_instance", defArgs s_new_instance, defBody s_new_instance, defScope s_new_instance, [], []⟩
def d_fail : He.DefD := ⟨("fail", none), "fail", "fail", defArgs s_fail, defBody s_fail, defScope s_fail, [], []⟩
def d_grow : He.DefD := ⟨("grow", none), "grow", "grow", defArgs s_grow, defBody s_grow, defScope s_grow, [], []⟩
def d_go_to : He.DefD := ⟨("go_to", none), "go_to", "go_to", defArgs s_go_to, defBody s_go_to, defScope s_go_to, [], []⟩
def d_put_in : He.DefD := ⟨("put_in", none), "put_in", "put_in", defArgs s_put_in, defBody s_put_in, defScope s_put_in, [], []⟩
def d_narrow : He.DefD := ⟨("narrow", none), "narrow", "narrow", defArgs s_narrow, defBody s_narrow, defScope s_narrow, [], []⟩
def d_do_put : He.DefD := ⟨("do_put", none), "do_put", "do_put", defArgs s_do_put, defBody s_do_put, defScope s_do_put, [], []⟩
def d_do_narrow : He.DefD := ⟨("do_narrow", none), "do_narrow", "do_narrow", defArgs s_do_narrow, defBody s_do_narrow, defScope s_do_narrow, [], []⟩
def d_do_wait : He.DefD := ⟨("do_wait", none), "do_wait", "do_wait", defArgs s_do_wait, defBody s_do_wait, defScope s_do_wait, [], []⟩
def d_do_read : He.DefD := ⟨("do_read", none), "do_read", "do_read", defArgs s_do_read, defBody s_do_read, defScope s_do_read, [], []⟩
def d_do_let : He.DefD := ⟨("do_let", none), "do_let", "do_let", defArgs s_do_let, defBody s_do_let, defScope s_do_let, [], []⟩
def d_do_if : He.DefD := ⟨("do_if", none), "do_if", "do_if", defArgs s_do_if, defBody s_do_if, defScope s_do_if, [], []⟩
def d_do_times : He.DefD := ⟨("do_times", none), "do_times", "do_times", defArgs s_do_times, defBody s_do_times, defScope s_do_times, [], []⟩
def d_do_again : He.DefD := ⟨("do_again", none), "do_again", "do_again", defArgs s_do_again, defBody s_do_again, defScope s_do_again, [], []⟩
def d_do_start : He.DefD := ⟨("do_start", none), "do_start", "do_start", defArgs s_do_start, defBody s_do_start, defScope s_do_start, [], []⟩
def d_next_instruction : He.DefD := ⟨("next_instruction", none), "next_instruction", "next_instruction", defArgs s_next_instruction, defBody s_next_instruction, defScope s_next_instruction, [], []⟩
def d_step : He.DefD := ⟨("step", none), "step", "step", defArgs s_step, defBody s_step, defScope s_step, [], []⟩
def d_steps_of : He.DefD := ⟨("steps_of", none), "steps_of", "steps_of", defArgs s_steps_of, defBody s_steps_of, defScope s_steps_of, [], []⟩
def d_run_on : He.DefD := ⟨("run_on", none), "run_on", "run_on", defArgs s_run_on, defBody s_run_on, defScope s_run_on, [], []⟩
def d_offer_in : He.DefD := ⟨("offer_in", none), "offer_in", "offer_in", defArgs s_offer_in, defBody s_offer_in, defScope s_offer_in, [], []⟩
def d_evaluated : He.DefD := ⟨("evaluated", none), "evaluated", "evaluated", defArgs s_evaluated, defBody s_evaluated, defScope s_evaluated, [], []⟩
def d_blocked_in : He.DefD := ⟨("blocked_in", none), "blocked_in", "blocked_in", defArgs s_blocked_in, defBody s_blocked_in, defScope s_blocked_in, [], []⟩
def d_outcome_of : He.DefD := ⟨("outcome_of", none), "outcome_of", "outcome_of", defArgs s_outcome_of, defBody s_outcome_of, defScope s_outcome_of, [], []⟩
def d_read_variable : He.DefD := ⟨("read_variable", none), "read_variable", "read_variable", defArgs s_read_variable, defBody s_read_variable, defScope s_read_variable, [], []⟩
def d_read_put : He.DefD := ⟨("read_put", none), "read_put", "read_put", defArgs s_read_put, defBody s_read_put, defScope s_read_put, [], []⟩
def d_read_narrow : He.DefD := ⟨("read_narrow", none), "read_narrow", "read_narrow", defArgs s_read_narrow, defBody s_read_narrow, defScope s_read_narrow, [], []⟩
def d_read_wait : He.DefD := ⟨("read_wait", none), "read_wait", "read_wait", defArgs s_read_wait, defBody s_read_wait, defScope s_read_wait, [], []⟩
def d_read_read : He.DefD := ⟨("read_read", none), "read_read", "read_read", defArgs s_read_read, defBody s_read_read, defScope s_read_read, [], []⟩
def d_read_let : He.DefD := ⟨("read_let", none), "read_let", "read_let", defArgs s_read_let, defBody s_read_let, defScope s_read_let, [], []⟩
def d_begin_block : He.DefD := ⟨("begin_block", none), "begin_block", "begin_block", defArgs s_begin_block, defBody s_begin_block, defScope s_begin_block, [], []⟩
def d_read_if : He.DefD := ⟨("read_if", none), "read_if", "read_if", defArgs s_read_if, defBody s_read_if, defScope s_read_if, [], []⟩
def d_read_times : He.DefD := ⟨("read_times", none), "read_times", "read_times", defArgs s_read_times, defBody s_read_times, defScope s_read_times, [], []⟩
def d_end_block : He.DefD := ⟨("end_block", none), "end_block", "end_block", defArgs s_end_block, defBody s_end_block, defScope s_end_block, [], []⟩
def d_read_fi : He.DefD := ⟨("read_fi", none), "read_fi", "read_fi", defArgs s_read_fi, defBody s_read_fi, defScope s_read_fi, [], []⟩
def d_read_again : He.DefD := ⟨("read_again", none), "read_again", "read_again", defArgs s_read_again, defBody s_read_again, defScope s_read_again, [], []⟩
def d_read_start : He.DefD := ⟨("read_start", none), "read_start", "read_start", defArgs s_read_start, defBody s_read_start, defScope s_read_start, [], []⟩
def d_read_end : He.DefD := ⟨("read_end", none), "read_end", "read_end", defArgs s_read_end, defBody s_read_end, defScope s_read_end, [], []⟩
def d_read_inside : He.DefD := ⟨("read_inside", none), "read_inside", "read_inside", defArgs s_read_inside, defBody s_read_inside, defScope s_read_inside, [], []⟩
def d_is_range_cell : He.DefD := ⟨("is_range_cell", none), "is_range_cell", "is_range_cell", defArgs s_is_range_cell, defBody s_is_range_cell, defScope s_is_range_cell, [], []⟩
def d_read_cell : He.DefD := ⟨("read_cell", none), "read_cell", "read_cell", defArgs s_read_cell, defBody s_read_cell, defScope s_read_cell, [], []⟩
def d_read_task : He.DefD := ⟨("read_task", none), "read_task", "read_task", defArgs s_read_task, defBody s_read_task, defScope s_read_task, [], []⟩
def d_read_go : He.DefD := ⟨("read_go", none), "read_go", "read_go", defArgs s_read_go, defBody s_read_go, defScope s_read_go, [], []⟩
def d_read_line : He.DefD := ⟨("read_line", none), "read_line", "read_line", defArgs s_read_line, defBody s_read_line, defScope s_read_line, [], []⟩
def d_code_of_line : He.DefD := ⟨("code_of_line", none), "code_of_line", "code_of_line", defArgs s_code_of_line, defBody s_code_of_line, defScope s_code_of_line, [], []⟩
def d_read_text : He.DefD := ⟨("read_text", none), "read_text", "read_text", defArgs s_read_text, defBody s_read_text, defScope s_read_text, [], []⟩
def d_load : He.DefD := ⟨("load", none), "load", "load", defArgs s_load, defBody s_load, defScope s_load, [], []⟩
def d_add_offer : He.DefD := ⟨("add_offer", none), "add_offer", "add_offer", defArgs s_add_offer, defBody s_add_offer, defScope s_add_offer, [], []⟩
def d_offer_put : He.DefD := ⟨("offer_put", none), "offer_put", "offer_put", defArgs s_offer_put, defBody s_offer_put, defScope s_offer_put, [], []⟩
def d_offer_narrow : He.DefD := ⟨("offer_narrow", none), "offer_narrow", "offer_narrow", defArgs s_offer_narrow, defBody s_offer_narrow, defScope s_offer_narrow, [], []⟩
def d_clear_offers : He.DefD := ⟨("clear_offers", none), "clear_offers", "clear_offers", defArgs s_clear_offers, defBody s_clear_offers, defScope s_clear_offers, [], []⟩
def d_is_selection : He.DefD := ⟨("is_selection", none), "is_selection", "is_selection", defArgs s_is_selection, defBody s_is_selection, defScope s_is_selection, [], []⟩
def d_check : He.DefD := ⟨("check", none), "check", "check", defArgs s_check, defBody s_check, defScope s_check, [], []⟩
def d_tell_cells : He.DefD := ⟨("tell_cells", none), "tell_cells", "tell_cells", defArgs s_tell_cells, defBody s_tell_cells, defScope s_tell_cells, [], []⟩
def d_longer : He.DefD := ⟨("longer", none), "longer", "longer", defArgs s_longer, defBody s_longer, defScope s_longer, [], []⟩
def d_all_selections : He.DefD := ⟨("all_selections", none), "all_selections", "all_selections", defArgs s_all_selections, defBody s_all_selections, defScope s_all_selections, [], []⟩
def d_smallest : He.DefD := ⟨("smallest", none), "smallest", "smallest", defArgs s_smallest, defBody s_smallest, defScope s_smallest, [], []⟩
def d_count_outcomes : He.DefD := ⟨("count_outcomes", none), "count_outcomes", "count_outcomes", defArgs s_count_outcomes, defBody s_count_outcomes, defScope s_count_outcomes, [], []⟩
def d_answer : He.DefD := ⟨("answer", none), "answer", "answer", defArgs s_answer, defBody s_answer, defScope s_answer, [], []⟩
def d_answers : He.DefD := ⟨("answers", none), "answers", "answers", defArgs s_answers, defBody s_answers, defScope s_answers, [], []⟩
def d_Wrong_init : He.DefD := ⟨("Wrong", some "__init__"), "__init__", "Wrong.__init__", defArgs s_Wrong_init, defBody s_Wrong_init, defScope s_Wrong_init, [], []⟩
def d_Cell_init : He.DefD := ⟨("Cell", some "__init__"), "__init__", "Cell.__init__", defArgs s_Cell_init, defBody s_Cell_init, defScope s_Cell_init, [], []⟩
def d_Instruction_init : He.DefD := ⟨("Instruction", some "__init__"), "__init__", "Instruction.__init__", defArgs s_Instruction_init, defBody s_Instruction_init, defScope s_Instruction_init, [], []⟩
def d_Task_init : He.DefD := ⟨("Task", some "__init__"), "__init__", "Task.__init__", defArgs s_Task_init, defBody s_Task_init, defScope s_Task_init, [], []⟩
def d_Program_init : He.DefD := ⟨("Program", some "__init__"), "__init__", "Program.__init__", defArgs s_Program_init, defBody s_Program_init, defScope s_Program_init, [], []⟩
def d_Reading_init : He.DefD := ⟨("Reading", some "__init__"), "__init__", "Reading.__init__", defArgs s_Reading_init, defBody s_Reading_init, defScope s_Reading_init, [], []⟩
def d_Reading_this_task : He.DefD := ⟨("Reading", some "this_task"), "this_task", "Reading.this_task", defArgs s_Reading_this_task, defBody s_Reading_this_task, defScope s_Reading_this_task, [], []⟩
def d_Instance_init : He.DefD := ⟨("Instance", some "__init__"), "__init__", "Instance.__init__", defArgs s_Instance_init, defBody s_Instance_init, defScope s_Instance_init, [], []⟩
def d_Run_init : He.DefD := ⟨("Run", some "__init__"), "__init__", "Run.__init__", defArgs s_Run_init, defBody s_Run_init, defScope s_Run_init, [], []⟩
def d_Desk_init : He.DefD := ⟨("Desk", some "__init__"), "__init__", "Desk.__init__", defArgs s_Desk_init, defBody s_Desk_init, defScope s_Desk_init, [], []⟩
def fn0 : List He.DefD := [d_sign_of, d_pieces_of, d_word_of, d_words_of, d_word_at, d_is_name, d_is_number, d_want_right, d_place_of, d_find_cell, d_find_task, d_want_new_name, d_add_instruction, d_read_term, d_read_expression, d_read_two, d_result_of, d_value_of, d_first_state, d_state_with]
def fn1 : List He.DefD := [d_narrowed, d_is_reached, d_told_state, d_new_instance, d_fail, d_grow, d_go_to, d_put_in, d_narrow, d_do_put, d_do_narrow, d_do_wait, d_do_read, d_do_let, d_do_if, d_do_times, d_do_again, d_do_start, d_next_instruction, d_step]
def fn2 : List He.DefD := [d_steps_of, d_run_on, d_offer_in, d_evaluated, d_blocked_in, d_outcome_of, d_read_variable, d_read_put, d_read_narrow, d_read_wait, d_read_read, d_read_let, d_begin_block, d_read_if, d_read_times, d_end_block, d_read_fi, d_read_again, d_read_start, d_read_end]
def fn3 : List He.DefD := [d_read_inside, d_is_range_cell, d_read_cell, d_read_task, d_read_go, d_read_line, d_code_of_line, d_read_text, d_load, d_add_offer, d_offer_put, d_offer_narrow, d_clear_offers, d_is_selection, d_check, d_tell_cells, d_longer, d_all_selections, d_smallest, d_count_outcomes]
def fn4 : List He.DefD := [d_answer, d_answers, d_Wrong_init, d_Cell_init, d_Instruction_init, d_Task_init, d_Program_init, d_Reading_init, d_Reading_this_task, d_Instance_init, d_Run_init, d_Desk_init]
def fn : List He.DefD := fn0 ++ (fn1 ++ (fn2 ++ (fn3 ++ (fn4))))
def fa0 : List He.Fa := [.glo "sign_of", .glo "pieces_of", .glo "word_of", .glo "words_of", .glo "word_at", .glo "is_name", .glo "is_number", .glo "want_right", .glo "place_of", .glo "find_cell", .glo "find_task", .glo "want_new_name", .glo "add_instruction", .glo "read_term", .glo "read_expression", .glo "read_two", .glo "result_of", .glo "value_of", .glo "first_state", .glo "state_with"]
def fa1 : List He.Fa := [.glo "narrowed", .glo "is_reached", .glo "told_state", .glo "new_instance", .glo "fail", .glo "grow", .glo "go_to", .glo "put_in", .glo "narrow", .glo "do_put", .glo "do_narrow", .glo "do_wait", .glo "do_read", .glo "do_let", .glo "do_if", .glo "do_times", .glo "do_again", .glo "do_start", .glo "next_instruction", .glo "step"]
def fa2 : List He.Fa := [.glo "steps_of", .glo "run_on", .glo "offer_in", .glo "evaluated", .glo "blocked_in", .glo "outcome_of", .glo "read_variable", .glo "read_put", .glo "read_narrow", .glo "read_wait", .glo "read_read", .glo "read_let", .glo "begin_block", .glo "read_if", .glo "read_times", .glo "end_block", .glo "read_fi", .glo "read_again", .glo "read_start", .glo "read_end"]
def fa3 : List He.Fa := [.glo "read_inside", .glo "is_range_cell", .glo "read_cell", .glo "read_task", .glo "read_go", .glo "read_line", .glo "code_of_line", .glo "read_text", .glo "load", .glo "add_offer", .glo "offer_put", .glo "offer_narrow", .glo "clear_offers", .glo "is_selection", .glo "check", .glo "tell_cells", .glo "longer", .glo "all_selections", .glo "smallest", .glo "count_outcomes"]
def fa4 : List He.Fa := [.glo "answer", .glo "answers", .glo "Wrong", .glo "Cell", .glo "Instruction", .glo "Task", .glo "Program", .glo "Reading", .glo "Instance", .glo "Run", .glo "Desk", .free "str", .free "len", .free "all", .free "any", .free "max", .free "min", .free "sorted", .free "list", .free "int"]
def fa5 : List He.Fa := [.free "range", .free "zip", .free "ValueError", .int "NEWLINE" (10), .int "SPACE" (32), .str "LETTERS" "abcdefghijklmnopqrstuvwxyz", .glo "OTHERS", .str "STRANGE" "?", .int "MOST_LETTERS" (8), .int "MOST_DIGITS" (4), .int "MALFORMED" (1), .int "MISNAMED" (2), .int "MISPLACED" (3), .int "UNBALANCED" (4), .int "EXCEEDED" (5), .int "UNFINISHED" (6), .int "MOST_INSTRUCTIONS" (40), .glo "OPERATORS", .str "COMMA" ",", .int "MOST_OPERATORS" (99)]
def fa6 : List He.Fa := [.int "MOST_RESULT" (1000000000), .int "MOST_IN_SET" (63), .int "MOST_INSTANCES" (40), .int "FINISHED" (0), .int "BLOCKED" (1), .int "FAILED" (2), .glo "DEEDS", .glo "PUT_KINDS", .glo "WAITS", .int "MOST_VARIABLES" (6), .int "MOST_BLOCKS" (4), .int "MOST_TIMES" (2), .int "MOST_ROUNDS" (5), .glo "INSIDE", .int "MOST_CELLS" (10), .int "MOST_TASKS" (8), .int "MOST_GOES" (12), .glo "OUTSIDE", .int "OUT" (-2), .int "NO_CELL" (-3)]
def fa7 : List He.Fa := [.int "WRONG_KIND" (-4), .int "FULL" (-5), .int "NO_SELECTION" (-6), .int "NO_PROGRAM" (-7), .int "LOAD" (1), .int "MOST_BYTES" (4000), .int "MOST_VALUE" (1000000000), .int "MOST_OFFERS" (6), .glo "MANY", .glo "CALLS", .cls "Cell", .noat "Cell" "name", .noat "Cell" "kind", .noat "Cell" "low", .noat "Cell" "high", .mkr "Cell", .cls "Instruction", .noat "Instruction" "word", .noat "Instruction" "line", .noat "Instruction" "way"]
def fa8 : List He.Fa := [.noat "Instruction" "cell", .noat "Instruction" "first", .noat "Instruction" "second", .noat "Instruction" "slot", .noat "Instruction" "number", .noat "Instruction" "goal", .mkr "Instruction", .cls "Task", .noat "Task" "name", .noat "Task" "slots", .noat "Task" "instructions", .mkr "Task", .cls "Program", .noat "Program" "cells", .noat "Program" "tasks", .noat "Program" "goes", .mkr "Program", .cls "Reading", .noat "Reading" "program", .noat "Reading" "is_inside"]
def fa9 : List He.Fa := [.noat "Reading" "blocks", .mkr "Reading", .cls "Instance", .noat "Instance" "task", .noat "Instance" "place", .noat "Instance" "amounts", .noat "Instance" "rounds", .mkr "Instance", .cls "Run", .noat "Run" "program", .noat "Run" "states", .noat "Run" "instances", .noat "Run" "has_failed", .mkr "Run", .cls "Desk", .noat "Desk" "program", .noat "Desk" "offers", .mkr "Desk", .meth "Reading" "this_task", .exm "Wrong" "Wrong" true]
def fa10 : List He.Fa := [.keep "Wrong", .noat "Wrong" "code"]
def fa : List He.Fa := fa0 ++ (fa1 ++ (fa2 ++ (fa3 ++ (fa4 ++ (fa5 ++ (fa6 ++ (fa7 ++ (fa8 ++ (fa9 ++ (fa10))))))))))
def ts : List He.Tab := [(fun K => He.ga K "DEEDS", ["put", "narrow", "wait", "read", "let", "if", "times", "again", "start"]), (fun K => He.ga K "WAITS", ["atleast", "atmost", "has", "size", "within", "known"]), (fun K => He.ga K "INSIDE", ["put", "narrow", "wait", "read", "let", "if", "times", "fi", "again", "start", "end"]), (fun K => He.ga K "OUTSIDE", ["cell", "task", "go"])]
/-- the tuple that a written table has at a key -/
def valA (K : PySem.W.Frag) (a : Addr) (z : Str) : Addr := match PySem.W.nsIn K a z with
  | some (some (.ref b)) => b
  | _ => 0
def refB (K : PySem.W.Frag) (a : Addr) (z : Str) : Bool := decide (PySem.W.nsIn K a z = some (some (.ref (valA K a z))))
/-- the written tuple at a is these -/
def tupAt (K : PySem.W.Frag) (a : Addr) (vs : List V) : Bool := match K.lookup a with
  | some ⟨.type c, _, .seq its _, _⟩ => decide (c = "tuple") && (decide (its.size ≤ sizeLine) && He.relAll vs its.toList)
  | _ => false
theorem tupAt_ok {K : PySem.W.Frag} {a : Addr} {vs : List V} (h : tupAt K a vs = true) (H : Hp) : SqT K H a vs := by
  unfold tupAt at h
  split at h
  · rename_i c od its n sl q
    obtain ⟨h1, h2⟩ := He.ba h
    obtain ⟨h3, h4⟩ := He.ba h2
    exact .inr ⟨_, its, n, q, congrArg Value.type (of_decide_eq_true h1), rfl, of_decide_eq_true h3, He.relAll_ok h4⟩
  · cases h
/-- the keys of a written dict -/
def keysB (K : PySem.W.Frag) (a : Addr) (ks : List Str) : Bool := match K.lookup a with
  | some ⟨_, _, .dict es _, _⟩ => (es.toList.map DictEntry.key).all (fun k => match k with
    | .str s _ => ks.any (· == s)
    | _ => false) && ks.all fun z => es.toList.any fun e => e.key.isStr z
  | _ => false
theorem keysB_ok {K : PySem.W.Frag} {a : Addr} {ks : List Str} (h : keysB K a ks = true) (z : Str) : ∃ r, PySem.W.nsIn K a z = some r ∧ r.isSome = ks.any (· == z) := by
  unfold keysB at h
  split at h
  · rename_i c d es n sl q
    obtain ⟨h1, h2⟩ := He.ba h
    unfold PySem.W.nsIn
    rw [q]
    dsimp only
    cases hf : es.toList.find? fun e => e.key.isStr z with
    | some e =>
      refine ⟨_, rfl, ?_⟩
      have hm := List.mem_of_find?_eq_some hf
      have hp := List.find?_some hf
      have := List.all_eq_true.mp h1 e.key (List.mem_map_of_mem hm)
      split at this
      · rename_i s t ek
        rw [ek] at hp
        have hs : s = z := by simpa [PySem.Value.isStr] using hp
        rw [hs] at this
        rw [this]
        rfl
      · cases this
    | none =>
      have hn : (es.toList.any fun x => x.refKey) = false := by
        rw [List.any_eq_false]
        intro e hm
        have := List.all_eq_true.mp h1 e.key (List.mem_map_of_mem hm)
        unfold DictEntry.refKey
        split at this
        · rename_i s t ek
          rw [ek]
          simp
        · cases this
      refine ⟨none, by dsimp only; rw [hn]; rfl, ?_⟩
      symm
      show ks.any (· == z) = false
      rw [List.any_eq_false]
      intro k hk
      have h3 := List.all_eq_true.mp h2 k hk
      intro e
      have e : k = z := by simpa using e
      subst e
      obtain ⟨x, hx, hx2⟩ := List.any_eq_true.mp h3
      have := List.find?_eq_none.mp hf x hx
      exact this hx2
  · cases h
/-- a written dict with int keys: its entries -/
def entB : List DictEntry → List (Int × He.Dv) → PySem.W.Frag → Bool
  | [], [], _ => true
  | e :: es, (i, v) :: r, K => (match e.key with
    | .int j _ => decide (j = i)
    | _ => false) && (decide (e.hash = hashInt i) && (He.relB (v.v K) e.val && entB es r K))
  | _, _, _ => false
def idB (K : PySem.W.Frag) (a : Addr) (kvs : List (Int × He.Dv)) : Bool := match K.lookup a with
  | some ⟨.type c, none, .dict es _, sl⟩ => decide (c = "dict") && (sl.isEmpty && (!(a == sysModules) && entB es.toList kvs K))
  | _ => false
def veB (K : PySem.W.Frag) : Bool := match PySem.W.findCls K (.type "ValueError") (.type "type") "__init__" with
  | some (.val (.builtin n)) => decide (n = "ValueError.__init__")
  | _ => false
theorem veB_ok {K : PySem.W.Frag} (h : veB K = true) : PySem.W.findCls K (.type "ValueError") (.type "type") "__init__" = some (.val (.builtin "ValueError.__init__")) := by
  unfold veB at h
  split at h
  · rename_i n q
    rw [q, of_decide_eq_true h]
  · cases h
def oexB (K : PySem.W.Frag) (C : Addr) : Bool := (match K.lookup C with
  | some ⟨.type "type", _, .cls cd, sl⟩ => (match cd.mro, sl.toList with
    | .ref C' :: bm, [_, _, _, _, some (.builtin n), _] => decide (C' = C) && (decide (n = "ValueError.__new__") && (!cd.hasDel && (cd.hasDict && PySem.HandSPX.refsVE bm)))
    | _, _ => false)
  | _ => false) && (He.eqO (PySem.W.findIn K (.ref C) "__setattr__") (some (some (.builtin "object.__setattr__"))) && (decide (PySem.W.subIn K (.ref C) (.type "BaseException") = some true) &&
    (decide (PySem.W.typeIn K (.ref C) = some (.type "type")) && PySem.W.keepIn K (.ref C))))
theorem oexB_ok {K : PySem.W.Frag} {C : Addr} (h : oexB K C = true) : OexC K C := by
  obtain ⟨h1, h⟩ := He.ba h
  obtain ⟨h2, h⟩ := He.ba h
  obtain ⟨h3, h⟩ := He.ba h
  obtain ⟨h4, h5⟩ := He.ba h
  refine ⟨?_, He.eqO_ok h2, of_decide_eq_true h3, of_decide_eq_true h4, h5⟩
  split at h1
  · rename_i dd cd sl ho
    split at h1
    · rename_i C' bm k0 k1 k2 k3 n k5 hm hs
      obtain ⟨a1, h1⟩ := He.ba h1
      obtain ⟨a2, h1⟩ := He.ba h1
      obtain ⟨a3, h1⟩ := He.ba h1
      obtain ⟨a4, a5⟩ := He.ba h1
      have a1 := of_decide_eq_true a1
      have a2 := of_decide_eq_true a2
      obtain ⟨nm, bs, mro, ns, qn, hd, sn, sub, ab, col, del⟩ := cd
      dsimp only at hm a3 a4
      obtain ⟨l⟩ := sl
      simp only at hs
      subst hm hs a1 a2 a4
      cases del with
      | true => cases a3
      | false => exact ⟨nm, qn, ns, bs, bm, sn, sub, ab, col, dd, k0, k1, k2, k3, k5, ho, a5⟩
    · cases h1
  · cases h1
def exs : List (PySem.W.Frag → Bool) := [fun K => tupAt K (He.ga K "OPERATORS") [.str "+", .str "-", .str "*", .str "<", .str "="], fun K => tupAt K (He.ga K "PUT_KINDS") [.str "max", .str "min", .str "set", .str "one", .str "flag"], fun K => He.valsB K (He.ga K "DEEDS") [("put", .glo "do_put"), ("narrow", .glo "do_narrow"), ("wait", .glo "do_wait"), ("read", .glo "do_read"), ("let", .glo "do_let"), ("if", .glo "do_if"), ("times", .glo "do_times"), ("again", .glo "do_again"), ("start", .glo "do_start")], fun K => refB K (He.ga K "WAITS") "atleast", fun K => tupAt K (valA K (He.ga K "WAITS") "atleast") [.str "max"], fun K => refB K (He.ga K "WAITS") "atmost", fun K => tupAt K (valA K (He.ga K "WAITS") "atmost") [.str "min"], fun K => refB K (He.ga K "WAITS") "has", fun K => tupAt K (valA K (He.ga K "WAITS") "has") [.str "set"], fun K => refB K (He.ga K "WAITS") "size", fun K => tupAt K (valA K (He.ga K "WAITS") "size") [.str "set"], fun K => refB K (He.ga K "WAITS") "within", fun K => tupAt K (valA K (He.ga K "WAITS") "within") [.str "range"], fun K => refB K (He.ga K "WAITS") "known", fun K => tupAt K (valA K (He.ga K "WAITS") "known") [.str "one", .str "flag"], fun K => He.valsB K (He.ga K "INSIDE") [("put", .glo "read_put"), ("narrow", .glo "read_narrow"), ("wait", .glo "read_wait"), ("read", .glo "read_read"), ("let", .glo "read_let"), ("if", .glo "read_if"), ("times", .glo "read_times"), ("fi", .glo "read_fi"), ("again", .glo "read_again"), ("start", .glo "read_start"), ("end", .glo "read_end")], fun K => He.valsB K (He.ga K "OUTSIDE") [("cell", .glo "read_cell"), ("task", .glo "read_task"), ("go", .glo "read_go")], fun K => idB K (He.ga K "OTHERS") [(42, .str "*"), (43, .str "+"), (44, .str ","), (45, .str "-"), (60, .str "<"), (61, .str "=")], fun K => idB K (He.ga K "MANY") [(2, .int 2), (3, .int 3), (4, .int 0), (7, .int 0), (8, .int 0)], fun K => idB K (He.ga K "CALLS") [(1, .glo "load"), (2, .glo "offer_put"), (3, .glo "offer_narrow"), (4, .glo "clear_offers"), (5, .glo "check"), (6, .glo "tell_cells"), (7, .glo "smallest"), (8, .glo "count_outcomes")], fun K => oexB K (He.ga K "Wrong"), fun K => xfB K (He.ga K "Wrong"), fun K => decide (PySem.W.findIn K (.ref (He.ga K "Wrong")) "__init__" = some (some (.ref (He.ma K (He.ga K "Wrong") "__init__")))), fun K => decide (PySem.W.typeIn K (.ref (He.ma K (He.ga K "Wrong") "__init__")) = some (.type "function")), fun K => veB K, fun K => keysB K (He.ga K "DEEDS") ["put", "narrow", "wait", "read", "let", "if", "times", "again", "start"], fun K => keysB K (He.ga K "WAITS") ["atleast", "atmost", "has", "size", "within", "known"], fun K => keysB K (He.ga K "INSIDE") ["put", "narrow", "wait", "read", "let", "if", "times", "fi", "again", "start", "end"], fun K => keysB K (He.ga K "OUTSIDE") ["cell", "task", "go"]]
def ex (K : PySem.W.Frag) : Bool := exs.all fun f => f K
/-- all that the walk leans on -/
structure Tx (K : PySem.W.Frag) (w : World) (mg : Str → Option Value) : Prop where
  at_ : ∃ h : Heap, K.In h ∧ h.Ns mainGlobals mg
  t : He.SaysT fa fn ts w K
  more : ex K = true
section
variable {K : PySem.W.Frag} {w : World} {mg : Str → Option Value}
theorem Tx.fact (T : Tx K w mg) (i : Nat) {f : He.Fa} (h : fa[i]? = some f := by rfl) : f.ok K = true := T.t.d.fact i h
theorem Tx.def_ (T : Tx K w mg) (i : Nat) {d : He.DefD} (h : fn[i]? = some d := by rfl) : ∃ fd, FunD K d.name d.qual d.params d.body d.scope (d.dvs K) (d.kws K) (He.fAd K d.at_) fd := T.t.d.def_ i h
theorem Tx.exq (T : Tx K w mg) (i : Nat) {f : PySem.W.Frag → Bool} (h : exs[i]? = some f := by rfl) : f K = true := List.all_eq_true.mp T.more f (List.mem_of_getElem? h)
theorem Tx.g_sign_of (T : Tx K w mg) : mg "sign_of" = some (.ref (He.ga K "sign_of")) := let ⟨_, X, G⟩ := T.at_; He.glo_ok X G (T.fact 0)
theorem Tx.g_pieces_of (T : Tx K w mg) : mg "pieces_of" = some (.ref (He.ga K "pieces_of")) := let ⟨_, X, G⟩ := T.at_; He.glo_ok X G (T.fact 1)
theorem Tx.g_word_of (T : Tx K w mg) : mg "word_of" = some (.ref (He.ga K "word_of")) := let ⟨_, X, G⟩ := T.at_; He.glo_ok X G (T.fact 2)
theorem Tx.g_words_of (T : Tx K w mg) : mg "words_of" = some (.ref (He.ga K "words_of")) := let ⟨_, X, G⟩ := T.at_; He.glo_ok X G (T.fact 3)
theorem Tx.g_word_at (T : Tx K w mg) : mg "word_at" = some (.ref (He.ga K "word_at")) := let ⟨_, X, G⟩ := T.at_; He.glo_ok X G (T.fact 4)
theorem Tx.g_is_name (T : Tx K w mg) : mg "is_name" = some (.ref (He.ga K "is_name")) := let ⟨_, X, G⟩ := T.at_; He.glo_ok X G (T.fact 5)
theorem Tx.g_is_number (T : Tx K w mg) : mg "is_number" = some (.ref (He.ga K "is_number")) := let ⟨_, X, G⟩ := T.at_; He.glo_ok X G (T.fact 6)
theorem Tx.g_want_right (T : Tx K w mg) : mg "want_right" = some (.ref (He.ga K "want_right")) := let ⟨_, X, G⟩ := T.at_; He.glo_ok X G (T.fact 7)
theorem Tx.g_place_of (T : Tx K w mg) : mg "place_of" = some (.ref (He.ga K "place_of")) := let ⟨_, X, G⟩ := T.at_; He.glo_ok X G (T.fact 8)
theorem Tx.g_find_cell (T : Tx K w mg) : mg "find_cell" = some (.ref (He.ga K "find_cell")) := let ⟨_, X, G⟩ := T.at_; He.glo_ok X G (T.fact 9)
theorem Tx.g_find_task (T : Tx K w mg) : mg "find_task" = some (.ref (He.ga K "find_task")) := let ⟨_, X, G⟩ := T.at_; He.glo_ok X G (T.fact 10)
theorem Tx.g_want_new_name (T : Tx K w mg) : mg "want_new_name" = some (.ref (He.ga K "want_new_name")) := let ⟨_, X, G⟩ := T.at_; He.glo_ok X G (T.fact 11)
theorem Tx.g_add_instruction (T : Tx K w mg) : mg "add_instruction" = some (.ref (He.ga K "add_instruction")) := let ⟨_, X, G⟩ := T.at_; He.glo_ok X G (T.fact 12)
theorem Tx.g_read_term (T : Tx K w mg) : mg "read_term" = some (.ref (He.ga K "read_term")) := let ⟨_, X, G⟩ := T.at_; He.glo_ok X G (T.fact 13)
theorem Tx.g_read_expression (T : Tx K w mg) : mg "read_expression" = some (.ref (He.ga K "read_expression")) := let ⟨_, X, G⟩ := T.at_; He.glo_ok X G (T.fact 14)
theorem Tx.g_read_two (T : Tx K w mg) : mg "read_two" = some (.ref (He.ga K "read_two")) := let ⟨_, X, G⟩ := T.at_; He.glo_ok X G (T.fact 15)
theorem Tx.g_result_of (T : Tx K w mg) : mg "result_of" = some (.ref (He.ga K "result_of")) := let ⟨_, X, G⟩ := T.at_; He.glo_ok X G (T.fact 16)
theorem Tx.g_value_of (T : Tx K w mg) : mg "value_of" = some (.ref (He.ga K "value_of")) := let ⟨_, X, G⟩ := T.at_; He.glo_ok X G (T.fact 17)
theorem Tx.g_first_state (T : Tx K w mg) : mg "first_state" = some (.ref (He.ga K "first_state")) := let ⟨_, X, G⟩ := T.at_; He.glo_ok X G (T.fact 18)
theorem Tx.g_state_with (T : Tx K w mg) : mg "state_with" = some (.ref (He.ga K "state_with")) := let ⟨_, X, G⟩ := T.at_; He.glo_ok X G (T.fact 19)
theorem Tx.g_narrowed (T : Tx K w mg) : mg "narrowed" = some (.ref (He.ga K "narrowed")) := let ⟨_, X, G⟩ := T.at_; He.glo_ok X G (T.fact 20)
theorem Tx.g_is_reached (T : Tx K w mg) : mg "is_reached" = some (.ref (He.ga K "is_reached")) := let ⟨_, X, G⟩ := T.at_; He.glo_ok X G (T.fact 21)
theorem Tx.g_told_state (T : Tx K w mg) : mg "told_state" = some (.ref (He.ga K "told_state")) := let ⟨_, X, G⟩ := T.at_; He.glo_ok X G (T.fact 22)
theorem Tx.g_new_instance (T : Tx K w mg) : mg "new_instance" = some (.ref (He.ga K "new_instance")) := let ⟨_, X, G⟩ := T.at_; He.glo_ok X G (T.fact 23)
theorem Tx.g_fail (T : Tx K w mg) : mg "fail" = some (.ref (He.ga K "fail")) := let ⟨_, X, G⟩ := T.at_; He.glo_ok X G (T.fact 24)
theorem Tx.g_grow (T : Tx K w mg) : mg "grow" = some (.ref (He.ga K "grow")) := let ⟨_, X, G⟩ := T.at_; He.glo_ok X G (T.fact 25)
theorem Tx.g_go_to (T : Tx K w mg) : mg "go_to" = some (.ref (He.ga K "go_to")) := let ⟨_, X, G⟩ := T.at_; He.glo_ok X G (T.fact 26)
theorem Tx.g_put_in (T : Tx K w mg) : mg "put_in" = some (.ref (He.ga K "put_in")) := let ⟨_, X, G⟩ := T.at_; He.glo_ok X G (T.fact 27)
theorem Tx.g_narrow (T : Tx K w mg) : mg "narrow" = some (.ref (He.ga K "narrow")) := let ⟨_, X, G⟩ := T.at_; He.glo_ok X G (T.fact 28)
theorem Tx.g_do_put (T : Tx K w mg) : mg "do_put" = some (.ref (He.ga K "do_put")) := let ⟨_, X, G⟩ := T.at_; He.glo_ok X G (T.fact 29)
theorem Tx.g_do_narrow (T : Tx K w mg) : mg "do_narrow" = some (.ref (He.ga K "do_narrow")) := let ⟨_, X, G⟩ := T.at_; He.glo_ok X G (T.fact 30)
theorem Tx.g_do_wait (T : Tx K w mg) : mg "do_wait" = some (.ref (He.ga K "do_wait")) := let ⟨_, X, G⟩ := T.at_; He.glo_ok X G (T.fact 31)
theorem Tx.g_do_read (T : Tx K w mg) : mg "do_read" = some (.ref (He.ga K "do_read")) := let ⟨_, X, G⟩ := T.at_; He.glo_ok X G (T.fact 32)
theorem Tx.g_do_let (T : Tx K w mg) : mg "do_let" = some (.ref (He.ga K "do_let")) := let ⟨_, X, G⟩ := T.at_; He.glo_ok X G (T.fact 33)
theorem Tx.g_do_if (T : Tx K w mg) : mg "do_if" = some (.ref (He.ga K "do_if")) := let ⟨_, X, G⟩ := T.at_; He.glo_ok X G (T.fact 34)
theorem Tx.g_do_times (T : Tx K w mg) : mg "do_times" = some (.ref (He.ga K "do_times")) := let ⟨_, X, G⟩ := T.at_; He.glo_ok X G (T.fact 35)
theorem Tx.g_do_again (T : Tx K w mg) : mg "do_again" = some (.ref (He.ga K "do_again")) := let ⟨_, X, G⟩ := T.at_; He.glo_ok X G (T.fact 36)
theorem Tx.g_do_start (T : Tx K w mg) : mg "do_start" = some (.ref (He.ga K "do_start")) := let ⟨_, X, G⟩ := T.at_; He.glo_ok X G (T.fact 37)
theorem Tx.g_next_instruction (T : Tx K w mg) : mg "next_instruction" = some (.ref (He.ga K "next_instruction")) := let ⟨_, X, G⟩ := T.at_; He.glo_ok X G (T.fact 38)
theorem Tx.g_step (T : Tx K w mg) : mg "step" = some (.ref (He.ga K "step")) := let ⟨_, X, G⟩ := T.at_; He.glo_ok X G (T.fact 39)
theorem Tx.g_steps_of (T : Tx K w mg) : mg "steps_of" = some (.ref (He.ga K "steps_of")) := let ⟨_, X, G⟩ := T.at_; He.glo_ok X G (T.fact 40)
theorem Tx.g_run_on (T : Tx K w mg) : mg "run_on" = some (.ref (He.ga K "run_on")) := let ⟨_, X, G⟩ := T.at_; He.glo_ok X G (T.fact 41)
theorem Tx.g_offer_in (T : Tx K w mg) : mg "offer_in" = some (.ref (He.ga K "offer_in")) := let ⟨_, X, G⟩ := T.at_; He.glo_ok X G (T.fact 42)
theorem Tx.g_evaluated (T : Tx K w mg) : mg "evaluated" = some (.ref (He.ga K "evaluated")) := let ⟨_, X, G⟩ := T.at_; He.glo_ok X G (T.fact 43)
theorem Tx.g_blocked_in (T : Tx K w mg) : mg "blocked_in" = some (.ref (He.ga K "blocked_in")) := let ⟨_, X, G⟩ := T.at_; He.glo_ok X G (T.fact 44)
theorem Tx.g_outcome_of (T : Tx K w mg) : mg "outcome_of" = some (.ref (He.ga K "outcome_of")) := let ⟨_, X, G⟩ := T.at_; He.glo_ok X G (T.fact 45)
theorem Tx.g_read_variable (T : Tx K w mg) : mg "read_variable" = some (.ref (He.ga K "read_variable")) := let ⟨_, X, G⟩ := T.at_; He.glo_ok X G (T.fact 46)
theorem Tx.g_read_put (T : Tx K w mg) : mg "read_put" = some (.ref (He.ga K "read_put")) := let ⟨_, X, G⟩ := T.at_; He.glo_ok X G (T.fact 47)
theorem Tx.g_read_narrow (T : Tx K w mg) : mg "read_narrow" = some (.ref (He.ga K "read_narrow")) := let ⟨_, X, G⟩ := T.at_; He.glo_ok X G (T.fact 48)
theorem Tx.g_read_wait (T : Tx K w mg) : mg "read_wait" = some (.ref (He.ga K "read_wait")) := let ⟨_, X, G⟩ := T.at_; He.glo_ok X G (T.fact 49)
theorem Tx.g_read_read (T : Tx K w mg) : mg "read_read" = some (.ref (He.ga K "read_read")) := let ⟨_, X, G⟩ := T.at_; He.glo_ok X G (T.fact 50)
theorem Tx.g_read_let (T : Tx K w mg) : mg "read_let" = some (.ref (He.ga K "read_let")) := let ⟨_, X, G⟩ := T.at_; He.glo_ok X G (T.fact 51)
theorem Tx.g_begin_block (T : Tx K w mg) : mg "begin_block" = some (.ref (He.ga K "begin_block")) := let ⟨_, X, G⟩ := T.at_; He.glo_ok X G (T.fact 52)
theorem Tx.g_read_if (T : Tx K w mg) : mg "read_if" = some (.ref (He.ga K "read_if")) := let ⟨_, X, G⟩ := T.at_; He.glo_ok X G (T.fact 53)
theorem Tx.g_read_times (T : Tx K w mg) : mg "read_times" = some (.ref (He.ga K "read_times")) := let ⟨_, X, G⟩ := T.at_; He.glo_ok X G (T.fact 54)
theorem Tx.g_end_block (T : Tx K w mg) : mg "end_block" = some (.ref (He.ga K "end_block")) := let ⟨_, X, G⟩ := T.at_; He.glo_ok X G (T.fact 55)
theorem Tx.g_read_fi (T : Tx K w mg) : mg "read_fi" = some (.ref (He.ga K "read_fi")) := let ⟨_, X, G⟩ := T.at_; He.glo_ok X G (T.fact 56)
theorem Tx.g_read_again (T : Tx K w mg) : mg "read_again" = some (.ref (He.ga K "read_again")) := let ⟨_, X, G⟩ := T.at_; He.glo_ok X G (T.fact 57)
theorem Tx.g_read_start (T : Tx K w mg) : mg "read_start" = some (.ref (He.ga K "read_start")) := let ⟨_, X, G⟩ := T.at_; He.glo_ok X G (T.fact 58)
theorem Tx.g_read_end (T : Tx K w mg) : mg "read_end" = some (.ref (He.ga K "read_end")) := let ⟨_, X, G⟩ := T.at_; He.glo_ok X G (T.fact 59)
theorem Tx.g_read_inside (T : Tx K w mg) : mg "read_inside" = some (.ref (He.ga K "read_inside")) := let ⟨_, X, G⟩ := T.at_; He.glo_ok X G (T.fact 60)
theorem Tx.g_is_range_cell (T : Tx K w mg) : mg "is_range_cell" = some (.ref (He.ga K "is_range_cell")) := let ⟨_, X, G⟩ := T.at_; He.glo_ok X G (T.fact 61)
theorem Tx.g_read_cell (T : Tx K w mg) : mg "read_cell" = some (.ref (He.ga K "read_cell")) := let ⟨_, X, G⟩ := T.at_; He.glo_ok X G (T.fact 62)
theorem Tx.g_read_task (T : Tx K w mg) : mg "read_task" = some (.ref (He.ga K "read_task")) := let ⟨_, X, G⟩ := T.at_; He.glo_ok X G (T.fact 63)
theorem Tx.g_read_go (T : Tx K w mg) : mg "read_go" = some (.ref (He.ga K "read_go")) := let ⟨_, X, G⟩ := T.at_; He.glo_ok X G (T.fact 64)
theorem Tx.g_read_line (T : Tx K w mg) : mg "read_line" = some (.ref (He.ga K "read_line")) := let ⟨_, X, G⟩ := T.at_; He.glo_ok X G (T.fact 65)
theorem Tx.g_code_of_line (T : Tx K w mg) : mg "code_of_line" = some (.ref (He.ga K "code_of_line")) := let ⟨_, X, G⟩ := T.at_; He.glo_ok X G (T.fact 66)
theorem Tx.g_read_text (T : Tx K w mg) : mg "read_text" = some (.ref (He.ga K "read_text")) := let ⟨_, X, G⟩ := T.at_; He.glo_ok X G (T.fact 67)
theorem Tx.g_load (T : Tx K w mg) : mg "load" = some (.ref (He.ga K "load")) := let ⟨_, X, G⟩ := T.at_; He.glo_ok X G (T.fact 68)
theorem Tx.g_add_offer (T : Tx K w mg) : mg "add_offer" = some (.ref (He.ga K "add_offer")) := let ⟨_, X, G⟩ := T.at_; He.glo_ok X G (T.fact 69)
theorem Tx.g_offer_put (T : Tx K w mg) : mg "offer_put" = some (.ref (He.ga K "offer_put")) := let ⟨_, X, G⟩ := T.at_; He.glo_ok X G (T.fact 70)
theorem Tx.g_offer_narrow (T : Tx K w mg) : mg "offer_narrow" = some (.ref (He.ga K "offer_narrow")) := let ⟨_, X, G⟩ := T.at_; He.glo_ok X G (T.fact 71)
theorem Tx.g_clear_offers (T : Tx K w mg) : mg "clear_offers" = some (.ref (He.ga K "clear_offers")) := let ⟨_, X, G⟩ := T.at_; He.glo_ok X G (T.fact 72)
theorem Tx.g_is_selection (T : Tx K w mg) : mg "is_selection" = some (.ref (He.ga K "is_selection")) := let ⟨_, X, G⟩ := T.at_; He.glo_ok X G (T.fact 73)
theorem Tx.g_check (T : Tx K w mg) : mg "check" = some (.ref (He.ga K "check")) := let ⟨_, X, G⟩ := T.at_; He.glo_ok X G (T.fact 74)
theorem Tx.g_tell_cells (T : Tx K w mg) : mg "tell_cells" = some (.ref (He.ga K "tell_cells")) := let ⟨_, X, G⟩ := T.at_; He.glo_ok X G (T.fact 75)
theorem Tx.g_longer (T : Tx K w mg) : mg "longer" = some (.ref (He.ga K "longer")) := let ⟨_, X, G⟩ := T.at_; He.glo_ok X G (T.fact 76)
theorem Tx.g_all_selections (T : Tx K w mg) : mg "all_selections" = some (.ref (He.ga K "all_selections")) := let ⟨_, X, G⟩ := T.at_; He.glo_ok X G (T.fact 77)
theorem Tx.g_smallest (T : Tx K w mg) : mg "smallest" = some (.ref (He.ga K "smallest")) := let ⟨_, X, G⟩ := T.at_; He.glo_ok X G (T.fact 78)
theorem Tx.g_count_outcomes (T : Tx K w mg) : mg "count_outcomes" = some (.ref (He.ga K "count_outcomes")) := let ⟨_, X, G⟩ := T.at_; He.glo_ok X G (T.fact 79)
theorem Tx.g_answer (T : Tx K w mg) : mg "answer" = some (.ref (He.ga K "answer")) := let ⟨_, X, G⟩ := T.at_; He.glo_ok X G (T.fact 80)
theorem Tx.g_answers (T : Tx K w mg) : mg "answers" = some (.ref (He.ga K "answers")) := let ⟨_, X, G⟩ := T.at_; He.glo_ok X G (T.fact 81)
theorem Tx.g_Wrong (T : Tx K w mg) : mg "Wrong" = some (.ref (He.ga K "Wrong")) := let ⟨_, X, G⟩ := T.at_; He.glo_ok X G (T.fact 82)
theorem Tx.g_Cell (T : Tx K w mg) : mg "Cell" = some (.ref (He.ga K "Cell")) := let ⟨_, X, G⟩ := T.at_; He.glo_ok X G (T.fact 83)
theorem Tx.g_Instruction (T : Tx K w mg) : mg "Instruction" = some (.ref (He.ga K "Instruction")) := let ⟨_, X, G⟩ := T.at_; He.glo_ok X G (T.fact 84)
theorem Tx.g_Task (T : Tx K w mg) : mg "Task" = some (.ref (He.ga K "Task")) := let ⟨_, X, G⟩ := T.at_; He.glo_ok X G (T.fact 85)
theorem Tx.g_Program (T : Tx K w mg) : mg "Program" = some (.ref (He.ga K "Program")) := let ⟨_, X, G⟩ := T.at_; He.glo_ok X G (T.fact 86)
theorem Tx.g_Reading (T : Tx K w mg) : mg "Reading" = some (.ref (He.ga K "Reading")) := let ⟨_, X, G⟩ := T.at_; He.glo_ok X G (T.fact 87)
theorem Tx.g_Instance (T : Tx K w mg) : mg "Instance" = some (.ref (He.ga K "Instance")) := let ⟨_, X, G⟩ := T.at_; He.glo_ok X G (T.fact 88)
theorem Tx.g_Run (T : Tx K w mg) : mg "Run" = some (.ref (He.ga K "Run")) := let ⟨_, X, G⟩ := T.at_; He.glo_ok X G (T.fact 89)
theorem Tx.g_Desk (T : Tx K w mg) : mg "Desk" = some (.ref (He.ga K "Desk")) := let ⟨_, X, G⟩ := T.at_; He.glo_ok X G (T.fact 90)
theorem Tx.f_str (T : Tx K w mg) : mg "str" = none := let ⟨_, X, G⟩ := T.at_; He.free_ok X G (T.fact 91)
theorem Tx.f_len (T : Tx K w mg) : mg "len" = none := let ⟨_, X, G⟩ := T.at_; He.free_ok X G (T.fact 92)
theorem Tx.f_all (T : Tx K w mg) : mg "all" = none := let ⟨_, X, G⟩ := T.at_; He.free_ok X G (T.fact 93)
theorem Tx.f_any (T : Tx K w mg) : mg "any" = none := let ⟨_, X, G⟩ := T.at_; He.free_ok X G (T.fact 94)
theorem Tx.f_max (T : Tx K w mg) : mg "max" = none := let ⟨_, X, G⟩ := T.at_; He.free_ok X G (T.fact 95)
theorem Tx.f_min (T : Tx K w mg) : mg "min" = none := let ⟨_, X, G⟩ := T.at_; He.free_ok X G (T.fact 96)
theorem Tx.f_sorted (T : Tx K w mg) : mg "sorted" = none := let ⟨_, X, G⟩ := T.at_; He.free_ok X G (T.fact 97)
theorem Tx.f_list (T : Tx K w mg) : mg "list" = none := let ⟨_, X, G⟩ := T.at_; He.free_ok X G (T.fact 98)
theorem Tx.f_int (T : Tx K w mg) : mg "int" = none := let ⟨_, X, G⟩ := T.at_; He.free_ok X G (T.fact 99)
theorem Tx.f_range (T : Tx K w mg) : mg "range" = none := let ⟨_, X, G⟩ := T.at_; He.free_ok X G (T.fact 100)
theorem Tx.f_zip (T : Tx K w mg) : mg "zip" = none := let ⟨_, X, G⟩ := T.at_; He.free_ok X G (T.fact 101)
theorem Tx.f_ValueError (T : Tx K w mg) : mg "ValueError" = none := let ⟨_, X, G⟩ := T.at_; He.free_ok X G (T.fact 102)
theorem Tx.c_NEWLINE (T : Tx K w mg) : ∃ t, mg "NEWLINE" = some (.int (10) t) := let ⟨_, X, G⟩ := T.at_; He.int_ok X G (T.fact 103)
theorem Tx.c_SPACE (T : Tx K w mg) : ∃ t, mg "SPACE" = some (.int (32) t) := let ⟨_, X, G⟩ := T.at_; He.int_ok X G (T.fact 104)
theorem Tx.c_LETTERS (T : Tx K w mg) : ∃ t, mg "LETTERS" = some (.str "abcdefghijklmnopqrstuvwxyz" t) := let ⟨_, X, G⟩ := T.at_; He.str_ok X G (T.fact 105)
theorem Tx.g_OTHERS (T : Tx K w mg) : mg "OTHERS" = some (.ref (He.ga K "OTHERS")) := let ⟨_, X, G⟩ := T.at_; He.glo_ok X G (T.fact 106)
theorem Tx.c_STRANGE (T : Tx K w mg) : ∃ t, mg "STRANGE" = some (.str "?" t) := let ⟨_, X, G⟩ := T.at_; He.str_ok X G (T.fact 107)
theorem Tx.c_MOST_LETTERS (T : Tx K w mg) : ∃ t, mg "MOST_LETTERS" = some (.int (8) t) := let ⟨_, X, G⟩ := T.at_; He.int_ok X G (T.fact 108)
theorem Tx.c_MOST_DIGITS (T : Tx K w mg) : ∃ t, mg "MOST_DIGITS" = some (.int (4) t) := let ⟨_, X, G⟩ := T.at_; He.int_ok X G (T.fact 109)
theorem Tx.c_MALFORMED (T : Tx K w mg) : ∃ t, mg "MALFORMED" = some (.int (1) t) := let ⟨_, X, G⟩ := T.at_; He.int_ok X G (T.fact 110)
theorem Tx.c_MISNAMED (T : Tx K w mg) : ∃ t, mg "MISNAMED" = some (.int (2) t) := let ⟨_, X, G⟩ := T.at_; He.int_ok X G (T.fact 111)
theorem Tx.c_MISPLACED (T : Tx K w mg) : ∃ t, mg "MISPLACED" = some (.int (3) t) := let ⟨_, X, G⟩ := T.at_; He.int_ok X G (T.fact 112)
theorem Tx.c_UNBALANCED (T : Tx K w mg) : ∃ t, mg "UNBALANCED" = some (.int (4) t) := let ⟨_, X, G⟩ := T.at_; He.int_ok X G (T.fact 113)
theorem Tx.c_EXCEEDED (T : Tx K w mg) : ∃ t, mg "EXCEEDED" = some (.int (5) t) := let ⟨_, X, G⟩ := T.at_; He.int_ok X G (T.fact 114)
theorem Tx.c_UNFINISHED (T : Tx K w mg) : ∃ t, mg "UNFINISHED" = some (.int (6) t) := let ⟨_, X, G⟩ := T.at_; He.int_ok X G (T.fact 115)
theorem Tx.c_MOST_INSTRUCTIONS (T : Tx K w mg) : ∃ t, mg "MOST_INSTRUCTIONS" = some (.int (40) t) := let ⟨_, X, G⟩ := T.at_; He.int_ok X G (T.fact 116)
theorem Tx.g_OPERATORS (T : Tx K w mg) : mg "OPERATORS" = some (.ref (He.ga K "OPERATORS")) := let ⟨_, X, G⟩ := T.at_; He.glo_ok X G (T.fact 117)
theorem Tx.c_COMMA (T : Tx K w mg) : ∃ t, mg "COMMA" = some (.str "," t) := let ⟨_, X, G⟩ := T.at_; He.str_ok X G (T.fact 118)
theorem Tx.c_MOST_OPERATORS (T : Tx K w mg) : ∃ t, mg "MOST_OPERATORS" = some (.int (99) t) := let ⟨_, X, G⟩ := T.at_; He.int_ok X G (T.fact 119)
theorem Tx.c_MOST_RESULT (T : Tx K w mg) : ∃ t, mg "MOST_RESULT" = some (.int (1000000000) t) := let ⟨_, X, G⟩ := T.at_; He.int_ok X G (T.fact 120)
theorem Tx.c_MOST_IN_SET (T : Tx K w mg) : ∃ t, mg "MOST_IN_SET" = some (.int (63) t) := let ⟨_, X, G⟩ := T.at_; He.int_ok X G (T.fact 121)
theorem Tx.c_MOST_INSTANCES (T : Tx K w mg) : ∃ t, mg "MOST_INSTANCES" = some (.int (40) t) := let ⟨_, X, G⟩ := T.at_; He.int_ok X G (T.fact 122)
theorem Tx.c_FINISHED (T : Tx K w mg) : ∃ t, mg "FINISHED" = some (.int (0) t) := let ⟨_, X, G⟩ := T.at_; He.int_ok X G (T.fact 123)
theorem Tx.c_BLOCKED (T : Tx K w mg) : ∃ t, mg "BLOCKED" = some (.int (1) t) := let ⟨_, X, G⟩ := T.at_; He.int_ok X G (T.fact 124)
theorem Tx.c_FAILED (T : Tx K w mg) : ∃ t, mg "FAILED" = some (.int (2) t) := let ⟨_, X, G⟩ := T.at_; He.int_ok X G (T.fact 125)
theorem Tx.g_DEEDS (T : Tx K w mg) : mg "DEEDS" = some (.ref (He.ga K "DEEDS")) := let ⟨_, X, G⟩ := T.at_; He.glo_ok X G (T.fact 126)
theorem Tx.g_PUT_KINDS (T : Tx K w mg) : mg "PUT_KINDS" = some (.ref (He.ga K "PUT_KINDS")) := let ⟨_, X, G⟩ := T.at_; He.glo_ok X G (T.fact 127)
theorem Tx.g_WAITS (T : Tx K w mg) : mg "WAITS" = some (.ref (He.ga K "WAITS")) := let ⟨_, X, G⟩ := T.at_; He.glo_ok X G (T.fact 128)
theorem Tx.c_MOST_VARIABLES (T : Tx K w mg) : ∃ t, mg "MOST_VARIABLES" = some (.int (6) t) := let ⟨_, X, G⟩ := T.at_; He.int_ok X G (T.fact 129)
theorem Tx.c_MOST_BLOCKS (T : Tx K w mg) : ∃ t, mg "MOST_BLOCKS" = some (.int (4) t) := let ⟨_, X, G⟩ := T.at_; He.int_ok X G (T.fact 130)
theorem Tx.c_MOST_TIMES (T : Tx K w mg) : ∃ t, mg "MOST_TIMES" = some (.int (2) t) := let ⟨_, X, G⟩ := T.at_; He.int_ok X G (T.fact 131)
theorem Tx.c_MOST_ROUNDS (T : Tx K w mg) : ∃ t, mg "MOST_ROUNDS" = some (.int (5) t) := let ⟨_, X, G⟩ := T.at_; He.int_ok X G (T.fact 132)
theorem Tx.g_INSIDE (T : Tx K w mg) : mg "INSIDE" = some (.ref (He.ga K "INSIDE")) := let ⟨_, X, G⟩ := T.at_; He.glo_ok X G (T.fact 133)
theorem Tx.c_MOST_CELLS (T : Tx K w mg) : ∃ t, mg "MOST_CELLS" = some (.int (10) t) := let ⟨_, X, G⟩ := T.at_; He.int_ok X G (T.fact 134)
theorem Tx.c_MOST_TASKS (T : Tx K w mg) : ∃ t, mg "MOST_TASKS" = some (.int (8) t) := let ⟨_, X, G⟩ := T.at_; He.int_ok X G (T.fact 135)
theorem Tx.c_MOST_GOES (T : Tx K w mg) : ∃ t, mg "MOST_GOES" = some (.int (12) t) := let ⟨_, X, G⟩ := T.at_; He.int_ok X G (T.fact 136)
theorem Tx.g_OUTSIDE (T : Tx K w mg) : mg "OUTSIDE" = some (.ref (He.ga K "OUTSIDE")) := let ⟨_, X, G⟩ := T.at_; He.glo_ok X G (T.fact 137)
theorem Tx.c_OUT (T : Tx K w mg) : ∃ t, mg "OUT" = some (.int (-2) t) := let ⟨_, X, G⟩ := T.at_; He.int_ok X G (T.fact 138)
theorem Tx.c_NO_CELL (T : Tx K w mg) : ∃ t, mg "NO_CELL" = some (.int (-3) t) := let ⟨_, X, G⟩ := T.at_; He.int_ok X G (T.fact 139)
theorem Tx.c_WRONG_KIND (T : Tx K w mg) : ∃ t, mg "WRONG_KIND" = some (.int (-4) t) := let ⟨_, X, G⟩ := T.at_; He.int_ok X G (T.fact 140)
theorem Tx.c_FULL (T : Tx K w mg) : ∃ t, mg "FULL" = some (.int (-5) t) := let ⟨_, X, G⟩ := T.at_; He.int_ok X G (T.fact 141)
theorem Tx.c_NO_SELECTION (T : Tx K w mg) : ∃ t, mg "NO_SELECTION" = some (.int (-6) t) := let ⟨_, X, G⟩ := T.at_; He.int_ok X G (T.fact 142)
theorem Tx.c_NO_PROGRAM (T : Tx K w mg) : ∃ t, mg "NO_PROGRAM" = some (.int (-7) t) := let ⟨_, X, G⟩ := T.at_; He.int_ok X G (T.fact 143)
theorem Tx.c_LOAD (T : Tx K w mg) : ∃ t, mg "LOAD" = some (.int (1) t) := let ⟨_, X, G⟩ := T.at_; He.int_ok X G (T.fact 144)
theorem Tx.c_MOST_BYTES (T : Tx K w mg) : ∃ t, mg "MOST_BYTES" = some (.int (4000) t) := let ⟨_, X, G⟩ := T.at_; He.int_ok X G (T.fact 145)
theorem Tx.c_MOST_VALUE (T : Tx K w mg) : ∃ t, mg "MOST_VALUE" = some (.int (1000000000) t) := let ⟨_, X, G⟩ := T.at_; He.int_ok X G (T.fact 146)
theorem Tx.c_MOST_OFFERS (T : Tx K w mg) : ∃ t, mg "MOST_OFFERS" = some (.int (6) t) := let ⟨_, X, G⟩ := T.at_; He.int_ok X G (T.fact 147)
theorem Tx.g_MANY (T : Tx K w mg) : mg "MANY" = some (.ref (He.ga K "MANY")) := let ⟨_, X, G⟩ := T.at_; He.glo_ok X G (T.fact 148)
theorem Tx.g_CALLS (T : Tx K w mg) : mg "CALLS" = some (.ref (He.ga K "CALLS")) := let ⟨_, X, G⟩ := T.at_; He.glo_ok X G (T.fact 149)
theorem Tx.k_Cell (T : Tx K w mg) : Cls K (He.ga K "Cell") := He.cls_ok (T.fact 150)
theorem Tx.n_Cell_name (T : Tx K w mg) : NoAttr K (He.ga K "Cell") "name" := He.noat_ok (T.fact 151)
theorem Tx.n_Cell_kind (T : Tx K w mg) : NoAttr K (He.ga K "Cell") "kind" := He.noat_ok (T.fact 152)
theorem Tx.n_Cell_low (T : Tx K w mg) : NoAttr K (He.ga K "Cell") "low" := He.noat_ok (T.fact 153)
theorem Tx.n_Cell_high (T : Tx K w mg) : NoAttr K (He.ga K "Cell") "high" := He.noat_ok (T.fact 154)
theorem Tx.m_Cell (T : Tx K w mg) : Mk K (He.ga K "Cell") (He.ma K (He.ga K "Cell") "__init__") := He.mkr_ok (T.fact 155)
theorem Tx.k_Instruction (T : Tx K w mg) : Cls K (He.ga K "Instruction") := He.cls_ok (T.fact 156)
theorem Tx.n_Instruction_word (T : Tx K w mg) : NoAttr K (He.ga K "Instruction") "word" := He.noat_ok (T.fact 157)
theorem Tx.n_Instruction_line (T : Tx K w mg) : NoAttr K (He.ga K "Instruction") "line" := He.noat_ok (T.fact 158)
theorem Tx.n_Instruction_way (T : Tx K w mg) : NoAttr K (He.ga K "Instruction") "way" := He.noat_ok (T.fact 159)
theorem Tx.n_Instruction_cell (T : Tx K w mg) : NoAttr K (He.ga K "Instruction") "cell" := He.noat_ok (T.fact 160)
theorem Tx.n_Instruction_first (T : Tx K w mg) : NoAttr K (He.ga K "Instruction") "first" := He.noat_ok (T.fact 161)
theorem Tx.n_Instruction_second (T : Tx K w mg) : NoAttr K (He.ga K "Instruction") "second" := He.noat_ok (T.fact 162)
theorem Tx.n_Instruction_slot (T : Tx K w mg) : NoAttr K (He.ga K "Instruction") "slot" := He.noat_ok (T.fact 163)
theorem Tx.n_Instruction_number (T : Tx K w mg) : NoAttr K (He.ga K "Instruction") "number" := He.noat_ok (T.fact 164)
theorem Tx.n_Instruction_goal (T : Tx K w mg) : NoAttr K (He.ga K "Instruction") "goal" := He.noat_ok (T.fact 165)
theorem Tx.m_Instruction (T : Tx K w mg) : Mk K (He.ga K "Instruction") (He.ma K (He.ga K "Instruction") "__init__") := He.mkr_ok (T.fact 166)
theorem Tx.k_Task (T : Tx K w mg) : Cls K (He.ga K "Task") := He.cls_ok (T.fact 167)
theorem Tx.n_Task_name (T : Tx K w mg) : NoAttr K (He.ga K "Task") "name" := He.noat_ok (T.fact 168)
theorem Tx.n_Task_slots (T : Tx K w mg) : NoAttr K (He.ga K "Task") "slots" := He.noat_ok (T.fact 169)
theorem Tx.n_Task_instructions (T : Tx K w mg) : NoAttr K (He.ga K "Task") "instructions" := He.noat_ok (T.fact 170)
theorem Tx.m_Task (T : Tx K w mg) : Mk K (He.ga K "Task") (He.ma K (He.ga K "Task") "__init__") := He.mkr_ok (T.fact 171)
theorem Tx.k_Program (T : Tx K w mg) : Cls K (He.ga K "Program") := He.cls_ok (T.fact 172)
theorem Tx.n_Program_cells (T : Tx K w mg) : NoAttr K (He.ga K "Program") "cells" := He.noat_ok (T.fact 173)
theorem Tx.n_Program_tasks (T : Tx K w mg) : NoAttr K (He.ga K "Program") "tasks" := He.noat_ok (T.fact 174)
theorem Tx.n_Program_goes (T : Tx K w mg) : NoAttr K (He.ga K "Program") "goes" := He.noat_ok (T.fact 175)
theorem Tx.m_Program (T : Tx K w mg) : Mk K (He.ga K "Program") (He.ma K (He.ga K "Program") "__init__") := He.mkr_ok (T.fact 176)
theorem Tx.k_Reading (T : Tx K w mg) : Cls K (He.ga K "Reading") := He.cls_ok (T.fact 177)
theorem Tx.n_Reading_program (T : Tx K w mg) : NoAttr K (He.ga K "Reading") "program" := He.noat_ok (T.fact 178)
theorem Tx.n_Reading_is_inside (T : Tx K w mg) : NoAttr K (He.ga K "Reading") "is_inside" := He.noat_ok (T.fact 179)
theorem Tx.n_Reading_blocks (T : Tx K w mg) : NoAttr K (He.ga K "Reading") "blocks" := He.noat_ok (T.fact 180)
theorem Tx.m_Reading (T : Tx K w mg) : Mk K (He.ga K "Reading") (He.ma K (He.ga K "Reading") "__init__") := He.mkr_ok (T.fact 181)
theorem Tx.k_Instance (T : Tx K w mg) : Cls K (He.ga K "Instance") := He.cls_ok (T.fact 182)
theorem Tx.n_Instance_task (T : Tx K w mg) : NoAttr K (He.ga K "Instance") "task" := He.noat_ok (T.fact 183)
theorem Tx.n_Instance_place (T : Tx K w mg) : NoAttr K (He.ga K "Instance") "place" := He.noat_ok (T.fact 184)
theorem Tx.n_Instance_amounts (T : Tx K w mg) : NoAttr K (He.ga K "Instance") "amounts" := He.noat_ok (T.fact 185)
theorem Tx.n_Instance_rounds (T : Tx K w mg) : NoAttr K (He.ga K "Instance") "rounds" := He.noat_ok (T.fact 186)
theorem Tx.m_Instance (T : Tx K w mg) : Mk K (He.ga K "Instance") (He.ma K (He.ga K "Instance") "__init__") := He.mkr_ok (T.fact 187)
theorem Tx.k_Run (T : Tx K w mg) : Cls K (He.ga K "Run") := He.cls_ok (T.fact 188)
theorem Tx.n_Run_program (T : Tx K w mg) : NoAttr K (He.ga K "Run") "program" := He.noat_ok (T.fact 189)
theorem Tx.n_Run_states (T : Tx K w mg) : NoAttr K (He.ga K "Run") "states" := He.noat_ok (T.fact 190)
theorem Tx.n_Run_instances (T : Tx K w mg) : NoAttr K (He.ga K "Run") "instances" := He.noat_ok (T.fact 191)
theorem Tx.n_Run_has_failed (T : Tx K w mg) : NoAttr K (He.ga K "Run") "has_failed" := He.noat_ok (T.fact 192)
theorem Tx.m_Run (T : Tx K w mg) : Mk K (He.ga K "Run") (He.ma K (He.ga K "Run") "__init__") := He.mkr_ok (T.fact 193)
theorem Tx.k_Desk (T : Tx K w mg) : Cls K (He.ga K "Desk") := He.cls_ok (T.fact 194)
theorem Tx.n_Desk_program (T : Tx K w mg) : NoAttr K (He.ga K "Desk") "program" := He.noat_ok (T.fact 195)
theorem Tx.n_Desk_offers (T : Tx K w mg) : NoAttr K (He.ga K "Desk") "offers" := He.noat_ok (T.fact 196)
theorem Tx.m_Desk (T : Tx K w mg) : Mk K (He.ga K "Desk") (He.ma K (He.ga K "Desk") "__init__") := He.mkr_ok (T.fact 197)
theorem Tx.t_this_task (T : Tx K w mg) : Meth K (He.ga K "Reading") "this_task" (He.ma K (He.ga K "Reading") "this_task") := He.meth_ok (T.fact 198)
theorem Tx.x_Wrong (T : Tx K w mg) : PySem.W.exmOne K (.ref (He.ga K "Wrong")) (.ref (He.ga K "Wrong")) = some true := He.exm_ok (T.fact 199)
theorem Tx.kp_Wrong (T : Tx K w mg) : PySem.W.keepIn K (.ref (He.ga K "Wrong")) = true := He.keep_ok (T.fact 200)
theorem Tx.na_Wrong_code (T : Tx K w mg) : NoAttr K (He.ga K "Wrong") "code" := He.noat_ok (T.fact 201)
theorem Tx.tu_OPERATORS (T : Tx K w mg) : (tupAt K (He.ga K "OPERATORS") [.str "+", .str "-", .str "*", .str "<", .str "="]) = true := T.exq 0
theorem Tx.tu_PUT_KINDS (T : Tx K w mg) : (tupAt K (He.ga K "PUT_KINDS") [.str "max", .str "min", .str "set", .str "one", .str "flag"]) = true := T.exq 1
theorem Tx.va_DEEDS (T : Tx K w mg) : (He.valsB K (He.ga K "DEEDS") [("put", .glo "do_put"), ("narrow", .glo "do_narrow"), ("wait", .glo "do_wait"), ("read", .glo "do_read"), ("let", .glo "do_let"), ("if", .glo "do_if"), ("times", .glo "do_times"), ("again", .glo "do_again"), ("start", .glo "do_start")]) = true := T.exq 2
theorem Tx.wr_atleast (T : Tx K w mg) : (refB K (He.ga K "WAITS") "atleast") = true := T.exq 3
theorem Tx.wt_atleast (T : Tx K w mg) : (tupAt K (valA K (He.ga K "WAITS") "atleast") [.str "max"]) = true := T.exq 4
theorem Tx.wr_atmost (T : Tx K w mg) : (refB K (He.ga K "WAITS") "atmost") = true := T.exq 5
theorem Tx.wt_atmost (T : Tx K w mg) : (tupAt K (valA K (He.ga K "WAITS") "atmost") [.str "min"]) = true := T.exq 6
theorem Tx.wr_has (T : Tx K w mg) : (refB K (He.ga K "WAITS") "has") = true := T.exq 7
theorem Tx.wt_has (T : Tx K w mg) : (tupAt K (valA K (He.ga K "WAITS") "has") [.str "set"]) = true := T.exq 8
theorem Tx.wr_size (T : Tx K w mg) : (refB K (He.ga K "WAITS") "size") = true := T.exq 9
theorem Tx.wt_size (T : Tx K w mg) : (tupAt K (valA K (He.ga K "WAITS") "size") [.str "set"]) = true := T.exq 10
theorem Tx.wr_within (T : Tx K w mg) : (refB K (He.ga K "WAITS") "within") = true := T.exq 11
theorem Tx.wt_within (T : Tx K w mg) : (tupAt K (valA K (He.ga K "WAITS") "within") [.str "range"]) = true := T.exq 12
theorem Tx.wr_known (T : Tx K w mg) : (refB K (He.ga K "WAITS") "known") = true := T.exq 13
theorem Tx.wt_known (T : Tx K w mg) : (tupAt K (valA K (He.ga K "WAITS") "known") [.str "one", .str "flag"]) = true := T.exq 14
theorem Tx.va_INSIDE (T : Tx K w mg) : (He.valsB K (He.ga K "INSIDE") [("put", .glo "read_put"), ("narrow", .glo "read_narrow"), ("wait", .glo "read_wait"), ("read", .glo "read_read"), ("let", .glo "read_let"), ("if", .glo "read_if"), ("times", .glo "read_times"), ("fi", .glo "read_fi"), ("again", .glo "read_again"), ("start", .glo "read_start"), ("end", .glo "read_end")]) = true := T.exq 15
theorem Tx.va_OUTSIDE (T : Tx K w mg) : (He.valsB K (He.ga K "OUTSIDE") [("cell", .glo "read_cell"), ("task", .glo "read_task"), ("go", .glo "read_go")]) = true := T.exq 16
theorem Tx.id_OTHERS (T : Tx K w mg) : (idB K (He.ga K "OTHERS") [(42, .str "*"), (43, .str "+"), (44, .str ","), (45, .str "-"), (60, .str "<"), (61, .str "=")]) = true := T.exq 17
theorem Tx.id_MANY (T : Tx K w mg) : (idB K (He.ga K "MANY") [(2, .int 2), (3, .int 3), (4, .int 0), (7, .int 0), (8, .int 0)]) = true := T.exq 18
theorem Tx.id_CALLS (T : Tx K w mg) : (idB K (He.ga K "CALLS") [(1, .glo "load"), (2, .glo "offer_put"), (3, .glo "offer_narrow"), (4, .glo "clear_offers"), (5, .glo "check"), (6, .glo "tell_cells"), (7, .glo "smallest"), (8, .glo "count_outcomes")]) = true := T.exq 19
theorem Tx.oex (T : Tx K w mg) : (oexB K (He.ga K "Wrong")) = true := T.exq 20
theorem Tx.xf (T : Tx K w mg) : (xfB K (He.ga K "Wrong")) = true := T.exq 21
theorem Tx.wi (T : Tx K w mg) : (decide (PySem.W.findIn K (.ref (He.ga K "Wrong")) "__init__" = some (some (.ref (He.ma K (He.ga K "Wrong") "__init__"))))) = true := T.exq 22
theorem Tx.wit (T : Tx K w mg) : (decide (PySem.W.typeIn K (.ref (He.ma K (He.ga K "Wrong") "__init__")) = some (.type "function"))) = true := T.exq 23
theorem Tx.vei (T : Tx K w mg) : (veB K) = true := T.exq 24
theorem Tx.ke_DEEDS (T : Tx K w mg) : (keysB K (He.ga K "DEEDS") ["put", "narrow", "wait", "read", "let", "if", "times", "again", "start"]) = true := T.exq 25
theorem Tx.ke_WAITS (T : Tx K w mg) : (keysB K (He.ga K "WAITS") ["atleast", "atmost", "has", "size", "within", "known"]) = true := T.exq 26
theorem Tx.ke_INSIDE (T : Tx K w mg) : (keysB K (He.ga K "INSIDE") ["put", "narrow", "wait", "read", "let", "if", "times", "fi", "again", "start", "end"]) = true := T.exq 27
theorem Tx.ke_OUTSIDE (T : Tx K w mg) : (keysB K (He.ga K "OUTSIDE") ["cell", "task", "go"]) = true := T.exq 28
theorem Tx.kd_DEEDS (T : Tx K w mg) : ∃ es n, KDict K w (He.ga K "DEEDS") es n := T.t.tab 0
theorem Tx.kd_WAITS (T : Tx K w mg) : ∃ es n, KDict K w (He.ga K "WAITS") es n := T.t.tab 1
theorem Tx.kd_INSIDE (T : Tx K w mg) : ∃ es n, KDict K w (He.ga K "INSIDE") es n := T.t.tab 2
theorem Tx.kd_OUTSIDE (T : Tx K w mg) : ∃ es n, KDict K w (He.ga K "OUTSIDE") es n := T.t.tab 3
theorem Tx.d_sign_of (T : Tx K w mg) : ∃ fd, FunD K "sign_of" "sign_of" (defArgs s_sign_of) (defBody s_sign_of) (defScope s_sign_of) [] [] (He.ga K "sign_of") fd := T.def_ 0
theorem Tx.d_pieces_of (T : Tx K w mg) : ∃ fd, FunD K "pieces_of" "pieces_of" (defArgs s_pieces_of) (defBody s_pieces_of) (defScope s_pieces_of) [] [] (He.ga K "pieces_of") fd := T.def_ 1
theorem Tx.d_word_of (T : Tx K w mg) : ∃ fd, FunD K "word_of" "word_of" (defArgs s_word_of) (defBody s_word_of) (defScope s_word_of) [] [] (He.ga K "word_of") fd := T.def_ 2
theorem Tx.d_words_of (T : Tx K w mg) : ∃ fd, FunD K "words_of" "words_of" (defArgs s_words_of) (defBody s_words_of) (defScope s_words_of) [] [] (He.ga K "words_of") fd := T.def_ 3
theorem Tx.d_word_at (T : Tx K w mg) : ∃ fd, FunD K "word_at" "word_at" (defArgs s_word_at) (defBody s_word_at) (defScope s_word_at) [] [] (He.ga K "word_at") fd := T.def_ 4
theorem Tx.d_is_name (T : Tx K w mg) : ∃ fd, FunD K "is_name" "is_name" (defArgs s_is_name) (defBody s_is_name) (defScope s_is_name) [] [] (He.ga K "is_name") fd := T.def_ 5
theorem Tx.d_is_number (T : Tx K w mg) : ∃ fd, FunD K "is_number" "is_number" (defArgs s_is_number) (defBody s_is_number) (defScope s_is_number) [] [] (He.ga K "is_number") fd := T.def_ 6
theorem Tx.d_want_right (T : Tx K w mg) : ∃ fd, FunD K "want_right" "want_right" (defArgs s_want_right) (defBody s_want_right) (defScope s_want_right) [] [] (He.ga K "want_right") fd := T.def_ 7
theorem Tx.d_place_of (T : Tx K w mg) : ∃ fd, FunD K "place_of" "place_of" (defArgs s_place_of) (defBody s_place_of) (defScope s_place_of) [] [] (He.ga K "place_of") fd := T.def_ 8
theorem Tx.d_find_cell (T : Tx K w mg) : ∃ fd, FunD K "find_cell" "find_cell" (defArgs s_find_cell) (defBody s_find_cell) (defScope s_find_cell) [] [] (He.ga K "find_cell") fd := T.def_ 9
theorem Tx.d_find_task (T : Tx K w mg) : ∃ fd, FunD K "find_task" "find_task" (defArgs s_find_task) (defBody s_find_task) (defScope s_find_task) [] [] (He.ga K "find_task") fd := T.def_ 10
theorem Tx.d_want_new_name (T : Tx K w mg) : ∃ fd, FunD K "want_new_name" "want_new_name" (defArgs s_want_new_name) (defBody s_want_new_name) (defScope s_want_new_name) [] [] (He.ga K "want_new_name") fd := T.def_ 11
theorem Tx.d_add_instruction (T : Tx K w mg) : ∃ fd, FunD K "add_instruction" "add_instruction" (defArgs s_add_instruction) (defBody s_add_instruction) (defScope s_add_instruction) [] [] (He.ga K "add_instruction") fd := T.def_ 12
theorem Tx.d_read_term (T : Tx K w mg) : ∃ fd, FunD K "read_term" "read_term" (defArgs s_read_term) (defBody s_read_term) (defScope s_read_term) [] [] (He.ga K "read_term") fd := T.def_ 13
theorem Tx.d_read_expression (T : Tx K w mg) : ∃ fd, FunD K "read_expression" "read_expression" (defArgs s_read_expression) (defBody s_read_expression) (defScope s_read_expression) [] [] (He.ga K "read_expression") fd := T.def_ 14
theorem Tx.d_read_two (T : Tx K w mg) : ∃ fd, FunD K "read_two" "read_two" (defArgs s_read_two) (defBody s_read_two) (defScope s_read_two) [] [] (He.ga K "read_two") fd := T.def_ 15
theorem Tx.d_result_of (T : Tx K w mg) : ∃ fd, FunD K "result_of" "result_of" (defArgs s_result_of) (defBody s_result_of) (defScope s_result_of) [] [] (He.ga K "result_of") fd := T.def_ 16
theorem Tx.d_value_of (T : Tx K w mg) : ∃ fd, FunD K "value_of" "value_of" (defArgs s_value_of) (defBody s_value_of) (defScope s_value_of) [] [] (He.ga K "value_of") fd := T.def_ 17
theorem Tx.d_first_state (T : Tx K w mg) : ∃ fd, FunD K "first_state" "first_state" (defArgs s_first_state) (defBody s_first_state) (defScope s_first_state) [] [] (He.ga K "first_state") fd := T.def_ 18
theorem Tx.d_state_with (T : Tx K w mg) : ∃ fd, FunD K "state_with" "state_with" (defArgs s_state_with) (defBody s_state_with) (defScope s_state_with) [] [] (He.ga K "state_with") fd := T.def_ 19
theorem Tx.d_narrowed (T : Tx K w mg) : ∃ fd, FunD K "narrowed" "narrowed" (defArgs s_narrowed) (defBody s_narrowed) (defScope s_narrowed) [] [] (He.ga K "narrowed") fd := T.def_ 20
theorem Tx.d_is_reached (T : Tx K w mg) : ∃ fd, FunD K "is_reached" "is_reached" (defArgs s_is_reached) (defBody s_is_reached) (defScope s_is_reached) [] [] (He.ga K "is_reached") fd := T.def_ 21
theorem Tx.d_told_state (T : Tx K w mg) : ∃ fd, FunD K "told_state" "told_state" (defArgs s_told_state) (defBody s_told_state) (defScope s_told_state) [] [] (He.ga K "told_state") fd := T.def_ 22
theorem Tx.d_new_instance (T : Tx K w mg) : ∃ fd, FunD K "new_instance" "new_instance" (defArgs s_new_instance) (defBody s_new_instance) (defScope s_new_instance) [] [] (He.ga K "new_instance") fd := T.def_ 23
theorem Tx.d_fail (T : Tx K w mg) : ∃ fd, FunD K "fail" "fail" (defArgs s_fail) (defBody s_fail) (defScope s_fail) [] [] (He.ga K "fail") fd := T.def_ 24
theorem Tx.d_grow (T : Tx K w mg) : ∃ fd, FunD K "grow" "grow" (defArgs s_grow) (defBody s_grow) (defScope s_grow) [] [] (He.ga K "grow") fd := T.def_ 25
theorem Tx.d_go_to (T : Tx K w mg) : ∃ fd, FunD K "go_to" "go_to" (defArgs s_go_to) (defBody s_go_to) (defScope s_go_to) [] [] (He.ga K "go_to") fd := T.def_ 26
theorem Tx.d_put_in (T : Tx K w mg) : ∃ fd, FunD K "put_in" "put_in" (defArgs s_put_in) (defBody s_put_in) (defScope s_put_in) [] [] (He.ga K "put_in") fd := T.def_ 27
theorem Tx.d_narrow (T : Tx K w mg) : ∃ fd, FunD K "narrow" "narrow" (defArgs s_narrow) (defBody s_narrow) (defScope s_narrow) [] [] (He.ga K "narrow") fd := T.def_ 28
theorem Tx.d_do_put (T : Tx K w mg) : ∃ fd, FunD K "do_put" "do_put" (defArgs s_do_put) (defBody s_do_put) (defScope s_do_put) [] [] (He.ga K "do_put") fd := T.def_ 29
theorem Tx.d_do_narrow (T : Tx K w mg) : ∃ fd, FunD K "do_narrow" "do_narrow" (defArgs s_do_narrow) (defBody s_do_narrow) (defScope s_do_narrow) [] [] (He.ga K "do_narrow") fd := T.def_ 30
theorem Tx.d_do_wait (T : Tx K w mg) : ∃ fd, FunD K "do_wait" "do_wait" (defArgs s_do_wait) (defBody s_do_wait) (defScope s_do_wait) [] [] (He.ga K "do_wait") fd := T.def_ 31
theorem Tx.d_do_read (T : Tx K w mg) : ∃ fd, FunD K "do_read" "do_read" (defArgs s_do_read) (defBody s_do_read) (defScope s_do_read) [] [] (He.ga K "do_read") fd := T.def_ 32
theorem Tx.d_do_let (T : Tx K w mg) : ∃ fd, FunD K "do_let" "do_let" (defArgs s_do_let) (defBody s_do_let) (defScope s_do_let) [] [] (He.ga K "do_let") fd := T.def_ 33
theorem Tx.d_do_if (T : Tx K w mg) : ∃ fd, FunD K "do_if" "do_if" (defArgs s_do_if) (defBody s_do_if) (defScope s_do_if) [] [] (He.ga K "do_if") fd := T.def_ 34
theorem Tx.d_do_times (T : Tx K w mg) : ∃ fd, FunD K "do_times" "do_times" (defArgs s_do_times) (defBody s_do_times) (defScope s_do_times) [] [] (He.ga K "do_times") fd := T.def_ 35
theorem Tx.d_do_again (T : Tx K w mg) : ∃ fd, FunD K "do_again" "do_again" (defArgs s_do_again) (defBody s_do_again) (defScope s_do_again) [] [] (He.ga K "do_again") fd := T.def_ 36
theorem Tx.d_do_start (T : Tx K w mg) : ∃ fd, FunD K "do_start" "do_start" (defArgs s_do_start) (defBody s_do_start) (defScope s_do_start) [] [] (He.ga K "do_start") fd := T.def_ 37
theorem Tx.d_next_instruction (T : Tx K w mg) : ∃ fd, FunD K "next_instruction" "next_instruction" (defArgs s_next_instruction) (defBody s_next_instruction) (defScope s_next_instruction) [] [] (He.ga K "next_instruction") fd := T.def_ 38
theorem Tx.d_step (T : Tx K w mg) : ∃ fd, FunD K "step" "step" (defArgs s_step) (defBody s_step) (defScope s_step) [] [] (He.ga K "step") fd := T.def_ 39
theorem Tx.d_steps_of (T : Tx K w mg) : ∃ fd, FunD K "steps_of" "steps_of" (defArgs s_steps_of) (defBody s_steps_of) (defScope s_steps_of) [] [] (He.ga K "steps_of") fd := T.def_ 40
theorem Tx.d_run_on (T : Tx K w mg) : ∃ fd, FunD K "run_on" "run_on" (defArgs s_run_on) (defBody s_run_on) (defScope s_run_on) [] [] (He.ga K "run_on") fd := T.def_ 41
theorem Tx.d_offer_in (T : Tx K w mg) : ∃ fd, FunD K "offer_in" "offer_in" (defArgs s_offer_in) (defBody s_offer_in) (defScope s_offer_in) [] [] (He.ga K "offer_in") fd := T.def_ 42
theorem Tx.d_evaluated (T : Tx K w mg) : ∃ fd, FunD K "evaluated" "evaluated" (defArgs s_evaluated) (defBody s_evaluated) (defScope s_evaluated) [] [] (He.ga K "evaluated") fd := T.def_ 43
theorem Tx.d_blocked_in (T : Tx K w mg) : ∃ fd, FunD K "blocked_in" "blocked_in" (defArgs s_blocked_in) (defBody s_blocked_in) (defScope s_blocked_in) [] [] (He.ga K "blocked_in") fd := T.def_ 44
theorem Tx.d_outcome_of (T : Tx K w mg) : ∃ fd, FunD K "outcome_of" "outcome_of" (defArgs s_outcome_of) (defBody s_outcome_of) (defScope s_outcome_of) [] [] (He.ga K "outcome_of") fd := T.def_ 45
theorem Tx.d_read_variable (T : Tx K w mg) : ∃ fd, FunD K "read_variable" "read_variable" (defArgs s_read_variable) (defBody s_read_variable) (defScope s_read_variable) [] [] (He.ga K "read_variable") fd := T.def_ 46
theorem Tx.d_read_put (T : Tx K w mg) : ∃ fd, FunD K "read_put" "read_put" (defArgs s_read_put) (defBody s_read_put) (defScope s_read_put) [] [] (He.ga K "read_put") fd := T.def_ 47
theorem Tx.d_read_narrow (T : Tx K w mg) : ∃ fd, FunD K "read_narrow" "read_narrow" (defArgs s_read_narrow) (defBody s_read_narrow) (defScope s_read_narrow) [] [] (He.ga K "read_narrow") fd := T.def_ 48
theorem Tx.d_read_wait (T : Tx K w mg) : ∃ fd, FunD K "read_wait" "read_wait" (defArgs s_read_wait) (defBody s_read_wait) (defScope s_read_wait) [] [] (He.ga K "read_wait") fd := T.def_ 49
theorem Tx.d_read_read (T : Tx K w mg) : ∃ fd, FunD K "read_read" "read_read" (defArgs s_read_read) (defBody s_read_read) (defScope s_read_read) [] [] (He.ga K "read_read") fd := T.def_ 50
theorem Tx.d_read_let (T : Tx K w mg) : ∃ fd, FunD K "read_let" "read_let" (defArgs s_read_let) (defBody s_read_let) (defScope s_read_let) [] [] (He.ga K "read_let") fd := T.def_ 51
theorem Tx.d_begin_block (T : Tx K w mg) : ∃ fd, FunD K "begin_block" "begin_block" (defArgs s_begin_block) (defBody s_begin_block) (defScope s_begin_block) [] [] (He.ga K "begin_block") fd := T.def_ 52
theorem Tx.d_read_if (T : Tx K w mg) : ∃ fd, FunD K "read_if" "read_if" (defArgs s_read_if) (defBody s_read_if) (defScope s_read_if) [] [] (He.ga K "read_if") fd := T.def_ 53
theorem Tx.d_read_times (T : Tx K w mg) : ∃ fd, FunD K "read_times" "read_times" (defArgs s_read_times) (defBody s_read_times) (defScope s_read_times) [] [] (He.ga K "read_times") fd := T.def_ 54
theorem Tx.d_end_block (T : Tx K w mg) : ∃ fd, FunD K "end_block" "end_block" (defArgs s_end_block) (defBody s_end_block) (defScope s_end_block) [] [] (He.ga K "end_block") fd := T.def_ 55
theorem Tx.d_read_fi (T : Tx K w mg) : ∃ fd, FunD K "read_fi" "read_fi" (defArgs s_read_fi) (defBody s_read_fi) (defScope s_read_fi) [] [] (He.ga K "read_fi") fd := T.def_ 56
theorem Tx.d_read_again (T : Tx K w mg) : ∃ fd, FunD K "read_again" "read_again" (defArgs s_read_again) (defBody s_read_again) (defScope s_read_again) [] [] (He.ga K "read_again") fd := T.def_ 57
theorem Tx.d_read_start (T : Tx K w mg) : ∃ fd, FunD K "read_start" "read_start" (defArgs s_read_start) (defBody s_read_start) (defScope s_read_start) [] [] (He.ga K "read_start") fd := T.def_ 58
theorem Tx.d_read_end (T : Tx K w mg) : ∃ fd, FunD K "read_end" "read_end" (defArgs s_read_end) (defBody s_read_end) (defScope s_read_end) [] [] (He.ga K "read_end") fd := T.def_ 59
theorem Tx.d_read_inside (T : Tx K w mg) : ∃ fd, FunD K "read_inside" "read_inside" (defArgs s_read_inside) (defBody s_read_inside) (defScope s_read_inside) [] [] (He.ga K "read_inside") fd := T.def_ 60
theorem Tx.d_is_range_cell (T : Tx K w mg) : ∃ fd, FunD K "is_range_cell" "is_range_cell" (defArgs s_is_range_cell) (defBody s_is_range_cell) (defScope s_is_range_cell) [] [] (He.ga K "is_range_cell") fd := T.def_ 61
theorem Tx.d_read_cell (T : Tx K w mg) : ∃ fd, FunD K "read_cell" "read_cell" (defArgs s_read_cell) (defBody s_read_cell) (defScope s_read_cell) [] [] (He.ga K "read_cell") fd := T.def_ 62
theorem Tx.d_read_task (T : Tx K w mg) : ∃ fd, FunD K "read_task" "read_task" (defArgs s_read_task) (defBody s_read_task) (defScope s_read_task) [] [] (He.ga K "read_task") fd := T.def_ 63
theorem Tx.d_read_go (T : Tx K w mg) : ∃ fd, FunD K "read_go" "read_go" (defArgs s_read_go) (defBody s_read_go) (defScope s_read_go) [] [] (He.ga K "read_go") fd := T.def_ 64
theorem Tx.d_read_line (T : Tx K w mg) : ∃ fd, FunD K "read_line" "read_line" (defArgs s_read_line) (defBody s_read_line) (defScope s_read_line) [] [] (He.ga K "read_line") fd := T.def_ 65
theorem Tx.d_code_of_line (T : Tx K w mg) : ∃ fd, FunD K "code_of_line" "code_of_line" (defArgs s_code_of_line) (defBody s_code_of_line) (defScope s_code_of_line) [] [] (He.ga K "code_of_line") fd := T.def_ 66
theorem Tx.d_read_text (T : Tx K w mg) : ∃ fd, FunD K "read_text" "read_text" (defArgs s_read_text) (defBody s_read_text) (defScope s_read_text) [] [] (He.ga K "read_text") fd := T.def_ 67
theorem Tx.d_load (T : Tx K w mg) : ∃ fd, FunD K "load" "load" (defArgs s_load) (defBody s_load) (defScope s_load) [] [] (He.ga K "load") fd := T.def_ 68
theorem Tx.d_add_offer (T : Tx K w mg) : ∃ fd, FunD K "add_offer" "add_offer" (defArgs s_add_offer) (defBody s_add_offer) (defScope s_add_offer) [] [] (He.ga K "add_offer") fd := T.def_ 69
theorem Tx.d_offer_put (T : Tx K w mg) : ∃ fd, FunD K "offer_put" "offer_put" (defArgs s_offer_put) (defBody s_offer_put) (defScope s_offer_put) [] [] (He.ga K "offer_put") fd := T.def_ 70
theorem Tx.d_offer_narrow (T : Tx K w mg) : ∃ fd, FunD K "offer_narrow" "offer_narrow" (defArgs s_offer_narrow) (defBody s_offer_narrow) (defScope s_offer_narrow) [] [] (He.ga K "offer_narrow") fd := T.def_ 71
theorem Tx.d_clear_offers (T : Tx K w mg) : ∃ fd, FunD K "clear_offers" "clear_offers" (defArgs s_clear_offers) (defBody s_clear_offers) (defScope s_clear_offers) [] [] (He.ga K "clear_offers") fd := T.def_ 72
theorem Tx.d_is_selection (T : Tx K w mg) : ∃ fd, FunD K "is_selection" "is_selection" (defArgs s_is_selection) (defBody s_is_selection) (defScope s_is_selection) [] [] (He.ga K "is_selection") fd := T.def_ 73
theorem Tx.d_check (T : Tx K w mg) : ∃ fd, FunD K "check" "check" (defArgs s_check) (defBody s_check) (defScope s_check) [] [] (He.ga K "check") fd := T.def_ 74
theorem Tx.d_tell_cells (T : Tx K w mg) : ∃ fd, FunD K "tell_cells" "tell_cells" (defArgs s_tell_cells) (defBody s_tell_cells) (defScope s_tell_cells) [] [] (He.ga K "tell_cells") fd := T.def_ 75
theorem Tx.d_longer (T : Tx K w mg) : ∃ fd, FunD K "longer" "longer" (defArgs s_longer) (defBody s_longer) (defScope s_longer) [] [] (He.ga K "longer") fd := T.def_ 76
theorem Tx.d_all_selections (T : Tx K w mg) : ∃ fd, FunD K "all_selections" "all_selections" (defArgs s_all_selections) (defBody s_all_selections) (defScope s_all_selections) [] [] (He.ga K "all_selections") fd := T.def_ 77
theorem Tx.d_smallest (T : Tx K w mg) : ∃ fd, FunD K "smallest" "smallest" (defArgs s_smallest) (defBody s_smallest) (defScope s_smallest) [] [] (He.ga K "smallest") fd := T.def_ 78
theorem Tx.d_count_outcomes (T : Tx K w mg) : ∃ fd, FunD K "count_outcomes" "count_outcomes" (defArgs s_count_outcomes) (defBody s_count_outcomes) (defScope s_count_outcomes) [] [] (He.ga K "count_outcomes") fd := T.def_ 79
theorem Tx.d_answer (T : Tx K w mg) : ∃ fd, FunD K "answer" "answer" (defArgs s_answer) (defBody s_answer) (defScope s_answer) [] [] (He.ga K "answer") fd := T.def_ 80
theorem Tx.d_answers (T : Tx K w mg) : ∃ fd, FunD K "answers" "answers" (defArgs s_answers) (defBody s_answers) (defScope s_answers) [] [] (He.ga K "answers") fd := T.def_ 81
theorem Tx.d_Wrong_init (T : Tx K w mg) : ∃ fd, FunD K "__init__" "Wrong.__init__" (defArgs s_Wrong_init) (defBody s_Wrong_init) (defScope s_Wrong_init) [] [] (He.ma K (He.ga K "Wrong") "__init__") fd := T.def_ 82
theorem Tx.d_Cell_init (T : Tx K w mg) : ∃ fd, FunD K "__init__" "Cell.__init__" (defArgs s_Cell_init) (defBody s_Cell_init) (defScope s_Cell_init) [] [] (He.ma K (He.ga K "Cell") "__init__") fd := T.def_ 83
theorem Tx.d_Instruction_init (T : Tx K w mg) : ∃ fd, FunD K "__init__" "Instruction.__init__" (defArgs s_Instruction_init) (defBody s_Instruction_init) (defScope s_Instruction_init) [] [] (He.ma K (He.ga K "Instruction") "__init__") fd := T.def_ 84
theorem Tx.d_Task_init (T : Tx K w mg) : ∃ fd, FunD K "__init__" "Task.__init__" (defArgs s_Task_init) (defBody s_Task_init) (defScope s_Task_init) [] [] (He.ma K (He.ga K "Task") "__init__") fd := T.def_ 85
theorem Tx.d_Program_init (T : Tx K w mg) : ∃ fd, FunD K "__init__" "Program.__init__" (defArgs s_Program_init) (defBody s_Program_init) (defScope s_Program_init) [] [] (He.ma K (He.ga K "Program") "__init__") fd := T.def_ 86
theorem Tx.d_Reading_init (T : Tx K w mg) : ∃ fd, FunD K "__init__" "Reading.__init__" (defArgs s_Reading_init) (defBody s_Reading_init) (defScope s_Reading_init) [] [] (He.ma K (He.ga K "Reading") "__init__") fd := T.def_ 87
theorem Tx.d_Reading_this_task (T : Tx K w mg) : ∃ fd, FunD K "this_task" "Reading.this_task" (defArgs s_Reading_this_task) (defBody s_Reading_this_task) (defScope s_Reading_this_task) [] [] (He.ma K (He.ga K "Reading") "this_task") fd := T.def_ 88
theorem Tx.d_Instance_init (T : Tx K w mg) : ∃ fd, FunD K "__init__" "Instance.__init__" (defArgs s_Instance_init) (defBody s_Instance_init) (defScope s_Instance_init) [] [] (He.ma K (He.ga K "Instance") "__init__") fd := T.def_ 89
theorem Tx.d_Run_init (T : Tx K w mg) : ∃ fd, FunD K "__init__" "Run.__init__" (defArgs s_Run_init) (defBody s_Run_init) (defScope s_Run_init) [] [] (He.ma K (He.ga K "Run") "__init__") fd := T.def_ 90
theorem Tx.d_Desk_init (T : Tx K w mg) : ∃ fd, FunD K "__init__" "Desk.__init__" (defArgs s_Desk_init) (defBody s_Desk_init) (defScope s_Desk_init) [] [] (He.ma K (He.ga K "Desk") "__init__") fd := T.def_ 91
end
end GW
set_option maxHeartbeats 0
namespace GW
open PySem PySem.W PySem.Calls PyProof.Rows
abbrev R : OpenSpec := PySem.Challenge.rw_growcells_s01_answers
abbrev qv : Program := view Prg [145]
def as0 : List Addr := [3, 6, 4, 15, 22, 29, 34, 39, 46, 51, 58, 75, 95, 116, 137, 158, 186, 197, 202, 209, 216, 223, 230, 231, 238, 245, 252, 259, 266, 273, 280, 287, 294, 301, 318, 337, 348, 355, 362, 369]
def as1 : List Addr := [376, 383, 390, 397, 404, 411, 418, 425, 432, 439, 446, 447, 454, 461, 468, 473, 480, 487, 494, 501, 502, 503, 516, 523, 530, 537, 544, 551, 558, 565, 570, 577, 584, 591, 598, 605, 606, 613, 620, 627]
def as2 : List Addr := [634, 641, 642, 649, 656, 663, 664, 681, 690, 695, 702, 709, 716, 721, 728, 735, 740, 747, 754, 761, 762, 769, 776, 0, 21, 28, 33, 38, 45, 50, 57, 74, 94, 115, 136, 157, 185, 196, 201, 208]
def as3 : List Addr := [215, 222, 229, 237, 244, 251, 258, 265, 272, 279, 286, 293, 300, 317, 336, 347, 354, 361, 368, 375, 382, 389, 396, 403, 410, 417, 424, 431, 438, 445, 453, 460, 467, 472, 479, 486, 493, 500, 504, 505]
def as4 : List Addr := [506, 507, 508, 509, 515, 522, 529, 536, 543, 550, 557, 564, 569, 576, 583, 590, 597, 604, 612, 619, 626, 633, 640, 648, 655, 662, 680, 689, 694, 701, 708, 715, 720, 727, 734, 739, 746, 753, 760, 768]
def as5 : List Addr := [775, 72, 76, 92, 96, 97, 113, 117, 118, 134, 138, 139, 155, 159, 160, 176, 183, 187, 188, 315, 319, 320, 334, 338, 339, 678, 682, 683, 71, 91, 112, 133, 154, 175, 182, 314, 333, 677]
def asL : List Addr := as0 ++ (as1 ++ (as2 ++ (as3 ++ (as4 ++ (as5)))))
def obsL (g : Addr → Option Obj) : He.AlT × Bool := (He.obsT fa fn ts (He.frG g asL), ex (He.frG g asL))
def hk : Hook where
  α := He.AlT × Bool
  obs := fun s => obsL s.heap.get?
  val := fun w => (He.valT fn ts w, true)
  says := fun w h => ∃ K : Frag, K.In h ∧ He.SaysT fa fn ts w K ∧ ex K = true
  of := fun _ _ e => ⟨_, He.frG_in, congrArg Prod.fst e, congrArg Prod.snd e⟩
  keeps := fun _ _ _ ⟨K, hK, c⟩ k => ⟨K, PySem.W.Frag.In.keeps hK k, c⟩
def ob (s : SharedT) : He.AlT × Bool := obsL (HeadRun.getT s)
theorem ob_eq (s : SharedT) : ob s = hk.obs s.abs := by
  have e : HeadRun.getT s = s.abs.heap.get? := funext (HeadRun.getT_eq s)
  show obsL _ = obsL _
  rw [e]
def nm0 : List PySem.Str := ["NEWLINE", "SPACE", "LETTERS", "OTHERS", "STRANGE", "MOST_LETTERS", "MOST_DIGITS", "sign_of", "pieces_of", "word_of", "words_of", "word_at", "is_name", "is_number", "MALFORMED"]
def nm1 : List PySem.Str := ["MISNAMED", "MISPLACED", "UNBALANCED", "EXCEEDED", "UNFINISHED", "MOST_INSTRUCTIONS", "Wrong", "Cell", "Instruction", "Task", "Program", "Reading", "want_right", "place_of", "find_cell"]
def nm2 : List PySem.Str := ["find_task", "want_new_name", "add_instruction", "OPERATORS", "COMMA", "MOST_OPERATORS", "MOST_RESULT", "read_term", "read_expression", "read_two", "result_of", "value_of", "MOST_IN_SET", "first_state", "state_with"]
def nm3 : List PySem.Str := ["narrowed", "is_reached", "told_state", "MOST_INSTANCES", "FINISHED", "BLOCKED", "FAILED", "Instance", "Run", "new_instance", "fail", "grow", "go_to", "put_in", "narrow"]
def nm4 : List PySem.Str := ["do_put", "do_narrow", "do_wait", "do_read", "do_let", "do_if", "do_times", "do_again", "do_start", "DEEDS", "next_instruction", "step", "steps_of", "run_on", "offer_in"]
def nm5 : List PySem.Str := ["evaluated", "blocked_in", "outcome_of", "PUT_KINDS", "WAITS", "MOST_VARIABLES", "MOST_BLOCKS", "MOST_TIMES", "MOST_ROUNDS", "read_variable", "read_put", "read_narrow", "read_wait", "read_read", "read_let"]
def nm6 : List PySem.Str := ["begin_block", "read_if", "read_times", "end_block", "read_fi", "read_again", "read_start", "read_end", "INSIDE", "read_inside", "MOST_CELLS", "MOST_TASKS", "MOST_GOES", "is_range_cell", "read_cell"]
def nm7 : List PySem.Str := ["read_task", "read_go", "OUTSIDE", "read_line", "code_of_line", "read_text", "OUT", "NO_CELL", "WRONG_KIND", "FULL", "NO_SELECTION", "NO_PROGRAM", "LOAD", "MOST_BYTES", "MOST_VALUE"]
def nm8 : List PySem.Str := ["MOST_OFFERS", "MANY", "Desk", "load", "add_offer", "offer_put", "offer_narrow", "clear_offers", "is_selection", "check", "tell_cells", "longer", "all_selections", "smallest", "count_outcomes"]
def nm9 : List PySem.Str := ["CALLS", "answer"]
def nms : List PySem.Str := nm0 ++ nm1 ++ nm2 ++ nm3 ++ nm4 ++ nm5 ++ nm6 ++ nm7 ++ nm8 ++ nm9
/-- the top's end -/
noncomputable abbrev endv (w : World) (os : OsState) := HeadRun.endF (HeadRun.stepQ (HeadRun.denQ HeadRun.tabQ) R.prog w) 7000 R.prog w os
theorem join2 {A B C D : Type} {x : Option A} {f : A → B × C} {g : A → D} {b : B} {c : C} {d : D} (h1 : x.map f = some (b, c)) (h2 : x.map g = some d) : x.map (fun s => ((f s).1, (f s).2, g s)) = some (b, c, d) := by
  cases x with
  | none => cases h1
  | some s =>
    have e1 := Option.some.inj h1
    have e2 := Option.some.inj h2
    show some ((f s).1, (f s).2, g s) = _
    rw [e1, e2]
abbrev LooksOk (w : World) : Prop := ∀ os : OsState, (endv w os).map (fun s => (HeadRun.looksF R.prog (boot_heap w.params) s.abs, HeadRun.seenQ qv nms (importedModules R.prog.main.body) (fun s => xlAt qv [] s && recOk [] s) s.abs)) = some (true, openGood qv nms)
abbrev ObsOk (w : World) : Prop := ∀ os : OsState, (endv w os).map (fun s => ob s) = some (hk.val w)
theorem looks0 (w : World) : LooksOk (w.withFollow "special-get-raises" false) := by
  intro os
  kernel_rfl
theorem looks1 (w : World) : LooksOk (w.withFollow "special-get-raises" true) := by
  intro os
  kernel_rfl
theorem obs0 (w : World) : ObsOk (w.withFollow "special-get-raises" false) := by
  intro os
  kernel_rfl
theorem obs1 (w : World) : ObsOk (w.withFollow "special-get-raises" true) := by
  intro os
  kernel_rfl
theorem run0 (w : World) : HeadRun.RunEqS R qv hk ob 7000 nms (w.withFollow "special-get-raises" false) := fun os => join2 (looks0 w os) (obs0 w os)
theorem run1 (w : World) : HeadRun.RunEqS R qv hk ob 7000 nms (w.withFollow "special-get-raises" true) := fun os => join2 (looks1 w os) (obs1 w os)
theorem run (w : World) : HeadRun.RunEqS R qv hk ob 7000 nms w := byRow2 "special-get-raises" (P := fun w => HeadRun.RunEqS R qv hk ob 7000 nms w) run0 run1 w
end GW
/-! What the head asks of the row and of the program's text -/
namespace GW
open PySem PySem.W PySem.Calls PyProof.Rows
abbrev dA : DefRec := HeadRun.topDef R.prog 145
theorem said : R.wellSaid = true := by decide +kernel
theorem opens : opening R.prog = plainProg R.prog.main.scope.names := by kernel_rfl
theorem fences : ∀ s : Shared, fenceModules? R.prog s = some s := fun s => by kernel_rfl
theorem defs : defOf qv R.name = some (dA, []) := by kernel_rfl
theorem the_def : R.prog.theDef R.name = some (dA.params, dA.body, dA.scope) := by kernel_rfl
theorem chains : (chainsOk qv && opensWell R.prog) = true := by decide +kernel
theorem is_bare : R.prog.bare := ⟨rfl, rfl, rfl, rfl, rfl, by decide +kernel⟩
theorem one_asked : ∃ args, R.pre args = true ∧ WData.layableAll args = true := ⟨[.list [.int 4]], by decide +kernel, by decide +kernel⟩
theorem da_name : dA.name = ("answers" : PySem.Str) := by kernel_rfl
theorem da_plain : dA.params.defaults = [] := by kernel_rfl
end GW
set_option maxHeartbeats 2000000
/-! Plain law 1: one step of an instance as a form that tells how it leans on the cells; the diamond; all maximal runs come to one end. -/
namespace Gc
open Xb15

/-- how an instance's next step leans on the cells -/
inductive Form where
  | halt
  | fail
  | move (j : TaskInstance) (n : Option Nat)
  | test (c : Nat) (f : Val → Option TaskInstance)
  | write (c : Nat) (g : Val → Option Val) (j : TaskInstance)

/-- whether a condition holds of the value of its cell; none: an expression is out of range -/
def condCell : Condition → Nat
  | .atleast c _ | .atmost c _ | .has c _ | .size c _ | .within c _ _ | .known c => c
def condTest (i : TaskInstance) : Condition → Option (Val → Bool)
  | .atleast _ e => (evalExp i e).map fun z v => match v with
    | .num y => decide (z ≤ y)
    | _ => false
  | .atmost _ e => (evalExp i e).map fun z v => match v with
    | .num y => decide (y ≤ z)
    | _ => false
  | .has _ e => (evalExp i e).map fun z v => match v with
    | .set l => l.contains z
    | _ => false
  | .size _ e => (evalExp i e).map fun z v => match v with
    | .set l => decide (z ≤ (l.length : Int))
    | _ => false
  | .within _ a b => (evalExp i a).bind fun x => (evalExp i b).map fun y v => match v with
    | .range u w => decide (x ≤ u) && decide (w ≤ y)
    | _ => false
  | .known _ => some fun v => match v with
    | .num _ => true
    | _ => false

theorem condTest_holds (s : State) (i : TaskInstance) (t : Condition) : conditionHolds s i t = (condTest i t).map fun f => f (cellValue s (condCell t)) := by
  cases t with
  | atleast c e => simp only [conditionHolds, condTest, condCell, Option.map_map]; rfl
  | atmost c e => simp only [conditionHolds, condTest, condCell, Option.map_map]; rfl
  | has c e => simp only [conditionHolds, condTest, condCell, Option.map_map]; rfl
  | size c e => simp only [conditionHolds, condTest, condCell, Option.map_map]; rfl
  | within c a b =>
    simp only [conditionHolds, condTest, condCell]
    cases evalExp i a with
    | none => rfl
    | some x =>
      cases evalExp i b with
      | none => rfl
      | some y => rfl
  | known c => rfl

def formO (p : Program) (i : TaskInstance) : Instruction → Form
  | .put c e => match evalExp i e with
    | none => .fail
    | some z => .write c (fun v => joinValue (cellKind p c) v z) { i with pc := i.pc + 1 }
  | .narrow c a b => match evalExp i a, evalExp i b with
    | some x, some y => .write c (fun v => narrowValue v x y) { i with pc := i.pc + 1 }
    | _, _ => .fail
  | .wait t => match condTest i t with
    | none => .fail
    | some f => .test (condCell t) fun v => if f v then some { i with pc := i.pc + 1 } else none
  | .load v c => .test c fun w => match w with
    | .num z => some { i with vars := i.vars.set v z, pc := i.pc + 1 }
    | _ => none
  | .assign v e => match evalExp i e with
    | none => .fail
    | some z => .move { i with vars := i.vars.set v z, pc := i.pc + 1 } none
  | .skipIfZero e t => match evalExp i e with
    | none => .fail
    | some z => if z = 0 then .move { i with pc := t } none else .move { i with pc := i.pc + 1 } none
  | .times n => .move { i with loops := n :: i.loops, pc := i.pc + 1 } none
  | .again t => match i.loops with
    | n :: l => if 1 < n then .move { i with pc := t, loops := (n - 1) :: l } none else .move { i with loops := l, pc := i.pc + 1 } none
    | [] => .move { i with pc := i.pc + 1 } none
  | .start t => .move { i with pc := i.pc + 1 } (some t)

def form (p : Program) (i : TaskInstance) : Form := match nextInstruction p i with
  | none => .halt
  | some (o, _) => formO p i o

/-- what a form does in a state to the instance at k -/
def doForm (s : State) (k : Nat) : Form → Option State
  | .halt => none
  | .fail => some (markFailed s)
  | .move j none => some (setInstance s k j)
  | .move j (some t) => some (if MAX_INSTANCES ≤ s.insts.length then markFailed s else { s with insts := s.insts.set k j ++ [newInstance t] })
  | .test c f => match f (cellValue s c) with
    | none => none
    | some j => some (setInstance s k j)
  | .write c g j => some (match g (cellValue s c) with
    | none => markFailed s
    | some v => setInstance { s with cells := s.cells.set c v } k j)

theorem step_form (p : Program) (s : State) (k : Nat) : stepInstance p s k = if s.failed then none else match s.insts[k]? with
    | none => none
    | some i => doForm s k (form p i) := by
  unfold stepInstance
  by_cases hf : s.failed = true
  · rw [if_pos hf, if_pos hf]
  · rw [if_neg hf, if_neg hf]
    cases hi : s.insts[k]? with
    | none => rfl
    | some i =>
      simp only [form]
      cases hn : nextInstruction p i with
      | none => rfl
      | some x =>
        obtain ⟨o, n⟩ := x
        cases o with
        | put c e =>
          simp only [formO]
          cases evalExp i e with
          | none => rfl
          | some z =>
            simp only [doForm]
            cases joinValue (cellKind p c) (cellValue s c) z with
            | none => rfl
            | some v => rfl
        | narrow c a b =>
          simp only [formO]
          cases evalExp i a with
          | none => rfl
          | some x =>
            cases evalExp i b with
            | none => rfl
            | some y =>
              simp only [doForm]
              cases narrowValue (cellValue s c) x y with
              | none => rfl
              | some v => rfl
        | wait t =>
          simp only [formO, condTest_holds]
          cases condTest i t with
          | none => rfl
          | some f =>
            simp only [doForm, Option.map_some]
            cases f (cellValue s (condCell t)) with
            | true => rfl
            | false => rfl
        | load v c =>
          simp only [formO, doForm]
          cases cellValue s c <;> rfl
        | assign v e =>
          simp only [formO]
          cases evalExp i e <;> rfl
        | skipIfZero e t =>
          simp only [formO]
          cases evalExp i e with
          | none => rfl
          | some z =>
            by_cases h : z = 0
            · simp only [h, if_true]; rfl
            · simp only [h, if_false]; rfl
        | times n => rfl
        | again t =>
          simp only [formO]
          cases i.loops with
          | nil => rfl
          | cons n l =>
            by_cases h : 1 < n
            · simp only [h, if_true]; rfl
            · simp only [h, if_false]; rfl
        | start t => rfl

/-! ### kinds: what may be asked of a cell and done to it -/
/-- a test that stands, of a cell of the kind k -/
inductive TestOk (i : TaskInstance) : Kind → (Val → Option TaskInstance) → Prop where
  | atleast (z : Int) (j) : TestOk i .max (fun v => if (match v with
    | .num y => decide (z ≤ y)
    | _ => false) = true then some j else none)
  | atmost (z : Int) (j) : TestOk i .min (fun v => if (match v with
    | .num y => decide (y ≤ z)
    | _ => false) = true then some j else none)
  | has (z : Int) (j) : TestOk i .set (fun v => if (match v with
    | .set l => l.contains z
    | _ => false) = true then some j else none)
  | size (z : Int) (j) : TestOk i .set (fun v => if (match v with
    | .set l => decide (z ≤ (l.length : Int))
    | _ => false) = true then some j else none)
  | within (a b x y : Int) (j) : TestOk i (.range a b) (fun v => if (match v with
    | .range u w => decide (x ≤ u) && decide (w ≤ y)
    | _ => false) = true then some j else none)
  | known (k) (h : k = .one ∨ k = .flag) (j) : TestOk i k (fun v => if (match v with
    | .num _ => true
    | _ => false) = true then some j else none)
  | load (x : Nat) : TestOk i .one (fun v => match v with
    | .num z => some { i with vars := i.vars.set x z, pc := i.pc + 1 }
    | _ => none)
inductive WriteOk : Kind → (Val → Option Val) → Prop where
  | put (k : Kind) (h : isRange k = false) (z : Int) : WriteOk k (fun v => joinValue k v z)
  | narrow (a b x y : Int) : WriteOk (.range a b) (fun v => narrowValue v x y)

theorem insertSorted_comm (a b : Int) : ∀ l : List Int, insertSorted a (insertSorted b l) = insertSorted b (insertSorted a l)
  | [] => by grind [insertSorted]
  | y :: l => by
    have ih := insertSorted_comm a b l
    grind [insertSorted]
end Gc
namespace Gc
open Xb15

theorem insertSorted_mem (a b : Int) : ∀ l : List Int, b ∈ insertSorted a l ↔ b = a ∨ b ∈ l
  | [] => by simp [insertSorted]
  | y :: l => by
    have ih := insertSorted_mem a b l
    simp only [insertSorted]
    by_cases h1 : a < y
    · rw [if_pos h1]; simp
    · rw [if_neg h1]
      by_cases h2 : a = y
      · rw [if_pos h2]; subst h2; simp
      · rw [if_neg h2]; simp [ih]; grind
theorem insertSorted_len (a : Int) : ∀ l : List Int, l.length ≤ (insertSorted a l).length
  | [] => by simp [insertSorted]
  | y :: l => by
    have ih := insertSorted_len a l
    simp only [insertSorted]
    by_cases h1 : a < y
    · rw [if_pos h1]; simp
    · rw [if_neg h1]
      by_cases h2 : a = y
      · rw [if_pos h2]; simp
      · rw [if_neg h2]; simp; exact ih

/-- two writes on one cell: in either order -/
theorem join_comm (k : Kind) (z z' : Int) (v : Val) : (joinValue k v z).bind (fun w => joinValue k w z') = (joinValue k v z').bind (fun w => joinValue k w z) := by
  cases k with
  | max =>
    cases v with
    | empty => show some (Val.num (max z z')) = some (Val.num (max z' z)); rw [Int.max_comm]
    | num y => show some (Val.num (max (max y z) z')) = some (Val.num (max (max y z') z)); congr 2; omega
    | set l => rfl
    | range a b => rfl
  | min =>
    cases v with
    | empty => show some (Val.num (min z z')) = some (Val.num (min z' z)); rw [Int.min_comm]
    | num y => show some (Val.num (min (min y z) z')) = some (Val.num (min (min y z') z)); congr 2; omega
    | set l => rfl
    | range a b => rfl
  | set =>
    cases v with
    | empty => rfl
    | num y => rfl
    | range a b => rfl
    | set l =>
      simp only [joinValue]
      by_cases h1 : 0 ≤ z ∧ z ≤ 63
      · by_cases h2 : 0 ≤ z' ∧ z' ≤ 63
        · rw [if_pos h1, if_pos h2]
          simp only [Option.bind_some, joinValue]
          rw [if_pos h1, if_pos h2, insertSorted_comm]
        · rw [if_pos h1, if_neg h2]
          simp only [Option.bind_some, joinValue, Option.bind_none]
          rw [if_neg h2]
      · rw [if_neg h1]
        by_cases h2 : 0 ≤ z' ∧ z' ≤ 63
        · rw [if_pos h2]
          simp only [Option.bind_some, joinValue, Option.bind_none]
          rw [if_neg h1]
        · rw [if_neg h2]; rfl
  | one =>
    cases v with
    | empty =>
      simp only [joinValue, Option.bind_some]
      by_cases h : z = z'
      · subst h; rfl
      · rw [if_neg h, if_neg (fun e => h e.symm)]
    | num y =>
      simp only [joinValue]
      by_cases h : y = z
      · rw [if_pos h]
        by_cases h' : y = z'
        · rw [if_pos h']; simp [joinValue, h, h']; omega
        · rw [if_neg h']; simp [joinValue, h, h']; omega
      · rw [if_neg h]
        by_cases h' : y = z'
        · rw [if_pos h']; simp [joinValue, h, h']; omega
        · rw [if_neg h']; rfl
    | set l => rfl
    | range a b => rfl
  | flag =>
    have e : ∀ (w : Val) (x : Int), joinValue .flag w x = if x = 0 then some w else some (.num 1) := fun w x => by cases w <;> rfl
    simp only [e]
    by_cases h : z = 0
    · by_cases h' : z' = 0
      · simp [h, h']
      · simp [h, h']
    · by_cases h' : z' = 0
      · simp [h, h']
      · simp [h, h']
  | range a b => cases v <;> rfl
theorem narrow_comm (x y x' y' : Int) (v : Val) : (narrowValue v x y).bind (fun w => narrowValue w x' y') = (narrowValue v x' y').bind (fun w => narrowValue w x y) := by
  cases v with
  | range a b =>
    simp only [narrowValue]
    by_cases h1 : max a x ≤ min b y
    · rw [if_pos h1]
      by_cases h2 : max a x' ≤ min b y'
      · rw [if_pos h2]
        simp only [Option.bind_some, narrowValue]
        have e1 : max (max a x) x' = max (max a x') x := by omega
        have e2 : min (min b y) y' = min (min b y') y := by omega
        rw [e1, e2]
      · rw [if_neg h2]
        simp only [Option.bind_some, narrowValue, Option.bind_none]
        rw [if_neg (by omega)]
    · rw [if_neg h1]
      by_cases h2 : max a x' ≤ min b y'
      · rw [if_pos h2]
        simp only [Option.bind_some, narrowValue, Option.bind_none]
        rw [if_neg (by omega)]
      · rw [if_neg h2]; rfl
  | empty => rfl
  | num y => rfl
  | set l => rfl
theorem write_comm {k : Kind} {f g : Val → Option Val} (hf : WriteOk k f) (hg : WriteOk k g) (v : Val) : (f v).bind g = (g v).bind f := by
  cases hf with
  | put _ h z =>
    cases hg with
    | put _ h' z' => exact join_comm k z z' v
    | narrow a b x y => simp [isRange] at h
  | narrow a b x y =>
    cases hg with
    | put _ h' z' => simp [isRange] at h'
    | narrow _ _ x' y' => exact narrow_comm x y x' y' v
/-- a test that has held holds behind a write -/
theorem test_stable {i : TaskInstance} {k : Kind} {f : Val → Option TaskInstance} {g : Val → Option Val} (hf : TestOk i k f) (hg : WriteOk k g) {v w : Val} {j : TaskInstance} (h1 : f v = some j) (h2 : g v = some w) : f w = some j := by
  cases hf with
  | atleast z j' =>
    cases hg with
    | put _ h z' =>
      cases v with
      | num y =>
        simp [joinValue] at h1 h2
        obtain ⟨h1, rfl⟩ := h1
        subst h2
        simp; omega
      | _ => simp at h1
  | atmost z j' =>
    cases hg with
    | put _ h z' =>
      cases v with
      | num y =>
        simp [joinValue] at h1 h2
        obtain ⟨h1, rfl⟩ := h1
        subst h2
        simp; omega
      | _ => simp at h1
  | has z j' =>
    cases hg with
    | put _ h z' =>
      cases v with
      | set l =>
        simp [joinValue] at h1 h2
        obtain ⟨h1, rfl⟩ := h1
        obtain ⟨_, h2⟩ := h2
        subst h2
        simp [insertSorted_mem, h1]
      | _ => simp at h1
  | size z j' =>
    cases hg with
    | put _ h z' =>
      cases v with
      | set l =>
        simp [joinValue] at h1 h2
        obtain ⟨h1, rfl⟩ := h1
        obtain ⟨_, h2⟩ := h2
        subst h2
        have := insertSorted_len z' l
        simp; omega
      | _ => simp at h1
  | within a b x y j' =>
    cases hg with
    | put _ h z' => simp [isRange] at h
    | narrow _ _ x' y' =>
      cases v with
      | range u w' =>
        simp [narrowValue] at h1 h2
        obtain ⟨h1, rfl⟩ := h1
        obtain ⟨_, h2⟩ := h2
        subst h2
        simp; omega
      | _ => simp at h1
  | known k hk j' =>
    cases hg with
    | put _ h z' =>
      cases v with
      | num y =>
        rcases hk with rfl | rfl
        · simp [joinValue] at h1 h2
          obtain ⟨_, h2⟩ := h2
          subst h2
          simp [h1]
        · simp [joinValue] at h1 h2
          by_cases hz : z' = 0
          · simp [hz] at h2; subst h2; simp [h1]
          · simp [hz] at h2; subst h2; simp [h1]
      | _ => simp at h1
    | narrow a b x y => simp at hk
  | load x =>
    cases hg with
    | put _ h z' =>
      cases v with
      | num y =>
        simp [joinValue] at h1 h2
        obtain ⟨_, h2⟩ := h2
        subst h2
        simp [h1]
      | _ => simp at h1

/-! ### forms that stand for cells of their kinds -/
inductive FormOk (p : Program) (i : TaskInstance) : Form → Prop where
  | halt : FormOk p i .halt
  | fail : FormOk p i .fail
  | move (j n) : FormOk p i (.move j n)
  | test (c f) (h : TestOk i (cellKind p c) f) : FormOk p i (.test c f)
  | write (c g j) (h : WriteOk (cellKind p c) g) : FormOk p i (.write c g j)

/-- the instruction's cells are of the right kinds -/
def KindOk (p : Program) : Instruction → Prop
  | .put c _ => isRange (cellKind p c) = false
  | .narrow c _ _ => isRange (cellKind p c) = true
  | .wait (.atleast c _) => cellKind p c = .max
  | .wait (.atmost c _) => cellKind p c = .min
  | .wait (.has c _) => cellKind p c = .set
  | .wait (.size c _) => cellKind p c = .set
  | .wait (.within c _ _) => isRange (cellKind p c) = true
  | .wait (.known c) => cellKind p c = .one ∨ cellKind p c = .flag
  | .load _ c => cellKind p c = .one
  | _ => True
theorem range_of {k : Kind} (h : isRange k = true) : ∃ a b, k = .range a b := by
  cases k <;> simp [isRange] at h
  exact ⟨_, _, rfl⟩

theorem formO_ok {p : Program} {i : TaskInstance} {o : Instruction} (h : KindOk p o) : FormOk p i (formO p i o) := by
  cases o with
  | put c e =>
    simp only [formO]
    cases evalExp i e with
    | none => exact .fail
    | some z => exact .write _ _ _ (.put _ h z)
  | narrow c a b =>
    simp only [formO]
    cases evalExp i a with
    | none => exact .fail
    | some x =>
      cases evalExp i b with
      | none => exact .fail
      | some y =>
        obtain ⟨a', b', e⟩ := range_of h
        exact .write _ _ _ (by rw [e]; exact .narrow _ _ x y)
  | wait t =>
    simp only [formO]
    cases t with
    | atleast c e =>
      simp only [condTest, condCell]
      have h : cellKind p c = .max := h
      cases evalExp i e with
      | none => exact .fail
      | some z => exact .test _ _ (by rw [h]; exact .atleast z _)
    | atmost c e =>
      simp only [condTest, condCell]
      have h : cellKind p c = .min := h
      cases evalExp i e with
      | none => exact .fail
      | some z => exact .test _ _ (by rw [h]; exact .atmost z _)
    | has c e =>
      simp only [condTest, condCell]
      have h : cellKind p c = .set := h
      cases evalExp i e with
      | none => exact .fail
      | some z => exact .test _ _ (by rw [h]; exact .has z _)
    | size c e =>
      simp only [condTest, condCell]
      have h : cellKind p c = .set := h
      cases evalExp i e with
      | none => exact .fail
      | some z => exact .test _ _ (by rw [h]; exact .size z _)
    | within c a b =>
      simp only [condTest, condCell]
      obtain ⟨a', b', h⟩ := range_of (show isRange (cellKind p c) = true from h)
      cases evalExp i a with
      | none => exact .fail
      | some x =>
        cases evalExp i b with
        | none => exact .fail
        | some y => exact .test _ _ (by rw [h]; exact .within a' b' x y _)
    | known c => exact .test _ _ (.known _ h _)
  | load v c =>
    have h : cellKind p c = .one := h
    exact .test _ _ (by rw [h]; exact .load v)
  | assign v e =>
    simp only [formO]
    cases evalExp i e with
    | none => exact .fail
    | some z => exact .move _ _
  | skipIfZero e t =>
    simp only [formO]
    cases evalExp i e with
    | none => exact .fail
    | some z =>
      by_cases h : z = 0
      · simp only [h, if_true]; exact .move _ _
      · simp only [h, if_false]; exact .move _ _
  | times n => exact .move _ _
  | again t =>
    simp only [formO]
    cases i.loops with
    | nil => exact .move _ _
    | cons n l =>
      by_cases h : 1 < n
      · simp only [h, if_true]; exact .move _ _
      · simp only [h, if_false]; exact .move _ _
  | start t => exact .move _ _
/-- all instructions of the program have cells of the right kinds -/
def KindsOk (p : Program) : Prop := ∀ t ∈ p.tasks, ∀ x ∈ t.code, KindOk p x.1
theorem form_ok {p : Program} (h : KindsOk p) (i : TaskInstance) : FormOk p i (form p i) := by
  unfold form
  cases e : nextInstruction p i with
  | none => exact .halt
  | some x =>
    obtain ⟨o, n⟩ := x
    unfold nextInstruction at e
    obtain ⟨t, e1, e2⟩ := Option.bind_eq_some_iff.mp e
    exact formO_ok (h t (List.mem_of_getElem? e1) _ (List.mem_of_getElem? e2))
end Gc
/-! Plain law 1c: the diamond over states, and that all maximal runs come to one end. -/
namespace Gc
open Xb15

/-- what a form does to the cells: none: it waits; some none: it fails -/
def eff (cs : List Val) : Form → Option (Option (List Val × TaskInstance × Option Nat))
  | .halt => none
  | .fail => some none
  | .move j n => some (some (cs, j, n))
  | .test c f => (f (cs.getD c .empty)).map fun j => some (cs, j, none)
  | .write c g j => some ((g (cs.getD c .empty)).map fun v => (cs.set c v, j, none))

def after (s : State) (k : Nat) (c : List Val) (j : TaskInstance) : Option Nat → State
  | none => ⟨c, s.insts.set k j, s.failed⟩
  | some t => if MAX_INSTANCES ≤ s.insts.length then markFailed s else ⟨c, s.insts.set k j ++ [newInstance t], s.failed⟩

theorem doForm_eff (s : State) (k : Nat) (F : Form) : doForm s k F = match eff s.cells F with
    | none => none
    | some none => some (markFailed s)
    | some (some (c, j, n)) => some (after s k c j n) := by
  cases F with
  | halt => rfl
  | fail => rfl
  | move j n => cases n <;> rfl
  | test c f =>
    simp only [doForm, eff, cellValue]
    cases f (s.cells.getD c .empty) <;> rfl
  | write c g j =>
    simp only [doForm, eff, cellValue]
    cases g (s.cells.getD c .empty) <;> rfl

theorem getD_set_self {c : Nat} {v : Val} {cs : List Val} (h : c < cs.length) : (cs.set c v).getD c .empty = v := by
  simp [List.getD, h]
theorem getD_set_ne {c d : Nat} {v : Val} {cs : List Val} (h : c ≠ d) : (cs.set c v).getD d .empty = cs.getD d .empty := by
  simp [List.getD, List.getElem?_set_ne h]
theorem set_out {c : Nat} {v : Val} {cs : List Val} (h : ¬ c < cs.length) : cs.set c v = cs := by
  apply List.set_eq_of_length_le; omega

/-- a form that fails fails behind any other's move -/
theorem eff_fail {p : Program} {i1 i2 : TaskInstance} {F1 F2 : Form} (h1 : FormOk p i1 F1) (h2 : FormOk p i2 F2) {cs c2 : List Val} {j2 : TaskInstance} {n2 : Option Nat}
    (e1 : eff cs F1 = some none) (e2 : eff cs F2 = some (some (c2, j2, n2))) : eff c2 F1 = some none := by
  cases h1 with
  | halt => simp [eff] at e1
  | fail => rfl
  | move j n => simp [eff] at e1
  | test c f h =>
    simp only [eff] at e1
    cases q : f (cs.getD c .empty) <;> simp [q] at e1
  | write c g j hg =>
    have g0 : g (cs.getD c .empty) = none := by
      have e1 : some ((g (cs.getD c .empty)).map fun v => (cs.set c v, j, (none : Option Nat))) = some none := e1
      cases q : g (cs.getD c .empty) with
      | none => rfl
      | some v => rw [q] at e1; cases e1
    cases h2 with
    | halt => simp [eff] at e2
    | fail => simp [eff] at e2
    | move j' n' =>
      simp only [eff, Option.some.injEq, Prod.mk.injEq] at e2
      rw [← e2.1]; exact e1
    | test c' f h =>
      simp only [eff, Option.map_eq_some_iff] at e2
      obtain ⟨a, _, e⟩ := e2
      simp at e
      rw [← e.1]; exact e1
    | write c' g' j' hg' =>
      simp only [eff, Option.some.injEq, Option.map_eq_some_iff] at e2
      obtain ⟨v, q, e⟩ := e2
      simp at e
      obtain ⟨rfl, _, _⟩ := e
      simp only [eff, Option.some.injEq, Option.map_eq_none_iff]
      by_cases hc : c' = c
      · subst hc
        by_cases hl : c' < cs.length
        · rw [getD_set_self hl]
          have z := write_comm hg hg' (cs.getD c' .empty)
          rw [g0, q] at z
          exact z.symm
        · rw [set_out hl]; exact g0
      · rw [getD_set_ne hc]; exact g0

theorem eff_two {p : Program} {i1 i2 : TaskInstance} {F1 F2 : Form} (h1 : FormOk p i1 F1) (h2 : FormOk p i2 F2) {cs c1 c2 : List Val} {j1 j2 : TaskInstance} {n1 n2 : Option Nat}
    (e1 : eff cs F1 = some (some (c1, j1, n1))) (e2 : eff cs F2 = some (some (c2, j2, n2))) :
    (eff c1 F2 = some none ∧ eff c2 F1 = some none) ∨ ∃ c12, eff c1 F2 = some (some (c12, j2, n2)) ∧ eff c2 F1 = some (some (c12, j1, n1)) := by
  cases h1 with
  | halt => simp [eff] at e1
  | fail => simp [eff] at e1
  | move j n =>
    simp only [eff, Option.some.injEq, Prod.mk.injEq] at e1
    obtain ⟨rfl, rfl, rfl⟩ := e1
    exact .inr ⟨c2, e2, rfl⟩
  | test c f hf =>
    simp only [eff, Option.map_eq_some_iff] at e1
    obtain ⟨a, q1, e1⟩ := e1
    simp at e1
    obtain ⟨rfl, rfl, rfl⟩ := e1
    refine .inr ⟨c2, e2, ?_⟩
    have z : f (c2.getD c .empty) = some a := by
      cases h2 with
      | halt => simp [eff] at e2
      | fail => simp [eff] at e2
      | move j' n' =>
        simp only [eff, Option.some.injEq, Prod.mk.injEq] at e2
        rw [← e2.1]; exact q1
      | test c' f' h' =>
        simp only [eff, Option.map_eq_some_iff] at e2
        obtain ⟨b, _, e⟩ := e2
        simp at e
        rw [← e.1]; exact q1
      | write c' g' j' hg' =>
        simp only [eff, Option.some.injEq, Option.map_eq_some_iff] at e2
        obtain ⟨v, q, e⟩ := e2
        simp at e
        obtain ⟨rfl, _, _⟩ := e
        by_cases hc : c' = c
        · subst hc
          by_cases hl : c' < cs.length
          · rw [getD_set_self hl]
            exact test_stable hf hg' q1 q
          · rw [set_out hl]; exact q1
        · rw [getD_set_ne hc]; exact q1
    simp only [eff, z, Option.map_some]
  | write c g j hg =>
    simp only [eff, Option.some.injEq, Option.map_eq_some_iff] at e1
    obtain ⟨v, q1, e1⟩ := e1
    simp at e1
    obtain ⟨rfl, rfl, rfl⟩ := e1
    cases h2 with
    | halt => simp [eff] at e2
    | fail => simp [eff] at e2
    | move j' n' =>
      simp only [eff, Option.some.injEq, Prod.mk.injEq] at e2
      obtain ⟨rfl, rfl, rfl⟩ := e2
      exact .inr ⟨cs.set c v, rfl, by simp only [eff, q1, Option.map_some]⟩
    | test c' f' hf' =>
      simp only [eff, Option.map_eq_some_iff] at e2
      obtain ⟨b, q2, e⟩ := e2
      simp at e
      obtain ⟨rfl, rfl, rfl⟩ := e
      refine .inr ⟨cs.set c v, ?_, by simp only [eff, q1, Option.map_some]⟩
      have z : f' ((cs.set c v).getD c' .empty) = some b := by
        by_cases hc : c = c'
        · subst hc
          by_cases hl : c < cs.length
          · rw [getD_set_self hl]
            exact test_stable hf' hg q2 q1
          · rw [set_out hl]; exact q2
        · rw [getD_set_ne hc]; exact q2
      simp only [eff, z, Option.map_some]
    | write c' g' j' hg' =>
      simp only [eff, Option.some.injEq, Option.map_eq_some_iff] at e2
      obtain ⟨v', q2, e⟩ := e2
      simp at e
      obtain ⟨rfl, rfl, rfl⟩ := e
      by_cases hc : c = c'
      · subst hc
        by_cases hl : c < cs.length
        · have z := write_comm hg hg' (cs.getD c .empty)
          rw [q1, q2] at z
          simp only [Option.bind_some] at z
          simp only [eff, getD_set_self hl]
          rw [z]
          cases g v' with
          | none => exact .inl ⟨rfl, rfl⟩
          | some w =>
            refine .inr ⟨cs.set c w, ?_, ?_⟩
            · simp [List.set_set]
            · simp [List.set_set]
        · refine .inr ⟨cs, ?_, ?_⟩
          · simp only [eff, set_out hl, q2, Option.map_some]
          · simp only [eff, set_out hl, q1, Option.map_some]
      · refine .inr ⟨(cs.set c v).set c' v', ?_, ?_⟩
        · simp only [eff, getD_set_ne hc, q2, Option.map_some]
        · simp only [eff, getD_set_ne (Ne.symm hc), q1, Option.map_some]
          rw [List.set_comm _ _ hc]

/-! ### states up to the order of their instances -/
def Sim (s t : State) : Prop := (s.failed = true ∧ t.failed = true) ∨ (s.failed = false ∧ t.failed = false ∧ s.cells = t.cells ∧ s.insts.Perm t.insts)
theorem Sim.refl (s : State) : Sim s s := by
  cases h : s.failed with
  | true => exact .inl ⟨h, h⟩
  | false => exact .inr ⟨h, h, rfl, .refl _⟩
theorem Sim.symm {s t : State} (h : Sim s t) : Sim t s := by
  rcases h with ⟨a, b⟩ | ⟨a, b, c, d⟩
  · exact .inl ⟨b, a⟩
  · exact .inr ⟨b, a, c.symm, d.symm⟩
theorem Sim.trans {s t u : State} (h : Sim s t) (g : Sim t u) : Sim s u := by
  rcases h with ⟨a, b⟩ | ⟨a, b, c, d⟩ <;> rcases g with ⟨a', b'⟩ | ⟨a', b', c', d'⟩
  · exact .inl ⟨a, b'⟩
  · rw [b] at a'; cases a'
  · rw [b] at a'; cases a'
  · exact .inr ⟨a, b', c.trans c', d.trans d'⟩

theorem set_swap {α : Type} {i x : α} : ∀ {l : List α} {k : Nat}, l[k]? = some i → (i :: l.set k x).Perm (x :: l)
  | [], k, h => by simp at h
  | a :: l, 0, h => by
    simp at h
    subst h
    exact .swap _ _ _
  | a :: l, k + 1, h => by
    have ih := set_swap (x := x) (l := l) (k := k) (by simpa using h)
    show (i :: a :: l.set k x).Perm (x :: a :: l)
    exact (List.Perm.swap _ _ _).trans ((ih.cons a).trans (.swap _ _ _))
theorem perm_set {α : Type} {i x : α} {l m : List α} {k j : Nat} (h : l.Perm m) (a : l[k]? = some i) (b : m[j]? = some i) : (l.set k x).Perm (m.set j x) :=
  List.Perm.cons_inv (((set_swap a).trans (h.cons x)).trans (set_swap b).symm)

theorem sim_step {p : Program} {s t s' : State} {k : Nat} (h : Sim s t) (e : stepInstance p s k = some s') : ∃ j t', stepInstance p t j = some t' ∧ Sim s' t' := by
  rw [step_form] at e
  rcases h with ⟨a, _⟩ | ⟨hs, ht, hc, hp⟩
  · rw [if_pos a] at e; cases e
  · rw [if_neg (by rw [hs]; decide)] at e
    cases hi : s.insts[k]? with
    | none => rw [hi] at e; cases e
    | some i =>
      rw [hi] at e
      have e : doForm s k (form p i) = some s' := e
      obtain ⟨j, hj⟩ := List.mem_iff_getElem?.mp (hp.mem_iff.mp (List.mem_of_getElem? hi))
      rw [doForm_eff] at e
      have q : stepInstance p t j = (match eff t.cells (form p i) with
        | none => none
        | some none => some (markFailed t)
        | some (some (c, i', n)) => some (after t j c i' n)) := by
        rw [step_form, if_neg (by rw [ht]; decide), hj, ← doForm_eff]
      rw [hc] at e
      cases ef : eff t.cells (form p i) with
      | none => rw [ef] at e; cases e
      | some r =>
        rw [ef] at e q
        cases r with
        | none =>
          refine ⟨j, _, q, ?_⟩
          have e := Option.some.inj e
          subst e
          exact .inl ⟨rfl, rfl⟩
        | some r =>
          obtain ⟨c, i', n⟩ := r
          refine ⟨j, _, q, ?_⟩
          have e := Option.some.inj e
          subst e
          have pm : (s.insts.set k i').Perm (t.insts.set j i') := perm_set hp hi hj
          cases n with
          | none => exact .inr ⟨hs, ht, rfl, pm⟩
          | some u =>
            simp only [after]
            rw [hp.length_eq]
            by_cases hm : MAX_INSTANCES ≤ t.insts.length
            · rw [if_pos hm, if_pos hm]; exact .inl ⟨rfl, rfl⟩
            · rw [if_neg hm, if_neg hm]
              exact .inr ⟨hs, ht, rfl, pm.append_right _⟩

/-- at most one step -/
def Le1 (p : Program) (s t : State) : Prop := t = s ∨ ∃ k, stepInstance p s k = some t

theorem step_at {p : Program} {s : State} {k : Nat} {i : TaskInstance} (hs : s.failed = false) (hi : s.insts[k]? = some i) : stepInstance p s k = match eff s.cells (form p i) with
    | none => none
    | some none => some (markFailed s)
    | some (some (c, i', n)) => some (after s k c i' n) := by
  rw [step_form, if_neg (by rw [hs]; decide), hi, ← doForm_eff]
theorem step_inv {p : Program} {s a : State} {k : Nat} (e : stepInstance p s k = some a) : s.failed = false ∧ ∃ i, s.insts[k]? = some i ∧ (match eff s.cells (form p i) with
    | none => none
    | some none => some (markFailed s)
    | some (some (c, i', n)) => some (after s k c i' n)) = some a := by
  have hs : s.failed = false := by
    cases h : s.failed with
    | false => rfl
    | true => rw [step_form, if_pos h] at e; cases e
  refine ⟨hs, ?_⟩
  cases hi : s.insts[k]? with
  | none =>
    rw [step_form, if_neg (by rw [hs]; decide), hi] at e
    cases e
  | some i => exact ⟨i, rfl, by rw [← e, step_at hs hi]⟩

theorem after_go {s : State} {k : Nat} {c : List Val} {j : TaskInstance} {t : Nat} (h : ¬ MAX_INSTANCES ≤ s.insts.length) : after s k c j (some t) = ⟨c, s.insts.set k j ++ [newInstance t], s.failed⟩ := if_neg h
theorem after_stop {s : State} {k : Nat} {c : List Val} {j : TaskInstance} {t : Nat} (h : MAX_INSTANCES ≤ s.insts.length) : after s k c j (some t) = markFailed s := if_pos h
theorem after_ok {s : State} {k : Nat} {c : List Val} {j : TaskInstance} {t : Nat} (h : (after s k c j (some t)).failed = false) : ¬ MAX_INSTANCES ≤ s.insts.length := fun z => by
  rw [after_stop z] at h; cases h
theorem after_get {s : State} {k l : Nat} {c : List Val} {j i : TaskInstance} {n : Option Nat} (hk : k ≠ l) (hi : s.insts[l]? = some i) (hf : (after s k c j n).failed = false) : (after s k c j n).insts[l]? = some i := by
  cases n with
  | none => simp only [after]; rw [List.getElem?_set_ne hk]; exact hi
  | some t =>
    simp only [after] at hf ⊢
    by_cases hm : MAX_INSTANCES ≤ s.insts.length
    · rw [if_pos hm] at hf; cases hf
    · rw [if_neg hm]
      have hl : l < (s.insts.set k j).length := by
        rw [List.length_set]; exact (List.getElem?_eq_some_iff.mp hi).1
      show (s.insts.set k j ++ [newInstance t])[l]? = some i
      rw [List.getElem?_append_left hl, List.getElem?_set_ne hk]; exact hi
theorem after_cells {s : State} {k : Nat} {c : List Val} {j : TaskInstance} {n : Option Nat} (hf : (after s k c j n).failed = false) : (after s k c j n).cells = c := by
  cases n with
  | none => rfl
  | some t =>
    simp only [after] at hf ⊢
    by_cases hm : MAX_INSTANCES ≤ s.insts.length
    · rw [if_pos hm] at hf; cases hf
    · rw [if_neg hm]
theorem after_len {s : State} {k : Nat} {c : List Val} {j : TaskInstance} {n : Option Nat} : s.insts.length ≤ (after s k c j n).insts.length := by
  cases n with
  | none => simp [after]
  | some t =>
    simp only [after]
    split
    · exact Nat.le_refl _
    · simp
theorem after_fail {s : State} {k : Nat} {c : List Val} {j : TaskInstance} {n : Option Nat} (hs : s.failed = false) (hf : (after s k c j n).failed = true) : (∃ t, n = some t) ∧ MAX_INSTANCES ≤ s.insts.length := by
  cases n with
  | none => simp only [after] at hf; rw [hs] at hf; cases hf
  | some t =>
    simp only [after] at hf
    by_cases hm : MAX_INSTANCES ≤ s.insts.length
    · exact ⟨⟨t, rfl⟩, hm⟩
    · rw [if_neg hm] at hf; simp only at hf; rw [hs] at hf; cases hf

/-- one side has failed: the other one fails with one step more -/
theorem diamond_fail {p : Program} (hk : KindsOk p) {s a b : State} {k1 k2 : Nat} (hne : k1 ≠ k2) (e1 : stepInstance p s k1 = some a) (e2 : stepInstance p s k2 = some b) (ha : a.failed = true) (hb : b.failed = false) :
    ∃ b', stepInstance p b k1 = some b' ∧ b'.failed = true := by
  obtain ⟨hs, i1, h1, q1⟩ := step_inv e1
  obtain ⟨_, i2, h2, q2⟩ := step_inv e2
  cases f2 : eff s.cells (form p i2) with
  | none => rw [f2] at q2; cases q2
  | some r2 =>
    rw [f2] at q2
    cases r2 with
    | none =>
      have q2 := Option.some.inj q2
      subst q2
      cases hb
    | some r2 =>
      obtain ⟨c2, j2, n2⟩ := r2
      have q2 := Option.some.inj q2
      subst q2
      have g1 : (after s k2 c2 j2 n2).insts[k1]? = some i1 := after_get (Ne.symm hne) h1 hb
      have gc := after_cells hb
      have st := step_at (p := p) hb g1
      rw [gc] at st
      cases f1 : eff s.cells (form p i1) with
      | none => rw [f1] at q1; cases q1
      | some r1 =>
        rw [f1] at q1
        cases r1 with
        | none =>
          rw [eff_fail (form_ok hk i1) (form_ok hk i2) f1 f2] at st
          exact ⟨_, st, rfl⟩
        | some r1 =>
          obtain ⟨c1, j1, n1⟩ := r1
          have q1 := Option.some.inj q1
          subst q1
          obtain ⟨⟨t, rfl⟩, hm⟩ := after_fail hs ha
          rcases eff_two (form_ok hk i1) (form_ok hk i2) f1 f2 with ⟨_, z⟩ | ⟨c12, _, z⟩
          · rw [z] at st
            exact ⟨_, st, rfl⟩
          · rw [z] at st
            refine ⟨_, st, ?_⟩
            show (after (after s k2 c2 j2 n2) k1 c12 j1 (some t)).failed = true
            have hl : MAX_INSTANCES ≤ (after s k2 c2 j2 n2).insts.length := Nat.le_trans hm after_len
            generalize after s k2 c2 j2 n2 = u at hl ⊢
            show (if MAX_INSTANCES ≤ u.insts.length then markFailed u else _).failed = true
            rw [if_pos hl]
            rfl

theorem diamond {p : Program} (hk : KindsOk p) {s a b : State} {k1 k2 : Nat} (e1 : stepInstance p s k1 = some a) (e2 : stepInstance p s k2 = some b) : ∃ a' b', Le1 p a a' ∧ Le1 p b b' ∧ Sim a' b' := by
  by_cases hne : k1 = k2
  · subst hne
    rw [e1] at e2
    cases e2
    exact ⟨a, a, .inl rfl, .inl rfl, .refl _⟩
  · cases ha : a.failed with
    | true =>
      cases hb : b.failed with
      | true => exact ⟨a, b, .inl rfl, .inl rfl, .inl ⟨ha, hb⟩⟩
      | false =>
        obtain ⟨b', x, y⟩ := diamond_fail hk hne e1 e2 ha hb
        exact ⟨a, b', .inl rfl, .inr ⟨_, x⟩, .inl ⟨ha, y⟩⟩
    | false =>
      cases hb : b.failed with
      | true =>
        obtain ⟨a', x, y⟩ := diamond_fail hk (Ne.symm hne) e2 e1 hb ha
        exact ⟨a', b, .inr ⟨_, x⟩, .inl rfl, .inl ⟨y, hb⟩⟩
      | false =>
        obtain ⟨hs, i1, h1, q1⟩ := step_inv e1
        obtain ⟨_, i2, h2, q2⟩ := step_inv e2
        cases f1 : eff s.cells (form p i1) with
        | none => rw [f1] at q1; cases q1
        | some r1 =>
          rw [f1] at q1
          cases r1 with
          | none =>
            have q1 := Option.some.inj q1
            subst q1
            cases ha
          | some r1 =>
            obtain ⟨c1, j1, n1⟩ := r1
            have q1 := Option.some.inj q1
            subst q1
            cases f2 : eff s.cells (form p i2) with
            | none => rw [f2] at q2; cases q2
            | some r2 =>
              rw [f2] at q2
              cases r2 with
              | none =>
                have q2 := Option.some.inj q2
                subst q2
                cases hb
              | some r2 =>
                obtain ⟨c2, j2, n2⟩ := r2
                have q2 := Option.some.inj q2
                subst q2
                have ga := step_at (p := p) ha (after_get hne h2 ha)
                have gb := step_at (p := p) hb (after_get (Ne.symm hne) h1 hb)
                rw [after_cells ha] at ga
                rw [after_cells hb] at gb
                rcases eff_two (form_ok hk i1) (form_ok hk i2) f1 f2 with ⟨z1, z2⟩ | ⟨c12, z1, z2⟩
                · rw [z1] at ga
                  rw [z2] at gb
                  exact ⟨_, _, .inr ⟨_, ga⟩, .inr ⟨_, gb⟩, .inl ⟨rfl, rfl⟩⟩
                · rw [z1] at ga
                  rw [z2] at gb
                  refine ⟨_, _, .inr ⟨_, ga⟩, .inr ⟨_, gb⟩, ?_⟩
                  have pc : (s.insts.set k1 j1).set k2 j2 = (s.insts.set k2 j2).set k1 j1 := List.set_comm _ _ hne
                  have hl2 : k2 < (s.insts.set k1 j1).length := by rw [List.length_set]; exact (List.getElem?_eq_some_iff.mp h2).1
                  have hl1 : k1 < (s.insts.set k2 j2).length := by rw [List.length_set]; exact (List.getElem?_eq_some_iff.mp h1).1
                  cases n1 with
                  | none =>
                    cases n2 with
                    | none =>
                      refine .inr ⟨hs, hs, rfl, ?_⟩
                      show ((s.insts.set k1 j1).set k2 j2).Perm ((s.insts.set k2 j2).set k1 j1)
                      rw [pc]
                    | some t2 =>
                      have hm : ¬ MAX_INSTANCES ≤ s.insts.length := after_ok hb
                      rw [after_go (s := s) hm]
                      rw [after_go (s := after s k1 c1 j1 none) (by show ¬ MAX_INSTANCES ≤ (s.insts.set k1 j1).length; rw [List.length_set]; exact hm)]
                      refine .inr ⟨hs, hs, rfl, ?_⟩
                      show ((s.insts.set k1 j1).set k2 j2 ++ [newInstance t2]).Perm ((s.insts.set k2 j2 ++ [newInstance t2]).set k1 j1)
                      rw [List.set_append_left _ _ hl1, pc]
                  | some t1 =>
                    have hm : ¬ MAX_INSTANCES ≤ s.insts.length := after_ok ha
                    rw [after_go (s := s) hm]
                    cases n2 with
                    | none =>
                      rw [after_go (s := after s k2 c2 j2 none) (by show ¬ MAX_INSTANCES ≤ (s.insts.set k2 j2).length; rw [List.length_set]; exact hm)]
                      refine .inr ⟨hs, hs, rfl, ?_⟩
                      show ((s.insts.set k1 j1 ++ [newInstance t1]).set k2 j2).Perm ((s.insts.set k2 j2).set k1 j1 ++ [newInstance t1])
                      rw [List.set_append_left _ _ hl2, pc]
                    | some t2 =>
                      rw [after_go (s := s) hm]
                      by_cases h40 : MAX_INSTANCES ≤ s.insts.length + 1
                      · rw [after_stop (by simpa using h40), after_stop (by simpa using h40)]
                        exact .inl ⟨rfl, rfl⟩
                      · rw [after_go (by simpa using h40), after_go (by simpa using h40)]
                        refine .inr ⟨hs, hs, rfl, ?_⟩
                        show ((s.insts.set k1 j1 ++ [newInstance t1]).set k2 j2 ++ [newInstance t2]).Perm ((s.insts.set k2 j2 ++ [newInstance t2]).set k1 j1 ++ [newInstance t1])
                        rw [List.set_append_left _ _ hl2, List.set_append_left _ _ hl1, pc, List.append_assoc, List.append_assoc]
                        exact List.Perm.append_left _ (.swap _ _ _)

/-! ### runs to the end -/
inductive Ends (p : Program) : State → State → Prop where
  | stop (s : State) (h : ∀ k, stepInstance p s k = none) : Ends p s s
  | step {s a g : State} (k : Nat) (h : stepInstance p s k = some a) (r : Ends p a g) : Ends p s g
theorem Ends.le1 {p : Program} {s a g : State} (h : Le1 p s a) (r : Ends p a g) : Ends p s g := by
  rcases h with rfl | ⟨k, e⟩
  · exact r
  · exact .step k e r
theorem Ends.stuck {p : Program} {s g : State} (r : Ends p s g) : ∀ k, stepInstance p g k = none := by
  induction r with
  | stop s h => exact h
  | step k h r ih => exact ih

/-- a measure that every step makes less -/
structure Falls (p : Program) (M : Nat → State → Prop) : Prop where
  down : ∀ n s k a, M n s → stepInstance p s k = some a → ∃ m, m < n ∧ M m a
theorem Falls.ends {p : Program} {M : Nat → State → Prop} (F : Falls p M) : ∀ n s, M n s → ∃ g, Ends p s g := by
  intro n
  induction n using Nat.strongRecOn with
  | ind n ih =>
    intro s hs
    by_cases h : ∃ k, (stepInstance p s k).isSome
    · obtain ⟨k, hk⟩ := h
      obtain ⟨a, ha⟩ := Option.isSome_iff_exists.mp hk
      obtain ⟨m, hm, hM⟩ := F.down n s k a hs ha
      obtain ⟨g, hg⟩ := ih m hm a hM
      exact ⟨g, .step k ha hg⟩
    · refine ⟨s, .stop s fun k => ?_⟩
      cases e : stepInstance p s k with
      | none => rfl
      | some a => exact (h ⟨k, by rw [e]; rfl⟩).elim
theorem Falls.le1 {p : Program} {M : Nat → State → Prop} (F : Falls p M) {n : Nat} {s a : State} (h : M n s) (l : Le1 p s a) : ∃ m, m ≤ n ∧ M m a := by
  rcases l with rfl | ⟨k, e⟩
  · exact ⟨n, Nat.le_refl _, h⟩
  · obtain ⟨m, hm, hM⟩ := F.down n s k a h e
    exact ⟨m, Nat.le_of_lt hm, hM⟩
/-- all runs to the end come to one end -/
theorem confluent {p : Program} (hk : KindsOk p) {M : Nat → State → Prop} (F : Falls p M) : ∀ n s t g g', M n s → Sim s t → Ends p s g → Ends p t g' → Sim g g' := by
  intro n
  induction n using Nat.strongRecOn with
  | ind n ih =>
    intro s t g g' hs h r r'
    cases r with
    | stop _ h0 =>
      cases r' with
      | stop _ _ => exact h
      | step k e _ =>
        obtain ⟨j, b, e', _⟩ := sim_step h.symm e
        rw [h0 j] at e'
        cases e'
    | @step _ a _ k e r1 =>
      cases r' with
      | stop _ h0 =>
        obtain ⟨j, b, e', _⟩ := sim_step h e
        rw [h0 j] at e'
        cases e'
      | @step _ b _ k' e' r2 =>
        obtain ⟨j, b2, e2, sb⟩ := sim_step h.symm e'
        obtain ⟨a', b', la, lb, sab⟩ := diamond hk e e2
        obtain ⟨ma, hma, hMa⟩ := F.down n s k a hs e
        obtain ⟨mb, hmb, hMb⟩ := F.down n s j b2 hs e2
        obtain ⟨ma', hma', hMa'⟩ := F.le1 hMa la
        obtain ⟨x, rx⟩ := F.ends _ _ hMa'
        obtain ⟨mb', hmb', hMb'⟩ := F.le1 hMb lb
        obtain ⟨y, ry⟩ := F.ends _ _ hMb'
        have s1 : Sim g x := ih ma hma a a g x hMa (.refl _) r1 (.le1 la rx)
        have s2 : Sim x y := ih ma' (Nat.lt_of_le_of_lt hma' hma) a' b' x y hMa' sab rx ry
        have s3 : Sim y g' := ih mb hmb b2 b y g' hMb sb.symm (.le1 lb ry) r2
        exact s1.trans (s2.trans s3)
end Gc
/-! Plain law 2: how many steps an instance has left; the measure of a state. -/
namespace Gc
open Xb15

abbrev Code := List (Instruction × Nat)
def isPlain : Instruction → Bool
  | .skipIfZero _ _ => false
  | .times _ => false
  | .again _ => false
  | _ => true
/-- from pc with these loops at most c steps are left, whatever the tests say; no again without a loop -/
inductive Rem (code : Code) : Nat → List Nat → Nat → Prop where
  | over {pc l c} (h : code[pc]? = none) : Rem code pc l c
  | plain {pc l c o n} (h : code[pc]? = some (o, n)) (hp : isPlain o = true) (r : Rem code (pc + 1) l c) : Rem code pc l (c + 1)
  | skip {pc l c e t n} (h : code[pc]? = some (.skipIfZero e t, n)) (hlt : pc < t) (r1 : Rem code (pc + 1) l c) (r2 : Rem code t l c) : Rem code pc l (c + 1)
  | times {pc l c m n} (h : code[pc]? = some (.times m, n)) (r : Rem code (pc + 1) (m :: l) c) : Rem code pc l (c + 1)
  | more {pc l c m t n} (h : code[pc]? = some (.again t, n)) (hm : 1 < m) (r : Rem code t ((m - 1) :: l) c) : Rem code pc (m :: l) (c + 1)
  | last {pc l c t n} (h : code[pc]? = some (.again t, n)) (r : Rem code (pc + 1) l c) : Rem code pc (1 :: l) (c + 1)

theorem Rem.mono {code : Code} {pc : Nat} {l : List Nat} {c d : Nat} (r : Rem code pc l c) (h : c ≤ d) : Rem code pc l d := by
  induction r generalizing d with
  | over h' => exact .over h'
  | plain h' hp r ih =>
    cases d with
    | zero => omega
    | succ d => exact .plain h' hp (ih (by omega))
  | skip h' hlt r1 r2 ih1 ih2 =>
    cases d with
    | zero => omega
    | succ d => exact .skip h' hlt (ih1 (by omega)) (ih2 (by omega))
  | times h' r ih =>
    cases d with
    | zero => omega
    | succ d => exact .times h' (ih (by omega))
  | more h' hm r ih =>
    cases d with
    | zero => omega
    | succ d => exact .more h' hm (ih (by omega))
  | last h' r ih =>
    cases d with
    | zero => omega
    | succ d => exact .last h' (ih (by omega))

/-! ### stretches of code -/
def Seg (code : Code) (a b m : Nat) : Prop := ∀ code' : Code, (∀ q, a ≤ q → q < b → code'[q]? = code[q]?) → ∀ l c, Rem code' b l c → Rem code' a l (c + m)
theorem Seg.nil (code : Code) (a : Nat) : Seg code a a 0 := fun _ _ _ _ r => r
theorem Seg.mono {code : Code} {a b m m' : Nat} (h : Seg code a b m) (hm : m ≤ m') : Seg code a b m' := fun c' e l c r => (h c' e l c r).mono (by omega)
theorem Seg.app {code : Code} {a b d m m' : Nat} (h : Seg code a b m) (h' : Seg code b d m') (hab : a ≤ b) (hbd : b ≤ d) : Seg code a d (m + m') := fun c' e l c r => by
  have r1 := h' c' (fun q h1 h2 => e q (by omega) h2) l c r
  have r2 := h c' (fun q h1 h2 => e q h1 (by omega)) l _ r1
  exact r2.mono (by omega)
theorem Seg.plain {code : Code} {a : Nat} {o : Instruction} {n : Nat} (h : code[a]? = some (o, n)) (hp : isPlain o = true) : Seg code a (a + 1) 1 := fun c' e l c r =>
  .plain ((e a (Nat.le_refl _) (by omega)).trans h) hp r
theorem Seg.skip {code : Code} {a g m : Nat} {e : Exp} {n : Nat} (h : code[a]? = some (.skipIfZero e g, n)) (hag : a < g) (s : Seg code (a + 1) g m) : Seg code a g (m + 1) := fun c' q l c r =>
  .skip ((q a (Nat.le_refl _) hag).trans h) hag (s c' (fun x h1 h2 => q x (by omega) h2) l c r) (r.mono (Nat.le_add_right _ _))
theorem Seg.loop {code : Code} {a e m k n n' : Nat} (h : code[a]? = some (.times k, n)) (hk : 1 ≤ k) (h' : code[e]? = some (.again (a + 1), n')) (hae : a < e) (s : Seg code (a + 1) e m) : Seg code a (e + 1) (1 + k * (m + 1)) := fun c' q l c r => by
  have ha := (q a (Nat.le_refl _) (by omega)).trans h
  have he := (q e (by omega) (by omega)).trans h'
  have body : ∀ l c, Rem c' e l c → Rem c' (a + 1) l (c + m) := fun l c r => s c' (fun x h1 h2 => q x (by omega) (by omega)) l c r
  have all : ∀ j, Rem c' (a + 1) ((j + 1) :: l) (c + (j + 1) * (m + 1)) := by
    intro j
    induction j with
    | zero => exact (body _ _ (.last he r)).mono (by omega)
    | succ j ih =>
      have r1 : Rem c' e ((j + 1 + 1) :: l) (c + (j + 1) * (m + 1) + 1) := .more he (by omega) ih
      refine (body _ _ r1).mono ?_
      rw [Nat.add_mul (j + 1) 1 (m + 1)]
      omega
  have z := all (k - 1)
  rw [show k - 1 + 1 = k by omega] at z
  exact (Rem.times ha z).mono (by omega)
theorem Seg.congr {c1 c2 : Code} {a b m : Nat} (h : Seg c1 a b m) (e : ∀ q, a ≤ q → q < b → c2[q]? = c1[q]?) : Seg c2 a b m := fun c' q l c r =>
  h c' (fun x h1 h2 => (q x h1 h2).trans (e x h1 h2)) l c r

/-! ### open blocks -/
def loopsIn (o : List (Nat × Nat)) : Nat := (o.filter fun x => x.2 == 1).length
/-- how often a place within these open blocks may be run -/
def W (o : List (Nat × Nat)) : Nat := if loopsIn o = 0 then 25 else if loopsIn o = 1 then 5 else 1
theorem W_pos (o : List (Nat × Nat)) : 1 ≤ W o := by unfold W; split <;> (try split) <;> omega
def Blocks (code : Code) : List (Nat × Nat) → Nat → Prop
  | [], hi => Seg code 0 hi (25 * hi)
  | (i, k) :: r, hi => i < hi ∧ ((k = 1 ∧ ∃ m n, code[i]? = some (.times m, n) ∧ 1 ≤ m ∧ m ≤ 5) ∨ (k = 0 ∧ ∃ e g n, code[i]? = some (.skipIfZero e g, n))) ∧
    Seg code (i + 1) hi (W ((i, k) :: r) * (hi - (i + 1))) ∧ Blocks code r i
theorem Blocks.congr {c1 c2 : Code} : ∀ {o : List (Nat × Nat)} {hi : Nat}, Blocks c1 o hi → (∀ q, q < hi → c2[q]? = c1[q]?) → Blocks c2 o hi
  | [], hi, h, e => Seg.congr h fun q _ h2 => e q h2
  | (i, k) :: r, hi, ⟨h1, h2, h3, h4⟩, e => by
    refine ⟨h1, ?_, h3.congr fun q _ z => e q z, h4.congr fun q z => e q (by omega)⟩
    rw [e i h1]
    exact h2
/-- behind the open blocks: a stretch more -/
theorem Blocks.more {code : Code} : ∀ {o : List (Nat × Nat)} {hi hi' m : Nat}, Blocks code o hi → Seg code hi hi' m → hi ≤ hi' → m ≤ W o * (hi' - hi) → Blocks code o hi'
  | [], hi, hi', m, h, s, hl, hm => by
    refine (Seg.app h s (by omega) hl).mono ?_
    have : W [] = 25 := rfl
    rw [this] at hm
    omega
  | (i, k) :: r, hi, hi', m, ⟨h1, h2, h3, h4⟩, s, hl, hm => by
    refine ⟨by omega, h2, (Seg.app h3 s (by omega) hl).mono ?_, h4⟩
    have e : hi' - (i + 1) = (hi - (i + 1)) + (hi' - hi) := by omega
    rw [e, Nat.mul_add]
    omega
theorem Blocks.plain {code : Code} {o : List (Nat × Nat)} {x : Instruction} {n : Nat} (h : Blocks code o code.length) (hp : isPlain x = true) : Blocks (code ++ [(x, n)]) o (code ++ [(x, n)]).length := by
  have h' : Blocks (code ++ [(x, n)]) o code.length := h.congr fun q hq => List.getElem?_append_left hq
  refine h'.more (hi' := (code ++ [(x, n)]).length) (m := 1) ?_ (by simp) ?_
  · have e : (code ++ [(x, n)]).length = code.length + 1 := by simp
    rw [e]
    exact Seg.plain (o := x) (n := n) (by simp) hp
  · have e : (code ++ [(x, n)]).length - code.length = 1 := by simp
    rw [e]
    have := W_pos o
    omega
theorem Blocks.openIf {code : Code} {o : List (Nat × Nat)} {e : Exp} {n : Nat} (h : Blocks code o code.length) : Blocks (code ++ [(Instruction.skipIfZero e 0, n)]) ((code.length, 0) :: o) (code ++ [(Instruction.skipIfZero e 0, n)]).length := by
  have el : (code ++ [(Instruction.skipIfZero e 0, n)]).length = code.length + 1 := by simp
  rw [el]
  refine ⟨by omega, .inr ⟨rfl, e, 0, n, by simp⟩, ?_, h.congr fun q hq => List.getElem?_append_left hq⟩
  exact (Seg.nil _ _).mono (by omega)
theorem Blocks.openTimes {code : Code} {o : List (Nat × Nat)} {m n : Nat} (h : Blocks code o code.length) (h1 : 1 ≤ m) (h5 : m ≤ 5) : Blocks (code ++ [(Instruction.times m, n)]) ((code.length, 1) :: o) (code ++ [(Instruction.times m, n)]).length := by
  have el : (code ++ [(Instruction.times m, n)]).length = code.length + 1 := by simp
  rw [el]
  refine ⟨by omega, .inl ⟨rfl, m, n, by simp, h1, h5⟩, ?_, h.congr fun q hq => List.getElem?_append_left hq⟩
  exact (Seg.nil _ _).mono (by omega)

theorem modify_get {code : Code} {i g q : Nat} (h : q ≠ i) : (setSkipTarget code i g)[q]? = code[q]? := by
  unfold setSkipTarget
  rw [List.getElem?_modify]
  simp only [if_neg (Ne.symm h)]
  cases code[q]? <;> rfl
theorem modify_at {code : Code} {i g n g0 : Nat} {e : Exp} (h : code[i]? = some (.skipIfZero e g0, n)) : (setSkipTarget code i g)[i]? = some (.skipIfZero e g, n) := by
  unfold setSkipTarget
  rw [List.getElem?_modify, h]
  simp only [if_true]
  rfl
theorem modify_len (code : Code) (i g : Nat) : (setSkipTarget code i g).length = code.length := by
  unfold setSkipTarget; simp
theorem Blocks.fi {code : Code} {i : Nat} {r : List (Nat × Nat)} (h : Blocks code ((i, 0) :: r) code.length) : Blocks (setSkipTarget code i code.length) r (setSkipTarget code i code.length).length := by
  rw [modify_len]
  obtain ⟨h1, h2, h3, h4⟩ := h
  rcases h2 with ⟨z, _⟩ | ⟨_, e, g, n, hi⟩
  · cases z
  · have h4' : Blocks (setSkipTarget code i code.length) r i := h4.congr fun q hq => modify_get (by omega)
    have s : Seg (setSkipTarget code i code.length) i code.length (W ((i, 0) :: r) * (code.length - (i + 1)) + 1) :=
      Seg.skip (modify_at hi) h1 (h3.congr fun q a b => modify_get (by omega))
    refine h4'.more s (by omega) ?_
    have ew : W ((i, 0) :: r) = W r := rfl
    rw [ew]
    have e2 : code.length - i = (code.length - (i + 1)) + 1 := by omega
    have := W_pos r
    rw [e2, Nat.mul_add]
    omega
theorem Blocks.again {code : Code} {i n : Nat} {r : List (Nat × Nat)} (h : Blocks code ((i, 1) :: r) code.length) (h2l : loopsIn ((i, 1) :: r) ≤ 2) : Blocks (code ++ [(Instruction.again (i + 1), n)]) r (code ++ [(Instruction.again (i + 1), n)]).length := by
  have el : (code ++ [(Instruction.again (i + 1), n)]).length = code.length + 1 := by simp
  rw [el]
  obtain ⟨h1, h2, h3, h4⟩ := h
  rcases h2 with ⟨_, m, n', hi, hm1, hm5⟩ | ⟨z, _⟩
  · have pre : ∀ q, q < code.length → (code ++ [(Instruction.again (i + 1), n)])[q]? = code[q]? := fun q hq => List.getElem?_append_left hq
    have h4' : Blocks (code ++ [(Instruction.again (i + 1), n)]) r i := h4.congr fun q hq => pre q (by omega)
    have s := Seg.loop (code := code ++ [(Instruction.again (i + 1), n)]) (a := i) (e := code.length) ((pre i h1).trans hi) hm1 (n' := n) (by simp) h1 (h3.congr fun q a b => pre q (by omega))
    refine h4'.more s (by omega) ?_
    have el1 : loopsIn ((i, 1) :: r) = loopsIn r + 1 := by unfold loopsIn; simp
    have e2 : code.length + 1 - i = (code.length - (i + 1)) + 2 := by omega
    rw [e2]
    generalize code.length - (i + 1) = d
    rw [el1] at h2l
    have hmul : m * (W ((i, 1) :: r) * d + 1) ≤ 5 * (W ((i, 1) :: r) * d + 1) := Nat.mul_le_mul_right _ hm5
    by_cases hz : loopsIn r = 0
    · have w1 : W ((i, 1) :: r) = 5 := by unfold W; rw [el1, hz]; rfl
      have w0 : W r = 25 := by unfold W; rw [hz]; rfl
      rw [w1] at hmul ⊢
      rw [w0]
      omega
    · have hz1 : loopsIn r = 1 := by omega
      have w1 : W ((i, 1) :: r) = 1 := by unfold W; rw [el1, hz1]; rfl
      have w0 : W r = 5 := by unfold W; rw [hz1]; rfl
      rw [w1] at hmul ⊢
      rw [w0]
      omega
  · cases z
theorem Blocks.rem {code : Code} (h : Blocks code [] code.length) (hl : code.length ≤ 40) : Rem code 0 [] 1000 := by
  have r := h code (fun _ _ _ => rfl) [] 0 (.over (by simp))
  exact r.mono (by omega)

/-! ### instances and states -/
def InstRem (p : Program) (i : TaskInstance) (c : Nat) : Prop := ∃ t, p.tasks[i.task]? = some t ∧ Rem t.code i.pc i.loops c
/-- what the steps of a program lean on -/
structure RunsOk (p : Program) : Prop where
  kinds : KindsOk p
  starts : ∀ t ∈ p.tasks, ∀ x ∈ t.code, ∀ u, x.1 = .start u → u < p.tasks.length
  rem : ∀ t ∈ p.tasks, Rem t.code 0 [] 1000

theorem eff_rem {p : Program} {cs cs' : List Val} {i j : TaskInstance} {n : Option Nat} {c : Nat} (h : InstRem p i c) (e : eff cs (form p i) = some (some (cs', j, n))) : ∃ d, d < c ∧ InstRem p j d := by
  obtain ⟨t, ht, r⟩ := h
  generalize hl : i.loops = L at r
  have hn : ∀ o k, t.code[i.pc]? = some (o, k) → form p i = formO p i o := fun o k q => by
    unfold form nextInstruction
    rw [ht]
    simp only [Option.bind_some, q]
  cases r with
  | over h =>
    unfold form nextInstruction at e
    rw [ht] at e
    simp only [Option.bind_some, h] at e
    cases e
  | @plain _ _ c' o k h hp r =>
    rw [hn o k h] at e
    refine ⟨c', by omega, t, ?_⟩
    have key : j.task = i.task ∧ j.pc = i.pc + 1 ∧ j.loops = i.loops := by
      cases o with
      | put c e' =>
        simp only [formO] at e
        cases q : evalExp i e' with
        | none => rw [q] at e; simp [eff] at e
        | some z =>
          rw [q] at e
          simp only [eff, Option.some.injEq, Option.map_eq_some_iff] at e
          obtain ⟨_, _, e⟩ := e
          simp at e
          rw [← e.2.1]; exact ⟨rfl, rfl, rfl⟩
      | narrow c a b =>
        simp only [formO] at e
        cases q : evalExp i a with
        | none => rw [q] at e; simp [eff] at e
        | some x =>
          cases q' : evalExp i b with
          | none => rw [q, q'] at e; simp [eff] at e
          | some y =>
            rw [q, q'] at e
            simp only [eff, Option.some.injEq, Option.map_eq_some_iff] at e
            obtain ⟨_, _, e⟩ := e
            simp at e
            rw [← e.2.1]; exact ⟨rfl, rfl, rfl⟩
      | wait w =>
        simp only [formO] at e
        cases q : condTest i w with
        | none => rw [q] at e; simp [eff] at e
        | some f =>
          rw [q] at e
          simp only [eff, Option.map_eq_some_iff] at e
          obtain ⟨a, q2, e⟩ := e
          by_cases hb : f (cs.getD (condCell w) .empty) = true
          · rw [if_pos hb] at q2
            cases q2
            simp at e
            rw [← e.2.1]; exact ⟨rfl, rfl, rfl⟩
          · rw [if_neg hb] at q2; cases q2
      | load v c =>
        simp only [formO, eff, Option.map_eq_some_iff] at e
        obtain ⟨a, q2, e⟩ := e
        cases q : cs.getD c .empty with
        | num z =>
          rw [q] at q2
          cases q2
          simp at e
          rw [← e.2.1]; exact ⟨rfl, rfl, rfl⟩
        | _ => rw [q] at q2; cases q2
      | assign v e' =>
        simp only [formO] at e
        cases q : evalExp i e' with
        | none => rw [q] at e; simp [eff] at e
        | some z =>
          rw [q] at e
          simp [eff] at e
          rw [← e.2.1]; exact ⟨rfl, rfl, rfl⟩
      | skipIfZero _ _ => cases hp
      | times _ => cases hp
      | again _ => cases hp
      | start u =>
        simp [formO, eff] at e
        rw [← e.2.1]; exact ⟨rfl, rfl, rfl⟩
    rw [key.1, key.2.1, key.2.2, hl]
    exact ⟨ht, r⟩
  | @skip _ _ c' e' g k h hlt r1 r2 =>
    rw [hn _ k h] at e
    refine ⟨c', by omega, t, ?_⟩
    simp only [formO] at e
    cases q : evalExp i e' with
    | none => rw [q] at e; simp [eff] at e
    | some z =>
      rw [q] at e
      by_cases hz : z = 0
      · simp only [hz, if_true, eff] at e
        simp at e
        rw [← e.2.1]
        exact ⟨ht, by rw [← hl] at r2; exact r2⟩
      · simp only [hz, if_false, eff] at e
        simp at e
        rw [← e.2.1]
        exact ⟨ht, by rw [← hl] at r1; exact r1⟩
  | @times _ _ c' m k h r =>
    rw [hn _ k h] at e
    refine ⟨c', by omega, t, ?_⟩
    simp [formO, eff] at e
    rw [← e.2.1]
    exact ⟨ht, by rw [← hl] at r; exact r⟩
  | @more _ l c' m g k h hm r =>
    rw [hn _ k h] at e
    refine ⟨c', by omega, t, ?_⟩
    simp only [formO, hl] at e
    rw [if_pos hm] at e
    simp [eff] at e
    rw [← e.2.1]
    exact ⟨ht, r⟩
  | @last _ l c' g k h r =>
    rw [hn _ k h] at e
    refine ⟨c', by omega, t, ?_⟩
    simp only [formO, hl] at e
    rw [if_neg (by omega)] at e
    simp [eff] at e
    rw [← e.2.1]
    exact ⟨ht, r⟩

theorem sum_set' : ∀ {l : List Nat} {k c d : Nat}, l[k]? = some c → (l.set k d).sum + c = l.sum + d
  | [], k, c, d, h => by simp at h
  | a :: l, 0, c, d, h => by simp at h; subst h; simp; omega
  | a :: l, k + 1, c, d, h => by
    have ih := sum_set' (l := l) (k := k) (c := c) (d := d) (by simpa using h)
    simp
    omega

/-- the measure: what is left of the instances, and 1001 for each instance that may still be started -/
def Meas (p : Program) (N : Nat) (s : State) : Prop := s.failed = true ∨ ∃ cs : List Nat, cs.length = s.insts.length ∧ (∀ (k : Nat) (i : TaskInstance) (c : Nat), s.insts[k]? = some i → cs[k]? = some c → InstRem p i c) ∧
  s.insts.length ≤ 40 ∧ cs.sum + 1001 * (40 - s.insts.length) + 1 ≤ N
theorem start_of {p : Program} {cs cs' : List Val} {i j : TaskInstance} {u : Nat} (h : eff cs (form p i) = some (some (cs', j, some u))) : ∃ n, nextInstruction p i = some (.start u, n) := by
  unfold form at h
  cases q : nextInstruction p i with
  | none => rw [q] at h; cases h
  | some x =>
    obtain ⟨o, n⟩ := x
    rw [q] at h
    simp only at h
    cases o with
    | start v =>
      simp [formO, eff] at h
      rw [h.2.2]; exact ⟨n, rfl⟩
    | put c e => exfalso; simp only [formO] at h; split at h <;> simp [eff] at h
    | narrow c a b => exfalso; simp only [formO] at h; split at h <;> simp [eff] at h
    | wait t => exfalso; simp only [formO] at h; split at h <;> simp [eff] at h
    | load v c => exfalso; simp [formO, eff] at h
    | assign v e => exfalso; simp only [formO] at h; split at h <;> simp [eff] at h
    | skipIfZero e t =>
      exfalso
      simp only [formO] at h
      split at h
      · simp [eff] at h
      · split at h <;> simp [eff] at h
    | times n => exfalso; simp [formO, eff] at h
    | again t =>
      exfalso
      simp only [formO] at h
      split at h
      · split at h <;> simp [eff] at h
      · simp [eff] at h
theorem meas_falls {p : Program} (R : RunsOk p) : Falls p (Meas p) := ⟨fun N s k a hM e => by
  obtain ⟨hs, i, hi, q⟩ := step_inv e
  rcases hM with hf | ⟨cs, h1, h2, h3, h4⟩
  · rw [hs] at hf; cases hf
  · cases f : eff s.cells (form p i) with
    | none => rw [f] at q; cases q
    | some r =>
      rw [f] at q
      cases r with
      | none =>
        have q := Option.some.inj q
        subst q
        exact ⟨0, by omega, .inl rfl⟩
      | some r =>
        obtain ⟨c', j, n⟩ := r
        have q := Option.some.inj q
        subst q
        have hk := (List.getElem?_eq_some_iff.mp hi).1
        obtain ⟨c, hc⟩ : ∃ c, cs[k]? = some c := ⟨cs[k]'(by omega), by simp⟩
        obtain ⟨d, hd, hj⟩ := eff_rem (h2 k i c hi hc) f
        have hsum := sum_set' (d := d) hc
        have hset : ∀ k' i' c', (s.insts.set k j)[k']? = some i' → (cs.set k d)[k']? = some c' → InstRem p i' c' := fun k' i' c' a b => by
          by_cases hkk : k = k'
          · subst hkk
            rw [List.getElem?_set_self hk] at a
            rw [List.getElem?_set_self (by omega)] at b
            cases a
            cases b
            exact hj
          · rw [List.getElem?_set_ne hkk] at a b
            exact h2 k' i' c' a b
        cases n with
        | none =>
          refine ⟨N - 1, by omega, .inr ⟨cs.set k d, ?_, hset, ?_, ?_⟩⟩
          · show (cs.set k d).length = (s.insts.set k j).length
            simp [h1]
          · show (s.insts.set k j).length ≤ 40
            simp [h3]
          · show (cs.set k d).sum + 1001 * (40 - (s.insts.set k j).length) + 1 ≤ N - 1
            rw [List.length_set]
            omega
        | some u =>
          by_cases hm : MAX_INSTANCES ≤ s.insts.length
          · rw [after_stop hm]
            exact ⟨0, by omega, .inl rfl⟩
          · rw [after_go hm]
            have hm' : s.insts.length < 40 := by unfold MAX_INSTANCES at hm; omega
            obtain ⟨ln, hn⟩ := start_of f
            unfold nextInstruction at hn
            obtain ⟨t, ht, hx⟩ := Option.bind_eq_some_iff.mp hn
            have hu := R.starts t (List.mem_of_getElem? ht) _ (List.mem_of_getElem? hx) u rfl
            have hnew : InstRem p (newInstance u) 1000 := ⟨p.tasks[u], by simp [newInstance], R.rem _ (by simp)⟩
            refine ⟨N - 1, by omega, .inr ⟨cs.set k d ++ [1000], ?_, ?_, ?_, ?_⟩⟩
            · show (cs.set k d ++ [1000]).length = (s.insts.set k j ++ [newInstance u]).length
              simp [h1]
            · intro k' i' c' a b
              have a : (s.insts.set k j ++ [newInstance u])[k']? = some i' := a
              by_cases hkk : k' < s.insts.length
              · rw [List.getElem?_append_left (by rw [List.length_set]; exact hkk)] at a
                rw [List.getElem?_append_left (by rw [List.length_set, h1]; exact hkk)] at b
                exact hset k' i' c' a b
              · rw [List.getElem?_append_right (by rw [List.length_set]; omega)] at a
                rw [List.getElem?_append_right (by rw [List.length_set, h1]; omega)] at b
                rw [List.length_set] at a b
                rw [h1] at b
                cases z : k' - s.insts.length with
                | zero =>
                  rw [z] at a b
                  simp at a b
                  rw [← a, ← b]
                  exact hnew
                | succ z' =>
                  rw [z] at a
                  simp at a
            · show (s.insts.set k j ++ [newInstance u]).length ≤ 40
              simp
              omega
            · show (cs.set k d ++ [1000]).sum + 1001 * (40 - (s.insts.set k j ++ [newInstance u]).length) + 1 ≤ N - 1
              simp
              omega⟩

/-! ### the round-robin scheduler of the specification comes to the end -/
theorem firstReady_none {p : Program} {s : State} {k : Nat} (h : firstReady p s k = none) : ∀ j, stepInstance p s j = none := by
  intro j
  unfold firstReady at h
  rw [List.findSome?_eq_none_iff] at h
  by_cases hj : j < s.insts.length
  · have z := h ((j + (s.insts.length - k % s.insts.length)) % s.insts.length) (by
      rw [List.mem_range]; exact Nat.mod_lt _ (by omega))
    have e : (k + (j + (s.insts.length - k % s.insts.length)) % s.insts.length) % s.insts.length = j := by
      have hk := Nat.mod_lt k (show 0 < s.insts.length by omega)
      have hd := Nat.div_add_mod k s.insts.length
      rw [Nat.add_mod_mod]
      have : k + (j + (s.insts.length - k % s.insts.length)) = j + s.insts.length * (k / s.insts.length + 1) := by
        rw [Nat.mul_add]
        omega
      rw [this, Nat.add_mul_mod_self_left, Nat.mod_eq_of_lt hj]
    simp only at z
    rw [e] at z
    simpa using z
  · rw [step_form]
    split
    · rfl
    · rw [List.getElem?_eq_none (by omega)]
theorem firstReady_some {p : Program} {s : State} {k : Nat} {x : Nat × State} (h : firstReady p s k = some x) : stepInstance p s x.1 = some x.2 := by
  unfold firstReady at h
  obtain ⟨j, _, hj⟩ := List.exists_of_findSome?_eq_some h
  simp only [Option.map_eq_some_iff] at hj
  obtain ⟨t, ht, e⟩ := hj
  rw [← e]
  exact ht
theorem roundRobin_ends {p : Program} {M : Nat → State → Prop} (F : Falls p M) : ∀ (f N k n : Nat) (s : State), M N s → N < f → Ends p s (runRoundRobin p f k n s).2
  | 0, N, k, n, s, _, h => by omega
  | f + 1, N, k, n, s, hM, h => by
    unfold runRoundRobin
    cases e : firstReady p s k with
    | none => exact .stop s (firstReady_none e)
    | some x =>
      have st := firstReady_some e
      obtain ⟨m, hm, hM'⟩ := F.down N s x.1 x.2 hM st
      exact .step x.1 st (roundRobin_ends F f m _ _ x.2 hM' (by omega))
end Gc
/-! Plain law 3: what a read program is like. -/
namespace Gc
open Xb15

theorem exc_bind {ε α β : Type} {x : Except ε α} {f : α → Except ε β} {y : β} (h : (x >>= f) = .ok y) : ∃ a, x = .ok a ∧ f a = .ok y := by
  cases x with
  | error e => cases h
  | ok a => exact ⟨a, rfl, h⟩

def AtomOk (nv : Nat) : Atom → Prop
  | .num z => -9999 ≤ z ∧ z ≤ 9999
  | .var k => k < nv
structure ExpOk (nv : Nat) (e : Exp) : Prop where
  first : AtomOk nv e.first
  rest : ∀ r ∈ e.rest, r.1 < 5 ∧ AtomOk nv r.2
  len : e.rest.length ≤ 99
def CellOk (p : Program) (c : Nat) (ok : Kind → Prop) : Prop := c < p.cells.length ∧ ok (cellKind p c)
def CondOk (p : Program) (nv : Nat) : Condition → Prop
  | .atleast c e => CellOk p c (· = .max) ∧ ExpOk nv e
  | .atmost c e => CellOk p c (· = .min) ∧ ExpOk nv e
  | .has c e => CellOk p c (· = .set) ∧ ExpOk nv e
  | .size c e => CellOk p c (· = .set) ∧ ExpOk nv e
  | .within c a b => CellOk p c (isRange · = true) ∧ ExpOk nv a ∧ ExpOk nv b
  | .known c => CellOk p c (fun k => k = .one ∨ k = .flag)
/-- an instruction of a task with nv variables, nt tasks being there -/
def InsOk (p : Program) (nt nv : Nat) : Instruction → Prop
  | .put c e => CellOk p c (isRange · = false) ∧ ExpOk nv e
  | .narrow c a b => CellOk p c (isRange · = true) ∧ ExpOk nv a ∧ ExpOk nv b
  | .wait t => CondOk p nv t
  | .load v c => CellOk p c (· = .one) ∧ v < nv
  | .assign v e => v < nv ∧ ExpOk nv e
  | .skipIfZero e _ => ExpOk nv e
  | .times n => 1 ≤ n ∧ n ≤ 5
  | .again _ => True
  | .start u => u < nt
structure TaskOk (p : Program) (nt : Nat) (t : Task) : Prop where
  len : t.code.length ≤ 40
  vars : t.vars.length ≤ 6
  name : isName t.name = true
  names : ∀ v ∈ t.vars, isName v = true
  ins : ∀ x ∈ t.code, InsOk p nt t.vars.length x.1
structure ProgOk (p : Program) : Prop where
  cells : p.cells.length ≤ 10
  tasks : p.tasks.length ≤ 8
  goes : p.goes.length ≤ 12
  goOk : ∀ g ∈ p.goes, g < p.tasks.length
  cname : ∀ c ∈ p.cells, isName c.name = true
  crange : ∀ c ∈ p.cells, ∀ a b, c.kind = .range a b → a ≤ b ∧ (-9999 ≤ a ∧ a ≤ 9999) ∧ (-9999 ≤ b ∧ b ≤ 9999)
  task : ∀ t ∈ p.tasks, TaskOk p p.tasks.length t
  rem : ∀ t ∈ p.tasks, Rem t.code 0 [] 1000
structure SOk (s : ParseState) : Prop where
  prog : ProgOk s.program
  none_ : s.now = none → s.opened = []
  some_ : ∀ t, s.now = some t → TaskOk s.program (s.program.tasks.length + 1) t ∧ Blocks t.code s.opened t.code.length ∧ loopsIn s.opened ≤ 2 ∧ s.opened.length ≤ 4 ∧ s.program.tasks.length < 8 ∧
    findCell s.program t.name = none ∧ findTask s.program t.name = none

/-! ### more variables, more tasks, more cells -/
theorem AtomOk.mono {nv nv' : Nat} (h : nv ≤ nv') : ∀ {a : Atom}, AtomOk nv a → AtomOk nv' a
  | .num _, x => x
  | .var _, x => Nat.lt_of_lt_of_le x h
theorem ExpOk.mono {nv nv' : Nat} (h : nv ≤ nv') {e : Exp} (x : ExpOk nv e) : ExpOk nv' e := ⟨x.first.mono h, fun r hr => ⟨(x.rest r hr).1, (x.rest r hr).2.mono h⟩, x.len⟩
/-- all cells are there as they were -/
def CellsIn (p p' : Program) : Prop := ∀ c, c < p.cells.length → c < p'.cells.length ∧ cellKind p' c = cellKind p c
theorem CellsIn.refl (p : Program) : CellsIn p p := fun _ h => ⟨h, rfl⟩
theorem CellsIn.of_eq {p p' : Program} (h : p'.cells = p.cells) : CellsIn p p' := fun c hc => ⟨by rw [h]; exact hc, by unfold cellKind; rw [h]⟩
theorem CellsIn.app {p p' : Program} {x : Cell} (h : p'.cells = p.cells ++ [x]) : CellsIn p p' := fun c hc => ⟨by rw [h]; simp; omega, by unfold cellKind; rw [h, List.getElem?_append_left hc]⟩
theorem CellOk.mono {p p' : Program} (h : CellsIn p p') {c : Nat} {ok : Kind → Prop} (x : CellOk p c ok) : CellOk p' c ok := ⟨(h c x.1).1, by rw [(h c x.1).2]; exact x.2⟩
theorem CondOk.mono {p p' : Program} (h : CellsIn p p') {nv nv' : Nat} (hv : nv ≤ nv') : ∀ {t : Condition}, CondOk p nv t → CondOk p' nv' t
  | .atleast _ _, x => ⟨x.1.mono h, x.2.mono hv⟩
  | .atmost _ _, x => ⟨x.1.mono h, x.2.mono hv⟩
  | .has _ _, x => ⟨x.1.mono h, x.2.mono hv⟩
  | .size _ _, x => ⟨x.1.mono h, x.2.mono hv⟩
  | .within _ _ _, x => ⟨x.1.mono h, x.2.1.mono hv, x.2.2.mono hv⟩
  | .known c, x => CellOk.mono h (show CellOk p c (fun k => k = .one ∨ k = .flag) from x)
theorem InsOk.mono {p p' : Program} (h : CellsIn p p') {nt nt' nv nv' : Nat} (ht : nt ≤ nt') (hv : nv ≤ nv') : ∀ {o : Instruction}, InsOk p nt nv o → InsOk p' nt' nv' o
  | .put _ _, x => ⟨x.1.mono h, x.2.mono hv⟩
  | .narrow _ _ _, x => ⟨x.1.mono h, x.2.1.mono hv, x.2.2.mono hv⟩
  | .wait _, x => CondOk.mono h hv x
  | .load _ _, x => ⟨x.1.mono h, Nat.lt_of_lt_of_le x.2 hv⟩
  | .assign _ _, x => ⟨Nat.lt_of_lt_of_le x.1 hv, x.2.mono hv⟩
  | .skipIfZero _ _, x => ExpOk.mono hv x
  | .times _, x => x
  | .again _, _ => trivial
  | .start _, x => Nat.lt_of_lt_of_le x ht
theorem TaskOk.mono {p p' : Program} (h : CellsIn p p') {nt nt' : Nat} (ht : nt ≤ nt') {t : Task} (x : TaskOk p nt t) : TaskOk p' nt' t :=
  ⟨x.len, x.vars, x.name, x.names, fun y hy => (x.ins y hy).mono h ht (Nat.le_refl _)⟩

/-! ### the parser's parts -/
theorem fold_digits : ∀ (w : Bytes) (n k : Nat), (w.all fun b => decide (48 ≤ b) && decide (b ≤ 57)) = true → n < 10 ^ k → w.foldl (fun n b => n * 10 + (b - 48)) n < 10 ^ (k + w.length)
  | [], n, k, _, h => h
  | b :: w, n, k, hw, h => by
    simp only [List.all_cons, Bool.and_eq_true, decide_eq_true_eq] at hw
    have ih := fold_digits w (n * 10 + (b - 48)) (k + 1) hw.2 (by rw [Nat.pow_succ]; omega)
    show w.foldl _ (n * 10 + (b - 48)) < 10 ^ (k + (w.length + 1))
    rw [show k + (w.length + 1) = k + 1 + w.length by omega]
    exact ih
theorem parseNat_lt {w : Bytes} {n : Nat} (h : parseNat? w = some n) : n < 10000 := by
  unfold parseNat? at h
  split at h
  · cases h
  · rename_i hc
    have e := Option.some.inj h
    simp only [not_or] at hc
    have hd : (w.all fun b => decide (48 ≤ b) && decide (b ≤ 57)) = true := by
      cases q : (w.all fun b => decide (48 ≤ b) && decide (b ≤ 57)) with
      | true => rfl
      | false => exact (hc.2.2.1 q).elim
    have z := fold_digits w 0 0 hd (by decide)
    rw [e] at z
    have : (10 : Nat) ^ (0 + w.length) ≤ 10 ^ 4 := Nat.pow_le_pow_right (by decide) (by omega)
    omega
theorem parseInt_range {w : Bytes} {z : Int} (h : parseInt? w = some z) : -9999 ≤ z ∧ z ≤ 9999 := by
  unfold parseInt? at h
  split at h
  · rename_i w'
    cases q : parseNat? w' with
    | none => rw [q] at h; cases h
    | some n =>
      rw [q] at h
      have := parseNat_lt q
      have e : -(n : Int) = z := Option.some.inj h
      omega
  · rename_i w' _
    cases q : parseNat? w with
    | none => rw [q] at h; cases h
    | some n =>
      rw [q] at h
      have := parseNat_lt q
      have e : (n : Int) = z := Option.some.inj h
      omega
theorem findIdx_lt {α : Type} {l : List α} {f : α → Bool} {k : Nat} (h : l.findIdx? f = some k) : k < l.length := by
  obtain ⟨h1, _⟩ := List.findIdx?_eq_some_iff_getElem.mp h
  exact h1
theorem parseAtom_ok {t : Task} {w : Bytes} {a : Atom} (h : parseAtom t w = .ok a) : AtomOk t.vars.length a := by
  unfold parseAtom at h
  split at h
  · rename_i z hz
    cases h
    exact parseInt_range hz
  · split at h
    · split at h
      · rename_i k hk
        cases h
        exact findIdx_lt hk
      · cases h
    · cases h
theorem parseOperator_lt {w : Bytes} {k : Nat} (h : parseOperator w = some k) : k < 5 := by
  unfold parseOperator at h
  exact findIdx_lt h
theorem parsePairs_ok {t : Task} : ∀ {f : Nat} {l : List Bytes} {r : List (Nat × Atom)}, parsePairs t f l = .ok r → (∀ x ∈ r, x.1 < 5 ∧ AtomOk t.vars.length x.2) ∧ r.length < f ∧ l.length = 2 * r.length
  | 0, _, _, h => by simp [parsePairs] at h
  | f + 1, [], r, h => by
    simp [parsePairs] at h
    subst h
    simp
  | f + 1, [s], r, h => by simp [parsePairs] at h
  | f + 1, s :: w :: l, r, h => by
    unfold parsePairs at h
    split at h
    · cases h
    · rename_i k hk
      obtain ⟨a, ha, h⟩ := exc_bind h
      obtain ⟨r', hr, h⟩ := exc_bind h
      cases h
      obtain ⟨h1, h2, h3⟩ := parsePairs_ok hr
      refine ⟨fun x hx => ?_, by simp; omega, by simp; omega⟩
      rcases List.mem_cons.mp hx with rfl | hx
      · exact ⟨parseOperator_lt hk, parseAtom_ok ha⟩
      · exact h1 x hx
theorem parseExp_ok {t : Task} {l : List Bytes} {e : Exp} (h : parseExp t l = .ok e) : ExpOk t.vars.length e := by
  unfold parseExp at h
  split at h
  · cases h
  · obtain ⟨a, ha, h⟩ := exc_bind h
    obtain ⟨r, hr, h⟩ := exc_bind h
    cases h
    obtain ⟨h1, h2, _⟩ := parsePairs_ok hr
    exact ⟨parseAtom_ok ha, h1, by show r.length ≤ 99; omega⟩
theorem parseExpPair_ok {t : Task} {l : List Bytes} {x : Exp × Exp} (h : parseExpPair t l = .ok x) : ExpOk t.vars.length x.1 ∧ ExpOk t.vars.length x.2 := by
  unfold parseExpPair at h
  split at h
  · obtain ⟨a, ha, h⟩ := exc_bind h
    obtain ⟨r, hr, h⟩ := exc_bind h
    cases h
    exact ⟨parseExp_ok ha, parseExp_ok hr⟩
  · cases h
theorem requireCell_ok {p : Program} {n : Bytes} {ok : Kind → Bool} {c : Nat} (h : requireCell p n ok = .ok c) : CellOk p c (ok · = true) := by
  unfold requireCell at h
  split at h
  · cases h
  · split at h
    · cases h
    · rename_i c' hc
      split at h
      · rename_i hk
        cases h
        exact ⟨findIdx_lt hc, hk⟩
      · cases h
theorem add_ok {s s' : ParseState} {t : Task} {o : Instruction} {n : Nat} (h : addInstruction s t o n = .ok s') : t.code.length < 40 ∧ s' = { s with now := some { t with code := t.code ++ [(o, n)] } } := by
  unfold addInstruction at h
  split at h
  · cases h
  · rename_i hl
    cases h
    exact ⟨by omega, rfl⟩
theorem assign_ok {t t' : Task} {w : Bytes} {k : Nat} (h : assignVariable t w = .ok (t', k)) (hv : t.vars.length ≤ 6) (hn : ∀ v ∈ t.vars, isName v = true) :
    k < t'.vars.length ∧ t'.code = t.code ∧ t'.name = t.name ∧ t.vars.length ≤ t'.vars.length ∧ t'.vars.length ≤ 6 ∧ ∀ v ∈ t'.vars, isName v = true := by
  unfold assignVariable at h
  split at h
  · cases h
  · rename_i hw
    split at h
    · rename_i k' hk
      cases h
      exact ⟨findIdx_lt hk, rfl, rfl, Nat.le_refl _, hv, hn⟩
    · split at h
      · cases h
      · cases h
        refine ⟨by simp, rfl, rfl, by simp, by simp; omega, fun v hv' => ?_⟩
        rcases List.mem_append.mp hv' with h1 | h1
        · exact hn v h1
        · simp at h1
          subst h1
          cases q : isName v with
          | true => rfl
          | false => exact (hw q).elim

/-! ### a line outside a task -/
theorem isName_of {w : Bytes} (h : ¬ isName w = false) : isName w = true := by
  cases q : isName w with
  | true => rfl
  | false => exact (h q).elim
theorem declare_ok {s s' : ParseState} {n : Bytes} {kind : Kind} (hs : SOk s) (hn : s.now = none) (hk : ∀ a b, kind = .range a b → a ≤ b ∧ (-9999 ≤ a ∧ a ≤ 9999) ∧ (-9999 ≤ b ∧ b ≤ 9999))
    (h : (if isName n = false then Except.error 1 else if isUnused s n = false then .error 2 else if 10 ≤ s.program.cells.length then .error 5 else .ok { s with program := { s.program with cells := s.program.cells ++ [⟨n, kind⟩] } } : Except ErrorCode ParseState) = .ok s') : SOk s' := by
  split at h
  · cases h
  · rename_i h1
    split at h
    · cases h
    · split at h
      · cases h
      · rename_i h3
        cases h
        have P := hs.prog
        have ci : CellsIn s.program { s.program with cells := s.program.cells ++ [⟨n, kind⟩] } := CellsIn.app rfl
        refine ⟨⟨by simp; omega, P.tasks, P.goes, P.goOk, fun c hc => ?_, fun c hc a b e => ?_, fun t ht => (P.task t ht).mono ci (Nat.le_refl _), P.rem⟩, hs.none_, fun t ht => ?_⟩
        · rcases List.mem_append.mp hc with h1' | h1'
          · exact P.cname c h1'
          · simp at h1'
            subst h1'
            exact isName_of h1
        · rcases List.mem_append.mp hc with h1' | h1'
          · exact P.crange c h1' a b e
          · simp at h1'
            subst h1'
            exact hk a b e
        · rw [hn] at ht; cases ht
theorem outer_ok {s s' : ParseState} {k : Bytes} {ws : List Bytes} (hs : SOk s) (hn : s.now = none) (h : parseOuter s k ws = .ok s') : SOk s' := by
  unfold parseOuter at h
  simp only at h
  have noR : ∀ {kd : Kind}, isRange kd = false → ∀ a b, kd = .range a b → a ≤ b ∧ (-9999 ≤ a ∧ a ≤ 9999) ∧ (-9999 ≤ b ∧ b ≤ 9999) := fun h a b e => by rw [e] at h; simp [isRange] at h
  split at h
  · split at h
    · rename_i n w
      split at h
      · exact declare_ok hs hn (noR rfl) h
      split at h
      · exact declare_ok hs hn (noR rfl) h
      split at h
      · exact declare_ok hs hn (noR rfl) h
      split at h
      · exact declare_ok hs hn (noR rfl) h
      split at h
      · exact declare_ok hs hn (noR rfl) h
      · cases h
    · split at h
      · cases h
      · split at h
        · split at h
          · rename_i x y hx hy hxy
            exact declare_ok hs hn (fun a b e => by cases e; exact ⟨hxy, parseInt_range hx, parseInt_range hy⟩) h
          · cases h
        · cases h
    · cases h
  · split at h
    · split at h
      · rename_i n
        split at h
        · cases h
        · rename_i h1
          split at h
          · cases h
          · rename_i h2
            split at h
            · cases h
            · rename_i h3
              cases h
              have hu : isUnused s n = true := by
                cases q : isUnused s n with
                | true => rfl
                | false => exact (h2 q).elim
              unfold isUnused at hu
              rw [Bool.and_eq_true, Option.isNone_iff_eq_none, Option.isNone_iff_eq_none] at hu
              refine ⟨hs.prog, fun z => (by cases z), fun t ht => ?_⟩
              cases ht
              refine ⟨⟨by simp, by simp, isName_of h1, by simp, by simp⟩, ?_, by simp [loopsIn], by simp, by show s.program.tasks.length < 8; omega, hu.1, hu.2⟩
              exact (Seg.nil _ _)
      · cases h
    · split at h
      · split at h
        · rename_i n
          split at h
          · cases h
          · split at h
            · cases h
            · rename_i t ht
              split at h
              · cases h
              · cases h
                have P := hs.prog
                refine ⟨⟨P.cells, P.tasks, by simp; omega, fun g hg => ?_, P.cname, P.crange, fun u hu => TaskOk.mono (p := s.program) (p' := { s.program with goes := s.program.goes ++ [t] }) (CellsIn.of_eq rfl) (Nat.le_refl s.program.tasks.length) (P.task u hu), P.rem⟩, hs.none_, fun t ht' => ?_⟩
                · rcases List.mem_append.mp hg with h1' | h1'
                  · exact P.goOk g h1'
                  · simp at h1'
                    subst h1'
                    exact findIdx_lt ht
                · rw [hn] at ht'; cases ht'
        · cases h
      · cases h

/-! ### a line inside a task -/
/-- an instruction is added: the task, its variables grown perhaps -/
theorem added {s s' : ParseState} {t t' : Task} {o : Instruction} {n : Nat} {op : List (Nat × Nat)} (hs : SOk s) (ht : s.now = some t)
    (h : addInstruction { s with opened := op } t' o n = .ok s') (hc : t'.code = t.code) (hn : t'.name = t.name) (hv : t.vars.length ≤ t'.vars.length) (hv6 : t'.vars.length ≤ 6) (hvn : ∀ v ∈ t'.vars, isName v = true)
    (ho : InsOk s.program (s.program.tasks.length + 1) t'.vars.length o) (hb : Blocks (t.code ++ [(o, n)]) op (t.code ++ [(o, n)]).length) (hl : loopsIn op ≤ 2) (hop : op.length ≤ 4) : SOk s' := by
  obtain ⟨h1, e⟩ := add_ok h
  subst e
  obtain ⟨T, B, L, O, N, c1, c2⟩ := hs.some_ t ht
  refine ⟨hs.prog, fun z => (by cases z), fun t2 h2 => ?_⟩
  cases h2
  refine ⟨⟨by simp; omega, hv6, (by show isName t'.name = true; rw [hn]; exact T.name), hvn, fun x hx => ?_⟩, by simp only [hc]; exact hb, hl, hop, N, by show findCell s.program t'.name = none; rw [hn]; exact c1, by show findTask s.program t'.name = none; rw [hn]; exact c2⟩
  rcases List.mem_append.mp hx with h1' | h1'
  · rw [hc] at h1'
    exact (T.ins x h1').mono (.refl _) (Nat.le_refl _) hv
  · simp at h1'
    subst h1'
    exact ho
theorem added_plain {s s' : ParseState} {t : Task} {o : Instruction} {n : Nat} (hs : SOk s) (ht : s.now = some t) (h : addInstruction s t o n = .ok s') (hp : isPlain o = true)
    (ho : InsOk s.program (s.program.tasks.length + 1) t.vars.length o) : SOk s' := by
  obtain ⟨T, B, L, O, N, c1, c2⟩ := hs.some_ t ht
  exact added (op := s.opened) hs ht h rfl rfl (Nat.le_refl _) T.vars T.names ho (B.plain hp) L O
theorem loopsIn_times (i : Nat) (r : List (Nat × Nat)) (h : loopsIn r < 2) : loopsIn ((i, 1) :: r) ≤ 2 := by
  have : loopsIn ((i, 1) :: r) = loopsIn r + 1 := by unfold loopsIn; simp
  omega
theorem kind_eq {k k' : Kind} (h : (k == k') = true) : k = k' := by
  rw [beq_iff_eq] at h; exact h
theorem inner_ok {s s' : ParseState} {t : Task} {n : Nat} {k : Bytes} {ws : List Bytes} (hs : SOk s) (ht : s.now = some t) (h : parseInner s t n k ws = .ok s') : SOk s' := by
  obtain ⟨T, B, L, O, N, c1, c2⟩ := hs.some_ t ht
  unfold parseInner at h
  dsimp only at h
  by_cases q_put : k = ascii "put"
  · -- put
    rw [if_pos q_put] at h
    split at h
    · obtain ⟨c, hc, h⟩ := exc_bind h
      obtain ⟨e, he, h⟩ := exc_bind h
      have q := requireCell_ok hc
      exact added_plain hs ht h rfl ⟨⟨q.1, by simpa using q.2⟩, parseExp_ok he⟩
    · cases h
  rw [if_neg q_put] at h
  by_cases q_narrow : k = ascii "narrow"
  · -- narrow
    rw [if_pos q_narrow] at h
    split at h
    · obtain ⟨c, hc, h⟩ := exc_bind h
      obtain ⟨e, he, h⟩ := exc_bind h
      exact added_plain hs ht h rfl ⟨requireCell_ok hc, parseExpPair_ok he⟩
    · cases h
  rw [if_neg q_narrow] at h
  by_cases q_wait : k = ascii "wait"
  · -- wait
    rw [if_pos q_wait] at h
    split at h
    · split at h
      · cases h
      · obtain ⟨c, hc, h⟩ := exc_bind h
        have q := requireCell_ok hc
        refine added_plain hs ht h rfl ⟨q.1, ?_⟩
        have q2 := q.2
        simp only [Bool.or_eq_true, beq_iff_eq] at q2
        exact q2
    · split at h
      · obtain ⟨c, hc, h⟩ := exc_bind h
        obtain ⟨e, he, h⟩ := exc_bind h
        exact added_plain hs ht h rfl ⟨⟨(requireCell_ok hc).1, kind_eq (requireCell_ok hc).2⟩, parseExp_ok he⟩
      split at h
      · obtain ⟨c, hc, h⟩ := exc_bind h
        obtain ⟨e, he, h⟩ := exc_bind h
        exact added_plain hs ht h rfl ⟨⟨(requireCell_ok hc).1, kind_eq (requireCell_ok hc).2⟩, parseExp_ok he⟩
      split at h
      · obtain ⟨c, hc, h⟩ := exc_bind h
        obtain ⟨e, he, h⟩ := exc_bind h
        exact added_plain hs ht h rfl ⟨⟨(requireCell_ok hc).1, kind_eq (requireCell_ok hc).2⟩, parseExp_ok he⟩
      split at h
      · obtain ⟨c, hc, h⟩ := exc_bind h
        obtain ⟨e, he, h⟩ := exc_bind h
        exact added_plain hs ht h rfl ⟨⟨(requireCell_ok hc).1, kind_eq (requireCell_ok hc).2⟩, parseExp_ok he⟩
      split at h
      · obtain ⟨c, hc, h⟩ := exc_bind h
        obtain ⟨e, he, h⟩ := exc_bind h
        exact added_plain hs ht h rfl ⟨requireCell_ok hc, parseExpPair_ok he⟩
      · cases h
    · cases h
  rw [if_neg q_wait] at h
  by_cases q_read : k = ascii "read"
  · -- read
    rw [if_pos q_read] at h
    split at h
    · obtain ⟨c, hc, h⟩ := exc_bind h
      obtain ⟨x, hx, h⟩ := exc_bind h
      obtain ⟨t', kk⟩ := x
      obtain ⟨a1, a2, a3, a4, a5, a6⟩ := assign_ok hx T.vars T.names
      exact added (op := s.opened) hs ht h a2 a3 a4 a5 a6 ⟨⟨(requireCell_ok hc).1, kind_eq (requireCell_ok hc).2⟩, a1⟩ (B.plain rfl) L O
    · cases h
  rw [if_neg q_read] at h
  by_cases q_let : k = ascii "let"
  · -- let
    rw [if_pos q_let] at h
    split at h
    · obtain ⟨e, he, h⟩ := exc_bind h
      obtain ⟨x, hx, h⟩ := exc_bind h
      obtain ⟨t', kk⟩ := x
      obtain ⟨a1, a2, a3, a4, a5, a6⟩ := assign_ok hx T.vars T.names
      exact added (op := s.opened) hs ht h a2 a3 a4 a5 a6 ⟨a1, (parseExp_ok he).mono a4⟩ (B.plain rfl) L O
    · cases h
  rw [if_neg q_let] at h
  by_cases q_if : k = ascii "if"
  · -- if
    rw [if_pos q_if] at h
    obtain ⟨e, he, h⟩ := exc_bind h
    split at h
    · cases h
    · rename_i h4
      exact added hs ht h rfl rfl (Nat.le_refl _) T.vars T.names (parseExp_ok he) B.openIf (by unfold loopsIn at *; simpa using L) (by simp; omega)
  rw [if_neg q_if] at h
  by_cases q_fi : k = ascii "fi" ∧ ws = []
  · -- fi
    rw [if_pos q_fi] at h
    split at h
    · rename_i i r ho
      cases h
      rw [ho] at B L O
      refine ⟨hs.prog, fun z => (by cases z), fun t2 h2 => ?_⟩
      cases h2
      refine ⟨⟨by rw [modify_len]; exact T.len, T.vars, T.name, T.names, fun x hx => ?_⟩, B.fi, by unfold loopsIn at *; simpa using L, by simp at O; show r.length ≤ 4; omega, N, c1, c2⟩
      obtain ⟨q, hq⟩ := List.mem_iff_getElem?.mp hx
      by_cases hqi : q = i
      · subst hqi
        obtain ⟨_, b2, _, _⟩ := B
        rcases b2 with ⟨z, _⟩ | ⟨_, e, g, n', hi⟩
        · cases z
        · rw [modify_at hi] at hq
          cases hq
          have z : ExpOk t.vars.length e := T.ins _ (List.mem_of_getElem? hi)
          exact z
      · rw [modify_get hqi] at hq
        exact T.ins x (List.mem_of_getElem? hq)
    · cases h
  rw [if_neg q_fi] at h
  by_cases q_times : k = ascii "times"
  · -- times
    rw [if_pos q_times] at h
    split at h
    · split at h
      · split at h
        · cases h
        · rename_i hm
          split at h
          · cases h
          · rename_i ho
            have ho2 : loopsIn s.opened < 2 := by unfold loopsIn; omega
            exact added hs ht h rfl rfl (Nat.le_refl _) T.vars T.names ⟨by omega, by omega⟩ (B.openTimes (by omega) (by omega)) (loopsIn_times _ _ ho2) (by simp; omega)
      · cases h
    · cases h
  rw [if_neg q_times] at h
  by_cases q_again : k = ascii "again" ∧ ws = []
  · -- again
    rw [if_pos q_again] at h
    split at h
    · rename_i i r ho
      rw [ho] at B L O
      have L' : loopsIn r ≤ 2 := by
        have : loopsIn ((i, 1) :: r) = loopsIn r + 1 := by unfold loopsIn; simp
        omega
      exact added hs ht h rfl rfl (Nat.le_refl _) T.vars T.names trivial (B.again L) L' (by simp at O; omega)
    · cases h
  rw [if_neg q_again] at h
  by_cases q_start : k = ascii "start"
  · -- start
    rw [if_pos q_start] at h
    split at h
    · split at h
      · cases h
      · split at h
        · exact added_plain hs ht h rfl (Nat.lt_succ_self _)
        · split at h
          · cases h
          · rename_i i hi
            exact added_plain hs ht h rfl (Nat.lt_succ_of_lt (findIdx_lt hi))
    · cases h
  rw [if_neg q_start] at h
  by_cases q_end : k = ascii "end" ∧ ws = []
  · -- end
    rw [if_pos q_end] at h
    split at h
    · cases h
    · rename_i ho
      cases h
      have ho : s.opened = [] := Classical.byContradiction fun z => ho z
      rw [ho] at B
      have P := hs.prog
      have ci : CellsIn s.program { s.program with tasks := s.program.tasks ++ [t] } := .of_eq rfl
      refine ⟨⟨P.cells, by simp; omega, P.goes, fun g hg => (by have := P.goOk g hg; simp; omega), P.cname, P.crange, fun u hu => ?_, fun u hu => ?_⟩, fun _ => ho, fun t2 h2 => (by cases h2)⟩
      · rcases List.mem_append.mp hu with h1 | h1
        · exact (P.task u h1).mono ci (by simp)
        · simp at h1
          subst h1
          exact T.mono ci (by simp)
      · rcases List.mem_append.mp hu with h1 | h1
        · exact P.rem u h1
        · simp at h1
          subst h1
          exact B.rem T.len
  rw [if_neg q_end] at h
  cases h

/-! ### whole texts -/
theorem line_ok {s s' : ParseState} {n : Nat} {l : Bytes} (hs : SOk s) (h : parseLine s n l = .ok s') : SOk s' := by
  unfold parseLine at h
  split at h
  · cases h
    exact hs
  · split at h
    · rename_i hn
      exact outer_ok hs hn h
    · rename_i t ht
      exact inner_ok hs ht h
theorem lines_ok : ∀ {ls : List Bytes} {n : Nat} {s : ParseState} {p : Program}, SOk s → parseLines n s ls = .ok p → ProgOk p
  | [], n, s, p, hs, h => by
    unfold parseLines at h
    split at h
    · cases h
    · cases h
      exact hs.prog
  | l :: ls, n, s, p, hs, h => by
    unfold parseLines at h
    split at h
    · cases h
    · rename_i r hr
      exact lines_ok (line_ok hs hr) h
theorem start_ok : SOk ⟨⟨[], [], []⟩, none, []⟩ := ⟨⟨by simp, by simp, by simp, by simp, by simp, by simp, by simp, by simp⟩, fun _ => rfl, fun t h => (by cases h)⟩
theorem parseText_ok {b : Bytes} {p : Program} (h : parseText b = .ok p) : ProgOk p := lines_ok start_ok h

/-! ### what its runs lean on -/
theorem ProgOk.runs {p : Program} (P : ProgOk p) : RunsOk p := ⟨fun t ht x hx => by
    have o := (P.task t ht).ins x hx
    obtain ⟨o', n⟩ := x
    cases o' with
    | put c e => exact o.1.2
    | narrow c a b => exact o.1.2
    | wait w =>
      cases w with
      | atleast c e => exact o.1.2
      | atmost c e => exact o.1.2
      | has c e => exact o.1.2
      | size c e => exact o.1.2
      | within c a b => exact o.1.2
      | known c => exact o.2
    | load v c => exact o.1.2
    | _ => trivial, fun t ht x hx u e => by
    have o := (P.task t ht).ins x hx
    rw [e] at o
    exact o, P.rem⟩
end Gc
/-! No error has code 0 -/
namespace Gc
open Xb15
def NZ {α : Type} (r : Except Nat α) : Prop := ∀ c, r = .error c → c ≠ 0
theorem NZ.ok {α : Type} (a : α) : NZ (.ok a) := fun _ h => by cases h
theorem NZ.err {α : Type} (c : Nat) (h : c ≠ 0 := by decide) : NZ (.error c : Except Nat α) := fun _ e => by cases e; exact h
theorem NZ.bind {α β : Type} {r : Except Nat α} {f : α → Except Nat β} (h : NZ r) (hf : ∀ a, NZ (f a)) : NZ (r >>= f) := by
  cases r with
  | error c => exact fun d e => h d (by cases e; rfl)
  | ok a => exact hf a
theorem nz_atom (t : Task) (w : Bytes) : NZ (parseAtom t w) := by
  unfold parseAtom
  split
  · exact .ok _
  · split
    · split
      · exact .ok _
      · exact .err _
    · exact .err _
theorem nz_pairs (t : Task) : ∀ (f : Nat) (l : List Bytes), NZ (parsePairs t f l)
  | 0, l => by
    cases l <;> exact NZ.err _
  | f + 1, [] => .ok _
  | f + 1, [_] => .err _
  | f + 1, s :: w :: l => by
    unfold parsePairs
    split
    · exact .err _
    · exact (nz_atom t w).bind fun a => (nz_pairs t f l).bind fun r => .ok _
theorem nz_exp (t : Task) : ∀ l : List Bytes, NZ (parseExp t l)
  | [] => .err _
  | w :: l => (nz_atom t w).bind fun a => (nz_pairs t 100 l).bind fun r => .ok _
theorem nz_two (t : Task) (l : List Bytes) : NZ (parseExpPair t l) := by
  unfold parseExpPair
  split
  · exact (nz_exp t _).bind fun a => (nz_exp t _).bind fun r => .ok _
  · exact .err _
theorem nz_cell (p : Program) (n : Bytes) (ok : Kind → Bool) : NZ (requireCell p n ok) := by
  unfold requireCell
  split
  · exact .err _
  · split
    · exact .err _
    · split
      · exact .ok _
      · exact .err _
theorem nz_add (s : ParseState) (t : Task) (o : Instruction) (n : Nat) : NZ (addInstruction s t o n) := by
  unfold addInstruction
  split
  · exact .err _
  · exact .ok _
theorem nz_var (t : Task) (w : Bytes) : NZ (assignVariable t w) := by
  unfold assignVariable
  split
  · exact .err _
  · split
    · exact .ok _
    · split
      · exact .err _
      · exact .ok _
theorem nz_outer (s : ParseState) (k : Bytes) (ws : List Bytes) : NZ (parseOuter s k ws) := by
  unfold parseOuter
  dsimp only
  repeat' split
  all_goals first
    | exact NZ.err _
    | exact NZ.ok _
theorem NZ.ite {α : Type} {p : Prop} [Decidable p] {a b : Except Nat α} (h1 : NZ a) (h2 : NZ b) : NZ (if p then a else b) := by
  by_cases hp : p
  · rw [if_pos hp]; exact h1
  · rw [if_neg hp]; exact h2
theorem nz_inner (s : ParseState) (t : Task) (n : Nat) (k : Bytes) (ws : List Bytes) : NZ (parseInner s t n k ws) := by
  unfold parseInner
  dsimp only
  refine .ite ?_ (.ite ?_ (.ite ?_ (.ite ?_ (.ite ?_ (.ite ?_ (.ite ?_ (.ite ?_ (.ite ?_ (.ite ?_ (.ite ?_ (.err _)))))))))))
  · split
    · exact (nz_cell _ _ _).bind fun c => (nz_exp _ _).bind fun e => nz_add _ _ _ _
    · exact NZ.err _
  · split
    · exact (nz_cell _ _ _).bind fun c => (nz_two _ _).bind fun e => nz_add _ _ _ _
    · exact NZ.err _
  · split
    · exact .ite (NZ.err _) ((nz_cell _ _ _).bind fun c => nz_add _ _ _ _)
    · refine .ite ?_ (.ite ?_ (.ite ?_ (.ite ?_ (.ite ?_ (NZ.err _)))))
      · exact (nz_cell _ _ _).bind fun c => (nz_exp _ _).bind fun e => nz_add _ _ _ _
      · exact (nz_cell _ _ _).bind fun c => (nz_exp _ _).bind fun e => nz_add _ _ _ _
      · exact (nz_cell _ _ _).bind fun c => (nz_exp _ _).bind fun e => nz_add _ _ _ _
      · exact (nz_cell _ _ _).bind fun c => (nz_exp _ _).bind fun e => nz_add _ _ _ _
      · exact (nz_cell _ _ _).bind fun c => (nz_two _ _).bind fun e => nz_add _ _ _ _
    · exact NZ.err _
  · split
    · exact (nz_cell _ _ _).bind fun c => (nz_var _ _).bind fun e => nz_add _ _ _ _
    · exact NZ.err _
  · split
    · exact (nz_exp _ _).bind fun c => (nz_var _ _).bind fun e => nz_add _ _ _ _
    · exact NZ.err _
  · exact (nz_exp _ _).bind fun e => .ite (NZ.err _) (nz_add _ _ _ _)
  · split
    · exact NZ.ok _
    · exact NZ.err _
  · split
    · split
      · exact .ite (NZ.err _) (.ite (NZ.err _) (nz_add _ _ _ _))
      · exact NZ.err _
    · exact NZ.err _
  · split
    · exact nz_add _ _ _ _
    · exact NZ.err _
  · split
    · refine .ite (NZ.err _) (.ite (nz_add _ _ _ _) ?_)
      split
      · exact NZ.err _
      · exact nz_add _ _ _ _
    · exact NZ.err _
  · exact .ite (NZ.err _) (NZ.ok _)
theorem nz_line (s : ParseState) (n : Nat) (l : Bytes) : NZ (parseLine s n l) := by
  unfold parseLine
  split
  · exact .ok _
  · split
    · exact nz_outer _ _ _
    · exact nz_inner _ _ _ _ _
end Gc
/-! Plain law: what holds of a run at every step -/
namespace Gc
open Xb15
def big : Int := 1000000000
def In (z : Int) : Prop := -big ≤ z ∧ z ≤ big
/-- a value that a cell of a kind may have -/
def ShapeOk : Kind → Val → Prop
  | .set, .set l => l.Pairwise (· < ·) ∧ ∀ z ∈ l, 0 ≤ z ∧ z ≤ 63
  | .set, _ => False
  | .range _ _, .range _ _ => True
  | .range _ _, _ => False
  | _, .empty => True
  | _, .num _ => True
  | _, _ => False
/-- a value as the program keeps it -/
def vL : Val → List Int
  | .empty => []
  | .num z => [z]
  | .set l => l
  | .range a b => [a, b]
def ValOk (k : Kind) (v : Val) : Prop := ShapeOk k v ∧ ∀ z ∈ vL v, In z
structure InstOk (p : Program) (N : Nat) (i : TaskInstance) : Prop where
  task : i.task < p.tasks.length
  vars : i.vars.length = 6
  vals : ∀ v ∈ i.vars, In v
  loops : i.loops.length + N ≤ 50000
structure RInv (p : Program) (N : Nat) (s : State) : Prop where
  cl : s.cells.length = p.cells.length
  cells : ∀ c v, s.cells[c]? = some v → ValOk (cellKind p c) v
  insts : ∀ i ∈ s.insts, InstOk p N i
  num : s.insts.length ≤ 40
  meas : Meas p N s
theorem InstOk.mono {p : Program} {N m : Nat} {i : TaskInstance} (h : InstOk p N i) (hm : m ≤ N) : InstOk p m i := ⟨h.task, h.vars, h.vals, by have := h.loops; omega⟩
theorem In.zero : In 0 := by unfold In big; omega
theorem insert_mem {z : Int} : ∀ {l : List Int} {y : Int}, y ∈ insertSorted z l → y = z ∨ y ∈ l
  | [], y, h => by simp [insertSorted] at h; exact .inl h
  | a :: l, y, h => by
    unfold insertSorted at h
    split at h
    · simp only [List.mem_cons] at h ⊢
      exact h
    · split at h
      · exact .inr h
      · rcases List.mem_cons.mp h with h | h
        · exact .inr (by simp [h])
        · rcases insert_mem h with h | h
          · exact .inl h
          · exact .inr (by simp [h])
theorem insert_sorted {z : Int} : ∀ {l : List Int}, l.Pairwise (· < ·) → (insertSorted z l).Pairwise (· < ·)
  | [], _ => by simp [insertSorted]
  | a :: l, h => by
    rw [List.pairwise_cons] at h
    unfold insertSorted
    split
    · rename_i hz
      rw [List.pairwise_cons, List.pairwise_cons]
      refine ⟨fun b hb => ?_, h⟩
      rcases List.mem_cons.mp hb with rfl | hb
      · exact hz
      · have := h.1 b hb; omega
    · split
      · rw [List.pairwise_cons]; exact h
      · rw [List.pairwise_cons]
        refine ⟨fun b hb => ?_, insert_sorted h.2⟩
        rcases insert_mem hb with rfl | hb
        · omega
        · exact h.1 b hb
theorem num_ok {k : Kind} {z : Int} (h : ShapeOk k (.num z)) (hz : In z) : ValOk k (.num z) := ⟨h, fun y hy => by simp [vL] at hy; subst hy; exact hz⟩
theorem num_in {k : Kind} {z : Int} (h : ValOk k (.num z)) : In z := h.2 z (by simp [vL])
theorem in_max {x y : Int} (h1 : In x) (h2 : In y) : In (max x y) := by
  unfold In at *
  omega
theorem in_min {x y : Int} (h1 : In x) (h2 : In y) : In (min x y) := by
  unfold In at *
  omega
theorem join_ok {k : Kind} {v v' : Val} {z : Int} (h : ValOk k v) (hz : In z) (e : joinValue k v z = some v') : ValOk k v' := by
  cases k with
  | max => cases v with
    | empty => cases e; exact num_ok trivial hz
    | num y => cases e; exact num_ok trivial (in_max (num_in h) hz)
    | set l => cases e
    | range a b => cases e
  | min => cases v with
    | empty => cases e; exact num_ok trivial hz
    | num y => cases e; exact num_ok trivial (in_min (num_in h) hz)
    | set l => cases e
    | range a b => cases e
  | set => cases v with
    | empty => cases e
    | num y => cases e
    | set l =>
      simp only [joinValue] at e
      split at e
      · rename_i hz'
        cases e
        refine ⟨⟨insert_sorted h.1.1, fun y hy => ?_⟩, fun y hy => ?_⟩
        · rcases insert_mem hy with rfl | hy
          · exact hz'
          · exact h.1.2 y hy
        · rcases insert_mem hy with rfl | hy
          · exact hz
          · exact h.2 y hy
      · cases e
    | range a b => cases e
  | one => cases v with
    | empty => cases e; exact num_ok trivial hz
    | num y =>
      simp only [joinValue] at e
      split at e
      · cases e; exact h
      · cases e
    | set l => cases e
    | range a b => cases e
  | flag =>
    have e : (if z = 0 then some v else some (.num 1)) = some v' := by
      cases v <;> exact e
    split at e
    · cases e; exact h
    · cases e
      exact num_ok trivial (by unfold In big; omega)
  | range a b => cases v <;> cases e
theorem narrow_ok {k : Kind} {v v' : Val} {x y : Int} (h : ValOk k v) (hx : In x) (hy : In y) (e : narrowValue v x y = some v') : ValOk k v' := by
  cases v with
  | range a b =>
    simp only [narrowValue] at e
    split at e
    · cases e
      cases k with
      | range c d =>
        refine ⟨trivial, fun z hz => ?_⟩
        have ha := h.2 a (by simp [vL])
        have hb := h.2 b (by simp [vL])
        simp [vL] at hz
        rcases hz with rfl | rfl
        · exact in_max ha hx
        · exact in_min hb hy
      | max => exact h.1.elim
      | min => exact h.1.elim
      | set => exact h.1.elim
      | one => exact h.1.elim
      | flag => exact h.1.elim
    · cases e
  | empty => cases e
  | num z => cases e
  | set l => cases e
def opV (k : Nat) (x y : Int) : Int := match k with
  | 0 => x + y
  | 1 => x - y
  | 2 => x * y
  | 3 => if x < y then 1 else 0
  | _ => if x = y then 1 else 0
def estep (i : TaskInstance) (x : Int) (r : Nat × Atom) : Option Int := if -big ≤ opV r.1 x (evalAtom i r.2) ∧ opV r.1 x (evalAtom i r.2) ≤ big then some (opV r.1 x (evalAtom i r.2)) else none
theorem evalExp_eq (i : TaskInstance) (e : Exp) : evalExp i e = e.rest.foldlM (estep i) (evalAtom i e.first) := by
  unfold evalExp
  congr 1
theorem atom_in {i : TaskInstance} {nv : Nat} (hv : ∀ v ∈ i.vars, In v) {a : Atom} (h : AtomOk nv a) : In (evalAtom i a) := by
  cases a with
  | num z =>
    have : -9999 ≤ z ∧ z ≤ 9999 := h
    show In z
    unfold In big
    omega
  | var k =>
    show In (i.vars.getD k 0)
    rw [List.getD_eq_getElem?_getD]
    cases e : i.vars[k]? with
    | none => exact In.zero
    | some v => exact hv v (List.mem_of_getElem? e)
theorem fold_in {i : TaskInstance} : ∀ (l : List (Nat × Atom)) (x : Int), In x → ∀ z, l.foldlM (estep i) x = some z → In z
  | [], x, hx, z, hz => by cases hz; exact hx
  | r :: l, x, hx, z, hz => by
    rw [List.foldlM_cons] at hz
    by_cases hb : -big ≤ opV r.1 x (evalAtom i r.2) ∧ opV r.1 x (evalAtom i r.2) ≤ big
    · have e : estep i x r = some (opV r.1 x (evalAtom i r.2)) := if_pos hb
      rw [e] at hz
      exact fold_in l _ hb z hz
    · have e : estep i x r = none := if_neg hb
      rw [e] at hz
      cases hz
theorem eval_in {i : TaskInstance} {nv : Nat} (hv : ∀ v ∈ i.vars, In v) {e : Exp} (h : ExpOk nv e) {z : Int} (hz : evalExp i e = some z) : In z := by
  rw [evalExp_eq] at hz
  exact fold_in e.rest _ (atom_in hv h.first) z hz
theorem set_all {p : Program} {m : Nat} {l : List TaskInstance} {k : Nat} {j : TaskInstance} (h : ∀ i ∈ l, InstOk p m i) (hj : InstOk p m j) : ∀ i ∈ l.set k j, InstOk p m i := fun i hi => by
  rcases List.mem_or_eq_of_mem_set hi with h' | h'
  · exact h i h'
  · rw [h']; exact hj
theorem new_ok {p : Program} {m t : Nat} (ht : t < p.tasks.length) (hm : m ≤ 50000) : InstOk p m (newInstance t) := ⟨ht, by simp [newInstance], fun v hv => by
  simp [newInstance] at hv
  rw [hv]
  exact In.zero, by simp [newInstance]; exact hm⟩
theorem cells_set {p : Program} {s : State} {c : Nat} {v : Val} (h : ∀ c v, s.cells[c]? = some v → ValOk (cellKind p c) v) (hv : ValOk (cellKind p c) v) : ∀ d u, (s.cells.set c v)[d]? = some u → ValOk (cellKind p d) u := fun d u hu => by
  by_cases e : c = d
  · subst e
    rw [List.getElem?_set] at hu
    split at hu
    · split at hu
      · cases hu; exact hv
      · cases hu
    · rename_i hne; exact (hne rfl).elim
  · rw [List.getElem?_set_ne e] at hu
    exact h d u hu
theorem vars_set {l : List Int} {k : Nat} {z : Int} (h : ∀ v ∈ l, In v) (hz : In z) : ∀ v ∈ l.set k z, In v := fun v hv => by
  rcases List.mem_or_eq_of_mem_set hv with h' | h'
  · exact h v h'
  · rw [h']; exact hz
theorem cell_get {p : Program} {N : Nat} {s : State} {c : Nat} (R : RInv p N s) (hc : c < p.cells.length) : ValOk (cellKind p c) (cellValue s c) := by
  have hl : c < s.cells.length := by rw [R.cl]; exact hc
  unfold cellValue
  rw [List.getD_eq_getElem?_getD, List.getElem?_eq_getElem hl]
  exact R.cells c _ (List.getElem?_eq_getElem hl)
/-- the next instruction is one of its task's, as the reader made it -/
theorem next_ok {p : Program} (P : ProgOk p) {i : TaskInstance} {o : Instruction} {n : Nat} (h : nextInstruction p i = some (o, n)) : ∃ t, p.tasks[i.task]? = some t ∧ t.code[i.pc]? = some (o, n) ∧ InsOk p p.tasks.length t.vars.length o ∧ t.vars.length ≤ 6 ∧ t.code.length ≤ 40 := by
  unfold nextInstruction at h
  cases ht : p.tasks[i.task]? with
  | none => rw [ht] at h; cases h
  | some t =>
    rw [ht] at h
    have T := P.task t (List.mem_of_getElem? ht)
    exact ⟨t, rfl, h, T.ins _ (List.mem_of_getElem? h), T.vars, T.len⟩
theorem step_keeps {p : Program} (P : ProgOk p) {N k : Nat} {s s' : State} (R : RInv p N s) (e : stepInstance p s k = some s') : ∃ m, m < N ∧ RInv p m s' := by
  obtain ⟨m, hm, hM⟩ := (meas_falls P.runs).down N s k s' R.meas e
  refine ⟨m, hm, ?_⟩
  have hN : N ≤ 50000 ∨ s.insts = [] := by
    cases hi : s.insts with
    | nil => exact .inr rfl
    | cons a l => exact .inl (by have := (R.insts a (by rw [hi]; simp)).loops; omega)
  have old : ∀ i ∈ s.insts, InstOk p m i := fun i hi => (R.insts i hi).mono (by omega)
  have failed : s' = markFailed s → RInv p m s' := fun h => by
    subst h
    exact ⟨R.cl, R.cells, old, R.num, hM⟩
  unfold stepInstance at e
  split at e
  · cases e
  · cases hk : s.insts[k]? with
    | none => rw [hk] at e; cases e
    | some i =>
      rw [hk] at e
      dsimp only at e
      have hi := R.insts i (List.mem_of_getElem? hk)
      have him := hi.mono (Nat.le_of_lt hm)
      cases hn : nextInstruction p i with
      | none => rw [hn] at e; cases e
      | some x =>
        obtain ⟨o, n⟩ := x
        rw [hn] at e
        dsimp only at e
        obtain ⟨t, ht, hc, hO, hv6, _⟩ := next_ok P hn
        have num : ∀ j : TaskInstance, (s.insts.set k j).length ≤ 40 := fun j => by rw [List.length_set]; exact R.num
        have mv : ∀ j : TaskInstance, j.task = i.task → j.vars.length = 6 → (∀ v ∈ j.vars, In v) → j.loops.length ≤ i.loops.length + 1 → InstOk p m j := fun j h1 h2 h3 h4 => ⟨by rw [h1]; exact him.task, h2, h3, by have := hi.loops; omega⟩
        have go : ∀ j : TaskInstance, InstOk p m j → s' = setInstance s k j → RInv p m s' := fun j hj h => by
          subst h
          exact ⟨R.cl, R.cells, set_all old hj, num j, hM⟩
        have goc : ∀ (c : Nat) (v : Val) (j : TaskInstance), ValOk (cellKind p c) v → InstOk p m j → s' = setInstance { s with cells := s.cells.set c v } k j → RInv p m s' := fun c v j hv hj h => by
          subst h
          exact ⟨by show (s.cells.set c v).length = _; rw [List.length_set]; exact R.cl, cells_set R.cells hv, set_all old hj, num j, hM⟩
        have on1 : InstOk p m { i with pc := i.pc + 1 } := mv _ rfl him.vars him.vals (by simp)
        cases o with
        | put c ex =>
          dsimp only at e
          cases hz : evalExp i ex with
          | none => rw [hz] at e; exact failed (Option.some.inj e).symm
          | some z =>
            rw [hz] at e
            have hzi := eval_in hi.vals hO.2 hz
            dsimp only at e
            cases hj : joinValue (cellKind p c) (cellValue s c) z with
            | none => rw [hj] at e; exact failed (Option.some.inj e).symm
            | some v =>
              rw [hj] at e
              exact goc c v _ (join_ok (cell_get R hO.1.1) hzi hj) on1 (Option.some.inj e).symm
        | narrow c a b =>
          dsimp only at e
          cases hx : evalExp i a with
          | none => rw [hx] at e; exact failed (Option.some.inj e).symm
          | some x =>
            cases hy : evalExp i b with
            | none => rw [hx, hy] at e; exact failed (Option.some.inj e).symm
            | some y =>
              rw [hx, hy] at e
              dsimp only at e
              cases hj : narrowValue (cellValue s c) x y with
              | none => rw [hj] at e; exact failed (Option.some.inj e).symm
              | some v =>
                rw [hj] at e
                exact goc c v _ (narrow_ok (cell_get R hO.1.1) (eval_in hi.vals hO.2.1 hx) (eval_in hi.vals hO.2.2 hy) hj) on1 (Option.some.inj e).symm
        | wait w =>
          dsimp only at e
          cases hw : conditionHolds s i w with
          | none => rw [hw] at e; exact failed (Option.some.inj e).symm
          | some b =>
            rw [hw] at e
            cases b with
            | true => exact go _ on1 (Option.some.inj e).symm
            | false => cases e
        | load v c =>
          dsimp only at e
          have hcv := cell_get R hO.1.1
          cases hv : cellValue s c with
          | num z =>
            rw [hv] at e hcv
            exact go _ (mv { i with pc := i.pc + 1, vars := i.vars.set v z } rfl (by show (i.vars.set v z).length = 6; rw [List.length_set]; exact him.vars) (vars_set him.vals (num_in hcv)) (by simp)) (Option.some.inj e).symm
          | empty => rw [hv] at e; cases e
          | set l => rw [hv] at e; cases e
          | range a b => rw [hv] at e; cases e
        | assign v ex =>
          dsimp only at e
          cases hz : evalExp i ex with
          | none => rw [hz] at e; exact failed (Option.some.inj e).symm
          | some z =>
            rw [hz] at e
            exact go _ (mv { i with pc := i.pc + 1, vars := i.vars.set v z } rfl (by show (i.vars.set v z).length = 6; rw [List.length_set]; exact him.vars) (vars_set him.vals (eval_in hi.vals hO.2 hz)) (by simp)) (Option.some.inj e).symm
        | skipIfZero ex g =>
          dsimp only at e
          cases hz : evalExp i ex with
          | none => rw [hz] at e; exact failed (Option.some.inj e).symm
          | some z =>
            rw [hz] at e
            dsimp only at e
            split at e
            · exact go _ (mv { i with pc := g } rfl him.vars him.vals (by simp)) (Option.some.inj e).symm
            · exact go _ on1 (Option.some.inj e).symm
        | times c => exact go _ (mv { i with pc := i.pc + 1, loops := c :: i.loops } rfl him.vars him.vals (by simp)) (Option.some.inj e).symm
        | again g =>
          dsimp only at e
          cases hl : i.loops with
          | nil => rw [hl] at e; exact go { i with pc := i.pc + 1, loops := [] } (mv _ rfl him.vars him.vals (by simp)) (Option.some.inj e).symm
          | cons a l =>
            rw [hl] at e
            dsimp only at e
            split at e
            · exact go _ (mv { i with pc := g, loops := (a - 1) :: l } rfl him.vars him.vals (by simp [hl])) (Option.some.inj e).symm
            · exact go _ (mv { i with pc := i.pc + 1, loops := l } rfl him.vars him.vals (by simp [hl]; omega)) (Option.some.inj e).symm
        | start u =>
          dsimp only at e
          split at e
          · exact failed (Option.some.inj e).symm
          · rename_i h40
            have h40 : ¬ 40 ≤ s.insts.length := h40
            have h := (Option.some.inj e).symm
            subst h
            refine ⟨R.cl, R.cells, fun j hj => ?_, ?_, hM⟩
            · rcases List.mem_append.mp hj with hj | hj
              · exact set_all old on1 j hj
              · rw [List.mem_singleton.mp hj]
                exact new_ok hO (by have := hi.loops; omega)
            · show ((s.insts.set k _) ++ [_]).length ≤ 40
              simp
              omega
theorem RInv.fail {p : Program} {N : Nat} {s : State} (R : RInv p N s) : RInv p N (markFailed s) := ⟨R.cl, R.cells, R.insts, R.num, .inl rfl⟩
theorem init_ok {p : Program} (P : ProgOk p) : RInv p 40041 (initialState p) := by
  refine ⟨by simp [initialState], fun c v hv => ?_, fun i hi => ?_, ?_, ?_⟩
  · simp only [initialState, List.getElem?_map] at hv
    cases hc : p.cells[c]? with
    | none => rw [hc] at hv; cases hv
    | some cell =>
      rw [hc] at hv
      have hk : cellKind p c = cell.kind := by unfold cellKind; rw [hc]; rfl
      rw [hk]
      cases hv
      have hr := P.crange cell (List.mem_of_getElem? hc)
      show ValOk cell.kind (initialValue cell.kind)
      generalize cell.kind = kd at hr ⊢
      cases hkd : kd with
      | range a b =>
        obtain ⟨_, h1, h2⟩ := hr a b hkd
        refine ⟨trivial, fun z hz => ?_⟩
        simp [initialValue, vL] at hz
        unfold In big
        rcases hz with rfl | rfl <;> omega
      | set => exact ⟨⟨List.Pairwise.nil, fun z hz => by cases hz⟩, fun z hz => by cases hz⟩
      | max => exact ⟨trivial, fun z hz => by cases hz⟩
      | min => exact ⟨trivial, fun z hz => by cases hz⟩
      | one => exact ⟨trivial, fun z hz => by cases hz⟩
      | flag => exact ⟨trivial, fun z hz => by cases hz⟩
  · simp only [initialState, List.mem_map] at hi
    obtain ⟨g, hg, rfl⟩ := hi
    exact new_ok (P.goOk g hg) (by decide)
  · have := P.goes
    simp [initialState]
    omega
  · refine .inr ⟨List.replicate p.goes.length 1000, by simp [initialState], fun k i c hi hc => ?_, ?_, ?_⟩
    · simp only [initialState, List.getElem?_map] at hi
      cases hg : p.goes[k]? with
      | none => rw [hg] at hi; cases hi
      | some g =>
        rw [hg] at hi
        cases hi
        have hgt := P.goOk g (List.mem_of_getElem? hg)
        have hc1 : c = 1000 := by
          have := List.mem_of_getElem? hc
          exact (List.mem_replicate.mp this).2
        subst hc1
        exact ⟨p.tasks[g], List.getElem?_eq_getElem hgt, P.rem _ (List.getElem_mem hgt)⟩
    · have := P.goes
      simp [initialState]
      omega
    · have := P.goes
      simp [initialState]
      omega
end Gc
/-! Plain law: candidates, final states -/
namespace Gc
open Xb15
/-- a candidate as the desk takes it -/
def CandOk (p : Program) : Xb16.Candidate → Prop
  | .put c z => c < p.cells.length ∧ isRange (cellKind p c) = false ∧ In z
  | .narrow c a b => c < p.cells.length ∧ isRange (cellKind p c) = true ∧ In a ∧ In b
theorem meas_cells {p : Program} {N : Nat} {s : State} (h : Meas p N s) (cs : List Val) : Meas p N { s with cells := cs } := h
theorem cand_ok {p : Program} {N : Nat} {s : State} {g : Xb16.Candidate} (R : RInv p N s) (hg : CandOk p g) : RInv p N (Xb16.applyCandidate p s g) := by
  unfold Xb16.applyCandidate
  split
  · exact R
  · cases g with
    | put c z =>
      obtain ⟨h1, h2, h3⟩ := hg
      dsimp only
      cases hj : joinValue (cellKind p c) (cellValue s c) z with
      | none => exact R.fail
      | some v => exact ⟨by show (s.cells.set c v).length = _; rw [List.length_set]; exact R.cl, cells_set R.cells (join_ok (cell_get R h1) h3 hj), R.insts, R.num, R.meas⟩
    | narrow c a b =>
      obtain ⟨h1, h2, h3, h4⟩ := hg
      dsimp only
      cases hj : narrowValue (cellValue s c) a b with
      | none => exact R.fail
      | some v => exact ⟨by show (s.cells.set c v).length = _; rw [List.length_set]; exact R.cl, cells_set R.cells (narrow_ok (cell_get R h1) h3 h4 hj), R.insts, R.num, R.meas⟩
theorem cands_ok {p : Program} {N : Nat} : ∀ {l : List Xb16.Candidate} {s : State}, RInv p N s → (∀ g ∈ l, CandOk p g) → RInv p N (l.foldl (Xb16.applyCandidate p) s)
  | [], _, R, _ => R
  | g :: l, s, R, h => cands_ok (l := l) (s := Xb16.applyCandidate p s g) (cand_ok R (h g (by simp))) fun g' hg' => h g' (by simp [hg'])
/-- the spec's final state is an end of the run -/
theorem final_ends {p : Program} (P : ProgOk p) (cands : List Xb16.Candidate) (hc : ∀ g ∈ cands, CandOk p g) (l : List Nat) : RInv p 40041 ((l.filterMap fun i => cands[i]?).foldl (Xb16.applyCandidate p) (initialState p)) ∧
    Ends p ((l.filterMap fun i => cands[i]?).foldl (Xb16.applyCandidate p) (initialState p)) (Xb16.finalState ⟨p, cands⟩ l) := by
  have R := cands_ok (l := l.filterMap fun i => cands[i]?) (init_ok P) fun g hg => by
    obtain ⟨i, _, hi⟩ := List.mem_filterMap.mp hg
    exact hc g (List.mem_of_getElem? hi)
  exact ⟨R, roundRobin_ends (meas_falls P.runs) _ _ _ _ _ R.meas (by decide)⟩
end Gc
/-! Plain law: all selections, by size and in order -/
namespace Gc
open Xb16 (selectionsOfSize)
/-- where a selection goes on -/
def from_ (a : Nat) (r : List Nat) : Nat := match r.getLast? with
  | none => a
  | some x => x + 1
def nextRows (m a : Nat) (r : List Nat) : List (List Nat) := (List.range' (from_ a r) (m - from_ a r)).map fun k => r ++ [k]
theorem from_cons (a x : Nat) (r : List Nat) : from_ a (x :: r) = from_ (x + 1) r := by
  unfold from_
  cases r with
  | nil => rfl
  | cons y r => rw [List.getLast?_cons_cons]; cases h : (y :: r).getLast? with
    | none => simp at h
    | some z => rfl
theorem from_ne {r : List Nat} (h : r ≠ []) (a b : Nat) : from_ a r = from_ b r := by
  unfold from_
  cases h' : r.getLast? with
  | none => rw [List.getLast?_eq_none_iff] at h'; exact (h h').elim
  | some x => rfl
theorem sel_ne : ∀ (n : Nat) (l : List Nat) (r : List Nat), r ∈ selectionsOfSize (n + 1) l → r ≠ []
  | n, [], r, h => by simp [selectionsOfSize] at h
  | n, x :: l, r, h => by
    unfold selectionsOfSize at h
    rcases List.mem_append.mp h with h | h
    · obtain ⟨q, _, rfl⟩ := List.mem_map.mp h
      simp
    · exact sel_ne n l r h
theorem flatMap_eq {α β : Type} {f g : α → List β} : ∀ {l : List α}, (∀ a ∈ l, f a = g a) → l.flatMap f = l.flatMap g
  | [], _ => rfl
  | a :: l, h => by
    rw [List.flatMap_cons, List.flatMap_cons, h a (by simp), flatMap_eq fun b hb => h b (by simp [hb])]
theorem sel_next (m : Nat) : ∀ (len n a : Nat), m - a = len → (selectionsOfSize n (List.range' a len)).flatMap (nextRows m a) = selectionsOfSize (n + 1) (List.range' a len)
  | 0, 0, a, h => by
    simp [selectionsOfSize, nextRows, from_, h]
  | 0, n + 1, a, h => by simp [selectionsOfSize]
  | len + 1, 0, a, h => by
    have ih := sel_next m len 0 (a + 1) (by omega)
    have e0 : ∀ l : List Nat, selectionsOfSize 0 l = [[]] := fun l => by cases l <;> rfl
    rw [e0] at ih ⊢
    rw [List.range'_succ]
    show _ = (selectionsOfSize 0 (List.range' (a + 1) len)).map (fun r => a :: r) ++ selectionsOfSize 1 (List.range' (a + 1) len)
    rw [← ih, e0]
    simp only [List.flatMap_cons, List.flatMap_nil, List.append_nil, nextRows, from_, List.getLast?_nil, List.nil_append]
    rw [h, show m - (a + 1) = len by omega, List.range'_succ]
    simp
  | len + 1, n + 1, a, h => by
    have ih1 := sel_next m len n (a + 1) (by omega)
    have ih2 := sel_next m len (n + 1) (a + 1) (by omega)
    rw [List.range'_succ]
    show ((selectionsOfSize n (List.range' (a + 1) len)).map (fun r => a :: r) ++ selectionsOfSize (n + 1) (List.range' (a + 1) len)).flatMap (nextRows m a) = (selectionsOfSize (n + 1) (List.range' (a + 1) len)).map (fun r => a :: r) ++ selectionsOfSize (n + 2) (List.range' (a + 1) len)
    rw [List.flatMap_append]
    congr 1
    · rw [← ih1, List.map_flatMap, List.flatMap_map]
      congr 1
      funext r
      unfold nextRows
      rw [from_cons, List.map_map]
      rfl
    · rw [← ih2]
      refine flatMap_eq fun r hr => ?_
      unfold nextRows
      rw [from_ne (sel_ne n _ r hr) a (a + 1)]
/-- the selections of a size, from all candidates -/
def rowsOf (m n : Nat) : List (List Nat) := selectionsOfSize n (List.range m)
theorem rows_next (m n : Nat) : (rowsOf m n).flatMap (nextRows m 0) = rowsOf m (n + 1) := by
  unfold rowsOf
  rw [List.range_eq_range']
  exact sel_next m m n 0 (by omega)
theorem rows_zero (m : Nat) : rowsOf m 0 = [[]] := by
  unfold rowsOf
  cases List.range m <;> rfl
theorem sel_len : ∀ (n : Nat) (l : List Nat), (selectionsOfSize n l).length ≤ 2 ^ l.length
  | 0, l => by
    have : selectionsOfSize 0 l = [[]] := by cases l <;> rfl
    rw [this]
    exact Nat.one_le_two_pow
  | n + 1, [] => by simp [selectionsOfSize]
  | n + 1, x :: l => by
    unfold selectionsOfSize
    rw [List.length_append, List.length_map]
    have h1 := sel_len n l
    have h2 := sel_len (n + 1) l
    rw [List.length_cons, Nat.pow_succ]
    omega
theorem sel_in : ∀ (n : Nat) (l r : List Nat), r ∈ selectionsOfSize n l → ∀ x ∈ r, x ∈ l
  | 0, l, r, h, x, hx => by
    have : selectionsOfSize 0 l = [[]] := by cases l <;> rfl
    rw [this] at h
    simp at h
    rw [h] at hx
    cases hx
  | n + 1, [], r, h, x, hx => by simp [selectionsOfSize] at h
  | n + 1, y :: l, r, h, x, hx => by
    unfold selectionsOfSize at h
    rcases List.mem_append.mp h with h | h
    · obtain ⟨q, hq, rfl⟩ := List.mem_map.mp h
      rcases List.mem_cons.mp hx with rfl | hx
      · simp
      · exact List.mem_cons_of_mem _ (sel_in n l q hq x hx)
    · exact List.mem_cons_of_mem _ (sel_in (n + 1) l r h x hx)
theorem rows_len {m : Nat} (hm : m ≤ 6) (n : Nat) : (rowsOf m n).length ≤ 64 := by
  have h := sel_len n (List.range m)
  rw [List.length_range] at h
  have : 2 ^ m ≤ 2 ^ 6 := Nat.pow_le_pow_right (by decide) hm
  unfold rowsOf
  omega
theorem rows_in {m n : Nat} {r : List Nat} (h : r ∈ rowsOf m n) : ∀ x ∈ r, x < m := fun x hx => List.mem_range.mp (sel_in n _ r h x hx)
theorem sel_size : ∀ (n : Nat) (l r : List Nat), r ∈ selectionsOfSize n l → r.length = n
  | 0, l, r, h => by
    have : selectionsOfSize 0 l = [[]] := by cases l <;> rfl
    rw [this] at h
    simp at h
    rw [h]
    rfl
  | n + 1, [], r, h => by simp [selectionsOfSize] at h
  | n + 1, y :: l, r, h => by
    unfold selectionsOfSize at h
    rcases List.mem_append.mp h with h | h
    · obtain ⟨q, hq, rfl⟩ := List.mem_map.mp h
      rw [List.length_cons, sel_size n l q hq]
    · exact sel_size (n + 1) l r h
/-- all selections up to a size -/
def allUpTo (m n : Nat) : List (List Nat) := (List.range (n + 1)).flatMap (rowsOf m)
theorem all_zero (m : Nat) : allUpTo m 0 = [[]] := by
  unfold allUpTo
  simp [rows_zero]
theorem all_succ (m n : Nat) : allUpTo m (n + 1) = allUpTo m n ++ rowsOf m (n + 1) := by
  unfold allUpTo
  rw [List.range_succ, List.flatMap_append]
  simp
theorem all_is (h : Xb16.Session) : Xb16.selections h = allUpTo h.candidates.length h.candidates.length := rfl
theorem all_len {m : Nat} (hm : m ≤ 6) : ∀ n, (allUpTo m n).length ≤ 64 * (n + 1)
  | 0 => by rw [all_zero]; simp
  | n + 1 => by
    rw [all_succ, List.length_append]
    have := all_len hm n
    have := rows_len hm (n + 1)
    omega
theorem all_in {m n : Nat} {r : List Nat} (h : r ∈ allUpTo m n) : (∀ x ∈ r, x < m) ∧ r.length ≤ n := by
  obtain ⟨k, hk, hr⟩ := List.mem_flatMap.mp h
  have := List.mem_range.mp hk
  have h2 := sel_size k _ r hr
  exact ⟨rows_in hr, by omega⟩
end Gc
/-! Plain law: calls as one list of numbers -/
namespace Gc
open Xb15 (Program Kind checkCell cellKind isInputValue inRange MAX_NUMBER)
open Xb16 (runCall Session MAX_CANDIDATES)
/-- how many numbers a call without a row has -/
def manyOf (p : Int) : Option Nat := if p = 2 then some 2 else if p = 3 then some 3 else if p = 4 then some 0 else if p = 7 then some 0 else if p = 8 then some 0 else none
/-- a call at the head of a list: its number, its numbers, what is behind -/
inductive Head1 : List Int → Int → List Int → List Int → Prop where
  | many {p : Int} {r : List Int} {n : Nat} (h : manyOf p = some n) (hl : n ≤ r.length) : Head1 (p :: r) p (r.take n) (r.drop n)
  | row {p : Int} {r : List Int} {n : Nat} (h : manyOf p = none) (hp : p = 1 ∨ p = 5 ∨ p = 6) (hl : n ≤ r.length) : Head1 (p :: (n : Int) :: r) p (r.take n) (r.drop n)
/-- an operation as the desk's defs take it -/
inductive CallOf : Int → List Int → Xb16.Call → Prop where
  | load (t : List Int) (h : t.length ≤ 4200) : CallOf 1 t (.load t)
  | put (c z : Int) : CallOf 2 [c, z] (.offerPut c z)
  | cut (c a b : Int) : CallOf 3 [c, a, b] (.offerNarrow c a b)
  | clear : CallOf 4 [] .clearOffers
  | check (l : List Int) (h : l.length ≤ 10) : CallOf 5 l (.check l)
  | cells (l : List Int) (h : l.length ≤ 10) : CallOf 6 l (.cells l)
  | small : CallOf 7 [] .smallest
  | count : CallOf 8 [] .countOutcomes
theorem take2 {r : List Int} (h : 2 ≤ r.length) : ∃ a b, r.take 2 = [a, b] := by
  match r, h with
  | a :: b :: r, _ => exact ⟨a, b, rfl⟩
theorem take3 {r : List Int} (h : 3 ≤ r.length) : ∃ a b c, r.take 3 = [a, b, c] := by
  match r, h with
  | a :: b :: c :: r, _ => exact ⟨a, b, c, rfl⟩
/-- the answer of a call -/
def ansOf (a : Xb16.Answer) : List Int := a.v :: a.l
theorem row_some {l x s : List Int} (h : PyFlat.row l = some (x, s)) : ∃ (n : Nat) (r : List Int), l = (n : Int) :: r ∧ n ≤ r.length ∧ x = r.take n ∧ s = r.drop n := by
  cases l with
  | nil => cases h
  | cons n r =>
    simp only [PyFlat.row] at h
    split at h
    · rename_i hn
      cases h
      exact ⟨n.toNat, r, by rw [Int.toNat_of_nonneg hn.1], hn.2, rfl, rfl⟩
    · cases h
/-- the next call is what the desk takes -/
theorem call_is {l : List Int} {c : List (List Int)} {t : List Int} (h : PyFlat.call PyXb16.shape l = some (c, t)) (hb : PyInside.call PyXb16.bound c = true) :
    ∃ p ns q, Head1 l p ns t ∧ CallOf p ns q ∧ ∀ D, Xb16Neutral.step D (PyXb16.whole c) = ((Xb16.step D q).1, ansOf (Xb16.step D q).2) := by
  cases l with
  | nil => cases h
  | cons p r =>
    simp only [PyFlat.call] at h
    have many : ∀ {n : Nat}, PyXb16.shape p = some (n, 0) → n ≤ r.length ∧ c = [p :: r.take n] ∧ t = r.drop n := fun {n} hs => by
      rw [hs] at h
      dsimp only at h
      split at h
      · cases h
      · rename_i hl
        unfold PyFlat.rows at h
        cases h
        exact ⟨by omega, rfl, rfl⟩
    have one : PyXb16.shape p = some (0, 1) → ∃ (n : Nat) (r' : List Int), r = (n : Int) :: r' ∧ n ≤ r'.length ∧ c = [[p], r'.take n] ∧ t = r'.drop n := fun hs => by
      rw [hs] at h
      dsimp only at h
      split at h
      · cases h
      · unfold PyFlat.rows at h
        rw [List.drop_zero, List.take_zero] at h
        cases hr : PyFlat.row r with
        | none => rw [hr] at h; cases h
        | some x =>
          obtain ⟨x, s⟩ := x
          rw [hr] at h
          unfold PyFlat.rows at h
          cases h
          obtain ⟨n, r', h1, h2, h3, h4⟩ := row_some hr
          exact ⟨n, r', h1, h2, by rw [h3], h4⟩
    have bnd : ∀ (n : Nat) (r' : List Int) (m : Nat), c = [[p], r'.take n] → n ≤ r'.length → (PyXb16.bound p).2 = [(-9007199254740992, 9007199254740992, 0, m)] → (r'.take n).length ≤ m := fun n r' m hc hn hbp => by
      rw [hc] at hb
      unfold PyInside.call at hb
      dsimp only at hb
      rw [hbp, Bool.and_eq_true] at hb
      have := hb.2
      unfold PyInside.lists at this
      simp only [Bool.and_eq_true, decide_eq_true_eq] at this
      exact this.1.1.2
    by_cases h1 : p = 1
    · subst h1
      obtain ⟨n, r', rfl, hn, hc, ht⟩ := one rfl
      have hb2 := bnd n r' 4200 hc hn rfl
      subst hc ht
      exact ⟨1, _, .load (r'.take n), .row rfl (.inl rfl) hn, .load _ hb2, fun D => rfl⟩
    · by_cases h2 : p = 2
      · subst h2
        obtain ⟨hn, hc, ht⟩ := many (n := 2) rfl
        obtain ⟨a, b, e⟩ := take2 hn
        subst hc ht
        exact ⟨2, _, .offerPut a b, .many rfl hn, by rw [e]; exact .put a b, fun D => by rw [e]; rfl⟩
      · by_cases h3 : p = 3
        · subst h3
          obtain ⟨hn, hc, ht⟩ := many (n := 3) rfl
          obtain ⟨a, b, d, e⟩ := take3 hn
          subst hc ht
          exact ⟨3, _, .offerNarrow a b d, .many rfl hn, by rw [e]; exact .cut a b d, fun D => by rw [e]; rfl⟩
        · by_cases h4 : p = 4
          · subst h4
            obtain ⟨hn, hc, ht⟩ := many (n := 0) rfl
            subst hc ht
            exact ⟨4, _, .clearOffers, .many rfl hn, .clear, fun D => rfl⟩
          · by_cases h5 : p = 5
            · subst h5
              obtain ⟨n, r', rfl, hn, hc, ht⟩ := one rfl
              have hb2 := bnd n r' 10 hc hn rfl
              subst hc ht
              exact ⟨5, _, .check (r'.take n), .row rfl (.inr (.inl rfl)) hn, .check _ hb2, fun D => rfl⟩
            · by_cases h6 : p = 6
              · subst h6
                obtain ⟨n, r', rfl, hn, hc, ht⟩ := one rfl
                have hb2 := bnd n r' 10 hc hn rfl
                subst hc ht
                exact ⟨6, _, .cells (r'.take n), .row rfl (.inr (.inr rfl)) hn, .cells _ hb2, fun D => rfl⟩
              · by_cases h7 : p = 7
                · subst h7
                  obtain ⟨hn, hc, ht⟩ := many (n := 0) rfl
                  subst hc ht
                  exact ⟨7, _, .smallest, .many rfl hn, .small, fun D => rfl⟩
                · by_cases h8 : p = 8
                  · subst h8
                    obtain ⟨hn, hc, ht⟩ := many (n := 0) rfl
                    subst hc ht
                    exact ⟨8, _, .countOutcomes, .many rfl hn, .count, fun D => rfl⟩
                  · have hs : PyXb16.shape p = none := by
                      unfold PyXb16.shape
                      simp [h1, h2, h3, h4, h5, h6, h7, h8]
                    rw [hs] at h
                    cases h
/-- what is left to be answered -/
structure Left (ns : List Int) (D : Xb16.Desk) (rest acc : List Int) : Prop where
  more : ∃ f rs, PyFlat.calls PyXb16.shape f rest = some rs ∧ PyInside.calls PyXb16.bound rs = true ∧ PyXb16.answers ns = acc ++ PyFlat.told (PyFlat.played Xb16Neutral.step D (rs.map PyXb16.whole))
theorem left_start {ns : List Int} (h : PyXb16.answers_asked ns = true) : Left ns Xb16.init ns [] ∧ (PyXb16.answers ns).length ≤ 10000000 := by
  unfold PyXb16.answers_asked at h
  cases hc : PyFlat.calls PyXb16.shape ns.length ns with
  | none => rw [hc] at h; cases h
  | some raw =>
    rw [hc] at h
    simp only [Bool.and_eq_true] at h
    obtain ⟨⟨⟨⟨_, _⟩, h3⟩, _⟩, h5⟩ := h
    refine ⟨⟨ns.length, raw, hc, h3, ?_⟩, ?_⟩
    · unfold PyXb16.answers PyXb16.calls
      rw [hc]
      rfl
    · unfold PyFlat.short at h5
      exact of_decide_eq_true h5
theorem left_end {ns acc : List Int} {D : Xb16.Desk} (L : Left ns D [] acc) : PyXb16.answers ns = acc := by
  obtain ⟨f, rs, h1, _, h3⟩ := L.more
  have : rs = [] := by
    cases f <;> (unfold PyFlat.calls at h1; cases h1; rfl)
  rw [this] at h3
  rw [h3]
  exact List.append_nil _
theorem left_next {ns acc rest : List Int} {D : Xb16.Desk} (L : Left ns D rest acc) (hne : rest ≠ []) : ∃ p xs t q, Head1 rest p xs t ∧ CallOf p xs q ∧ Left ns (Xb16.step D q).1 t (acc ++ (((ansOf (Xb16.step D q).2).length : Int) :: ansOf (Xb16.step D q).2)) ∧
    acc.length + 1 + (ansOf (Xb16.step D q).2).length ≤ (PyXb16.answers ns).length := by
  obtain ⟨f, rs, h1, h2, h3⟩ := L.more
  cases rest with
  | nil => exact (hne rfl).elim
  | cons p r =>
    cases f with
    | zero => unfold PyFlat.calls at h1; cases h1
    | succ f =>
      unfold PyFlat.calls at h1
      cases hc : PyFlat.call PyXb16.shape (p :: r) with
      | none => rw [hc] at h1; cases h1
      | some x =>
        obtain ⟨c, t⟩ := x
        rw [hc] at h1
        dsimp only at h1
        cases ht : PyFlat.calls PyXb16.shape f t with
        | none => rw [ht] at h1; cases h1
        | some cs =>
          rw [ht] at h1
          cases h1
          unfold PyInside.calls at h2
          rw [List.all_cons, Bool.and_eq_true] at h2
          obtain ⟨p', xs, q, g1, g2, g3⟩ := call_is hc h2.1
          have e : PyFlat.told (PyFlat.played Xb16Neutral.step D ((c :: cs).map PyXb16.whole)) = (((ansOf (Xb16.step D q).2).length : Int) :: ansOf (Xb16.step D q).2) ++ PyFlat.told (PyFlat.played Xb16Neutral.step (Xb16.step D q).1 (cs.map PyXb16.whole)) := by
            rw [List.map_cons]
            show PyFlat.told ((Xb16Neutral.step D (PyXb16.whole c)).2 :: PyFlat.played Xb16Neutral.step (Xb16Neutral.step D (PyXb16.whole c)).1 (cs.map PyXb16.whole)) = _
            rw [g3 D]
            rfl
          rw [e] at h3
          refine ⟨p', xs, t, q, g1, g2, ⟨f, cs, ht, h2.2, by rw [h3, List.append_assoc]⟩, ?_⟩
          rw [h3]
          simp only [List.length_append, List.length_cons]
          omega
/-- the plain invariant of a desk -/
def DOk (D : Xb16.Desk) : Prop := ∀ h, D.session = some h → ProgOk h.program ∧ (∀ g ∈ h.candidates, CandOk h.program g) ∧ h.candidates.length ≤ 6
theorem check_ok {p : Program} {c : Int} {ok : Kind → Bool} {n : Nat} (h : checkCell p c ok = .ok n) : n < p.cells.length ∧ ok (cellKind p n) = true := by
  unfold checkCell at h
  split at h
  · cases h
  · cases hc : p.cells[c.toNat]? with
    | none => rw [hc] at h; cases h
    | some x =>
      rw [hc] at h
      dsimp only at h
      split at h
      · rename_i hk
        cases h
        refine ⟨(List.getElem?_eq_some_iff.mp hc).1, ?_⟩
        unfold cellKind
        rw [hc]
        exact hk
      · cases h
theorem input_in {z : Int} (h : isInputValue z = true) : In z := by
  unfold isInputValue inRange MAX_NUMBER at h
  simp at h
  unfold In big
  exact h
theorem step_dok {D : Xb16.Desk} (h : DOk D) (q : Xb16.Call) : DOk (Xb16.step D q).1 := by
  have run : ∀ (h0 : Session) (q : Xb16.Call), D.session = some h0 → DOk ⟨some (Xb16.runCall h0 q).1⟩ := fun h0 q hs => by
    obtain ⟨P, C, L⟩ := h h0 hs
    have same : DOk ⟨some h0⟩ := fun h1 e => by cases e; exact ⟨P, C, L⟩
    have add : ∀ g, CandOk h0.program g → ¬ MAX_CANDIDATES ≤ h0.candidates.length → DOk ⟨some { h0 with candidates := h0.candidates ++ [g] }⟩ := fun g hg hl h1 e => by
      cases e
      refine ⟨P, fun g' hg' => ?_, ?_⟩
      · rcases List.mem_append.mp hg' with z | z
        · exact C g' z
        · rw [List.mem_singleton.mp z]; exact hg
      · unfold MAX_CANDIDATES at hl
        simp
        omega
    cases q with
    | offerPut c z =>
      unfold runCall
      dsimp only
      split
      · exact same
      · rename_i hz
        split
        · exact same
        · rename_i n hn
          split
          · exact same
          · rename_i hl
            obtain ⟨k1, k2⟩ := check_ok hn
            exact add _ ⟨k1, by simpa using k2, input_in (by simpa using hz)⟩ hl
    | offerNarrow c a b =>
      unfold runCall
      dsimp only
      split
      · exact same
      · rename_i hz
        split
        · exact same
        · rename_i n hn
          split
          · exact same
          · rename_i hl
            obtain ⟨k1, k2⟩ := check_ok hn
            simp only [Bool.or_eq_true, Bool.not_eq_true', not_or, Bool.not_eq_false] at hz
            exact add _ ⟨k1, k2, input_in hz.1, input_in hz.2⟩ hl
    | clearOffers => exact fun h1 e => by cases e; exact ⟨P, (fun g hg => by cases hg), Nat.zero_le _⟩
    | check l =>
      have : (runCall h0 (.check l)).1 = h0 := by
        unfold runCall
        dsimp only
        split <;> rfl
      rw [this]; exact same
    | cells l =>
      have : (runCall h0 (.cells l)).1 = h0 := by
        unfold runCall
        dsimp only
        split <;> rfl
      rw [this]; exact same
    | smallest => exact same
    | countOutcomes => exact same
    | load t => exact same
  have other : ∀ q, (∀ t, q ≠ .load t) → DOk (Xb16.step D q).1 := fun q hq => by
    cases hs : D.session with
    | none =>
      have : Xb16.step D q = (D, Xb16.single (-7)) := by
        unfold Xb16.step
        cases q <;> first | exact (hq _ rfl).elim | simp only [hs]
      rw [this]
      exact h
    | some h0 =>
      have : Xb16.step D q = (⟨some (Xb16.runCall h0 q).1⟩, (Xb16.runCall h0 q).2) := by
        unfold Xb16.step
        cases q <;> first | exact (hq _ rfl).elim | simp only [hs]
      rw [this]
      exact run h0 q hs
  cases q with
  | load t =>
    unfold Xb16.step
    dsimp only
    split
    · exact h
    · split
      · exact h
      · rename_i p hp
        exact fun h1 e => by cases e; exact ⟨parseText_ok hp, (fun g hg => by cases hg), Nat.zero_le _⟩
  | offerPut c z => exact other _ fun t e => by cases e
  | offerNarrow c a b => exact other _ fun t e => by cases e
  | clearOffers => exact other _ fun t e => by cases e
  | check l => exact other _ fun t e => by cases e
  | cells l => exact other _ fun t e => by cases e
  | smallest => exact other _ fun t e => by cases e
  | countOutcomes => exact other _ fun t e => by cases e
end Gc
/-! Rules of the hand layer that this program wants besides. -/
namespace GW
open PySem PySem.Spec PyProof.Rows L2

/-! ### names of the top -/
section
variable {X : Cx} {x : Str} {pos : Pos}
theorem pe_gi {i : Int} (h : ∃ t, X.mg x = some (.int i t)) (hg : Gl X x := by rfl) (hd : (x == ("__debug__" : Str)) = false := by decide) : PE X (.Name x pos) (tC (.int i)) := by
  obtain ⟨t, h⟩ := h
  exact pe_glob hg h ⟨t, rfl⟩ hd
theorem pe_gs {z : Str} (h : ∃ t, X.mg x = some (.str z t)) (hg : Gl X x := by rfl) (hd : (x == ("__debug__" : Str)) = false := by decide) : PE X (.Name x pos) (tC (.str z)) := by
  obtain ⟨t, h⟩ := h
  exact pe_glob hg h ⟨t, rfl⟩ hd
theorem pe_gr {a : Addr} (h : X.mg x = some (.ref a)) (hg : Gl X x := by rfl) (hd : (x == ("__debug__" : Str)) = false := by decide) : PE X (.Name x pos) (tC (.ref a)) := pe_glob hg h rfl hd
end

/-! ### defs of the top, with their promises -/
structure Df (P : Program) (w : World) (K : PySem.W.Frag) (mg : Str → Option Value) (base : Heap) (CX : CXT) (k : Nat) (x : Str) (ps : List Str) (sp : Sp) : Prop where
  ex : ∃ fd, mg x = some (.ref (He.ga K x)) ∧ PySem.W.keepIn K (.ref (He.ga K x)) = true ∧ Binds K fd ps [] ∧ FnOk P w K mg base CX k (He.ga K x) fd ps sp
theorem Df.len {P : Program} {w : World} {K : PySem.W.Frag} {mg : Str → Option Value} {base : Heap} {CX : CXT} {k : Nat} {x : Str} {ps : List Str} {sp : Sp} (D : Df P w K mg base CX k x ps sp) : True := trivial
section
variable {X : Cx} {CX : CXT} {k : Nat} {x : Str} {ps : List Str} {sp : Sp} {E : XK} {p pos : Pos} {e : Expr} {es : List Expr} {t : TA}
theorem pe_df (D : Df X.prog X.w X.K X.mg X.base CX k x ps sp) (hr : Room k X.A) (hx : Passes CX X E) (ha : PA X (e :: es) t) (hg : Gl X x := by rfl) (hdb : (x == ("__debug__" : Str)) = false := by decide)
    (he : starEach (e :: es) X.env = (false, eval e X.env) :: starEach es X.env := by rfl) (hpl : (backTo pos (starEach es X.env)).any (·.1) = false := by rfl) : PE X (.Call (.Name x p) (e :: es) [] pos) (tCall sp [] E t) := by
  obtain ⟨fd, hm, hk, hb, F⟩ := D.ex
  exact pe_call F hr hg hm hk hb .nil hx ha hdb he hpl
/-- a call within a try: what it raises is wished for at the slots as they stand -/
theorem pe_dfS {E : L2.St → XK} (D : Df X.prog X.w X.K X.mg X.base CX k x ps sp) (hr : Room k X.A) (hx : ∀ σ, PassesAt CX X σ (E σ)) (ha : PA X (e :: es) t) (hg : Gl X x := by rfl) (hdb : (x == ("__debug__" : Str)) = false := by decide)
    (he : starEach (e :: es) X.env = (false, eval e X.env) :: starEach es X.env := by rfl) (hpl : (backTo pos (starEach es X.env)).any (·.1) = false := by rfl) : PE X (.Call (.Name x p) (e :: es) [] pos) (tCallS sp E t) := by
  obtain ⟨fd, hm, hk, hb, F⟩ := D.ex
  exact pe_callS F hr hg hm hk hb hx ha hdb he hpl
/-- a local name that holds one of several defs -/
def tCallR (i : Nat) (R : Addr → Sp → Prop) (E : XK) (t : TA) : TE := fun σ H Q => ∃ f sp, σ[i]? = some (some (.ref f)) ∧ R f sp ∧ t σ H fun vs H1 => sp vs H1 Q E
theorem pe_dfR {i : Nat} {R : Addr → Sp → Prop} (A : ∀ f sp, R f sp → ∃ y ps, f = He.ga X.K y ∧ Df X.prog X.w X.K X.mg X.base CX k y ps sp) (hr : Room k X.A) (hN : X.N[i]? = some x) (hv : Vis X.env.scope x) (hx : Passes CX X E) (ha : PA X (e :: es) t)
    (hdb : (x == ("__debug__" : Str)) = false := by decide) (hcd : (x == ("__classdict__" : Str)) = false := by decide)
    (he : starEach (e :: es) X.env = (false, eval e X.env) :: starEach es X.env := by rfl) (hpl : (backTo pos (starEach es X.env)).any (·.1) = false := by rfl) : PE X (.Call (.Name x p) (e :: es) [] pos) (tCallR i R E t) := by
  refine ⟨fun pins s σ H Q I h => ?_⟩
  obtain ⟨f, sp, hs, hR, ht⟩ := h
  obtain ⟨y, ps, rfl, D⟩ := A f sp hR
  obtain ⟨fd, hm, hk, hb, F⟩ := D.ex
  refine (pe_callL (i := i) (f := He.ga X.K y) (sp := sp) (dvs := []) (E := E) F hr hN hv hk hb .nil hx ha hdb hcd he hpl).run pins s σ H Q I ⟨hs, ?_⟩
  have e0 : (fun (vs : List V) (H1 : Hp) => sp (vs ++ []) H1 Q E) = fun vs H1 => sp vs H1 Q E := by
    funext vs H1
    rw [List.append_nil]
  show t σ H (fun vs H1 => sp (vs ++ []) H1 Q E)
  rw [e0]
  exact ht
end

/-! ### o.f as a target among others -/
def gFld (K : PySem.W.Frag) (to : TE) (f : Str) : TG := fun v σ H Q => to σ H fun x H1 => ∃ a C dx fs, x = .ref a ∧ H1 a = some (.ins C dx fs) ∧ Cls K C ∧ NoAttr K C f ∧ fs.length < 1000 ∧ Q σ (upd H1 a (.ins C dx (putF f v fs)))
theorem pg_fld {X : Cx} {o : Expr} {to : TE} {f : Str} {pos : Pos} (ho : PE X o to) : PG X (.Attribute o f pos) (gFld X.K to f) := by
  refine ⟨fun pins s σ H v u Q I r h => ?_⟩
  rw [assign_Attribute]
  refine wpAny_bind (wpAny_holding (thn (ho.run pins s σ H _ I h) fun ov s1 ⟨x, H1, I1, rx, a, C, dx, fs, ex, ea, c, n, l, q⟩ => ?_))
  subst ex
  obtain rfl : ov = Value.ref a := rx
  refine wpAny_bind (wpAny_standAt (wpAny_bind (wpAny_holding ?_)))
  exact setattr_ok I1 ea c n l r fun s3 I3 => wpAny_release ⟨σ, _, I3, q⟩

/-! ### written dicts with int keys -/
section
variable {K : PySem.W.Frag} {a : Addr} {kvs : List (Int × He.Dv)}
theorem entB_ok {P : Program} {w : World} : ∀ {es : List DictEntry} {kvs : List (Int × He.Dv)}, entB es kvs K = true → ∃ vs : List (Int × Value), Pairs (intKind P w) es vs ∧ (∀ e ∈ es, ∃ k, (intKind P w).is k e.key = true ∧ e.hash = (intKind P w).hash k) ∧
    vs.map (·.1) = kvs.map (·.1) ∧ ∀ i, RelO ((kvs.lookup i).map fun v => v.v K) (valueAt vs i)
  | [], [], _ => ⟨[], .nil, fun _ h => (nomatch h), rfl, fun _ => trivial⟩
  | [], _ :: _, h => by cases h
  | _ :: _, [], h => by cases h
  | e :: es, (i, v) :: r, h => by
    obtain ⟨h1, h⟩ := He.ba h
    obtain ⟨h2, h⟩ := He.ba h
    obtain ⟨h3, h4⟩ := He.ba h
    obtain ⟨vs, p1, p2, p3, p4⟩ := entB_ok (P := P) (w := w) h4
    have hk : (intKind P w).is i e.key = true := by
      show Value.isInt i e.key = true
      cases q : e.key with
      | int j t =>
        rw [q] at h1
        have : j = i := of_decide_eq_true h1
        subst this
        simp [Value.isInt]
      | _ => rw [q] at h1; cases h1
    refine ⟨(i, e.val) :: vs, .cons hk rfl p1, fun x hx => ?_, by rw [List.map_cons, List.map_cons, p3], fun j => ?_⟩
    · rcases List.mem_cons.mp hx with rfl | hx
      · exact ⟨i, hk, of_decide_eq_true h2⟩
      · exact p2 x hx
    · by_cases hj : j = i
      · subst hj
        have e1 : List.lookup j ((j, v) :: r) = some v := by simp [List.lookup]
        have e2 : valueAt ((j, e.val) :: vs) j = some e.val := by simp [valueAt]
        rw [e1, e2]
        exact He.relB_ok h3
      · have e1 : List.lookup j ((i, v) :: r) = List.lookup j r := by
          have : (j == i) = false := beq_eq_false_iff_ne.mpr hj
          simp [List.lookup, this]
        have e2 : valueAt ((i, e.val) :: vs) j = valueAt vs j := by
          have : ¬ i = j := fun z => hj z.symm
          simp [valueAt, List.find?, this]
        rw [e1, e2]
        exact p4 j
theorem idB_map {P : Program} {w : World} {h : Heap} (X : K.In h) (q : idB K a kvs = true) (hn : (kvs.map (·.1)).Nodup) : (a == sysModules) = false ∧
    ∃ f : Int → Option Value, h.MapOf (intKind P w) a f ∧ ∀ i, RelO ((kvs.lookup i).map fun v => v.v K) (f i) := by
  unfold idB at q
  split at q
  · rename_i c es n sl ho
    obtain ⟨h1, q⟩ := He.ba q
    obtain ⟨h2, q⟩ := He.ba q
    obtain ⟨h3, h4⟩ := He.ba q
    obtain ⟨vs, p1, p2, p3, p4⟩ := entB_ok (P := P) (w := w) h4
    have e1 : c = "dict" := of_decide_eq_true h1
    have e2 : sl = #[] := Array.isEmpty_iff.mp h2
    subst e1 e2
    have low : (a == sysModules) = false := by
      cases y : a == sysModules with
      | false => rfl
      | true => rw [y] at h3; cases h3
    refine ⟨low, valueAt vs, Heap.DictOf.mapOf (kvs := vs) ⟨_, es, n, X _ _ ho, ⟨rfl, rfl, rfl⟩, rfl, fun e he => p2 e (by simpa using he), p1, by rw [p3]; exact hn⟩, p4⟩
  · cases q
end
section
variable {X : Cx} {a : Addr} {kvs : List (Int × He.Dv)}
/-- i in d -/
def rInId (a : Addr) (kvs : List (Int × He.Dv)) : R2 := fun x y H Q => ∃ i, x = .int i ∧ y = .ref a ∧ Q (.bl (kvs.lookup i).isSome) H
theorem op_in_id (q : idB X.K a kvs = true) (hn : (kvs.map (·.1)).Nodup) : OpR X (compareOp .In) (rInId a kvs) := by
  intro pins s σ H x y v u Q I rx ry h
  obtain ⟨i, rfl, rfl, q2⟩ := h
  obtain ⟨t, rfl⟩ := rx
  cases ry
  obtain ⟨low, f, hm, hf⟩ := idB_map (P := X.prog) (w := X.w) I.kIn q hn
  refine wpAny_in_of (knd := intKind X.prog X.w) (k := i) (by simp [intKind, Value.isInt]) low hm ?_
  have e : (f i).isSome = (kvs.lookup i).isSome := by
    have z := hf i
    cases e1 : kvs.lookup i with
    | none =>
      rw [e1] at z
      cases e2 : f i with
      | none => rfl
      | some w => rw [e2] at z; exact z.elim
    | some w =>
      rw [e1] at z
      cases e2 : f i with
      | none => rw [e2] at z; exact z.elim
      | some w => rfl
  rw [e]
  exact ⟨.bl _, H, I.tok _, rfl, q2⟩
/-- d[i] -/
def rIxId (K : PySem.W.Frag) (a : Addr) (kvs : List (Int × He.Dv)) : R2 := fun x y H Q => ∃ i v, x = .ref a ∧ y = .int i ∧ kvs.lookup i = some v ∧ Q (v.v K) H
theorem ix_id (q : idB X.K a kvs = true) (hn : (kvs.map (·.1)).Nodup) : IxR X (rIxId X.K a kvs) := by
  intro value slice pins s σ H x y v u Q I rx ry h hs
  obtain ⟨i, z, rfl, rfl, e, q2⟩ := h
  obtain rfl : v = Value.ref a := rx
  obtain ⟨t, rfl⟩ := ry
  obtain ⟨low, f, hm, hf⟩ := idB_map (P := X.prog) (w := X.w) I.kIn q hn
  have z := hf i
  rw [e] at z
  cases e2 : f i with
  | none => rw [e2] at z; exact z.elim
  | some w =>
    rw [e2] at z
    exact tail_any hm.typeIs slot_dict_getitem.lookup (wpAny_getItem_of (knd := intKind X.prog X.w) (k := i) (by simp [intKind, Value.isInt]) hm e2 ⟨_, H, I.tok _, z, q2⟩) hs
/-- d.get(i, z) -/
def tGetId (K : PySem.W.Frag) (a : Addr) (kvs : List (Int × He.Dv)) (td ty tx : TE) : TE := fun σ H Q => td σ H fun x H1 => x = .ref a ∧ ty σ H1 fun y H2 => tx σ H2 fun z H3 => ∃ i, y = .int i ∧ Q (((kvs.lookup i).map fun v => v.v K).getD z) H3
theorem pe_getId {o e f : Expr} {apos cpos : Pos} {td ty tx : TE} (q : idB X.K a kvs = true) (hn : (kvs.map (·.1)).Nodup) (ho : PE X o td) (he : PE X e ty) (hf : PE X f tx) (m : M2 X o "get" apos e f cpos) :
    PE X (.Call (.Attribute o "get" apos) [e, f] [] cpos) (tGetId X.K a kvs td ty tx) := by
  refine ⟨fun pins s σ H Q I h => ?_⟩
  refine wpAny_Call_method m.base m.few m.line PySem.F.plainAttrs_dict PySem.F.slot_dict_get PySem.F.type_dict_get (thn (ho.run pins s σ H _ I h) fun u s1 ⟨x, H1, I1, rx, ex, q1⟩ => ?_)
  subst ex
  obtain rfl : u = Value.ref a := rx
  obtain ⟨low, f0, hm0, _⟩ := idB_map (P := X.prog) (w := X.w) I1.kIn q hn
  refine ⟨hm0.typeIs, fun b q => ?_, ?_⟩
  · cases q
    obtain ⟨ob, _, _, h1, h2, _⟩ := hm0
    exact ⟨ob, h1, h2.2.1⟩
  rw [m.trees]
  refine Calls.callWith_builtin rfl (Calls.evalArgs_plain (Calls.spliced_cons (thn (he.run pins s1 σ H1 _ I1 q1) fun iv s2 ⟨y, H2, I2, ry, q2⟩ =>
    Calls.spliced_cons (thn (hf.run pins s2 σ H2 _ I2 q2) fun fv s3 ⟨z, H3, I3, rz, i, ey, q3⟩ => Calls.spliced_nil ?_))))
  subst ey
  obtain ⟨_, f1, hm, hfi⟩ := idB_map (P := X.prog) (w := X.w) I3.kIn q hn
  obtain ⟨t, rfl⟩ := (show ∃ t, iv = Value.int i t from ry)
  refine call_meetsIn PySem.F.slot_dict_get hm.typeIs PySem.F.entry_dict_get (PySem.F.args_dict_get_3 _ _ _) (meets_dict_get_default (intKind X.prog X.w) a (k := i) (by simp [intKind, Value.isInt]) low fv) ⟨f1, hm, _, H3, I3.tok _, ?_, q3⟩
  have z := hfi i
  cases e1 : kvs.lookup i with
  | none =>
    rw [e1] at z
    cases e2 : f1 i with
    | none => exact rz
    | some w => rw [e2] at z; exact z.elim
  | some w =>
    rw [e1] at z
    cases e2 : f1 i with
    | none => rw [e2] at z; exact z.elim
    | some w => rw [e2] at z; exact z
end
/-! ### methods, new instances, a def that lets on what its callee raises -/
structure Dm (P : Program) (w : World) (K : PySem.W.Frag) (mg : Str → Option Value) (base : Heap) (CX : CXT) (k : Nat) (f : Addr) (ps : List Str) (sp : Sp) : Prop where
  ex : ∃ fd, Binds K fd ps [] ∧ FnOk P w K mg base CX k f fd ps sp
section
variable {X : Cx} {CX : CXT} {k : Nat} {x m : Str} {C f : Addr} {ps : List Str} {sp : Sp} {E : XK} {p pos apos : Pos} {o e : Expr} {es : List Expr} {ta : TE} {t : TA}
theorem pe_cl (M : Mk X.K C f) (D : Dm X.prog X.w X.K X.mg X.base CX k f ps sp) (hr : Room (k + 1) X.A) (hm : X.mg x = some (.ref C)) (hx : Passes CX X E) (ha : PA X (e :: es) t) (hg : Gl X x := by rfl) (hdb : (x == ("__debug__" : Str)) = false := by decide)
    (he : starEach (e :: es) X.env = (false, eval e X.env) :: starEach es X.env := by rfl) (hpl : (backTo pos (starEach es X.env)).any (·.1) = false := by rfl) : PE X (.Call (.Name x p) (e :: es) [] pos) (tMake C sp [] E t) := by
  obtain ⟨fd, hb, F⟩ := D.ex
  exact pe_make M F hr hg hm hb .nil hx ha hdb he hpl
theorem pe_cl0 (M : Mk X.K C f) (D : Dm X.prog X.w X.K X.mg X.base CX k f ps sp) (hr : Room (k + 1) X.A) (hm : X.mg x = some (.ref C)) (hx : Passes CX X E) (hg : Gl X x := by rfl) (hdb : (x == ("__debug__" : Str)) = false := by decide) :
    PE X (.Call (.Name x p) [] [] pos) (tMake C sp [] E tNil) := by
  obtain ⟨fd, hb, F⟩ := D.ex
  exact pe_make0 M F hr hg hm hb .nil hx hdb
theorem pe_me0 {pl : Sem Bool} (c : Cls X.K C) (hm : Meth X.K C m f) (D : Dm X.prog X.w X.K X.mg X.base CX k f ps sp) (hr : Room k X.A) (hx : Passes CX X E) (he : PE X o ta)
    (ht : eval (.Call (.Attribute o m apos) [] [] pos) X.env = (do
      let ov ← eval o X.env
      standAt apos.atName
      let (f, first) ← holding [ov] (getMethod ov m pl)
      callWith pos f first (backTo pos (starEach [] X.env)) (backToKw pos (keywordEach [] X.env))) := by rfl) :
    PE X (.Call (.Attribute o m apos) [] [] pos) (tMeth C m sp [] E ta tNil) := by
  obtain ⟨fd, hb, F⟩ := D.ex
  exact pe_meth0 he c hm F hr hb .nil hx ht
end
theorem pxr {P : Program} {w : World} {K : PySem.W.Frag} {mg : Str → Option Value} {base : Heap} {N : List Str} {qual : Str} {scope : Scope} {f : Addr} {cd : Value} {A : Around} {outer : List Env} {s : Shared} {H : Hp} {E : XK} :
    Passes (L2.CX P w) (cxOf (L2.CX P w) P w K mg base N qual scope f cd A outer s H E) E := passes_call (takes_of rfl rfl rfl rfl) (fun _ _ _ _ h => h)
/-! ### promises by the number of arguments -/
def sp1 (φ : V → Hp → VK → XK → Prop) : Sp := fun vs H Q E => ∃ a, vs = [a] ∧ φ a H Q E
def sp2 (φ : V → V → Hp → VK → XK → Prop) : Sp := fun vs H Q E => ∃ a b, vs = [a, b] ∧ φ a b H Q E
def sp3 (φ : V → V → V → Hp → VK → XK → Prop) : Sp := fun vs H Q E => ∃ a b c, vs = [a, b, c] ∧ φ a b c H Q E
def sp4 (φ : V → V → V → V → Hp → VK → XK → Prop) : Sp := fun vs H Q E => ∃ a b c d, vs = [a, b, c, d] ∧ φ a b c d H Q E
def sp5 (φ : V → V → V → V → V → Hp → VK → XK → Prop) : Sp := fun vs H Q E => ∃ a b c d e, vs = [a, b, c, d, e] ∧ φ a b c d e H Q E
theorem sp1_len {φ} (vs : List V) (H : Hp) (Q : VK) (E : XK) (h : sp1 φ vs H Q E) : vs.length = 1 := by obtain ⟨_, rfl, _⟩ := h; rfl
theorem sp2_len {φ} (vs : List V) (H : Hp) (Q : VK) (E : XK) (h : sp2 φ vs H Q E) : vs.length = 2 := by obtain ⟨_, _, rfl, _⟩ := h; rfl
theorem sp3_len {φ} (vs : List V) (H : Hp) (Q : VK) (E : XK) (h : sp3 φ vs H Q E) : vs.length = 3 := by obtain ⟨_, _, _, rfl, _⟩ := h; rfl
theorem sp4_len {φ} (vs : List V) (H : Hp) (Q : VK) (E : XK) (h : sp4 φ vs H Q E) : vs.length = 4 := by obtain ⟨_, _, _, _, rfl, _⟩ := h; rfl
theorem sp5_len {φ} (vs : List V) (H : Hp) (Q : VK) (E : XK) (h : sp5 φ vs H Q E) : vs.length = 5 := by obtain ⟨_, _, _, _, _, rfl, _⟩ := h; rfl
/-! ### rules with the written part named (within comprehensions) -/
section
variable {X : Cx} {K : PySem.W.Frag}
theorem op_neDK (hK : X.K = K) (hu : X.A.units + 64 < cLine) : OpR X (compareOp .NotEq) (rNeD K) := by
  subst hK
  exact op_neD hu
theorem op_in_seqK (hK : X.K = K) : OpR X (compareOp .In) (rIn K false) := by
  subst hK
  exact op_in_seq
end
end GW
/-! Plain law 4: words as texts -/
namespace GW
open PySem PySem.NumText
open Xb15 (Bytes isName parseNat? parseInt?)
/-- the sign of a byte -/
def sgn (c : Nat) : Nat := if (97 ≤ c ∧ c ≤ 122) ∨ (48 ≤ c ∧ c ≤ 57) ∨ c = 42 ∨ c = 43 ∨ c = 44 ∨ c = 45 ∨ c = 60 ∨ c = 61 then c else 63
theorem sgn_cases (c : Nat) : sgn c = c ∨ (sgn c = 63 ∧ ¬ (97 ≤ c ∧ c ≤ 122) ∧ ¬ (48 ≤ c ∧ c ≤ 57) ∧ c ≠ 42 ∧ c ≠ 43 ∧ c ≠ 44 ∧ c ≠ 45 ∧ c ≠ 60 ∧ c ≠ 61) := by
  unfold sgn
  split
  · exact .inl rfl
  · exact .inr ⟨rfl, by omega⟩
/-- a right sign is just its byte's -/
def Right (k : Nat) : Prop := (97 ≤ k ∧ k ≤ 122) ∨ (48 ≤ k ∧ k ≤ 57) ∨ k = 42 ∨ k = 43 ∨ k = 44 ∨ k = 45 ∨ k = 60 ∨ k = 61
theorem sgn_right {c k : Nat} (h : Right k) : sgn c = k ↔ c = k := by
  unfold Right at h
  rcases sgn_cases c with e | e <;> omega
theorem sgn_self {c : Nat} (h : Right c) : sgn c = c := (sgn_right h).mpr rfl
theorem sgn_letter (c : Nat) : (97 ≤ sgn c ∧ sgn c ≤ 122) ↔ (97 ≤ c ∧ c ≤ 122) := by
  rcases sgn_cases c with e | e <;> omega
theorem sgn_digit (c : Nat) : (48 ≤ sgn c ∧ sgn c ≤ 57) ↔ (48 ≤ c ∧ c ≤ 57) := by
  rcases sgn_cases c with e | e <;> omega
theorem sgn_lt (c : Nat) : sgn c < 128 := by unfold sgn; split <;> omega
/-- the word of bytes -/
def phi (w : Bytes) : Str := ⟨(w.map sgn).toArray⟩
theorem phi_list (w : Bytes) : (phi w).cps.toList = w.map sgn := by simp [phi]
theorem phi_len (w : Bytes) : (phi w).length = w.length := by simp [phi, Str.length]
theorem phi_eq {v w : Bytes} : phi v = phi w ↔ v.map sgn = w.map sgn := by
  constructor
  · intro h
    rw [← phi_list, ← phi_list, h]
  · intro h
    unfold phi
    rw [h]
/-- a word of right signs -/
def RightW (w : Bytes) : Prop := ∀ c ∈ w, Right c
theorem map_right : ∀ {v w : Bytes}, RightW w → (v.map sgn = w.map sgn ↔ v = w)
  | [], [], _ => by simp
  | [], b :: w, _ => by simp
  | a :: v, [], _ => by simp
  | a :: v, b :: w, h => by
    have ih := map_right (v := v) (w := w) fun c hc => h c (List.mem_cons_of_mem _ hc)
    have hb := h b (by simp)
    simp only [List.map_cons, List.cons.injEq]
    rw [ih, sgn_self hb, sgn_right hb]
theorem phi_right {v w : Bytes} (h : RightW w) : phi v = phi w ↔ v = w := phi_eq.trans (map_right h)
theorem right_name {w : Bytes} (h : isName w = true) : RightW w := by
  unfold isName at h
  simp only [Bool.and_eq_true, decide_eq_true_eq, List.all_eq_true] at h
  exact fun c hc => .inl (h.2.2 c hc)
/-- the texts that the program writes -/
theorem phi_ascii {z : String} {w : Bytes} (h : (Str.ofString z).cps.toList = w) (hr : RightW w) (v : Bytes) : phi v = Str.ofString z ↔ v = w := by
  have e : Str.ofString z = phi w := by
    have e1 : w.map sgn = w := by
      clear h
      induction w with
      | nil => rfl
      | cons a w ih => rw [List.map_cons, sgn_self (hr a (by simp)), ih fun c hc => hr c (List.mem_cons_of_mem _ hc)]
    unfold phi
    rw [e1, ← h]
  rw [e, phi_right hr]

theorem join_signs : ∀ ks : List Nat, Str.join ⟨#[]⟩ (ks.map fun c => (⟨#[c]⟩ : Str)) = ⟨ks.toArray⟩
  | [] => rfl
  | [c] => rfl
  | c :: d :: r => by
    have ih := join_signs (d :: r)
    show (⟨#[c]⟩ : Str) ++ ⟨#[]⟩ ++ Str.join ⟨#[]⟩ ((d :: r).map fun c => (⟨#[c]⟩ : Str)) = _
    rw [ih]
    show (⟨(#[c] ++ #[]) ++ (d :: r).toArray⟩ : Str) = _
    congr 1
    simp

/-! ### names and numbers -/
theorem letters_mem (c : Nat) : decide (sgn c ∈ ("abcdefghijklmnopqrstuvwxyz" : Str).cps.toList) = (decide (97 ≤ c) && decide (c ≤ 122)) := by
  have h : ∀ k, k < 128 → (decide (k ∈ ("abcdefghijklmnopqrstuvwxyz" : Str).cps.toList) = (decide (97 ≤ k) && decide (k ≤ 122))) := by decide +kernel
  rw [h _ (sgn_lt c)]
  have := sgn_letter c
  rw [Bool.eq_iff_iff]
  simp only [Bool.and_eq_true, decide_eq_true_eq]
  exact this
/-- a number's digits -/
def numD : Bytes → Bytes
  | 45 :: r => r
  | w => w
theorem parseInt_numD (w : Bytes) : (parseInt? w).isSome = (parseNat? (numD w)).isSome := by
  unfold parseInt? numD
  split
  · rename_i r
    cases parseNat? r <;> rfl
  · rename_i hn
    split
    · exact (hn _ rfl).elim
    · cases h : parseNat? w <;> rfl
theorem parseNat_is (d : Bytes) : (parseNat? d).isSome = (decide (1 ≤ d.length) && decide (d.length ≤ 4) && (d.all fun b => decide (48 ≤ b) && decide (b ≤ 57)) && (decide (d.length = 1) || !decide (d.head? = some 48))) := by
  unfold parseNat?
  split
  · rename_i h
    rw [Bool.eq_iff_iff]
    simp only [Option.isSome_none, Bool.false_eq_true, false_iff, Bool.and_eq_true, decide_eq_true_eq, Bool.or_eq_true, Bool.not_eq_true', decide_eq_false_iff_not, not_and, not_or]
    intro h12
    obtain ⟨⟨h1, h2⟩, h3⟩ := h12
    rcases h with h | h | h | h
    · rw [List.isEmpty_iff] at h; subst h; simp at h1
    · omega
    · rw [h] at h3; cases h3
    · exact ⟨by omega, fun z => z h.2⟩
  · rename_i h
    simp only [not_or] at h
    rw [Option.isSome_some, Eq.comm, Bool.and_eq_true, Bool.and_eq_true, Bool.and_eq_true, decide_eq_true_eq, decide_eq_true_eq, Bool.or_eq_true, decide_eq_true_eq]
    obtain ⟨h1, h2, h3, h4⟩ := h
    have l1 : 1 ≤ d.length := by
      cases d with
      | nil => simp at h1
      | cons a r => simp
    refine ⟨⟨⟨l1, by omega⟩, ?_⟩, ?_⟩
    · cases q : (d.all fun b => decide (48 ≤ b) && decide (b ≤ 57)) with
      | true => rfl
      | false => exact (h3 q).elim
    · by_cases hd : d.head? = some 48
      · exact .inl (by
          have : ¬ 1 < d.length := fun z => h4 ⟨z, hd⟩
          omega)
      · exact .inr (by simp [hd])
theorem numD_map (w : Bytes) : numD (w.map sgn) = (numD w).map sgn := by
  cases w with
  | nil => rfl
  | cons a r =>
    by_cases h : a = 45
    · subst h; rfl
    · have h' : sgn a ≠ 45 := fun z => h ((sgn_right (by unfold Right; omega)).mp z)
      simp only [List.map_cons]
      unfold numD
      split
      · rename_i e; simp at e; exact (h' e.1).elim
      · split
        · rename_i e; simp at e; exact (h e.1).elim
        · rfl
theorem digits_map {d : Bytes} (h : (d.all fun b => decide (48 ≤ b) && decide (b ≤ 57)) = true) : d.map sgn = d := by
  induction d with
  | nil => rfl
  | cons a r ih =>
    simp only [List.all_cons, Bool.and_eq_true, decide_eq_true_eq] at h
    rw [List.map_cons, sgn_self (.inr (.inl h.1)), ih h.2]
theorem all_map (d : Bytes) : ((d.map sgn).all fun b => decide (48 ≤ b) && decide (b ≤ 57)) = (d.all fun b => decide (48 ≤ b) && decide (b ≤ 57)) := by
  rw [List.all_map]
  congr 1
  funext b
  have := sgn_digit b
  rw [Bool.eq_iff_iff]
  simp only [Function.comp, Bool.and_eq_true, decide_eq_true_eq]
  exact this
theorem head_map (d : Bytes) : decide ((d.map sgn).head? = some 48) = decide (d.head? = some 48) := by
  cases d with
  | nil => rfl
  | cons a r =>
    simp only [List.map_cons, List.head?_cons, Option.some.injEq]
    have : sgn a = 48 ↔ a = 48 := sgn_right (by unfold Right; omega)
    rw [Bool.eq_iff_iff]
    simp only [decide_eq_true_eq]
    exact this
theorem isdigit_map (d : Bytes) : Txt.isdigit (phi d) = (decide (1 ≤ d.length) && (d.all fun b => decide (48 ≤ b) && decide (b ≤ 57))) := by
  have h : ∀ k, k < 128 → Unicode.isDigit k = (decide (48 ≤ k) && decide (k ≤ 57)) := by decide +kernel
  unfold Txt.isdigit
  rw [phi_len]
  have e1 : (phi d).cps.all Unicode.isDigit = (d.all fun b => decide (48 ≤ b) && decide (b ≤ 57)) := by
    rw [← all_map, ← phi_list, ← Array.all_toList]
    rw [phi_list, List.all_map, List.all_map]
    congr 1
    funext b
    exact h _ (sgn_lt b)
  rw [e1]
  congr 1
theorem parseNat_val {d : Bytes} {n : Nat} (h : parseNat? d = some n) : d ≠ [] ∧ d.length ≤ 4 ∧ (d.all fun b => decide (48 ≤ b) && decide (b ≤ 57)) = true ∧ n = digitsVal d := by
  have z := parseNat_is d
  rw [h] at z
  simp only [Option.isSome_some] at z
  have z := z.symm
  simp only [Bool.and_eq_true, decide_eq_true_eq] at z
  refine ⟨fun e => by rw [e] at z; simp at z, z.1.1.2, z.1.2, ?_⟩
  unfold parseNat? at h
  split at h
  · cases h
  · exact (Option.some.inj h).symm
theorem int_word {w : Bytes} {z : Int} (h : parseInt? w = some z) : PySem.intText? (phi w) = some z ∧ (phi w).length ≤ 640 := by
  have alld : ∀ {d : Bytes}, (d.all fun b => decide (48 ≤ b) && decide (b ≤ 57)) = true → AllDigits (d.map sgn) := fun {d} hd c hc => by
    rw [digits_map hd] at hc
    have := List.all_eq_true.mp hd c hc
    simpa using this
  unfold parseInt? at h
  split at h
  · rename_i r
    cases q : parseNat? r with
    | none => rw [q] at h; cases h
    | some n =>
      rw [q] at h
      have e : -(n : Int) = z := Option.some.inj h
      obtain ⟨h1, h2, h3, h4⟩ := parseNat_val q
      have hl : (phi (45 :: r)).length ≤ 640 := by rw [phi_len]; simp; omega
      refine ⟨?_, hl⟩
      rw [intText_neg (cs := r.map sgn) (by rw [phi_list]; rfl) (alld h3) (by simpa using h1) (by omega), digits_map h3, ← h4, e]
  · cases q : parseNat? w with
    | none => rw [q] at h; cases h
    | some n =>
      rw [q] at h
      have e : (n : Int) = z := Option.some.inj h
      obtain ⟨h1, h2, h3, h4⟩ := parseNat_val q
      have hl : (phi w).length ≤ 640 := by rw [phi_len]; omega
      refine ⟨?_, hl⟩
      rw [intText_digits (by rw [phi_list]; exact alld h3) (by rw [phi_list]; simpa using h1) (by omega), phi_list, digits_map h3, ← h4, e]
end GW
/-! Readings in small steps -/
namespace GW
open PySem PySem.Spec PyProof.Rows L2
theorem ifb {b : Bool} {A B : Prop} (h1 : b = true → A) (h2 : b = false → B) : if b = true then A else B := by
  cases b with
  | true => exact h1 rfl
  | false => exact h2 rfl
theorem ifd {p : Prop} [Decidable p] {A B : Prop} (h1 : p → A) (h2 : ¬ p → B) : if decide p = true then A else B := ifb (fun h => h1 (of_decide_eq_true h)) (fun h => h2 (of_decide_eq_false h))
theorem ifT {A B : Prop} {b : Bool} (hb : b = true) (h : A) : if b = true then A else B := by rw [if_pos hb]; exact h
theorem ifF {A B : Prop} {b : Bool} (hb : b = false) (h : B) : if b = true then A else B := by rw [hb, if_neg Bool.false_ne_true]; exact h
theorem atN {α : Type} {xs : List α} {z : Int} {j : Nat} {v : α} (e : z = (j : Int)) (h : xs[j]? = some v) : atI xs z = some v := by
  rw [e]
  exact atI_nat h
section
variable {σ : L2.St} {H : Hp} {ta tb tc te : TE} {K : PySem.W.Frag} {D : Ends} {t1 t2 : TS} {c : TT} {b : Bool} {x y z v : V}
theorem st_if (h : Ans c σ H b) (h1 : b = true → t1 D σ H) (h2 : b = false → t2 D σ H) : tIfS c t1 t2 D σ H := by
  refine h _ ?_
  exact ifb h1 h2
theorem val_chain_le {i j k : Int} (ha : Val ta σ H (.int i)) (hb : Val tb σ H (.int j)) (hc : Val tc σ H (.int k)) : Val (tChain (rI0 fun i j => .bl (decide (i ≤ j))) (rI0 fun i j => .bl (decide (i ≤ j))) ta tb tc) σ H (.bl (decide (i ≤ j) && decide (j ≤ k))) := by
  intro Q q
  refine ha _ (hb _ ⟨_, _, rfl, rfl, _, rfl, ?_⟩)
  refine ifd (fun h => ?_) (fun h => ?_)
  · rw [decide_eq_true h] at q
    exact hc _ ⟨_, _, rfl, rfl, q⟩
  · rw [decide_eq_false h] at q
    exact q
theorem val_chain_lelt {i j k : Int} (ha : Val ta σ H (.int i)) (hb : Val tb σ H (.int j)) (hc : Val tc σ H (.int k)) : Val (tChain (rI0 fun i j => .bl (decide (i ≤ j))) (rI0 fun i j => .bl (decide (i < j))) ta tb tc) σ H (.bl (decide (i ≤ j) && decide (j < k))) := by
  intro Q q
  refine ha _ (hb _ ⟨_, _, rfl, rfl, _, rfl, ?_⟩)
  refine ifd (fun h => ?_) (fun h => ?_)
  · rw [decide_eq_true h] at q
    exact hc _ ⟨_, _, rfl, rfl, q⟩
  · rw [decide_eq_false h] at q
    exact q
theorem ans_of (h : Val te σ H (.bl b)) : Ans (tTest te) σ H b := fun Q q => h _ ⟨b, rfl, q⟩
theorem ans_ofB (h : Val te σ H (.bl b)) : Ans (tB te) σ H b := fun Q q => h _ ⟨b, rfl, q⟩
theorem val_I {g : Int → Int → V} {i j : Int} (ha : Val ta σ H (.int i)) (hb : Val tb σ H (.int j)) : Val (tOp (rI0 g) ta tb) σ H (g i j) := fun Q q => ha _ (hb _ ⟨i, j, rfl, rfl, q⟩)
theorem val_eq (ha : Val ta σ H x) (hb : Val tb σ H y) (hs : scal x y = true) : Val (tOp rEq ta tb) σ H (.bl (decide (x = y))) := fun Q q => ha _ (hb _ ⟨hs, q⟩)
theorem val_ne (ha : Val ta σ H x) (hb : Val tb σ H y) (hs : scal x y = true) : Val (tOp rNe ta tb) σ H (.bl (!decide (x = y))) := fun Q q => ha _ (hb _ ⟨hs, q⟩)
theorem val_if (h : Ans c σ H b) (h1 : b = true → Val ta σ H v) (h2 : b = false → Val tb σ H v) : Val (tIf c ta tb) σ H v := fun Q q => by
  refine h _ (ifb (fun e => h1 e _ q) (fun e => h2 e _ q))
theorem val_orV {a b : Bool} (h1 : Val ta σ H (.bl a)) (h2 : a = false → Val tb σ H (.bl b)) : Val (tOrV ta tb) σ H (.bl (a || b)) := fun Q q => by
  refine h1 _ ⟨a, rfl, ?_⟩
  cases a with
  | true => exact q
  | false => exact h2 rfl _ q
theorem val_andV {a b : Bool} (h1 : Val ta σ H (.bl a)) (h2 : a = true → Val tb σ H (.bl b)) : Val (tAndV ta tb) σ H (.bl (a && b)) := fun Q q => by
  refine h1 _ ⟨a, rfl, ?_⟩
  cases a with
  | true => exact h2 rfl _ q
  | false => exact q
theorem val_notV {a : Bool} (h1 : Val ta σ H (.bl a)) : Val (tNotV ta) σ H (.bl (!a)) := fun Q q => h1 _ ⟨a, rfl, q⟩
theorem ans_orB {t u : TT} {a b : Bool} (h1 : Ans t σ H a) (h2 : Ans u σ H b) : Ans (tOr t u) σ H (a || b) := fun Q q => by
  refine h1 _ ?_
  cases a with
  | true => exact q
  | false => exact h2 Q q
theorem val_is (h : Val te σ H v) (e : v = z) : Val te σ H z := e ▸ h
theorem ans_is {b' : Bool} (h : Ans c σ H b) (e : b = b') : Ans c σ H b' := e ▸ h
end
/-! ### heaps that keep what was there -/
theorem same_new {H H' : Hp} {p : Addr} {o : HO} (e : Same H H') (h : H p = none) : Same H (upd H' p o) := fun b u q => by
  rw [upd_ne (ne_of_none q h)]
  exact e b u q
theorem same_upd {H : Hp} {p : Addr} {o : HO} (h : H p = none) : Same H (upd H p o) := same_new (Same.refl H) h
theorem Same.l {H H' : Hp} (e : Same H H') {a : Addr} {o : HO} (h : H a = some o) : H' a = some o := e a o h
theorem Same.sqt {K : PySem.W.Frag} {H H' : Hp} {a : Addr} {xs : List V} (e : Same H H') (h : SqT K H a xs) : SqT K H' a xs := by
  rcases h with (h | ⟨o, h⟩) | h
  · exact .inl (.inl (e _ _ h))
  · exact .inl (.inr ⟨o, e _ _ h⟩)
  · exact .inr h
theorem lineN {n : Nat} (h : n ≤ 100000) : n < sizeLine := Nat.lt_of_le_of_lt h (by decide)
theorem lineL {n : Nat} (h : n ≤ 100000) : n ≤ sizeLine := Nat.le_of_lt (lineN h)
theorem map_get {α : Type} {g : α → V} {l : List α} {i : Nat} {y : V} (h : (l.map g)[i]? = some y) : ∃ z, l[i]? = some z ∧ y = g z := by
  rw [List.getElem?_map] at h
  cases e : l[i]? with
  | none => rw [e] at h; cases h
  | some z => rw [e] at h; exact ⟨z, rfl, (Option.some.inj h).symm⟩
/-- a comprehension whose element and test leave what was there: the images of what passes -/
theorem lc_gen {J : It} {n : Nat} {G : Hp → Prop} {Y : Nat → Hp → V → Hp → Prop} (w : Walk J n G Y) {g : TG} {tt : TT} {te : TE} {vs : List Nat} {σ : L2.St} {H1 : Hp} {D : Addr} {Qd : Hp → Prop} {α : Type} {zs : List α} (σ' : α → L2.St) (p : α → Bool) (fv : α → V)
    (hn : n = zs.length) (hl : zs.length ≤ 100000) (hD : H1 D = none) (hG : ∀ H', Same H1 H' → G H') (hw : ∀ z, wipe (σ' z) vs = wipe σ vs)
    (hg : ∀ (i : Nat) (z : α) (H : Hp) (x : V) (H' : Hp) (R : L2.St → Hp → Prop), zs[i]? = some z → Same H1 H → Y i H x H' → (∀ H'', Same H H'' → R (σ' z) H'') → g x (wipe σ vs) H' R)
    (ht : ∀ (z : α) (H' : Hp) (R : Bool → Hp → Prop), z ∈ zs → Same H1 H' → (∀ H'', Same H' H'' → R (p z) H'') → tt (σ' z) H' R)
    (he : ∀ (z : α) (H' : Hp) (R : VK), z ∈ zs → p z = true → Same H1 H' → (∀ H'', Same H' H'' → R (fv z) H'') → te (σ' z) H' R)
    (hd : ∀ H', Same H1 H' → H' D = some (.lst ((zs.filter p).map fv)) → Qd H') :
    ∃ W : Nat → Nat → Hp → Prop, (∃ m, W 0 m (upd H1 D (.lst []))) ∧ ∀ i m H, W i m H →
      (J.stop i H ∧ Qd H) ∨ (J.go i H ∧ ∃ Nx : Hp → Prop, (∀ H', Nx H' → ∃ m', m' < m ∧ W (i + 1) m' H') ∧ ∀ x H', J.yld i H x H' → g x (wipe σ vs) H' fun σ2 H2 => wipe σ2 vs = wipe σ vs ∧ tt σ2 H2 fun b H3 =>
        if b = true then te σ2 H3 fun y H4 => ∃ acc, H4 D = some (.lst acc) ∧ acc.length < sizeLine ∧ Nx (upd H4 D (.lst (acc ++ [y]))) else Nx H3) := by
  refine lc_it w (fun i H' => Same H1 H' ∧ H' D = some (.lst (((zs.take i).filter p).map fv))) ⟨same_upd hD, by rw [upd_same]; rfl⟩ (fun i H' _ q => hG H' q.1) (fun i x H H' hi q y => ?_) (fun H' q => ?_)
  · obtain ⟨q1, q2⟩ := q
    obtain ⟨z, hz⟩ : ∃ z, zs[i]? = some z := ⟨zs[i]'(by omega), by simp⟩
    have hm := List.mem_of_getElem? hz
    refine hg i z H x H' _ hz q1 y fun H2 s2 => ⟨hw z, ht z H2 _ hm (q1.trans s2) fun H3 s3 => ?_⟩
    have tk : (zs.take (i + 1)).filter p = (zs.take i).filter p ++ (if p z = true then [z] else []) := by
      rw [List.take_succ, hz]
      simp [List.filter_append]
      by_cases hp : p z = true <;> simp [hp]
    refine ifb (fun hp => ?_) (fun hp => ?_)
    · refine he z H3 _ hm hp (q1.trans (s2.trans s3)) fun H4 s4 => ⟨_, (s2.trans (s3.trans s4)) _ _ q2, ?_, same_new (q1.trans (s2.trans (s3.trans s4))) hD, ?_⟩
      · refine lineN ?_
        rw [List.length_map]
        have := List.length_filter_le p (zs.take i)
        rw [List.length_take] at this
        omega
      · rw [upd_same, tk, if_pos hp]
        simp
    · refine ⟨q1.trans (s2.trans s3), ?_⟩
      rw [tk, if_neg (by rw [hp]; decide), List.append_nil]
      exact (s2.trans s3) _ _ q2
  · rw [hn, List.take_length] at q
    exact hd H' q.1 q.2
/-! ### lists against [] -/
section
variable {K : PySem.W.Frag} {H : Hp}
theorem eqvAll_nil (ds : List PyData) : PyData.eqvAll ds [] = ds.isEmpty := by
  cases ds <;> simp [PyData.eqvAll]
theorem dpAll_isEmpty {xs : List V} {ds : List PyData} (h : DpAll K H xs ds) : ds.isEmpty = xs.isEmpty := by
  cases h <;> rfl
theorem neD_nil {a p : Addr} {xs : List V} {ds : List PyData} {R : VK} (ha : SqL K H a xs) (hd : DpAll K H xs ds) (hc : PyData.canLayAll0 ds = true) (hk : PyData.depthAll ds ≤ 60) (hp : H p = some (.lst [])) (q : R (.bl (!xs.isEmpty)) H) : rNeD K (.ref a) (.ref p) H R := by
  refine ⟨.list ds, .list [], .lst ha hd, .lst (SqL.of hp) .nil, ?_, by decide +kernel, ?_⟩
  · unfold SeqAt.shaped
    rw [Bool.and_eq_true, decide_eq_true_eq]
    exact ⟨by unfold PyData.canLay0; exact hc, by unfold PyData.depth; omega⟩
  · have e : PyData.eqv (.list ds) (.list []) = xs.isEmpty := by
      show PyData.eqvAll ds [] = _
      rw [eqvAll_nil, dpAll_isEmpty hd]
    rw [e]
    exact q
theorem eqD_nil {a p : Addr} {xs : List V} {ds : List PyData} {R : VK} (ha : SqL K H a xs) (hd : DpAll K H xs ds) (hc : PyData.canLayAll0 ds = true) (hk : PyData.depthAll ds ≤ 60) (hp : H p = some (.lst [])) (q : R (.bl xs.isEmpty) H) : rEqD K (.ref a) (.ref p) H R := by
  refine ⟨.list ds, .list [], .lst ha hd, .lst (SqL.of hp) .nil, ?_, by decide +kernel, ?_⟩
  · unfold SeqAt.shaped
    rw [Bool.and_eq_true, decide_eq_true_eq]
    exact ⟨by unfold PyData.canLay0; exact hc, by unfold PyData.depth; omega⟩
  · have e : PyData.eqv (.list ds) (.list []) = xs.isEmpty := by
      show PyData.eqvAll ds [] = _
      rw [eqvAll_nil, dpAll_isEmpty hd]
    rw [e]
    exact q
theorem dp_ints : ∀ ns : List Int, DpAll K H (ns.map V.int) (ns.map PyData.int)
  | [] => .nil
  | n :: r => .cons (.int n) (dp_ints r)
theorem lay_ints : ∀ ns : List Int, PyData.canLayAll0 (ns.map PyData.int) = true ∧ PyData.depthAll (ns.map PyData.int) ≤ 60
  | [] => by decide +kernel
  | n :: r => by
    obtain ⟨h1, h2⟩ := lay_ints r
    simp only [List.map_cons, PyData.canLayAll0, PyData.canLay0, PyData.depthAll, PyData.depth, Bool.true_and]
    exact ⟨h1, by omega⟩
end
end GW
/-! The fields of the classes: printed by gen/flds.py -/
namespace GW
open PySem PySem.Spec PyProof.Rows L2
section
variable {K : PySem.W.Frag} {w : World} {mg : Str → Option Value} {σ : L2.St} {H : Hp} {ta tv : TE} {a dx : Addr} {D : Ends} {y : V}
def fCell (x0 x1 x2 x3 : V) : List (Str × V) := [("name", x0), ("kind", x1), ("low", x2), ("high", x3)]
abbrev atCell (K : PySem.W.Frag) (H : Hp) (a dx : Addr) (x0 x1 x2 x3 : V) : Prop := H a = some (.ins (He.ga K "Cell") dx (fCell x0 x1 x2 x3))
theorem lk_Cell_name {x0 x1 x2 x3 : V} : (fCell x0 x1 x2 x3).lookup ("name" : Str) = some x0 := by kernel_rfl
theorem pt_Cell_name {x0 x1 x2 x3 y : V} : putF "name" y (fCell x0 x1 x2 x3) = fCell y x1 x2 x3 := by kernel_rfl
theorem Tx.v_Cell_name (T : Tx K w mg) {x0 x1 x2 x3 : V} (h : Val ta σ H (.ref a)) (hc : atCell K H a dx x0 x1 x2 x3) : Val (tFld K ta "name") σ H x0 := val_fld h hc T.k_Cell T.n_Cell_name lk_Cell_name
theorem Tx.w_Cell_name (T : Tx K w mg) {x0 x1 x2 x3 : V} (hv : Val tv σ H y) (h : Val ta σ H (.ref a)) (hc : atCell K H a dx x0 x1 x2 x3) (q : D.nx σ (upd H a (.ins (He.ga K "Cell") dx (fCell y x1 x2 x3)))) : sFld K ta tv "name" D σ H := st_fld hv h hc T.k_Cell T.n_Cell_name (by show 4 < 1000; decide) (by rw [pt_Cell_name]; exact q)
theorem lk_Cell_kind {x0 x1 x2 x3 : V} : (fCell x0 x1 x2 x3).lookup ("kind" : Str) = some x1 := by kernel_rfl
theorem pt_Cell_kind {x0 x1 x2 x3 y : V} : putF "kind" y (fCell x0 x1 x2 x3) = fCell x0 y x2 x3 := by kernel_rfl
theorem Tx.v_Cell_kind (T : Tx K w mg) {x0 x1 x2 x3 : V} (h : Val ta σ H (.ref a)) (hc : atCell K H a dx x0 x1 x2 x3) : Val (tFld K ta "kind") σ H x1 := val_fld h hc T.k_Cell T.n_Cell_kind lk_Cell_kind
theorem Tx.w_Cell_kind (T : Tx K w mg) {x0 x1 x2 x3 : V} (hv : Val tv σ H y) (h : Val ta σ H (.ref a)) (hc : atCell K H a dx x0 x1 x2 x3) (q : D.nx σ (upd H a (.ins (He.ga K "Cell") dx (fCell x0 y x2 x3)))) : sFld K ta tv "kind" D σ H := st_fld hv h hc T.k_Cell T.n_Cell_kind (by show 4 < 1000; decide) (by rw [pt_Cell_kind]; exact q)
theorem lk_Cell_low {x0 x1 x2 x3 : V} : (fCell x0 x1 x2 x3).lookup ("low" : Str) = some x2 := by kernel_rfl
theorem pt_Cell_low {x0 x1 x2 x3 y : V} : putF "low" y (fCell x0 x1 x2 x3) = fCell x0 x1 y x3 := by kernel_rfl
theorem Tx.v_Cell_low (T : Tx K w mg) {x0 x1 x2 x3 : V} (h : Val ta σ H (.ref a)) (hc : atCell K H a dx x0 x1 x2 x3) : Val (tFld K ta "low") σ H x2 := val_fld h hc T.k_Cell T.n_Cell_low lk_Cell_low
theorem Tx.w_Cell_low (T : Tx K w mg) {x0 x1 x2 x3 : V} (hv : Val tv σ H y) (h : Val ta σ H (.ref a)) (hc : atCell K H a dx x0 x1 x2 x3) (q : D.nx σ (upd H a (.ins (He.ga K "Cell") dx (fCell x0 x1 y x3)))) : sFld K ta tv "low" D σ H := st_fld hv h hc T.k_Cell T.n_Cell_low (by show 4 < 1000; decide) (by rw [pt_Cell_low]; exact q)
theorem lk_Cell_high {x0 x1 x2 x3 : V} : (fCell x0 x1 x2 x3).lookup ("high" : Str) = some x3 := by kernel_rfl
theorem pt_Cell_high {x0 x1 x2 x3 y : V} : putF "high" y (fCell x0 x1 x2 x3) = fCell x0 x1 x2 y := by kernel_rfl
theorem Tx.v_Cell_high (T : Tx K w mg) {x0 x1 x2 x3 : V} (h : Val ta σ H (.ref a)) (hc : atCell K H a dx x0 x1 x2 x3) : Val (tFld K ta "high") σ H x3 := val_fld h hc T.k_Cell T.n_Cell_high lk_Cell_high
theorem Tx.w_Cell_high (T : Tx K w mg) {x0 x1 x2 x3 : V} (hv : Val tv σ H y) (h : Val ta σ H (.ref a)) (hc : atCell K H a dx x0 x1 x2 x3) (q : D.nx σ (upd H a (.ins (He.ga K "Cell") dx (fCell x0 x1 x2 y)))) : sFld K ta tv "high" D σ H := st_fld hv h hc T.k_Cell T.n_Cell_high (by show 4 < 1000; decide) (by rw [pt_Cell_high]; exact q)
theorem in_Cell_0 {x0 : V} : putF "name" x0 ([] : List (Str × V)) = ([("name", x0)] : List (Str × V)) := by kernel_rfl
theorem in_Cell_1 {x0 x1 : V} : putF "kind" x1 ([("name", x0)] : List (Str × V)) = ([("name", x0), ("kind", x1)] : List (Str × V)) := by kernel_rfl
theorem in_Cell_2 {x0 x1 x2 : V} : putF "low" x2 ([("name", x0), ("kind", x1)] : List (Str × V)) = ([("name", x0), ("kind", x1), ("low", x2)] : List (Str × V)) := by kernel_rfl
theorem in_Cell_3 {x0 x1 x2 x3 : V} : putF "high" x3 ([("name", x0), ("kind", x1), ("low", x2)] : List (Str × V)) = ([("name", x0), ("kind", x1), ("low", x2), ("high", x3)] : List (Str × V)) := by kernel_rfl
def fInstruction (x0 x1 x2 x3 x4 x5 x6 x7 x8 : V) : List (Str × V) := [("word", x0), ("line", x1), ("way", x2), ("cell", x3), ("first", x4), ("second", x5), ("slot", x6), ("number", x7), ("goal", x8)]
abbrev atInstruction (K : PySem.W.Frag) (H : Hp) (a dx : Addr) (x0 x1 x2 x3 x4 x5 x6 x7 x8 : V) : Prop := H a = some (.ins (He.ga K "Instruction") dx (fInstruction x0 x1 x2 x3 x4 x5 x6 x7 x8))
theorem lk_Instruction_word {x0 x1 x2 x3 x4 x5 x6 x7 x8 : V} : (fInstruction x0 x1 x2 x3 x4 x5 x6 x7 x8).lookup ("word" : Str) = some x0 := by kernel_rfl
theorem pt_Instruction_word {x0 x1 x2 x3 x4 x5 x6 x7 x8 y : V} : putF "word" y (fInstruction x0 x1 x2 x3 x4 x5 x6 x7 x8) = fInstruction y x1 x2 x3 x4 x5 x6 x7 x8 := by kernel_rfl
theorem Tx.v_Instruction_word (T : Tx K w mg) {x0 x1 x2 x3 x4 x5 x6 x7 x8 : V} (h : Val ta σ H (.ref a)) (hc : atInstruction K H a dx x0 x1 x2 x3 x4 x5 x6 x7 x8) : Val (tFld K ta "word") σ H x0 := val_fld h hc T.k_Instruction T.n_Instruction_word lk_Instruction_word
theorem Tx.w_Instruction_word (T : Tx K w mg) {x0 x1 x2 x3 x4 x5 x6 x7 x8 : V} (hv : Val tv σ H y) (h : Val ta σ H (.ref a)) (hc : atInstruction K H a dx x0 x1 x2 x3 x4 x5 x6 x7 x8) (q : D.nx σ (upd H a (.ins (He.ga K "Instruction") dx (fInstruction y x1 x2 x3 x4 x5 x6 x7 x8)))) : sFld K ta tv "word" D σ H := st_fld hv h hc T.k_Instruction T.n_Instruction_word (by show 9 < 1000; decide) (by rw [pt_Instruction_word]; exact q)
theorem lk_Instruction_line {x0 x1 x2 x3 x4 x5 x6 x7 x8 : V} : (fInstruction x0 x1 x2 x3 x4 x5 x6 x7 x8).lookup ("line" : Str) = some x1 := by kernel_rfl
theorem pt_Instruction_line {x0 x1 x2 x3 x4 x5 x6 x7 x8 y : V} : putF "line" y (fInstruction x0 x1 x2 x3 x4 x5 x6 x7 x8) = fInstruction x0 y x2 x3 x4 x5 x6 x7 x8 := by kernel_rfl
theorem Tx.v_Instruction_line (T : Tx K w mg) {x0 x1 x2 x3 x4 x5 x6 x7 x8 : V} (h : Val ta σ H (.ref a)) (hc : atInstruction K H a dx x0 x1 x2 x3 x4 x5 x6 x7 x8) : Val (tFld K ta "line") σ H x1 := val_fld h hc T.k_Instruction T.n_Instruction_line lk_Instruction_line
theorem Tx.w_Instruction_line (T : Tx K w mg) {x0 x1 x2 x3 x4 x5 x6 x7 x8 : V} (hv : Val tv σ H y) (h : Val ta σ H (.ref a)) (hc : atInstruction K H a dx x0 x1 x2 x3 x4 x5 x6 x7 x8) (q : D.nx σ (upd H a (.ins (He.ga K "Instruction") dx (fInstruction x0 y x2 x3 x4 x5 x6 x7 x8)))) : sFld K ta tv "line" D σ H := st_fld hv h hc T.k_Instruction T.n_Instruction_line (by show 9 < 1000; decide) (by rw [pt_Instruction_line]; exact q)
theorem lk_Instruction_way {x0 x1 x2 x3 x4 x5 x6 x7 x8 : V} : (fInstruction x0 x1 x2 x3 x4 x5 x6 x7 x8).lookup ("way" : Str) = some x2 := by kernel_rfl
theorem pt_Instruction_way {x0 x1 x2 x3 x4 x5 x6 x7 x8 y : V} : putF "way" y (fInstruction x0 x1 x2 x3 x4 x5 x6 x7 x8) = fInstruction x0 x1 y x3 x4 x5 x6 x7 x8 := by kernel_rfl
theorem Tx.v_Instruction_way (T : Tx K w mg) {x0 x1 x2 x3 x4 x5 x6 x7 x8 : V} (h : Val ta σ H (.ref a)) (hc : atInstruction K H a dx x0 x1 x2 x3 x4 x5 x6 x7 x8) : Val (tFld K ta "way") σ H x2 := val_fld h hc T.k_Instruction T.n_Instruction_way lk_Instruction_way
theorem Tx.w_Instruction_way (T : Tx K w mg) {x0 x1 x2 x3 x4 x5 x6 x7 x8 : V} (hv : Val tv σ H y) (h : Val ta σ H (.ref a)) (hc : atInstruction K H a dx x0 x1 x2 x3 x4 x5 x6 x7 x8) (q : D.nx σ (upd H a (.ins (He.ga K "Instruction") dx (fInstruction x0 x1 y x3 x4 x5 x6 x7 x8)))) : sFld K ta tv "way" D σ H := st_fld hv h hc T.k_Instruction T.n_Instruction_way (by show 9 < 1000; decide) (by rw [pt_Instruction_way]; exact q)
theorem lk_Instruction_cell {x0 x1 x2 x3 x4 x5 x6 x7 x8 : V} : (fInstruction x0 x1 x2 x3 x4 x5 x6 x7 x8).lookup ("cell" : Str) = some x3 := by kernel_rfl
theorem pt_Instruction_cell {x0 x1 x2 x3 x4 x5 x6 x7 x8 y : V} : putF "cell" y (fInstruction x0 x1 x2 x3 x4 x5 x6 x7 x8) = fInstruction x0 x1 x2 y x4 x5 x6 x7 x8 := by kernel_rfl
theorem Tx.v_Instruction_cell (T : Tx K w mg) {x0 x1 x2 x3 x4 x5 x6 x7 x8 : V} (h : Val ta σ H (.ref a)) (hc : atInstruction K H a dx x0 x1 x2 x3 x4 x5 x6 x7 x8) : Val (tFld K ta "cell") σ H x3 := val_fld h hc T.k_Instruction T.n_Instruction_cell lk_Instruction_cell
theorem Tx.w_Instruction_cell (T : Tx K w mg) {x0 x1 x2 x3 x4 x5 x6 x7 x8 : V} (hv : Val tv σ H y) (h : Val ta σ H (.ref a)) (hc : atInstruction K H a dx x0 x1 x2 x3 x4 x5 x6 x7 x8) (q : D.nx σ (upd H a (.ins (He.ga K "Instruction") dx (fInstruction x0 x1 x2 y x4 x5 x6 x7 x8)))) : sFld K ta tv "cell" D σ H := st_fld hv h hc T.k_Instruction T.n_Instruction_cell (by show 9 < 1000; decide) (by rw [pt_Instruction_cell]; exact q)
theorem lk_Instruction_first {x0 x1 x2 x3 x4 x5 x6 x7 x8 : V} : (fInstruction x0 x1 x2 x3 x4 x5 x6 x7 x8).lookup ("first" : Str) = some x4 := by kernel_rfl
theorem pt_Instruction_first {x0 x1 x2 x3 x4 x5 x6 x7 x8 y : V} : putF "first" y (fInstruction x0 x1 x2 x3 x4 x5 x6 x7 x8) = fInstruction x0 x1 x2 x3 y x5 x6 x7 x8 := by kernel_rfl
theorem Tx.v_Instruction_first (T : Tx K w mg) {x0 x1 x2 x3 x4 x5 x6 x7 x8 : V} (h : Val ta σ H (.ref a)) (hc : atInstruction K H a dx x0 x1 x2 x3 x4 x5 x6 x7 x8) : Val (tFld K ta "first") σ H x4 := val_fld h hc T.k_Instruction T.n_Instruction_first lk_Instruction_first
theorem Tx.w_Instruction_first (T : Tx K w mg) {x0 x1 x2 x3 x4 x5 x6 x7 x8 : V} (hv : Val tv σ H y) (h : Val ta σ H (.ref a)) (hc : atInstruction K H a dx x0 x1 x2 x3 x4 x5 x6 x7 x8) (q : D.nx σ (upd H a (.ins (He.ga K "Instruction") dx (fInstruction x0 x1 x2 x3 y x5 x6 x7 x8)))) : sFld K ta tv "first" D σ H := st_fld hv h hc T.k_Instruction T.n_Instruction_first (by show 9 < 1000; decide) (by rw [pt_Instruction_first]; exact q)
theorem lk_Instruction_second {x0 x1 x2 x3 x4 x5 x6 x7 x8 : V} : (fInstruction x0 x1 x2 x3 x4 x5 x6 x7 x8).lookup ("second" : Str) = some x5 := by kernel_rfl
theorem pt_Instruction_second {x0 x1 x2 x3 x4 x5 x6 x7 x8 y : V} : putF "second" y (fInstruction x0 x1 x2 x3 x4 x5 x6 x7 x8) = fInstruction x0 x1 x2 x3 x4 y x6 x7 x8 := by kernel_rfl
theorem Tx.v_Instruction_second (T : Tx K w mg) {x0 x1 x2 x3 x4 x5 x6 x7 x8 : V} (h : Val ta σ H (.ref a)) (hc : atInstruction K H a dx x0 x1 x2 x3 x4 x5 x6 x7 x8) : Val (tFld K ta "second") σ H x5 := val_fld h hc T.k_Instruction T.n_Instruction_second lk_Instruction_second
theorem Tx.w_Instruction_second (T : Tx K w mg) {x0 x1 x2 x3 x4 x5 x6 x7 x8 : V} (hv : Val tv σ H y) (h : Val ta σ H (.ref a)) (hc : atInstruction K H a dx x0 x1 x2 x3 x4 x5 x6 x7 x8) (q : D.nx σ (upd H a (.ins (He.ga K "Instruction") dx (fInstruction x0 x1 x2 x3 x4 y x6 x7 x8)))) : sFld K ta tv "second" D σ H := st_fld hv h hc T.k_Instruction T.n_Instruction_second (by show 9 < 1000; decide) (by rw [pt_Instruction_second]; exact q)
theorem lk_Instruction_slot {x0 x1 x2 x3 x4 x5 x6 x7 x8 : V} : (fInstruction x0 x1 x2 x3 x4 x5 x6 x7 x8).lookup ("slot" : Str) = some x6 := by kernel_rfl
theorem pt_Instruction_slot {x0 x1 x2 x3 x4 x5 x6 x7 x8 y : V} : putF "slot" y (fInstruction x0 x1 x2 x3 x4 x5 x6 x7 x8) = fInstruction x0 x1 x2 x3 x4 x5 y x7 x8 := by kernel_rfl
theorem Tx.v_Instruction_slot (T : Tx K w mg) {x0 x1 x2 x3 x4 x5 x6 x7 x8 : V} (h : Val ta σ H (.ref a)) (hc : atInstruction K H a dx x0 x1 x2 x3 x4 x5 x6 x7 x8) : Val (tFld K ta "slot") σ H x6 := val_fld h hc T.k_Instruction T.n_Instruction_slot lk_Instruction_slot
theorem Tx.w_Instruction_slot (T : Tx K w mg) {x0 x1 x2 x3 x4 x5 x6 x7 x8 : V} (hv : Val tv σ H y) (h : Val ta σ H (.ref a)) (hc : atInstruction K H a dx x0 x1 x2 x3 x4 x5 x6 x7 x8) (q : D.nx σ (upd H a (.ins (He.ga K "Instruction") dx (fInstruction x0 x1 x2 x3 x4 x5 y x7 x8)))) : sFld K ta tv "slot" D σ H := st_fld hv h hc T.k_Instruction T.n_Instruction_slot (by show 9 < 1000; decide) (by rw [pt_Instruction_slot]; exact q)
theorem lk_Instruction_number {x0 x1 x2 x3 x4 x5 x6 x7 x8 : V} : (fInstruction x0 x1 x2 x3 x4 x5 x6 x7 x8).lookup ("number" : Str) = some x7 := by kernel_rfl
theorem pt_Instruction_number {x0 x1 x2 x3 x4 x5 x6 x7 x8 y : V} : putF "number" y (fInstruction x0 x1 x2 x3 x4 x5 x6 x7 x8) = fInstruction x0 x1 x2 x3 x4 x5 x6 y x8 := by kernel_rfl
theorem Tx.v_Instruction_number (T : Tx K w mg) {x0 x1 x2 x3 x4 x5 x6 x7 x8 : V} (h : Val ta σ H (.ref a)) (hc : atInstruction K H a dx x0 x1 x2 x3 x4 x5 x6 x7 x8) : Val (tFld K ta "number") σ H x7 := val_fld h hc T.k_Instruction T.n_Instruction_number lk_Instruction_number
theorem Tx.w_Instruction_number (T : Tx K w mg) {x0 x1 x2 x3 x4 x5 x6 x7 x8 : V} (hv : Val tv σ H y) (h : Val ta σ H (.ref a)) (hc : atInstruction K H a dx x0 x1 x2 x3 x4 x5 x6 x7 x8) (q : D.nx σ (upd H a (.ins (He.ga K "Instruction") dx (fInstruction x0 x1 x2 x3 x4 x5 x6 y x8)))) : sFld K ta tv "number" D σ H := st_fld hv h hc T.k_Instruction T.n_Instruction_number (by show 9 < 1000; decide) (by rw [pt_Instruction_number]; exact q)
theorem lk_Instruction_goal {x0 x1 x2 x3 x4 x5 x6 x7 x8 : V} : (fInstruction x0 x1 x2 x3 x4 x5 x6 x7 x8).lookup ("goal" : Str) = some x8 := by kernel_rfl
theorem pt_Instruction_goal {x0 x1 x2 x3 x4 x5 x6 x7 x8 y : V} : putF "goal" y (fInstruction x0 x1 x2 x3 x4 x5 x6 x7 x8) = fInstruction x0 x1 x2 x3 x4 x5 x6 x7 y := by kernel_rfl
theorem Tx.v_Instruction_goal (T : Tx K w mg) {x0 x1 x2 x3 x4 x5 x6 x7 x8 : V} (h : Val ta σ H (.ref a)) (hc : atInstruction K H a dx x0 x1 x2 x3 x4 x5 x6 x7 x8) : Val (tFld K ta "goal") σ H x8 := val_fld h hc T.k_Instruction T.n_Instruction_goal lk_Instruction_goal
theorem Tx.w_Instruction_goal (T : Tx K w mg) {x0 x1 x2 x3 x4 x5 x6 x7 x8 : V} (hv : Val tv σ H y) (h : Val ta σ H (.ref a)) (hc : atInstruction K H a dx x0 x1 x2 x3 x4 x5 x6 x7 x8) (q : D.nx σ (upd H a (.ins (He.ga K "Instruction") dx (fInstruction x0 x1 x2 x3 x4 x5 x6 x7 y)))) : sFld K ta tv "goal" D σ H := st_fld hv h hc T.k_Instruction T.n_Instruction_goal (by show 9 < 1000; decide) (by rw [pt_Instruction_goal]; exact q)
theorem in_Instruction_0 {x0 : V} : putF "word" x0 ([] : List (Str × V)) = ([("word", x0)] : List (Str × V)) := by kernel_rfl
theorem in_Instruction_1 {x0 x1 : V} : putF "line" x1 ([("word", x0)] : List (Str × V)) = ([("word", x0), ("line", x1)] : List (Str × V)) := by kernel_rfl
theorem in_Instruction_2 {x0 x1 x2 : V} : putF "way" x2 ([("word", x0), ("line", x1)] : List (Str × V)) = ([("word", x0), ("line", x1), ("way", x2)] : List (Str × V)) := by kernel_rfl
theorem in_Instruction_3 {x0 x1 x2 x3 : V} : putF "cell" x3 ([("word", x0), ("line", x1), ("way", x2)] : List (Str × V)) = ([("word", x0), ("line", x1), ("way", x2), ("cell", x3)] : List (Str × V)) := by kernel_rfl
theorem in_Instruction_4 {x0 x1 x2 x3 x4 : V} : putF "first" x4 ([("word", x0), ("line", x1), ("way", x2), ("cell", x3)] : List (Str × V)) = ([("word", x0), ("line", x1), ("way", x2), ("cell", x3), ("first", x4)] : List (Str × V)) := by kernel_rfl
theorem in_Instruction_5 {x0 x1 x2 x3 x4 x5 : V} : putF "second" x5 ([("word", x0), ("line", x1), ("way", x2), ("cell", x3), ("first", x4)] : List (Str × V)) = ([("word", x0), ("line", x1), ("way", x2), ("cell", x3), ("first", x4), ("second", x5)] : List (Str × V)) := by kernel_rfl
theorem in_Instruction_6 {x0 x1 x2 x3 x4 x5 x6 : V} : putF "slot" x6 ([("word", x0), ("line", x1), ("way", x2), ("cell", x3), ("first", x4), ("second", x5)] : List (Str × V)) = ([("word", x0), ("line", x1), ("way", x2), ("cell", x3), ("first", x4), ("second", x5), ("slot", x6)] : List (Str × V)) := by kernel_rfl
theorem in_Instruction_7 {x0 x1 x2 x3 x4 x5 x6 x7 : V} : putF "number" x7 ([("word", x0), ("line", x1), ("way", x2), ("cell", x3), ("first", x4), ("second", x5), ("slot", x6)] : List (Str × V)) = ([("word", x0), ("line", x1), ("way", x2), ("cell", x3), ("first", x4), ("second", x5), ("slot", x6), ("number", x7)] : List (Str × V)) := by kernel_rfl
theorem in_Instruction_8 {x0 x1 x2 x3 x4 x5 x6 x7 x8 : V} : putF "goal" x8 ([("word", x0), ("line", x1), ("way", x2), ("cell", x3), ("first", x4), ("second", x5), ("slot", x6), ("number", x7)] : List (Str × V)) = ([("word", x0), ("line", x1), ("way", x2), ("cell", x3), ("first", x4), ("second", x5), ("slot", x6), ("number", x7), ("goal", x8)] : List (Str × V)) := by kernel_rfl
def fTask (x0 x1 x2 : V) : List (Str × V) := [("name", x0), ("slots", x1), ("instructions", x2)]
abbrev atTask (K : PySem.W.Frag) (H : Hp) (a dx : Addr) (x0 x1 x2 : V) : Prop := H a = some (.ins (He.ga K "Task") dx (fTask x0 x1 x2))
theorem lk_Task_name {x0 x1 x2 : V} : (fTask x0 x1 x2).lookup ("name" : Str) = some x0 := by kernel_rfl
theorem pt_Task_name {x0 x1 x2 y : V} : putF "name" y (fTask x0 x1 x2) = fTask y x1 x2 := by kernel_rfl
theorem Tx.v_Task_name (T : Tx K w mg) {x0 x1 x2 : V} (h : Val ta σ H (.ref a)) (hc : atTask K H a dx x0 x1 x2) : Val (tFld K ta "name") σ H x0 := val_fld h hc T.k_Task T.n_Task_name lk_Task_name
theorem Tx.w_Task_name (T : Tx K w mg) {x0 x1 x2 : V} (hv : Val tv σ H y) (h : Val ta σ H (.ref a)) (hc : atTask K H a dx x0 x1 x2) (q : D.nx σ (upd H a (.ins (He.ga K "Task") dx (fTask y x1 x2)))) : sFld K ta tv "name" D σ H := st_fld hv h hc T.k_Task T.n_Task_name (by show 3 < 1000; decide) (by rw [pt_Task_name]; exact q)
theorem lk_Task_slots {x0 x1 x2 : V} : (fTask x0 x1 x2).lookup ("slots" : Str) = some x1 := by kernel_rfl
theorem pt_Task_slots {x0 x1 x2 y : V} : putF "slots" y (fTask x0 x1 x2) = fTask x0 y x2 := by kernel_rfl
theorem Tx.v_Task_slots (T : Tx K w mg) {x0 x1 x2 : V} (h : Val ta σ H (.ref a)) (hc : atTask K H a dx x0 x1 x2) : Val (tFld K ta "slots") σ H x1 := val_fld h hc T.k_Task T.n_Task_slots lk_Task_slots
theorem Tx.w_Task_slots (T : Tx K w mg) {x0 x1 x2 : V} (hv : Val tv σ H y) (h : Val ta σ H (.ref a)) (hc : atTask K H a dx x0 x1 x2) (q : D.nx σ (upd H a (.ins (He.ga K "Task") dx (fTask x0 y x2)))) : sFld K ta tv "slots" D σ H := st_fld hv h hc T.k_Task T.n_Task_slots (by show 3 < 1000; decide) (by rw [pt_Task_slots]; exact q)
theorem lk_Task_instructions {x0 x1 x2 : V} : (fTask x0 x1 x2).lookup ("instructions" : Str) = some x2 := by kernel_rfl
theorem pt_Task_instructions {x0 x1 x2 y : V} : putF "instructions" y (fTask x0 x1 x2) = fTask x0 x1 y := by kernel_rfl
theorem Tx.v_Task_instructions (T : Tx K w mg) {x0 x1 x2 : V} (h : Val ta σ H (.ref a)) (hc : atTask K H a dx x0 x1 x2) : Val (tFld K ta "instructions") σ H x2 := val_fld h hc T.k_Task T.n_Task_instructions lk_Task_instructions
theorem Tx.w_Task_instructions (T : Tx K w mg) {x0 x1 x2 : V} (hv : Val tv σ H y) (h : Val ta σ H (.ref a)) (hc : atTask K H a dx x0 x1 x2) (q : D.nx σ (upd H a (.ins (He.ga K "Task") dx (fTask x0 x1 y)))) : sFld K ta tv "instructions" D σ H := st_fld hv h hc T.k_Task T.n_Task_instructions (by show 3 < 1000; decide) (by rw [pt_Task_instructions]; exact q)
theorem in_Task_0 {x0 : V} : putF "name" x0 ([] : List (Str × V)) = ([("name", x0)] : List (Str × V)) := by kernel_rfl
theorem in_Task_1 {x0 x1 : V} : putF "slots" x1 ([("name", x0)] : List (Str × V)) = ([("name", x0), ("slots", x1)] : List (Str × V)) := by kernel_rfl
theorem in_Task_2 {x0 x1 x2 : V} : putF "instructions" x2 ([("name", x0), ("slots", x1)] : List (Str × V)) = ([("name", x0), ("slots", x1), ("instructions", x2)] : List (Str × V)) := by kernel_rfl
def fProgram (x0 x1 x2 : V) : List (Str × V) := [("cells", x0), ("tasks", x1), ("goes", x2)]
abbrev atProgram (K : PySem.W.Frag) (H : Hp) (a dx : Addr) (x0 x1 x2 : V) : Prop := H a = some (.ins (He.ga K "Program") dx (fProgram x0 x1 x2))
theorem lk_Program_cells {x0 x1 x2 : V} : (fProgram x0 x1 x2).lookup ("cells" : Str) = some x0 := by kernel_rfl
theorem pt_Program_cells {x0 x1 x2 y : V} : putF "cells" y (fProgram x0 x1 x2) = fProgram y x1 x2 := by kernel_rfl
theorem Tx.v_Program_cells (T : Tx K w mg) {x0 x1 x2 : V} (h : Val ta σ H (.ref a)) (hc : atProgram K H a dx x0 x1 x2) : Val (tFld K ta "cells") σ H x0 := val_fld h hc T.k_Program T.n_Program_cells lk_Program_cells
theorem Tx.w_Program_cells (T : Tx K w mg) {x0 x1 x2 : V} (hv : Val tv σ H y) (h : Val ta σ H (.ref a)) (hc : atProgram K H a dx x0 x1 x2) (q : D.nx σ (upd H a (.ins (He.ga K "Program") dx (fProgram y x1 x2)))) : sFld K ta tv "cells" D σ H := st_fld hv h hc T.k_Program T.n_Program_cells (by show 3 < 1000; decide) (by rw [pt_Program_cells]; exact q)
theorem lk_Program_tasks {x0 x1 x2 : V} : (fProgram x0 x1 x2).lookup ("tasks" : Str) = some x1 := by kernel_rfl
theorem pt_Program_tasks {x0 x1 x2 y : V} : putF "tasks" y (fProgram x0 x1 x2) = fProgram x0 y x2 := by kernel_rfl
theorem Tx.v_Program_tasks (T : Tx K w mg) {x0 x1 x2 : V} (h : Val ta σ H (.ref a)) (hc : atProgram K H a dx x0 x1 x2) : Val (tFld K ta "tasks") σ H x1 := val_fld h hc T.k_Program T.n_Program_tasks lk_Program_tasks
theorem Tx.w_Program_tasks (T : Tx K w mg) {x0 x1 x2 : V} (hv : Val tv σ H y) (h : Val ta σ H (.ref a)) (hc : atProgram K H a dx x0 x1 x2) (q : D.nx σ (upd H a (.ins (He.ga K "Program") dx (fProgram x0 y x2)))) : sFld K ta tv "tasks" D σ H := st_fld hv h hc T.k_Program T.n_Program_tasks (by show 3 < 1000; decide) (by rw [pt_Program_tasks]; exact q)
theorem lk_Program_goes {x0 x1 x2 : V} : (fProgram x0 x1 x2).lookup ("goes" : Str) = some x2 := by kernel_rfl
theorem pt_Program_goes {x0 x1 x2 y : V} : putF "goes" y (fProgram x0 x1 x2) = fProgram x0 x1 y := by kernel_rfl
theorem Tx.v_Program_goes (T : Tx K w mg) {x0 x1 x2 : V} (h : Val ta σ H (.ref a)) (hc : atProgram K H a dx x0 x1 x2) : Val (tFld K ta "goes") σ H x2 := val_fld h hc T.k_Program T.n_Program_goes lk_Program_goes
theorem Tx.w_Program_goes (T : Tx K w mg) {x0 x1 x2 : V} (hv : Val tv σ H y) (h : Val ta σ H (.ref a)) (hc : atProgram K H a dx x0 x1 x2) (q : D.nx σ (upd H a (.ins (He.ga K "Program") dx (fProgram x0 x1 y)))) : sFld K ta tv "goes" D σ H := st_fld hv h hc T.k_Program T.n_Program_goes (by show 3 < 1000; decide) (by rw [pt_Program_goes]; exact q)
theorem in_Program_0 {x0 : V} : putF "cells" x0 ([] : List (Str × V)) = ([("cells", x0)] : List (Str × V)) := by kernel_rfl
theorem in_Program_1 {x0 x1 : V} : putF "tasks" x1 ([("cells", x0)] : List (Str × V)) = ([("cells", x0), ("tasks", x1)] : List (Str × V)) := by kernel_rfl
theorem in_Program_2 {x0 x1 x2 : V} : putF "goes" x2 ([("cells", x0), ("tasks", x1)] : List (Str × V)) = ([("cells", x0), ("tasks", x1), ("goes", x2)] : List (Str × V)) := by kernel_rfl
def fReading (x0 x1 x2 : V) : List (Str × V) := [("program", x0), ("is_inside", x1), ("blocks", x2)]
abbrev atReading (K : PySem.W.Frag) (H : Hp) (a dx : Addr) (x0 x1 x2 : V) : Prop := H a = some (.ins (He.ga K "Reading") dx (fReading x0 x1 x2))
theorem lk_Reading_program {x0 x1 x2 : V} : (fReading x0 x1 x2).lookup ("program" : Str) = some x0 := by kernel_rfl
theorem pt_Reading_program {x0 x1 x2 y : V} : putF "program" y (fReading x0 x1 x2) = fReading y x1 x2 := by kernel_rfl
theorem Tx.v_Reading_program (T : Tx K w mg) {x0 x1 x2 : V} (h : Val ta σ H (.ref a)) (hc : atReading K H a dx x0 x1 x2) : Val (tFld K ta "program") σ H x0 := val_fld h hc T.k_Reading T.n_Reading_program lk_Reading_program
theorem Tx.w_Reading_program (T : Tx K w mg) {x0 x1 x2 : V} (hv : Val tv σ H y) (h : Val ta σ H (.ref a)) (hc : atReading K H a dx x0 x1 x2) (q : D.nx σ (upd H a (.ins (He.ga K "Reading") dx (fReading y x1 x2)))) : sFld K ta tv "program" D σ H := st_fld hv h hc T.k_Reading T.n_Reading_program (by show 3 < 1000; decide) (by rw [pt_Reading_program]; exact q)
theorem lk_Reading_is_inside {x0 x1 x2 : V} : (fReading x0 x1 x2).lookup ("is_inside" : Str) = some x1 := by kernel_rfl
theorem pt_Reading_is_inside {x0 x1 x2 y : V} : putF "is_inside" y (fReading x0 x1 x2) = fReading x0 y x2 := by kernel_rfl
theorem Tx.v_Reading_is_inside (T : Tx K w mg) {x0 x1 x2 : V} (h : Val ta σ H (.ref a)) (hc : atReading K H a dx x0 x1 x2) : Val (tFld K ta "is_inside") σ H x1 := val_fld h hc T.k_Reading T.n_Reading_is_inside lk_Reading_is_inside
theorem Tx.w_Reading_is_inside (T : Tx K w mg) {x0 x1 x2 : V} (hv : Val tv σ H y) (h : Val ta σ H (.ref a)) (hc : atReading K H a dx x0 x1 x2) (q : D.nx σ (upd H a (.ins (He.ga K "Reading") dx (fReading x0 y x2)))) : sFld K ta tv "is_inside" D σ H := st_fld hv h hc T.k_Reading T.n_Reading_is_inside (by show 3 < 1000; decide) (by rw [pt_Reading_is_inside]; exact q)
theorem lk_Reading_blocks {x0 x1 x2 : V} : (fReading x0 x1 x2).lookup ("blocks" : Str) = some x2 := by kernel_rfl
theorem pt_Reading_blocks {x0 x1 x2 y : V} : putF "blocks" y (fReading x0 x1 x2) = fReading x0 x1 y := by kernel_rfl
theorem Tx.v_Reading_blocks (T : Tx K w mg) {x0 x1 x2 : V} (h : Val ta σ H (.ref a)) (hc : atReading K H a dx x0 x1 x2) : Val (tFld K ta "blocks") σ H x2 := val_fld h hc T.k_Reading T.n_Reading_blocks lk_Reading_blocks
theorem Tx.w_Reading_blocks (T : Tx K w mg) {x0 x1 x2 : V} (hv : Val tv σ H y) (h : Val ta σ H (.ref a)) (hc : atReading K H a dx x0 x1 x2) (q : D.nx σ (upd H a (.ins (He.ga K "Reading") dx (fReading x0 x1 y)))) : sFld K ta tv "blocks" D σ H := st_fld hv h hc T.k_Reading T.n_Reading_blocks (by show 3 < 1000; decide) (by rw [pt_Reading_blocks]; exact q)
theorem lk_Reading_this_task {x0 x1 x2 : V} : (fReading x0 x1 x2).lookup ("this_task" : Str) = none := by kernel_rfl
theorem in_Reading_0 {x0 : V} : putF "program" x0 ([] : List (Str × V)) = ([("program", x0)] : List (Str × V)) := by kernel_rfl
theorem in_Reading_1 {x0 x1 : V} : putF "is_inside" x1 ([("program", x0)] : List (Str × V)) = ([("program", x0), ("is_inside", x1)] : List (Str × V)) := by kernel_rfl
theorem in_Reading_2 {x0 x1 x2 : V} : putF "blocks" x2 ([("program", x0), ("is_inside", x1)] : List (Str × V)) = ([("program", x0), ("is_inside", x1), ("blocks", x2)] : List (Str × V)) := by kernel_rfl
def fInstance (x0 x1 x2 x3 : V) : List (Str × V) := [("task", x0), ("place", x1), ("amounts", x2), ("rounds", x3)]
abbrev atInstance (K : PySem.W.Frag) (H : Hp) (a dx : Addr) (x0 x1 x2 x3 : V) : Prop := H a = some (.ins (He.ga K "Instance") dx (fInstance x0 x1 x2 x3))
theorem lk_Instance_task {x0 x1 x2 x3 : V} : (fInstance x0 x1 x2 x3).lookup ("task" : Str) = some x0 := by kernel_rfl
theorem pt_Instance_task {x0 x1 x2 x3 y : V} : putF "task" y (fInstance x0 x1 x2 x3) = fInstance y x1 x2 x3 := by kernel_rfl
theorem Tx.v_Instance_task (T : Tx K w mg) {x0 x1 x2 x3 : V} (h : Val ta σ H (.ref a)) (hc : atInstance K H a dx x0 x1 x2 x3) : Val (tFld K ta "task") σ H x0 := val_fld h hc T.k_Instance T.n_Instance_task lk_Instance_task
theorem Tx.w_Instance_task (T : Tx K w mg) {x0 x1 x2 x3 : V} (hv : Val tv σ H y) (h : Val ta σ H (.ref a)) (hc : atInstance K H a dx x0 x1 x2 x3) (q : D.nx σ (upd H a (.ins (He.ga K "Instance") dx (fInstance y x1 x2 x3)))) : sFld K ta tv "task" D σ H := st_fld hv h hc T.k_Instance T.n_Instance_task (by show 4 < 1000; decide) (by rw [pt_Instance_task]; exact q)
theorem lk_Instance_place {x0 x1 x2 x3 : V} : (fInstance x0 x1 x2 x3).lookup ("place" : Str) = some x1 := by kernel_rfl
theorem pt_Instance_place {x0 x1 x2 x3 y : V} : putF "place" y (fInstance x0 x1 x2 x3) = fInstance x0 y x2 x3 := by kernel_rfl
theorem Tx.v_Instance_place (T : Tx K w mg) {x0 x1 x2 x3 : V} (h : Val ta σ H (.ref a)) (hc : atInstance K H a dx x0 x1 x2 x3) : Val (tFld K ta "place") σ H x1 := val_fld h hc T.k_Instance T.n_Instance_place lk_Instance_place
theorem Tx.w_Instance_place (T : Tx K w mg) {x0 x1 x2 x3 : V} (hv : Val tv σ H y) (h : Val ta σ H (.ref a)) (hc : atInstance K H a dx x0 x1 x2 x3) (q : D.nx σ (upd H a (.ins (He.ga K "Instance") dx (fInstance x0 y x2 x3)))) : sFld K ta tv "place" D σ H := st_fld hv h hc T.k_Instance T.n_Instance_place (by show 4 < 1000; decide) (by rw [pt_Instance_place]; exact q)
theorem lk_Instance_amounts {x0 x1 x2 x3 : V} : (fInstance x0 x1 x2 x3).lookup ("amounts" : Str) = some x2 := by kernel_rfl
theorem pt_Instance_amounts {x0 x1 x2 x3 y : V} : putF "amounts" y (fInstance x0 x1 x2 x3) = fInstance x0 x1 y x3 := by kernel_rfl
theorem Tx.v_Instance_amounts (T : Tx K w mg) {x0 x1 x2 x3 : V} (h : Val ta σ H (.ref a)) (hc : atInstance K H a dx x0 x1 x2 x3) : Val (tFld K ta "amounts") σ H x2 := val_fld h hc T.k_Instance T.n_Instance_amounts lk_Instance_amounts
theorem Tx.w_Instance_amounts (T : Tx K w mg) {x0 x1 x2 x3 : V} (hv : Val tv σ H y) (h : Val ta σ H (.ref a)) (hc : atInstance K H a dx x0 x1 x2 x3) (q : D.nx σ (upd H a (.ins (He.ga K "Instance") dx (fInstance x0 x1 y x3)))) : sFld K ta tv "amounts" D σ H := st_fld hv h hc T.k_Instance T.n_Instance_amounts (by show 4 < 1000; decide) (by rw [pt_Instance_amounts]; exact q)
theorem lk_Instance_rounds {x0 x1 x2 x3 : V} : (fInstance x0 x1 x2 x3).lookup ("rounds" : Str) = some x3 := by kernel_rfl
theorem pt_Instance_rounds {x0 x1 x2 x3 y : V} : putF "rounds" y (fInstance x0 x1 x2 x3) = fInstance x0 x1 x2 y := by kernel_rfl
theorem Tx.v_Instance_rounds (T : Tx K w mg) {x0 x1 x2 x3 : V} (h : Val ta σ H (.ref a)) (hc : atInstance K H a dx x0 x1 x2 x3) : Val (tFld K ta "rounds") σ H x3 := val_fld h hc T.k_Instance T.n_Instance_rounds lk_Instance_rounds
theorem Tx.w_Instance_rounds (T : Tx K w mg) {x0 x1 x2 x3 : V} (hv : Val tv σ H y) (h : Val ta σ H (.ref a)) (hc : atInstance K H a dx x0 x1 x2 x3) (q : D.nx σ (upd H a (.ins (He.ga K "Instance") dx (fInstance x0 x1 x2 y)))) : sFld K ta tv "rounds" D σ H := st_fld hv h hc T.k_Instance T.n_Instance_rounds (by show 4 < 1000; decide) (by rw [pt_Instance_rounds]; exact q)
theorem in_Instance_0 {x0 : V} : putF "task" x0 ([] : List (Str × V)) = ([("task", x0)] : List (Str × V)) := by kernel_rfl
theorem in_Instance_1 {x0 x1 : V} : putF "place" x1 ([("task", x0)] : List (Str × V)) = ([("task", x0), ("place", x1)] : List (Str × V)) := by kernel_rfl
theorem in_Instance_2 {x0 x1 x2 : V} : putF "amounts" x2 ([("task", x0), ("place", x1)] : List (Str × V)) = ([("task", x0), ("place", x1), ("amounts", x2)] : List (Str × V)) := by kernel_rfl
theorem in_Instance_3 {x0 x1 x2 x3 : V} : putF "rounds" x3 ([("task", x0), ("place", x1), ("amounts", x2)] : List (Str × V)) = ([("task", x0), ("place", x1), ("amounts", x2), ("rounds", x3)] : List (Str × V)) := by kernel_rfl
def fRun (x0 x1 x2 x3 : V) : List (Str × V) := [("program", x0), ("states", x1), ("instances", x2), ("has_failed", x3)]
abbrev atRun (K : PySem.W.Frag) (H : Hp) (a dx : Addr) (x0 x1 x2 x3 : V) : Prop := H a = some (.ins (He.ga K "Run") dx (fRun x0 x1 x2 x3))
theorem lk_Run_program {x0 x1 x2 x3 : V} : (fRun x0 x1 x2 x3).lookup ("program" : Str) = some x0 := by kernel_rfl
theorem pt_Run_program {x0 x1 x2 x3 y : V} : putF "program" y (fRun x0 x1 x2 x3) = fRun y x1 x2 x3 := by kernel_rfl
theorem Tx.v_Run_program (T : Tx K w mg) {x0 x1 x2 x3 : V} (h : Val ta σ H (.ref a)) (hc : atRun K H a dx x0 x1 x2 x3) : Val (tFld K ta "program") σ H x0 := val_fld h hc T.k_Run T.n_Run_program lk_Run_program
theorem Tx.w_Run_program (T : Tx K w mg) {x0 x1 x2 x3 : V} (hv : Val tv σ H y) (h : Val ta σ H (.ref a)) (hc : atRun K H a dx x0 x1 x2 x3) (q : D.nx σ (upd H a (.ins (He.ga K "Run") dx (fRun y x1 x2 x3)))) : sFld K ta tv "program" D σ H := st_fld hv h hc T.k_Run T.n_Run_program (by show 4 < 1000; decide) (by rw [pt_Run_program]; exact q)
theorem lk_Run_states {x0 x1 x2 x3 : V} : (fRun x0 x1 x2 x3).lookup ("states" : Str) = some x1 := by kernel_rfl
theorem pt_Run_states {x0 x1 x2 x3 y : V} : putF "states" y (fRun x0 x1 x2 x3) = fRun x0 y x2 x3 := by kernel_rfl
theorem Tx.v_Run_states (T : Tx K w mg) {x0 x1 x2 x3 : V} (h : Val ta σ H (.ref a)) (hc : atRun K H a dx x0 x1 x2 x3) : Val (tFld K ta "states") σ H x1 := val_fld h hc T.k_Run T.n_Run_states lk_Run_states
theorem Tx.w_Run_states (T : Tx K w mg) {x0 x1 x2 x3 : V} (hv : Val tv σ H y) (h : Val ta σ H (.ref a)) (hc : atRun K H a dx x0 x1 x2 x3) (q : D.nx σ (upd H a (.ins (He.ga K "Run") dx (fRun x0 y x2 x3)))) : sFld K ta tv "states" D σ H := st_fld hv h hc T.k_Run T.n_Run_states (by show 4 < 1000; decide) (by rw [pt_Run_states]; exact q)
theorem lk_Run_instances {x0 x1 x2 x3 : V} : (fRun x0 x1 x2 x3).lookup ("instances" : Str) = some x2 := by kernel_rfl
theorem pt_Run_instances {x0 x1 x2 x3 y : V} : putF "instances" y (fRun x0 x1 x2 x3) = fRun x0 x1 y x3 := by kernel_rfl
theorem Tx.v_Run_instances (T : Tx K w mg) {x0 x1 x2 x3 : V} (h : Val ta σ H (.ref a)) (hc : atRun K H a dx x0 x1 x2 x3) : Val (tFld K ta "instances") σ H x2 := val_fld h hc T.k_Run T.n_Run_instances lk_Run_instances
theorem Tx.w_Run_instances (T : Tx K w mg) {x0 x1 x2 x3 : V} (hv : Val tv σ H y) (h : Val ta σ H (.ref a)) (hc : atRun K H a dx x0 x1 x2 x3) (q : D.nx σ (upd H a (.ins (He.ga K "Run") dx (fRun x0 x1 y x3)))) : sFld K ta tv "instances" D σ H := st_fld hv h hc T.k_Run T.n_Run_instances (by show 4 < 1000; decide) (by rw [pt_Run_instances]; exact q)
theorem lk_Run_has_failed {x0 x1 x2 x3 : V} : (fRun x0 x1 x2 x3).lookup ("has_failed" : Str) = some x3 := by kernel_rfl
theorem pt_Run_has_failed {x0 x1 x2 x3 y : V} : putF "has_failed" y (fRun x0 x1 x2 x3) = fRun x0 x1 x2 y := by kernel_rfl
theorem Tx.v_Run_has_failed (T : Tx K w mg) {x0 x1 x2 x3 : V} (h : Val ta σ H (.ref a)) (hc : atRun K H a dx x0 x1 x2 x3) : Val (tFld K ta "has_failed") σ H x3 := val_fld h hc T.k_Run T.n_Run_has_failed lk_Run_has_failed
theorem Tx.w_Run_has_failed (T : Tx K w mg) {x0 x1 x2 x3 : V} (hv : Val tv σ H y) (h : Val ta σ H (.ref a)) (hc : atRun K H a dx x0 x1 x2 x3) (q : D.nx σ (upd H a (.ins (He.ga K "Run") dx (fRun x0 x1 x2 y)))) : sFld K ta tv "has_failed" D σ H := st_fld hv h hc T.k_Run T.n_Run_has_failed (by show 4 < 1000; decide) (by rw [pt_Run_has_failed]; exact q)
theorem in_Run_0 {x0 : V} : putF "program" x0 ([] : List (Str × V)) = ([("program", x0)] : List (Str × V)) := by kernel_rfl
theorem in_Run_1 {x0 x1 : V} : putF "states" x1 ([("program", x0)] : List (Str × V)) = ([("program", x0), ("states", x1)] : List (Str × V)) := by kernel_rfl
theorem in_Run_2 {x0 x1 x2 : V} : putF "instances" x2 ([("program", x0), ("states", x1)] : List (Str × V)) = ([("program", x0), ("states", x1), ("instances", x2)] : List (Str × V)) := by kernel_rfl
theorem in_Run_3 {x0 x1 x2 x3 : V} : putF "has_failed" x3 ([("program", x0), ("states", x1), ("instances", x2)] : List (Str × V)) = ([("program", x0), ("states", x1), ("instances", x2), ("has_failed", x3)] : List (Str × V)) := by kernel_rfl
def fDesk (x0 x1 : V) : List (Str × V) := [("program", x0), ("offers", x1)]
abbrev atDesk (K : PySem.W.Frag) (H : Hp) (a dx : Addr) (x0 x1 : V) : Prop := H a = some (.ins (He.ga K "Desk") dx (fDesk x0 x1))
theorem lk_Desk_program {x0 x1 : V} : (fDesk x0 x1).lookup ("program" : Str) = some x0 := by kernel_rfl
theorem pt_Desk_program {x0 x1 y : V} : putF "program" y (fDesk x0 x1) = fDesk y x1 := by kernel_rfl
theorem Tx.v_Desk_program (T : Tx K w mg) {x0 x1 : V} (h : Val ta σ H (.ref a)) (hc : atDesk K H a dx x0 x1) : Val (tFld K ta "program") σ H x0 := val_fld h hc T.k_Desk T.n_Desk_program lk_Desk_program
theorem Tx.w_Desk_program (T : Tx K w mg) {x0 x1 : V} (hv : Val tv σ H y) (h : Val ta σ H (.ref a)) (hc : atDesk K H a dx x0 x1) (q : D.nx σ (upd H a (.ins (He.ga K "Desk") dx (fDesk y x1)))) : sFld K ta tv "program" D σ H := st_fld hv h hc T.k_Desk T.n_Desk_program (by show 2 < 1000; decide) (by rw [pt_Desk_program]; exact q)
theorem lk_Desk_offers {x0 x1 : V} : (fDesk x0 x1).lookup ("offers" : Str) = some x1 := by kernel_rfl
theorem pt_Desk_offers {x0 x1 y : V} : putF "offers" y (fDesk x0 x1) = fDesk x0 y := by kernel_rfl
theorem Tx.v_Desk_offers (T : Tx K w mg) {x0 x1 : V} (h : Val ta σ H (.ref a)) (hc : atDesk K H a dx x0 x1) : Val (tFld K ta "offers") σ H x1 := val_fld h hc T.k_Desk T.n_Desk_offers lk_Desk_offers
theorem Tx.w_Desk_offers (T : Tx K w mg) {x0 x1 : V} (hv : Val tv σ H y) (h : Val ta σ H (.ref a)) (hc : atDesk K H a dx x0 x1) (q : D.nx σ (upd H a (.ins (He.ga K "Desk") dx (fDesk x0 y)))) : sFld K ta tv "offers" D σ H := st_fld hv h hc T.k_Desk T.n_Desk_offers (by show 2 < 1000; decide) (by rw [pt_Desk_offers]; exact q)
theorem in_Desk_0 {x0 : V} : putF "program" x0 ([] : List (Str × V)) = ([("program", x0)] : List (Str × V)) := by kernel_rfl
theorem in_Desk_1 {x0 x1 : V} : putF "offers" x1 ([("program", x0)] : List (Str × V)) = ([("program", x0), ("offers", x1)] : List (Str × V)) := by kernel_rfl
end
/-- all but the object at x is kept -/
def Kp (H : Hp) (x : Addr) (H' : Hp) : Prop := ∀ b o, H b = some o → b ≠ x → H' b = some o
theorem Kp.refl (H : Hp) (x : Addr) : Kp H x H := fun _ _ h _ => h
theorem Kp.upd {H H' : Hp} {x : Addr} {o : HO} (k : Kp H x H') : Kp H x (upd H' x o) := fun b u h hb => by rw [upd_ne hb]; exact k b u h hb
theorem Kp.new {H H' : Hp} {x p : Addr} {o : HO} (k : Kp H x H') (hp : H' p = none) (hx : ∃ u, H' x = some u) : Kp H x (L2.upd H' p o) := fun b u h hb => by
  rw [upd_ne (ne_of_none (k b u h hb) hp)]
  exact k b u h hb
/-- behind a new instance -/
theorem Kp.same {H1 H2 : Hp} {x dx : Addr} {o : HO} {u : HO} (k : Kp (L2.upd (L2.upd H1 dx o) x u) x H2) (nx : H1 x = none) (nd : H1 dx = none) : Same H1 H2 := fun b v h =>
  k b v (by rw [upd_ne (ne_of_none h nx), upd_ne (ne_of_none h nd)]; exact h) (ne_of_none h nx)
theorem fresh2 {H1 : Hp} {x dx p : Addr} {o u : HO} (h : L2.upd (L2.upd H1 dx o) x u p = none) : H1 p = none ∧ p ≠ x ∧ p ≠ dx := by
  have h1 : p ≠ x := fun e => by rw [e, upd_same] at h; cases h
  rw [upd_ne h1] at h
  have h2 : p ≠ dx := fun e => by rw [e, upd_same] at h; cases h
  rw [upd_ne h2] at h
  exact ⟨h, h1, h2⟩
end GW
/-! The walk 1: words -/
namespace GW
open PySem PySem.Spec PyProof.Rows L2
theorem letter_at : ∀ k : Fin 26, ("abcdefghijklmnopqrstuvwxyz" : Str).cps.toList[k.val]? = some (97 + k.val) := by decide +kernel
theorem digit_str : ∀ k : Fin 10, (toString ((k.val : Nat) : Int) : Str) = ⟨#[48 + k.val]⟩ := by decide +kernel
def others : List (Int × He.Dv) := [(42, .str "*"), (43, .str "+"), (44, .str ","), (45, .str "-"), (60, .str "<"), (61, .str "=")]
theorem others_at {K : PySem.W.Frag} {c : Nat} (h1 : ¬ (97 ≤ c ∧ c ≤ 122)) (h2 : ¬ (48 ≤ c ∧ c ≤ 57)) : ((others.lookup (c : Int)).map fun v => v.v K).getD (.str "?") = .str ⟨#[sgn c]⟩ := by
  by_cases h : c = 42 ∨ c = 43 ∨ c = 44 ∨ c = 45 ∨ c = 60 ∨ c = 61
  · rcases h with rfl | rfl | rfl | rfl | rfl | rfl
    · exact congrArg V.str (show (Str.ofString "*") = ⟨#[42]⟩ by decide +kernel)
    · exact congrArg V.str (show (Str.ofString "+") = ⟨#[43]⟩ by decide +kernel)
    · exact congrArg V.str (show (Str.ofString ",") = ⟨#[44]⟩ by decide +kernel)
    · exact congrArg V.str (show (Str.ofString "-") = ⟨#[45]⟩ by decide +kernel)
    · exact congrArg V.str (show (Str.ofString "<") = ⟨#[60]⟩ by decide +kernel)
    · exact congrArg V.str (show (Str.ofString "=") = ⟨#[61]⟩ by decide +kernel)
  · have e : sgn c = 63 := by unfold sgn; rw [if_neg (by omega)]
    have l : others.lookup (c : Int) = none := by
      unfold others
      have n : ∀ k : Int, (c : Int) ≠ k → ((c : Int) == k) = false := fun k hk => beq_eq_false_iff_ne.mpr hk
      simp only [List.lookup]
      rw [n 42 (by omega), n 43 (by omega), n 44 (by omega), n 45 (by omega), n 60 (by omega), n 61 (by omega)]
    rw [l, e]
    exact congrArg V.str (show (Str.ofString "?") = ⟨#[63]⟩ by decide +kernel)
/-! ### lists of bytes in pieces -/
def iv (n : Nat) : V := .int (n : Int)
/-- one byte more: a parting one begins a new piece -/
def pstep (c : Nat) (xss : List (List Nat)) (b : Nat) : List (List Nat) := if b = c then xss ++ [[]] else xss.dropLast ++ [xss.getLastD [] ++ [b]]
theorem pstep_snoc (c : Nat) (d : List (List Nat)) (cur : List Nat) (b : Nat) : pstep c (d ++ [cur]) b = if b = c then (d ++ [cur]) ++ [[]] else d ++ [cur ++ [b]] := by
  unfold pstep
  simp
theorem split_ne (c : Nat) : ∀ cs : List Nat, Xb15.splitOn c cs ≠ []
  | [] => by simp [Xb15.splitOn]
  | b :: cs => by
    simp only [Xb15.splitOn]
    split
    · simp
    · split <;> simp
theorem split_len (c : Nat) : ∀ cs : List Nat, (Xb15.splitOn c cs).length ≤ cs.length + 1 ∧ ∀ x ∈ Xb15.splitOn c cs, x.length ≤ cs.length
  | [] => by simp [Xb15.splitOn]
  | b :: cs => by
    obtain ⟨h1, h2⟩ := split_len c cs
    simp only [Xb15.splitOn]
    split
    · refine ⟨by simp; omega, fun x hx => ?_⟩
      rcases List.mem_cons.mp hx with rfl | hx
      · simp
      · have := h2 x hx; simp; omega
    · split
      · simp
      · rename_i r rs e
        rw [e] at h1 h2
        refine ⟨by simp at h1 ⊢; omega, fun x hx => ?_⟩
        rcases List.mem_cons.mp hx with rfl | hx
        · have := h2 r (by simp); simp; omega
        · have := h2 x (List.mem_cons_of_mem _ hx); simp; omega
theorem pfold_split (c : Nat) : ∀ (cs : List Nat) (d : List (List Nat)) (cur : List Nat), cs.foldl (pstep c) (d ++ [cur]) = d ++ (match Xb15.splitOn c cs with
    | [] => [cur]
    | r :: rs => (cur ++ r) :: rs)
  | [], d, cur => by simp [Xb15.splitOn]
  | b :: cs, d, cur => by
    rw [List.foldl_cons, pstep_snoc]
    by_cases h : b = c
    · rw [if_pos h, pfold_split c cs (d ++ [cur]) []]
      simp only [Xb15.splitOn, if_pos h]
      cases e : Xb15.splitOn c cs with
      | nil => exact (split_ne c cs e).elim
      | cons r rs => simp
    · rw [if_neg h, pfold_split c cs d (cur ++ [b])]
      simp only [Xb15.splitOn, if_neg h]
      cases Xb15.splitOn c cs <;> simp
theorem pfold_all (c : Nat) (cs : List Nat) : cs.foldl (pstep c) [[]] = Xb15.splitOn c cs := by
  have z := pfold_split c cs [] []
  simp only [List.nil_append] at z
  rw [z]
  cases e : Xb15.splitOn c cs with
  | nil => exact (split_ne c cs e).elim
  | cons r rs => rfl
theorem foldl_more {α β : Type} {f : β → α → β} {l : List α} {i : Nat} {x : α} {b : β} (h : l[i]? = some x) : (l.take (i + 1)).foldl f b = f ((l.take i).foldl f b) x := by
  rw [List.take_succ, h]
  simp [List.foldl_append]
theorem pfold_snoc (c : Nat) (cs : List Nat) : ∃ d cur, cs.foldl (pstep c) [[]] = d ++ [cur] := by
  rw [pfold_all]
  have h := split_ne c cs
  exact ⟨(Xb15.splitOn c cs).dropLast, (Xb15.splitOn c cs).getLast h, (List.dropLast_concat_getLast h).symm⟩
/-! ### what is new -/
def nw (H H' : Hp) : Hp := fun b => if (H b).isNone = true then H' b else none
theorem nw_some {H H' : Hp} {b : Addr} {o : HO} : nw H H' b = some o ↔ H b = none ∧ H' b = some o := by
  unfold nw
  split <;> simp_all
theorem nw_mono {H H' H'' : Hp} (e : Same H' H'') : Same (nw H H') (nw H H'') := fun b o h => nw_some.mpr ⟨(nw_some.mp h).1, e _ _ (nw_some.mp h).2⟩
theorem nw_old {H0 H H' : Hp} (e : Same H0 H) : Same (nw H H') (nw H0 H') := fun b o h => nw_some.mpr ⟨e.free (nw_some.mp h).1, (nw_some.mp h).2⟩
theorem nw_same (H H' : Hp) : Same (nw H H') H' := fun b o h => (nw_some.mp h).2
/-- a list of new lists at f -/
structure PInv (H : Hp) (f : Addr) (xss : List (List Nat)) (as : List Addr) (H' : Hp) : Prop where
  same : Same H H'
  new : H f = none
  at_ : H' f = some (.lst (as.map V.ref))
  len : as.length = xss.length
  nd : as.Nodup
  fr : ∀ a ∈ as, H a = none ∧ a ≠ f
  each : ∀ (i : Nat) (a : Addr) (xs : List Nat), as[i]? = some a → xss[i]? = some xs → H' a = some (.lst (xs.map iv))
theorem PInv.there {H : Hp} {f : Addr} {xss : List (List Nat)} {as : List Addr} {H' : Hp} (I : PInv H f xss as H') {a : Addr} (h : a ∈ as) : ∃ o, H' a = some o := by
  obtain ⟨i, hi⟩ := List.mem_iff_getElem?.mp h
  have hl := (List.getElem?_eq_some_iff.mp hi).1
  obtain ⟨xs, hx⟩ : ∃ xs, xss[i]? = some xs := ⟨xss[i]'(by rw [← I.len]; exact hl), by simp⟩
  exact ⟨_, I.each i a xs hi hx⟩
theorem PInv.push {H : Hp} {f : Addr} {xss : List (List Nat)} {as : List Addr} {H' : Hp} (I : PInv H f xss as H') {p : Addr} (hp : H' p = none) :
    PInv H f (xss ++ [[]]) (as ++ [p]) (upd (upd H' p (.lst [])) f (.lst (as.map V.ref ++ [.ref p]))) := by
  have hpf : p ≠ f := fun e => by rw [e, I.at_] at hp; cases hp
  have hpa : p ∉ as := fun h => by
    obtain ⟨o, ho⟩ := I.there h
    rw [hp] at ho; cases ho
  refine ⟨same_new (same_new I.same (I.same.free hp)) I.new, I.new, ?_, ?_, ?_, fun a ha => ?_, fun i a xs h1 h2 => ?_⟩
  · rw [upd_same]; simp
  · simp [I.len]
  · rw [List.nodup_append]
    refine ⟨I.nd, by simp, fun a ha b hb e => ?_⟩
    simp at hb
    rw [e, hb] at ha
    exact hpa ha
  · rcases List.mem_append.mp ha with h | h
    · exact I.fr a h
    · simp at h
      subst h
      exact ⟨I.same.free hp, hpf⟩
  · have hl := I.len
    by_cases hi : i < as.length
    · rw [List.getElem?_append_left hi] at h1
      rw [List.getElem?_append_left (by omega)] at h2
      have hm := List.mem_of_getElem? h1
      rw [upd_ne (I.fr a hm).2, upd_ne (fun e => hpa (by rw [← e]; exact hm))]
      exact I.each i a xs h1 h2
    · rw [List.getElem?_append_right (by omega)] at h1
      rw [List.getElem?_append_right (by omega)] at h2
      rw [hl] at h1
      cases z : i - xss.length with
      | zero =>
        rw [z] at h1 h2
        simp at h1 h2
        subst h1 h2
        rw [upd_ne hpf, upd_same]
        rfl
      | succ k =>
        rw [z] at h1
        simp at h1
theorem PInv.last {H : Hp} {f : Addr} {d : List (List Nat)} {cur : List Nat} {as : List Addr} {H' : Hp} (I : PInv H f (d ++ [cur]) as H') : ∃ bs a, as = bs ++ [a] ∧ H' a = some (.lst (cur.map iv)) ∧
    ∀ c, PInv H f (d ++ [cur ++ [c]]) as (upd H' a (.lst (cur.map iv ++ [iv c]))) := by
  have hl := I.len
  simp at hl
  have hne : as ≠ [] := fun e => by rw [e] at hl; simp at hl
  have e := (List.dropLast_concat_getLast hne).symm
  generalize as.dropLast = bs at e
  generalize as.getLast hne = a at e
  subst e
  simp at hl
  have ha : H' a = some (.lst (cur.map iv)) := I.each d.length a cur (by rw [← hl]; simp) (by simp)
  have hnd := I.nd
  rw [List.nodup_append] at hnd
  refine ⟨bs, a, rfl, ha, fun c => ⟨same_new I.same (I.fr a (by simp)).1, I.new, ?_, by simp [hl], I.nd, I.fr, fun i b xs h1 h2 => ?_⟩⟩
  · rw [upd_ne (Ne.symm (I.fr a (by simp)).2)]; exact I.at_
  · by_cases hi : i < bs.length
    · rw [List.getElem?_append_left hi] at h1
      rw [List.getElem?_append_left (by omega)] at h2
      have hm := List.mem_of_getElem? h1
      rw [upd_ne (hnd.2.2 b hm a (by simp))]
      exact I.each i b xs (by rw [List.getElem?_append_left hi]; exact h1) (by rw [List.getElem?_append_left (by omega)]; exact h2)
    · rw [List.getElem?_append_right (by omega)] at h1
      rw [List.getElem?_append_right (by omega)] at h2
      rw [hl] at h1
      cases z : i - d.length with
      | zero =>
        rw [z] at h1 h2
        simp at h1 h2
        subst h1 h2
        rw [upd_same]
        simp
      | succ k =>
        rw [z] at h1
        simp at h1
/-- at f a list of lists -/
def LL (H : Hp) (f : Addr) (xss : List (List Nat)) : Prop := ∃ as : List Addr, H f = some (.lst (as.map V.ref)) ∧ as.length = xss.length ∧ ∀ (i : Nat) (a : Addr) (xs : List Nat), as[i]? = some a → xss[i]? = some xs → H a = some (.lst (xs.map iv))
theorem cut_take (b : Xb15.Bytes) : cutS (phi b) none (some 1) = phi (b.take 1) := by
  unfold cutS
  rw [show (some (1 : Int)) = some ((1 : Nat) : Int) from rfl, phi_list, HT.sIx_none, HT.sIx_nat _ _ 1, phi_len]
  unfold phi
  congr 2
  cases b with
  | nil => rfl
  | cons a r => simp
theorem cut_drop (b : Xb15.Bytes) : cutS (phi b) (some 1) none = phi (b.drop 1) := by
  unfold cutS
  rw [show (some (1 : Int)) = some ((1 : Nat) : Int) from rfl, phi_list, HT.sIx_none, HT.sIx_nat _ _ 1, phi_len]
  unfold phi
  congr 2
  cases b with
  | nil => rfl
  | cons a r =>
    simp
    exact List.take_of_length_le (by simp)
def wv (b : Xb15.Bytes) : V := .str (phi b)
def wordAtSp (K : PySem.W.Frag) : Sp := sp2 fun a b H Q E => ∃ (l : Addr) (ws : List Xb15.Bytes) (i : Nat), a = .ref l ∧ b = iv i ∧ SqL K H l (ws.map wv) ∧ Q (wv (ws.getD i [])) H
def nameSp (K : PySem.W.Frag) : Sp := sp1 fun a H Q E => ∃ b : Xb15.Bytes, a = wv b ∧ b.length ≤ 20000 ∧ ∀ H', Same H H' → Q (.bl (Xb15.isName b)) H'
def numberSp (K : PySem.W.Frag) : Sp := sp1 fun a H Q E => ∃ b : Xb15.Bytes, a = wv b ∧ b.length ≤ 20000 ∧ Q (.bl (Xb15.parseInt? b).isSome) H
def wordsSp (K : PySem.W.Frag) : Sp := sp1 fun a H Q E => ∃ (l : Addr) (cs : List Nat), a = .ref l ∧ SqL K H l (cs.map iv) ∧ cs.length ≤ 20000 ∧ ∀ H' p, Same H H' → nw H H' p = some (.lst ((Xb15.lineWords cs).map wv)) → Q (.ref p) H'
def piecesSp (K : PySem.W.Frag) : Sp := sp2 fun a p H Q E => ∃ (l : Addr) (cs : List Nat) (c : Nat), a = .ref l ∧ p = iv c ∧ SqL K H l (cs.map iv) ∧ cs.length ≤ 20000 ∧ ∀ H' f, Same H H' → LL (nw H H') f (Xb15.splitOn c cs) → Q (.ref f) H'
section
variable {P : Program} {w : World} {K : PySem.W.Frag} {mg : Str → Option Value} {base : Heap}
theorem sc_sign_of : FnScope ["code"] ["code"] (defScope s_sign_of) := ⟨rfl, rfl, rfl, by decide +kernel, rfl, by decide +kernel, by decide +kernel⟩
theorem ok_sign_of (T : Tx K w mg) : Df P w K mg base CX0 1 "sign_of" ["code"] (sp1 fun a H Q E => ∃ c : Nat, a = .int c ∧ Q (.str ⟨#[sgn c]⟩) H) := by
  obtain ⟨fd, F⟩ := T.d_sign_of
  refine ⟨fd, T.g_sign_of, F.kp, (F.bindsN (ps := ["code"]) fun _ _ _ _ _ _ us hl => match us, hl with | [_], _ => rfl), F.ok sc_sign_of sp1_len (fun cdv A outer s H vs Q E hr h => ⟨_, PSs.nox ((pss_cons (ps_if (pt_chain op_le op_le pe_int (pv 0) pe_int)
      (pss_one (ps_ret (pe_ix ix_str (pe_gs T.c_LETTERS) (pe_op op_sub (pv 0) pe_int) (fun _ _ => rfl))))
      pss_nil)
    (pss_cons (ps_if (pt_chain op_le op_le pe_int (pv 0) pe_int)
      (pss_one (ps_ret (pe_callTy call_str_int (by rfl) T.f_str (by decide +kernel) (pa_cons (pe_op op_sub (pv 0) pe_int) pa_nil))))
      pss_nil)
    (pss_one (ps_ret (pe_getId T.id_OTHERS (by decide) (pe_gr T.g_OTHERS) (pv 0) (pe_gs T.c_STRANGE) ⟨rfl, rfl, rfl, rfl⟩)))))), ?_⟩)⟩
  obtain ⟨_, rfl, c, rfl, h⟩ := h
  refine st_if (ans_of (val_chain_le val_c (val_var rfl) val_c)) (fun e => ?_) (fun e => ?_)
  · simp only [Bool.and_eq_true, decide_eq_true_eq] at e
    have e1 : sgn c = c := by unfold sgn; rw [if_pos (by omega)]
    have e2 := letter_at ⟨c - 97, by omega⟩
    simp only at e2
    rw [show 97 + (c - 97) = c by omega] at e2
    rw [e1] at h
    exact ⟨_, rfl, _, _, rfl, rfl, _, _, _, rfl, rfl, by decide, atN (z := (c : Int) - 97) (j := c - 97) (by omega) e2, h⟩
  · have e3 : ¬ (97 ≤ c ∧ c ≤ 122) := fun z => by simp at e; omega
    refine st_if (ans_of (val_chain_le val_c (val_var rfl) val_c)) (fun e => ?_) (fun e => ?_)
    · simp only [Bool.and_eq_true, decide_eq_true_eq] at e
      have e1 : sgn c = c := by unfold sgn; rw [if_pos (by omega)]
      have e2 := digit_str ⟨c - 48, by omega⟩
      simp only at e2
      rw [show 48 + (c - 48) = c by omega, show ((c - 48 : Nat) : Int) = (c : Int) - 48 by omega] at e2
      rw [e1] at h
      refine ⟨_, rfl, _, _, rfl, rfl, _, rfl, ?_, ?_⟩
      · show ((c : Int) - 48).natAbs.log2 < 1920
        have := Nat.log2_le_self ((c : Int) - 48).natAbs
        omega
      · rw [e2]; exact h
    · have e4 : ¬ (48 ≤ c ∧ c ≤ 57) := fun z => by simp at e; omega
      exact ⟨rfl, _, rfl, _, rfl, by rw [show ([(42, He.Dv.str "*"), (43, .str "+"), (44, .str ","), (45, .str "-"), (60, .str "<"), (61, .str "=")] : List (Int × He.Dv)) = others from rfl, others_at e3 e4]; exact h⟩
theorem sc_pieces_of : FnScope ["codes", "parting", "found", "code"] ["codes", "parting"] (defScope s_pieces_of) := ⟨rfl, rfl, rfl, by decide +kernel, rfl, by decide +kernel, by decide +kernel⟩
theorem ok_pieces_of (T : Tx K w mg) : Df P w K mg base CX0 1 "pieces_of" ["codes", "parting"] (piecesSp K) := by
  obtain ⟨fd, F⟩ := T.d_pieces_of
  refine ⟨fd, T.g_pieces_of, F.kp, (F.bindsN (ps := ["codes", "parting"]) fun _ _ _ _ _ _ us hl => match us, hl with | [_, _], _ => rfl), F.ok sc_pieces_of sp2_len (fun cdv A outer s H vs Q E hr h => ⟨_, PSs.nox ((pss_cons (ps_set (i := 2) sc_pieces_of.nd rfl (.inl rfl) (pe_lst (pa_cons (pe_lst pa_nil) pa_nil)))
    (pss_cons (ps_for PassesOwn.never rfl (pi_list (pv 0)) (pg_name (i := 3) sc_pieces_of.nd rfl (.inl rfl))
      (pss_one (ps_if (pt_cmpR op_eq (pv 3) (pv 1) (nomark _))
      (pss_one (ps_expr (pe_bm PySem.F.plainAttrs_list PySem.F.slot_list_append PySem.F.type_list_append mt_append (pv 2) (pa_cons (pe_lst pa_nil) pa_nil))))
      (pss_one (ps_expr (pe_bm PySem.F.plainAttrs_list PySem.F.slot_list_append PySem.F.type_list_append mt_append (pe_ix ix_list (pv 2) (pe_un un_neg pe_int) (fun _ _ => rfl)) (pa_cons (pv 3) pa_nil)))))))
    (pss_one (ps_ret (pv 2)))))), ?_⟩)⟩
  obtain ⟨_, _, rfl, l, cs, c, rfl, rfl, hS, hl, h⟩ := h
  -- found = [[]]
  refine ⟨by show 0 ≤ sizeLine; decide, fun p hp => ⟨by show 1 ≤ sizeLine; decide, fun f hf => ?_⟩⟩
  have hpf : p ≠ f := fun e => by rw [e, ← e, upd_same] at hf; cases hf
  have hf' : H f = none := by rw [upd_ne (Ne.symm hpf)] at hf; exact hf
  have I0 : PInv H f [[]] [p] (upd (upd H p (.lst [])) f (.lst [.ref p])) := ⟨same_new (same_new (Same.refl H) hp) hf', hf', upd_same, rfl, by simp, fun a ha => by simp at ha; subst ha; exact ⟨hp, hpf⟩, fun i a xs h1 h2 => by
    cases i with
    | zero =>
      simp at h1 h2
      subst h1 h2
      rw [upd_ne hpf, upd_same]
      rfl
    | succ i => simp at h1⟩
  refine ⟨_, rfl, l, rfl, ⟨_, I0.same.seq hS⟩, for_list (K := K) (a := l) (xs := cs.map iv) (fun i σ H' => ∃ (v : Option V) (as : List Addr), σ = [some (.ref l), some (iv c), some (.ref f), v] ∧ PInv H f ((cs.take i).foldl (pstep c) [[]]) as H')
    ⟨none, [p], rfl, I0⟩ (fun i σ H' _ ⟨_, _, _, I⟩ => I.same.seq hS) ?_ ?_⟩
  · rintro i y σ H' hi ⟨v, as, rfl, I⟩
    obtain ⟨z, hz, rfl⟩ := map_get hi
    have hil := (List.getElem?_eq_some_iff.mp hz).1
    have st := foldl_more (f := pstep c) (b := [[]]) hz
    obtain ⟨d, cur, ed⟩ := pfold_snoc c (cs.take i)
    rw [ed, pstep_snoc] at st
    rw [ed] at I
    have hb := split_len c (cs.take i)
    rw [← pfold_all, ed] at hb
    have hti : (cs.take i).length ≤ 20000 := by rw [List.length_take]; omega
    have hlen : as.length ≤ 100000 := by have := I.len; omega
    refine st_if (ans_of (val_eq (val_var rfl) (val_var rfl) rfl)) (fun e => ?_) (fun e => ?_)
    · have e1 : z = c := by
        have := of_decide_eq_true e
        have := V.int.inj this
        omega
      rw [if_pos e1] at st
      refine ⟨_, rfl, .inl ⟨rfl, _, SqL.of I.at_⟩, by show 0 ≤ sizeLine; decide, fun q hq => ⟨f, as.map V.ref, .ref q, rfl, rfl, ?_, by rw [List.length_map]; exact lineN hlen, ?_⟩⟩
      · rw [upd_ne (fun e => by rw [← e, I.at_] at hq; cases hq)]; exact I.at_
      · refine ⟨some (iv z), as ++ [q], rfl, ?_⟩
        rw [st]
        exact I.push hq
    · have e1 : ¬ z = c := fun e1 => by
        rw [e1] at e
        simp [iv] at e
      rw [if_neg e1] at st
      obtain ⟨bs, a, rfl, ha, ap⟩ := I.last
      have at' := I.at_
      rw [List.map_append] at at'
      refine ⟨_, rfl, _, rfl, f, _, _, _, rfl, rfl, SqL.of at', atI_last _ _, .inl ⟨rfl, _, SqL.of ha⟩, _, rfl, a, _, _, rfl, rfl, ha, ?_, ?_⟩
      · rw [List.length_map]; have := hb.2 cur (by simp); exact lineN (by omega)
      · refine ⟨some (iv z), bs ++ [a], rfl, ?_⟩
        rw [st]
        exact ap z
  · rintro σ H' ⟨v, as, rfl, I⟩
    rw [List.length_map, List.take_length, pfold_all] at I
    exact ⟨_, rfl, h H' f I.same ⟨as, nw_some.mpr ⟨I.new, I.at_⟩, I.len, fun i a xs h1 h2 => nw_some.mpr ⟨(I.fr a (List.mem_of_getElem? h1)).1, I.each i a xs h1 h2⟩⟩⟩
theorem sc_word_of : FnScope ["piece", "code"] ["piece"] (defScope s_word_of) := ⟨rfl, rfl, rfl, by decide +kernel, rfl, by decide +kernel, by decide +kernel⟩
theorem ok_word_of (T : Tx K w mg) : Df P w K mg base CX0 2 "word_of" ["piece"] (sp1 fun a H Q E => ∃ (l : Addr) (cs : List Nat), a = .ref l ∧ SqL K H l (cs.map iv) ∧ cs.length ≤ 20000 ∧ ∀ H', Same H H' → Q (wv cs) H') := by
  obtain ⟨fd, F⟩ := T.d_word_of
  refine ⟨fd, T.g_word_of, F.kp, (F.bindsN (ps := ["piece"]) fun _ _ _ _ _ _ us hl => match us, hl with | [_], _ => rfl), F.ok sc_word_of sp1_len (fun cdv A outer s H vs Q E hr h => ⟨_, PSs.nox ((pss_one (ps_ret (pe_join pe_str (pe_lc (own := [("code", 1)]) rfl sc_word_of.nd (pi_list (pv 0)) (blkOk_by (N := ["piece", "code"]) (sc := defScope s_word_of) (by decide +kernel)) (fun _ _ _ _ _ => (pg_name (i := 1) sc_word_of.nd rfl (.inl rfl))) (fun _ _ _ _ _ => pts_nil) (fun _ _ _ _ _ => (pe_df (ok_sign_of T) (hr.mono (by decide)) pass0 (pa_cons (pv 1) pa_nil)))))))), ?_⟩)⟩
  obtain ⟨_, rfl, l, cs, rfl, hS, hl, h⟩ := h
  refine ⟨⟨_, rfl⟩, ⟨_, rfl, l, rfl, ⟨_, hS⟩, fun D hD => ?_⟩⟩
  refine lc_gen (walk_list (K := K) (a := l) (xs := cs.map iv)) (zs := cs) (fun c => [some (.ref l), some (iv c)]) (fun _ => true) (fun c => .str ⟨#[sgn c]⟩) (by simp) (by omega) hD (fun H' s' => s'.seq hS) (fun _ => rfl)
    (fun i z H1 x H2 R hz s1 y q => ?_) (fun z H1 R hm s1 q => q H1 (Same.refl H1)) (fun z H1 R hm _ s1 q => ?_) (fun H' s1 hD' => ?_)
  · obtain ⟨rfl, hx⟩ := y
    obtain ⟨z', hz', rfl⟩ := map_get hx
    rw [hz] at hz'
    cases hz'
    exact q _ (Same.refl _)
  · exact ⟨_, rfl, _, rfl, z, rfl, q H1 (Same.refl H1)⟩
  · rw [List.filter_eq_self.mpr (fun _ _ => rfl)] at hD'
    refine ⟨"", D, (cs.map sgn).map fun c => (⟨#[c]⟩ : Str), rfl, rfl, .inl (SqL.of (by rw [hD', List.map_map, List.map_map]; rfl)), ?_, ?_⟩
    · have e1 : (((cs.map sgn).map fun c => (⟨#[c]⟩ : Str)).map (·.length)).sum = cs.length := by
        clear hS hl hD' h
        induction cs with
        | nil => rfl
        | cons c r ih => simp only [List.map_cons, List.sum_cons, List.length_cons]; rw [ih]; show 1 + r.length = r.length + 1; omega
      rw [e1]
      simp
      show cs.length + cs.length * (Str.ofString "").length ≤ 16777216
      rw [show (Str.ofString "").length = 0 from by decide +kernel]
      omega
    · have e2 : Txt.join "" ((cs.map sgn).map fun c => (⟨#[c]⟩ : Str)) = phi cs := by
        rw [TL.join_eq, show (Str.ofString "") = ⟨#[]⟩ from by decide +kernel, join_signs]
        rfl
      rw [e2]
      exact h H' s1
theorem sc_words_of : FnScope ["line", "piece"] ["line"] (defScope s_words_of) := ⟨rfl, rfl, rfl, by decide +kernel, rfl, by decide +kernel, by decide +kernel⟩
theorem ok_words_of (T : Tx K w mg) : Df P w K mg base CX0 3 "words_of" ["line"] (wordsSp K) := by
  obtain ⟨fd, F⟩ := T.d_words_of
  refine ⟨fd, T.g_words_of, F.kp, (F.bindsN (ps := ["line"]) fun _ _ _ _ _ _ us hl => match us, hl with | [_], _ => rfl), F.ok sc_words_of sp1_len (fun cdv A outer s H vs Q E hr h => ⟨_, PSs.nox ((pss_one (ps_ret (pe_lc (own := [("piece", 1)]) rfl sc_words_of.nd (pi_list (pe_df (ok_pieces_of T) (hr.mono (by decide)) pass0 (pa_cons (pv 0) (pa_cons (pe_gi T.c_SPACE) pa_nil)))) (blkOk_by (N := ["line", "piece"]) (sc := defScope s_words_of) (by decide +kernel)) (fun _ _ _ _ _ => (pg_name (i := 1) sc_words_of.nd rfl (.inl rfl))) (fun _ _ _ _ _ => (pts_one (pt_cmpR (op_neDK (K := K) rfl (by exact hr.units)) (pv 1) (pe_lst pa_nil) (nomark _)))) (fun _ _ _ _ _ => (pe_df (ok_word_of T) (hr.mono (by decide)) pass0 (pa_cons (pv 1) pa_nil))))))), ?_⟩)⟩
  obtain ⟨_, rfl, l, cs, rfl, hS, hl, h⟩ := h
  have hb := split_len 32 cs
  refine ⟨_, rfl, _, _, rfl, l, cs, 32, rfl, rfl, hS, hl, fun H0 f s0 ⟨as, hf0, ha1, ha20⟩ => ⟨f, rfl, ⟨_, SqL.of (nw_some.mp hf0).2⟩, fun D hD => ?_⟩⟩
  have hf := (nw_some.mp hf0).2
  have ha2 := fun i a xs h1 h2 => (nw_some.mp (ha20 i a xs h1 h2)).2
  have hzip : (as.zip (Xb15.splitOn 32 cs)).map Prod.fst = as := by rw [List.map_fst_zip]; omega
  have hzip2 : (as.zip (Xb15.splitOn 32 cs)).map Prod.snd = Xb15.splitOn 32 cs := by rw [List.map_snd_zip]; omega
  have hel : ∀ z ∈ as.zip (Xb15.splitOn 32 cs), H0 z.1 = some (.lst (z.2.map iv)) ∧ z.2.length ≤ cs.length := fun z hz => by
    obtain ⟨i, hi⟩ := List.mem_iff_getElem?.mp hz
    rw [List.getElem?_zip_eq_some] at hi
    exact ⟨ha2 i z.1 z.2 hi.1 hi.2, hb.2 _ (List.mem_of_getElem? hi.2)⟩
  have hxs : as.map V.ref = (as.zip (Xb15.splitOn 32 cs)).map fun z => V.ref z.1 := by
    conv => lhs; rw [← hzip]
    rw [List.map_map]
    rfl
  refine lc_gen (walk_list (K := K) (a := f) (xs := as.map V.ref)) (zs := as.zip (Xb15.splitOn 32 cs)) (fun z => [some (.ref l), some (.ref z.1)]) (fun z => !z.2.isEmpty) (fun z => wv z.2) (by rw [hxs, List.length_map]) (by rw [List.length_zip]; omega) hD
    (fun H' s' => s'.seq (SqL.of hf)) (fun _ => rfl) (fun i z H1 x H2 R hz s1 y q => ?_) (fun z H1 R hm s1 q => ?_) (fun z H1 R hm _ s1 q => ?_) (fun H' s1 hD' => ?_)
  · obtain ⟨rfl, hx⟩ := y
    rw [hxs] at hx
    obtain ⟨z', hz', rfl⟩ := map_get hx
    rw [hz] at hz'
    cases hz'
    exact q _ (Same.refl _)
  · refine ⟨_, rfl, by show 0 ≤ sizeLine; decide, fun p hp => ?_⟩
    have e1 : iv = V.int ∘ (fun n : Nat => (n : Int)) := rfl
    have s2 := same_upd (o := .lst []) hp
    have := lay_ints (z.2.map fun n : Nat => (n : Int))
    refine neD_nil (ds := (z.2.map fun n : Nat => (n : Int)).map PyData.int) (SqL.of (s2 _ _ (s1 _ _ (hel z hm).1))) ?_ this.1 this.2 upd_same ⟨_, rfl, ?_⟩
    · rw [e1, ← List.map_map]; exact dp_ints _
    · rw [List.isEmpty_map]; exact q _ s2
  · refine ⟨_, rfl, _, rfl, z.1, z.2, rfl, SqL.of (s1 _ _ (hel z hm).1), by have h5 := (hel z hm).2; exact Nat.le_trans h5 hl, fun H3 s3 => q _ s3⟩
  · refine h H' D (s0.trans s1) (nw_some.mpr ⟨s0.free hD, ?_⟩)
    rw [hD']
    have e3 : (Xb15.lineWords cs).map wv = (((as.zip (Xb15.splitOn 32 cs)).map Prod.snd).filter fun w => !w.isEmpty).map wv := by rw [hzip2]; rfl
    rw [e3, List.filter_map, List.map_map]
    rfl
theorem sc_word_at : FnScope ["words", "at"] ["words", "at"] (defScope s_word_at) := ⟨rfl, rfl, rfl, by decide +kernel, rfl, by decide +kernel, by decide +kernel⟩
theorem ok_word_at (T : Tx K w mg) : Df P w K mg base CX0 1 "word_at" ["words", "at"] (wordAtSp K) := by
  obtain ⟨fd, F⟩ := T.d_word_at
  refine ⟨fd, T.g_word_at, F.kp, (F.bindsN (ps := ["words", "at"]) fun _ _ _ _ _ _ us hl => match us, hl with | [_, _], _ => rfl), F.ok sc_word_at sp2_len (fun cdv A outer s H vs Q E hr h => ⟨_, PSs.nox ((pss_one (ps_ret (pe_ifExp (pt_cmpR op_lt (pv 1) (pe_callB call_len (by rfl) T.f_len (by decide +kernel) (pa_cons (pv 0) pa_nil)) (nomark _)) (pe_ix ix_list (pv 0) (pv 1) (fun _ _ => rfl)) pe_str)))), ?_⟩)⟩
  obtain ⟨_, _, rfl, l, ws, i, rfl, rfl, hS, h⟩ := h
  refine ⟨_, rfl, _, rfl, _, _, rfl, .inl ⟨_, hS, rfl⟩, _, _, rfl, rfl, _, rfl, ifd (fun e => ?_) (fun e => ?_)⟩
  · rw [List.length_map] at e
    have hi : i < ws.length := by omega
    have hg : ws.getD i [] = ws[i] := by simp [hi]
    rw [hg] at h
    exact ⟨_, rfl, _, rfl, l, _, _, _, rfl, rfl, hS, atI_nat (j := i) (by rw [List.getElem?_map, List.getElem?_eq_getElem hi]; rfl), h⟩
  · rw [List.length_map] at e
    have hi : ws.length ≤ i := by omega
    have hg : ws.getD i [] = [] := by simp [hi]
    rw [hg] at h
    exact h
theorem sc_is_name : FnScope ["word", "sign"] ["word"] (defScope s_is_name) := ⟨rfl, rfl, rfl, by decide +kernel, rfl, by decide +kernel, by decide +kernel⟩
theorem ok_is_name (T : Tx K w mg) : Df P w K mg base CX0 1 "is_name" ["word"] (nameSp K) := by
  obtain ⟨fd, F⟩ := T.d_is_name
  refine ⟨fd, T.g_is_name, F.kp, (F.bindsN (ps := ["word"]) fun _ _ _ _ _ _ us hl => match us, hl with | [_], _ => rfl), F.ok sc_is_name sp1_len (fun cdv A outer s H vs Q E hr h => ⟨_, PSs.nox ((pss_one (ps_ret (pe_and (pe_chain op_le op_le pe_int (pe_callB call_len (by rfl) T.f_len (by decide +kernel) (pa_cons (pv 0) pa_nil)) (pe_gi T.c_MOST_LETTERS)) (pe_one (pe_callB (cr_all rfl) (by rfl) T.f_all (by decide +kernel) (pa_cons (pe_lc (own := [("sign", 1)]) rfl sc_is_name.nd (pi_str (pv 0)) (blkOk_by (N := ["word", "sign"]) (sc := defScope s_is_name) (by decide +kernel)) (fun _ _ _ _ _ => (pg_name (i := 1) sc_is_name.nd rfl (.inl rfl))) (fun _ _ _ _ _ => pts_nil) (fun _ _ _ _ _ => (pe_cmpR op_in_sign (pv 1) (pe_gs T.c_LETTERS) (by rfl)))) pa_nil))))))), ?_⟩)⟩
  obtain ⟨_, rfl, b, rfl, hl, h⟩ := h
  refine ⟨_, rfl, _, _, rfl, ⟨by rw [phi_len]; exact lineL (by omega), rfl⟩, _, _, rfl, rfl, _, rfl, ?_⟩
  have fin : ∀ c : Bool, (∀ H', Same H H' → Q (.bl (c && (b.all fun b => decide (97 ≤ b) && decide (b ≤ 122)))) H') → ∃ c', V.bl c = .bl c' ∧ if c' = true then
      tCB (rAll K) (tCons (tLc (iStr (tVar 0)) (gName 1) tYes (tOp (fun x y H Q => ∃ (c : Nat) (z : Str), x = .str ⟨#[c]⟩ ∧ y = .str z ∧ Q (.bl (decide (c ∈ z.cps.toList))) H) (tVar 1) (tC (.str "abcdefghijklmnopqrstuvwxyz"))) [1]) tNil) [some (wv b), none] H Q
      else Q (.bl false) H := fun c hc => ⟨c, rfl, by
    refine ifb (fun e => ?_) (fun e => ?_)
    · rw [e] at hc
      refine ⟨_, rfl, _, rfl, fun D hD => ?_⟩
      refine lc_gen (walk_str (z := phi b)) (zs := b) (fun c => [some (wv b), some (.str ⟨#[sgn c]⟩)]) (fun _ => true) (fun c => .bl (decide (97 ≤ c) && decide (c ≤ 122))) (phi_len b) (by omega) hD (fun _ _ => trivial) (fun _ => rfl)
        (fun i z H1 x H2 R hz s1 y q => ?_) (fun z H1 R hm s1 q => by exact q H1 (Same.refl H1)) (fun z H1 R hm _ s1 q => ?_) (fun H' s1 hD' => ?_)
      · obtain ⟨rfl, k, hk, rfl⟩ := y
        have hk' : (b.map sgn)[i]? = some k := by rw [← phi_list, Array.getElem?_toList]; exact hk
        rw [List.getElem?_map, hz] at hk'
        have hk' := Option.some.inj hk'
        subst hk'
        exact q _ (Same.refl _)
      · refine ⟨_, rfl, _, _, rfl, rfl, ?_⟩
        rw [letters_mem]
        exact q H1 (Same.refl H1)
      · rw [List.filter_eq_self.mpr (fun _ _ => rfl)] at hD'
        refine ⟨D, b.map fun c => decide (97 ≤ c) && decide (c ≤ 122), rfl, SqL.of (by rw [hD', List.map_map]; rfl), ?_⟩
        rw [List.all_map]
        exact hc H' s1
    · rw [e] at hc
      exact hc H (Same.refl H)⟩
  rw [phi_len]
  unfold Xb15.isName at h
  refine ifd (fun e1 => ?_) (fun e1 => ?_)
  · refine ⟨_, _, rfl, rfl, fin _ ?_⟩
    have e2 : decide (1 ≤ b.length) = true := decide_eq_true (by omega)
    rw [e2, Bool.true_and] at h
    have e3 : decide ((b.length : Int) ≤ 8) = decide (b.length ≤ 8) := by
      rw [Bool.eq_iff_iff]; simp only [decide_eq_true_eq]; omega
    rw [e3]
    exact h
  · have e2 : decide (1 ≤ b.length) = false := decide_eq_false (by omega)
    rw [e2, Bool.false_and] at h
    exact fin false (by simpa using h)
theorem sc_is_number : FnScope ["word", "digits"] ["word"] (defScope s_is_number) := ⟨rfl, rfl, rfl, by decide +kernel, rfl, by decide +kernel, by decide +kernel⟩
theorem ok_is_number (T : Tx K w mg) : Df P w K mg base CX0 1 "is_number" ["word"] (numberSp K) := by
  obtain ⟨fd, F⟩ := T.d_is_number
  refine ⟨fd, T.g_is_number, F.kp, (F.bindsN (ps := ["word"]) fun _ _ _ _ _ _ us hl => match us, hl with | [_], _ => rfl), F.ok sc_is_number sp1_len (fun cdv A outer s H vs Q E hr h => ⟨_, PSs.nox ((pss_cons (ps_set (i := 1) sc_is_number.nd rfl (.inl rfl) (pe_ifExp (pt_cmpR op_eq (pe_slice sl_str (pv 0) po_none (po_some pe_int)) pe_str (nomark _)) (pe_slice sl_str (pv 0) (po_some pe_int) po_none) (pv 0)))
    (pss_cons (ps_if (PW.pt (pw_or (pt_not (pt_chain op_le op_le pe_int (pe_callB call_len (by rfl) T.f_len (by decide +kernel) (pa_cons (pv 1) pa_nil)) (pe_gi T.c_MOST_DIGITS))) (pw_or1 (pt_not (pt_val (pe_m0 PySem.F.slot_str_isdigit PySem.F.type_str_isdigit mt_isdigit (pv 1)))))))
      (pss_one (ps_ret pe_bl))
      pss_nil)
    (pss_one (ps_ret (pe_or (pe_cmpR op_eq (pe_callB call_len (by rfl) T.f_len (by decide +kernel) (pa_cons (pv 1) pa_nil)) pe_int (nomark _)) (pe_one (pe_cmpR op_ne (pe_ix ix_str (pv 1) pe_int (fun _ _ => rfl)) pe_str (nomark _))))))))), ?_⟩)⟩
  obtain ⟨_, rfl, b, rfl, hl, h⟩ := h
  rw [parseInt_numD, parseNat_is] at h
  have hd : numD b = b ∨ ∃ r, b = 45 :: r ∧ numD b = r := by
    unfold numD
    split
    · exact .inr ⟨_, rfl, rfl⟩
    · exact .inl rfl
  have hdl : (numD b).length ≤ b.length := by
    rcases hd with e | ⟨r, e1, e2⟩
    · rw [e]; exact Nat.le_refl _
    · rw [e2, e1]; simp
  have hv : Val (tIf (tTest (tOp rEq (tSl rSlS (tVar 0) tNoPart (tPart (tC (.int 1)))) (tC (.str "-")))) (tSl rSlS (tVar 0) (tPart (tC (.int 1))) tNoPart) (tVar 0)) [some (wv b), none] H (wv (numD b)) := by
    intro Q q
    refine ⟨_, rfl, _, rfl, phi b, rfl, by rw [phi_len]; exact lineL (by omega), rfl, _, rfl, ?_⟩
    have e0 : decide (V.str (cutS (phi b) none (some 1)) = V.str "-") = decide (numD b ≠ b) := by
      rw [Bool.eq_iff_iff]
      simp only [decide_eq_true_eq, V.str.injEq]
      rw [cut_take, phi_ascii (w := [45]) (by decide +kernel) (fun c hc => by simp at hc; subst hc; unfold Right; omega)]
      unfold numD
      constructor
      · intro e
        cases b with
        | nil => simp at e
        | cons a r => simp at e; subst e; simp
      · intro e
        split at e
        · simp
        · exact (e rfl).elim
    rw [e0]
    refine ifd (fun e => ?_) (fun e => ?_)
    · rcases hd with e' | ⟨r, e1, e2⟩
      · exact (e e').elim
      · refine ⟨_, rfl, _, rfl, phi b, rfl, by rw [phi_len]; exact lineL (by omega), ?_⟩
        rw [cut_drop, e1]
        rw [e2] at q
        exact q
    · have e' : numD b = b := Classical.byContradiction e
      rw [e'] at q
      exact ⟨_, rfl, q⟩
  refine hv _ ?_
  generalize numD b = d at h hdl
  have hlen : Val (tCB (fun xs H Q => ∃ x n, xs = [x] ∧ LenV K x H n ∧ Q (.int n) H) (tCons (tVar 1) tNil)) [some (wv b), some (wv d)] H (.int d.length) := fun Q q => ⟨_, rfl, _, _, rfl, ⟨by rw [phi_len]; exact lineL (by omega), rfl⟩, by rw [phi_len]; exact q⟩
  have hdig : Val (tM0 (fun x xs H Q => ∃ a, x = V.str a ∧ xs = [] ∧ True ∧ Q (V.bl (Txt.isdigit a)) H) (tVar 1)) [some (wv b), some (wv d)] H (.bl (decide (1 ≤ d.length) && (d.all fun b => decide (48 ≤ b) && decide (b ≤ 57)))) := fun Q q => ⟨_, rfl, ⟨_, rfl⟩, _, rfl, rfl, trivial, by rw [isdigit_map]; exact q⟩
  have i1 : decide ((1 : Int) ≤ d.length) = decide (1 ≤ d.length) := by rw [Bool.eq_iff_iff]; simp only [decide_eq_true_eq]; omega
  have i2 : decide ((d.length : Int) ≤ 4) = decide (d.length ≤ 4) := by rw [Bool.eq_iff_iff]; simp only [decide_eq_true_eq]; omega
  have i3 : decide (V.int (d.length : Int) = V.int 1) = decide (d.length = 1) := by rw [Bool.eq_iff_iff]; simp only [decide_eq_true_eq, V.int.injEq]; omega
  refine st_if (ans_orB (ans_not (ans_of (val_chain_le val_c hlen val_c))) (ans_not (ans_ofB hdig))) (fun e => ?_) (fun e => ?_)
  · rw [i1, i2] at e
    have z : (decide (1 ≤ d.length) && decide (d.length ≤ 4) && d.all fun b => decide (48 ≤ b) && decide (b ≤ 57)) = false := by
      revert e
      cases decide (1 ≤ d.length) <;> cases decide (d.length ≤ 4) <;> cases (d.all fun b => decide (48 ≤ b) && decide (b ≤ 57)) <;> simp
    rw [z, Bool.false_and] at h
    exact h
  · rw [i1, i2] at e
    have z : (decide (1 ≤ d.length) && decide (d.length ≤ 4) && d.all fun b => decide (48 ≤ b) && decide (b ≤ 57)) = true := by
      revert e
      cases decide (1 ≤ d.length) <;> cases decide (d.length ≤ 4) <;> cases (d.all fun b => decide (48 ≤ b) && decide (b ≤ 57)) <;> simp
    rw [z, Bool.true_and] at h
    simp only [Bool.and_eq_true, decide_eq_true_eq] at z
    cases d with
    | nil => simp at z
    | cons a r =>
      have e4 : (!decide (V.str ⟨#[sgn a]⟩ = V.str "0")) = !decide ((a :: r).head? = some 48) := by
        congr 1
        rw [Bool.eq_iff_iff]
        simp only [decide_eq_true_eq, V.str.injEq, List.head?_cons, Option.some.injEq]
        have := phi_ascii (z := "0") (w := [48]) (by decide +kernel) (fun c hc => by simp at hc; subst hc; unfold Right; omega) [a]
        rw [show (⟨#[sgn a]⟩ : Str) = phi [a] from rfl, this]
        simp
      refine st_next (st_ret (val_orV (val_is (val_eq hlen val_c rfl) (congrArg V.bl i3)) (fun _ => val_is (val_ne (x := .str ⟨#[sgn a]⟩) (fun Q q => ?_) val_c rfl) (congrArg V.bl e4))) h)
      exact ⟨_, rfl, phi (a :: r), 0, sgn a, rfl, rfl, by rw [phi_len]; exact lineL (by omega), atN (j := 0) rfl (by rw [phi_list]; rfl), q⟩
end
end GW
/-! How the program's data lie in the heap -/
namespace GW
open PySem PySem.Spec PyProof.Rows L2
/-! ### two lists item by item -/
structure All2 {α β : Type} (R : α → β → Prop) (l : List α) (m : List β) : Prop where
  len : l.length = m.length
  at_ : ∀ (i : Nat) (a : α) (b : β), l[i]? = some a → m[i]? = some b → R a b
section
variable {α β : Type} {R S : α → β → Prop} {l : List α} {m : List β}
theorem All2.nil : All2 R [] [] := ⟨rfl, fun i a b h => by simp at h⟩
theorem All2.mono (h : All2 R l m) (f : ∀ a b, a ∈ l → R a b → S a b) : All2 S l m := ⟨h.len, fun i a b h1 h2 => f a b (List.mem_of_getElem? h1) (h.at_ i a b h1 h2)⟩
theorem All2.snoc {a : α} {b : β} (h : All2 R l m) (r : R a b) : All2 R (l ++ [a]) (m ++ [b]) := by
  have hl := h.len
  refine ⟨by simp [hl], fun i x y h1 h2 => ?_⟩
  by_cases hi : i < l.length
  · rw [List.getElem?_append_left hi] at h1
    rw [List.getElem?_append_left (by omega)] at h2
    exact h.at_ i x y h1 h2
  · rw [List.getElem?_append_right (by omega)] at h1
    rw [List.getElem?_append_right (by omega)] at h2
    rw [hl] at h1
    cases z : i - m.length with
    | zero =>
      rw [z] at h1 h2
      simp at h1 h2
      rw [← h1, ← h2]
      exact r
    | succ k => rw [z] at h1; simp at h1
theorem All2.cons {a : α} {b : β} (r : R a b) (h : All2 R l m) : All2 R (a :: l) (b :: m) := ⟨by simp [h.len], fun i x y h1 h2 => by
  cases i with
  | zero => simp at h1 h2; rw [← h1, ← h2]; exact r
  | succ i => exact h.at_ i x y (by simpa using h1) (by simpa using h2)⟩
theorem All2.get {i : Nat} {b : β} (h : All2 R l m) (hb : m[i]? = some b) : ∃ a, l[i]? = some a ∧ R a b := by
  have hi := (List.getElem?_eq_some_iff.mp hb).1
  have hl := h.len
  exact ⟨l[i]'(by omega), by simp, h.at_ i _ b (by simp) hb⟩
theorem All2.get' {i : Nat} {a : α} (h : All2 R l m) (ha : l[i]? = some a) : ∃ b, m[i]? = some b ∧ R a b := by
  have hi := (List.getElem?_eq_some_iff.mp ha).1
  have hl := h.len
  exact ⟨m[i]'(by omega), by simp, h.at_ i a _ ha (by simp)⟩
theorem All2.set {i : Nat} {a : α} {b : β} (h : All2 R l m) (hR : R a b) : All2 R (l.set i a) (m.set i b) := ⟨by simp [h.len], fun j x y h1 h2 => by
  by_cases hj : i = j
  · subst hj
    have l1 := (List.getElem?_eq_some_iff.mp h1).1
    have l2 := (List.getElem?_eq_some_iff.mp h2).1
    rw [List.length_set] at l1 l2
    rw [List.getElem?_set_self l1] at h1
    rw [List.getElem?_set_self l2] at h2
    cases h1
    cases h2
    exact hR
  · rw [List.getElem?_set_ne hj] at h1 h2
    exact h.at_ j x y h1 h2⟩
theorem All2.dropLast (h : All2 R l m) : All2 R l.dropLast m.dropLast := by
  have hl := h.len
  refine ⟨by simp [hl], fun i a b h1 h2 => ?_⟩
  rw [List.getElem?_dropLast] at h1 h2
  split at h1
  · split at h2
    · exact h.at_ i a b h1 h2
    · cases h2
  · cases h1
end

/-! ### the heap without what may change -/
def wo (H : Hp) (M : List Addr) : Hp := fun b => if b ∈ M then none else H b
theorem wo_in {H : Hp} {M : List Addr} {b : Addr} (h : b ∈ M) : wo H M b = none := if_pos h
theorem wo_out {H : Hp} {M : List Addr} {b : Addr} (h : b ∉ M) : wo H M b = H b := if_neg h
theorem wo_some {H : Hp} {M : List Addr} {b : Addr} {o : HO} : wo H M b = some o ↔ b ∉ M ∧ H b = some o := by
  unfold wo
  split <;> simp_all
theorem wo_same (H : Hp) (M : List Addr) : Same (wo H M) H := fun b o h => (wo_some.mp h).2
theorem wo_to {H H' : Hp} {M M' : List Addr} (h : ∀ b o, b ∉ M → H b = some o → b ∉ M' ∧ H' b = some o) : Same (wo H M) (wo H' M') := fun b o q => by
  obtain ⟨q1, q2⟩ := wo_some.mp q
  exact wo_some.mpr (h b o q1 q2)
theorem wo_more {H H' : Hp} {M : List Addr} (e : Same H H') : Same (wo H M) (wo H' M) := wo_to fun b o h q => ⟨h, e b o q⟩
theorem wo_upd {H : Hp} {M : List Addr} {m : Addr} {o : HO} (h : m ∈ M) : wo (upd H m o) M = wo H M := by
  funext b
  unfold wo
  by_cases hb : b ∈ M
  · rw [if_pos hb, if_pos hb]
  · rw [if_neg hb, if_neg hb, upd_ne (fun e => hb (by rw [e]; exact h))]

/-! ### cells -/
def kindS : Xb15.Kind → Str
  | .max => "max" | .min => "min" | .set => "set" | .one => "one" | .flag => "flag" | .range _ _ => "range"
def kindLo : Xb15.Kind → Int
  | .range a _ => a
  | _ => 0
def kindHi : Xb15.Kind → Int
  | .range _ b => b
  | _ => 0
def CellAt (K : PySem.W.Frag) (F : Hp) (a : Addr) (c : Xb15.Cell) : Prop := ∃ dx, atCell K F a dx (wv c.name) (.str (kindS c.kind)) (.int (kindLo c.kind)) (.int (kindHi c.kind))
/-! ### expressions -/
def opS : Nat → Str
  | 0 => "+" | 1 => "-" | 2 => "*" | 3 => "<" | _ => "="
def aslot : Xb15.Atom → Int
  | .num _ => -1
  | .var k => k
def anum : Xb15.Atom → Int
  | .num z => z
  | .var _ => 0
def TermAt (F : Hp) (t : Addr) (x : Nat × Xb15.Atom) : Prop := F t = some (.tup [.str (opS x.1), .int (aslot x.2), .int (anum x.2)])
def terms (e : Xb15.Exp) : List (Nat × Xb15.Atom) := (0, e.first) :: e.rest
def TermsAt (F : Hp) (a : Addr) (l : List (Nat × Xb15.Atom)) : Prop := ∃ ts : List Addr, F a = some (.lst (ts.map V.ref)) ∧ All2 (TermAt F) ts l
/-- an expression, or none -/
def oterms : Option Xb15.Exp → List (Nat × Xb15.Atom)
  | none => []
  | some e => terms e
/-! ### instructions -/
structure IV where
  word : Str
  way : Str := ""
  cell : Int := -1
  first : Option Xb15.Exp := none
  second : Option Xb15.Exp := none
  slot : Int := -1
  number : Int := 0
def ivOf : Xb15.Instruction → IV
  | .put c e => { word := "put", cell := c, first := some e }
  | .narrow c a b => { word := "narrow", cell := c, first := some a, second := some b }
  | .wait (.atleast c e) => { word := "wait", way := "atleast", cell := c, first := some e }
  | .wait (.atmost c e) => { word := "wait", way := "atmost", cell := c, first := some e }
  | .wait (.has c e) => { word := "wait", way := "has", cell := c, first := some e }
  | .wait (.size c e) => { word := "wait", way := "size", cell := c, first := some e }
  | .wait (.within c a b) => { word := "wait", way := "within", cell := c, first := some a, second := some b }
  | .wait (.known c) => { word := "wait", way := "known", cell := c }
  | .load v c => { word := "read", cell := c, slot := v }
  | .assign v e => { word := "let", slot := v, first := some e }
  | .skipIfZero e _ => { word := "if", first := some e }
  | .times n => { word := "times", number := n }
  | .again _ => { word := "again" }
  | .start t => { word := "start", number := t }
def goalOk : Xb15.Instruction → Int → Prop
  | .skipIfZero _ t, g => t ≠ 0 → g = t
  | .again t, g => g = t
  | _, _ => True
/-- the instruction's object in H, its expressions in F -/
def InsAt (K : PySem.W.Frag) (F H : Hp) (a : Addr) (x : Xb15.Instruction × Nat) : Prop := ∃ (dx fa sa : Addr) (g : Int), atInstruction K H a dx (.str (ivOf x.1).word) (iv x.2) (.str (ivOf x.1).way) (.int (ivOf x.1).cell) (.ref fa) (.ref sa) (.int (ivOf x.1).slot) (.int (ivOf x.1).number) (.int g) ∧
  TermsAt F fa (oterms (ivOf x.1).first) ∧ TermsAt F sa (oterms (ivOf x.1).second) ∧ goalOk x.1 g
def TaskAt (K : PySem.W.Frag) (F : Hp) (a : Addr) (t : Xb15.Task) : Prop := ∃ (dx sa ia : Addr) (is : List Addr), atTask K F a dx (wv t.name) (.ref sa) (.ref ia) ∧ F sa = some (.lst (t.vars.map wv)) ∧ F ia = some (.lst (is.map V.ref)) ∧ All2 (InsAt K F F) is t.code
def ProgAt (K : PySem.W.Frag) (F : Hp) (a : Addr) (p : Xb15.Program) : Prop := ∃ (dx ca ta ga : Addr) (cs ts : List Addr), atProgram K F a dx (.ref ca) (.ref ta) (.ref ga) ∧ F ca = some (.lst (cs.map V.ref)) ∧ All2 (CellAt K F) cs p.cells ∧
  F ta = some (.lst (ts.map V.ref)) ∧ All2 (TaskAt K F) ts p.tasks ∧ F ga = some (.lst (p.goes.map iv))
section
variable {K : PySem.W.Frag} {F F' H H' : Hp}
theorem CellAt.mono (e : Same F F') {a : Addr} {c : Xb15.Cell} (h : CellAt K F a c) : CellAt K F' a c := let ⟨dx, q⟩ := h; ⟨dx, e _ _ q⟩
theorem TermsAt.mono (e : Same F F') {a : Addr} {l : List (Nat × Xb15.Atom)} (h : TermsAt F a l) : TermsAt F' a l := let ⟨ts, q, r⟩ := h; ⟨ts, e _ _ q, r.mono fun _ _ _ z => e _ _ z⟩
theorem InsAt.mono (e : Same F F') {a : Addr} {x : Xb15.Instruction × Nat} (he : ∀ o, H a = some o → H' a = some o) (h : InsAt K F H a x) : InsAt K F' H' a x :=
  let ⟨dx, fa, sa, g, h1, h2, h3, h4⟩ := h
  ⟨dx, fa, sa, g, he _ h1, h2.mono e, h3.mono e, h4⟩
theorem TaskAt.mono (e : Same F F') {a : Addr} {t : Xb15.Task} (h : TaskAt K F a t) : TaskAt K F' a t :=
  let ⟨dx, sa, ia, is, h1, h2, h3, h4⟩ := h
  ⟨dx, sa, ia, is, e _ _ h1, e _ _ h2, e _ _ h3, h4.mono fun _ _ _ z => z.mono e (e _)⟩
theorem ProgAt.mono (e : Same F F') {a : Addr} {p : Xb15.Program} (h : ProgAt K F a p) : ProgAt K F' a p :=
  let ⟨dx, ca, ta, ga, cs, ts, h1, h2, h3, h4, h5, h6⟩ := h
  ⟨dx, ca, ta, ga, cs, ts, e _ _ h1, e _ _ h2, h3.mono fun _ _ _ z => z.mono e, e _ _ h4, h5.mono fun _ _ _ z => z.mono e, e _ _ h6⟩
end
/-! ### what is known while a text is read -/
structure Lay where
  r : Addr
  dxr : Addr
  pa : Addr
  dxp : Addr
  ca : Addr
  ta : Addr
  ga : Addr
  ba : Addr
  cs : List Addr
  ts : List Addr
  bs : List Addr
  t0 : Addr
  dxt : Addr
  sa : Addr
  ia : Addr
  is : List Addr
  /-- what is being built -/
  ex : List Addr := []
def Lay.P (L : Lay) (now : Option Xb15.Task) : List Addr := L.r :: L.ca :: L.ta :: L.ga :: L.ba :: (match now with
  | none => []
  | some _ => L.sa :: L.ia :: L.is)
def Lay.M (L : Lay) (now : Option Xb15.Task) : List Addr := L.P now ++ L.ex
def blockV (x : Nat × Nat) : List V := [.str (if x.2 = 1 then "times" else "if"), iv x.1]
structure RdAt (K : PySem.W.Frag) (H : Hp) (L : Lay) (s : Xb15.ParseState) : Prop where
  nd : (L.M s.now).Nodup
  exs : ∀ a ∈ L.ex, ∃ o, H a = some o
  rd : atReading K H L.r L.dxr (.ref L.pa) (.bl s.now.isSome) (.ref L.ba)
  pr : atProgram K (wo H (L.M s.now)) L.pa L.dxp (.ref L.ca) (.ref L.ta) (.ref L.ga)
  cl : H L.ca = some (.lst (L.cs.map V.ref))
  cells : All2 (CellAt K (wo H (L.M s.now))) L.cs s.program.cells
  tl : H L.ta = some (.lst ((L.ts ++ (match s.now with
    | none => []
    | some _ => [L.t0])).map V.ref))
  tasks : All2 (TaskAt K (wo H (L.M s.now))) L.ts s.program.tasks
  gl : H L.ga = some (.lst (s.program.goes.map iv))
  bl : H L.ba = some (.lst (L.bs.map V.ref))
  blocks : All2 (fun b x => wo H (L.M s.now) b = some (.tup (blockV x))) L.bs s.opened.reverse
  now : ∀ t, s.now = some t → atTask K (wo H (L.M s.now)) L.t0 L.dxt (wv t.name) (.ref L.sa) (.ref L.ia) ∧ H L.sa = some (.lst (t.vars.map wv)) ∧ H L.ia = some (.lst (L.is.map V.ref)) ∧ All2 (InsAt K (wo H (L.M s.now)) H) L.is t.code
section
variable {K : PySem.W.Frag} {H H' : Hp} {L : Lay} {s : Xb15.ParseState}
theorem Lay.inP {L : Lay} {now : Option Xb15.Task} {a : Addr} (h : a ∈ L.P now) : a ∈ L.M now := List.mem_append_left _ h
theorem RdAt.away (R : RdAt K H L s) {a : Addr} (h : a ∈ L.P s.now) : a ∉ L.ex := fun z => by
  have := R.nd
  unfold Lay.M at this
  rw [List.nodup_append] at this
  exact this.2.2 a h a z rfl
theorem Lay.isP {L : Lay} {t : Xb15.Task} {a : Addr} {now : Option Xb15.Task} (hn : now = some t) (h : a ∈ L.is) : a ∈ L.P now := by
  subst hn
  unfold Lay.P
  simp [h]
theorem Lay.iaP {L : Lay} {t : Xb15.Task} {now : Option Xb15.Task} (hn : now = some t) : L.ia ∈ L.P now := by
  subst hn
  simp [Lay.P]
theorem Lay.saP {L : Lay} {t : Xb15.Task} {now : Option Xb15.Task} (hn : now = some t) : L.sa ∈ L.P now := by
  subst hn
  simp [Lay.P]
theorem Lay.rP {L : Lay} {now : Option Xb15.Task} : L.r ∈ L.P now := by simp [Lay.P]
theorem Lay.caP {L : Lay} {now : Option Xb15.Task} : L.ca ∈ L.P now := by simp [Lay.P]
theorem Lay.taP {L : Lay} {now : Option Xb15.Task} : L.ta ∈ L.P now := by simp [Lay.P]
theorem Lay.gaP {L : Lay} {now : Option Xb15.Task} : L.ga ∈ L.P now := by simp [Lay.P]
theorem Lay.baP {L : Lay} {now : Option Xb15.Task} : L.ba ∈ L.P now := by simp [Lay.P]
theorem RdAt.there (R : RdAt K H L s) {a : Addr} (h : a ∈ L.M s.now) : ∃ o, H a = some o := by
  rcases List.mem_append.mp h with h | h
  · unfold Lay.P at h
    simp only [List.mem_cons] at h
    rcases h with rfl | rfl | rfl | rfl | rfl | h
    · exact ⟨_, R.rd⟩
    · exact ⟨_, R.cl⟩
    · exact ⟨_, R.tl⟩
    · exact ⟨_, R.gl⟩
    · exact ⟨_, R.bl⟩
    · cases hn : s.now with
      | none => rw [hn] at h; simp at h
      | some t =>
        rw [hn] at h
        obtain ⟨_, h2, h3, h4⟩ := R.now t hn
        simp only [List.mem_cons] at h
        rcases h with rfl | rfl | h
        · exact ⟨_, h2⟩
        · exact ⟨_, h3⟩
        · obtain ⟨i, hi⟩ := List.mem_iff_getElem?.mp h
          obtain ⟨x, _, ⟨dx, fa, sa, g, q, _⟩⟩ := h4.get' hi
          exact ⟨_, q⟩
  · exact R.exs a h
theorem RdAt.keep (R : RdAt K H L s) (e : ∀ b o, H b = some o → b ∉ L.ex → H' b = some o) (he : ∀ a ∈ L.ex, ∃ o, H' a = some o) : RdAt K H' L s := by
  have w : Same (wo H (L.M s.now)) (wo H' (L.M s.now)) := wo_to fun b o h q => ⟨h, e b o q fun z => h (List.mem_append_right _ z)⟩
  exact ⟨R.nd, he, e _ _ R.rd (R.away Lay.rP), w _ _ R.pr, e _ _ R.cl (R.away Lay.caP), R.cells.mono fun _ _ _ z => z.mono w, e _ _ R.tl (R.away Lay.taP), R.tasks.mono fun _ _ _ z => z.mono w, e _ _ R.gl (R.away Lay.gaP), e _ _ R.bl (R.away Lay.baP),
    R.blocks.mono fun _ _ _ z => w _ _ z, fun t ht =>
    let ⟨h1, h2, h3, h4⟩ := R.now t ht
    ⟨w _ _ h1, e _ _ h2 (R.away (Lay.saP ht)), e _ _ h3 (R.away (Lay.iaP ht)), h4.mono fun a b hm z => z.mono w fun o q => e _ _ q (R.away (Lay.isP ht hm))⟩⟩
theorem RdAt.mono (R : RdAt K H L s) (e : Same H H') : RdAt K H' L s := R.keep (fun b o h _ => e b o h) fun a h => by
  obtain ⟨o, ho⟩ := R.exs a h
  exact ⟨o, e _ _ ho⟩
theorem RdAt.upd {x : Addr} {o : HO} (R : RdAt K H L s) (h : x ∈ L.ex) : RdAt K (upd H x o) L s := R.keep (fun b u q z => by rw [upd_ne (fun e => z (by rw [e]; exact h))]; exact q) fun a ha => by
  by_cases e : a = x
  · rw [e]; exact ⟨_, upd_same⟩
  · rw [upd_ne e]; exact R.exs a ha
theorem RdAt.fresh (R : RdAt K H L s) {p : Addr} (h : H p = none) : p ∉ L.M s.now := fun z => by
  obtain ⟨o, ho⟩ := R.there z
  rw [h] at ho
  cases ho
/-- something new is being built -/
theorem RdAt.build (R : RdAt K H L s) (e : Same H H') {x : Addr} (h0 : H x = none) (h1 : ∃ o, H' x = some o) : RdAt K H' { L with ex := L.ex ++ [x] } s := by
  have hx := R.fresh h0
  have w : Same (wo H (L.M s.now)) (wo H' (L.M s.now ++ [x])) := wo_to fun b o h q => by
    refine ⟨fun z => ?_, e b o q⟩
    rcases List.mem_append.mp z with z | z
    · exact h z
    · rw [List.mem_singleton.mp z, h0] at q
      cases q
  have em : ({ L with ex := L.ex ++ [x] } : Lay).M s.now = L.M s.now ++ [x] := by
    show L.P s.now ++ (L.ex ++ [x]) = (L.P s.now ++ L.ex) ++ [x]
    rw [List.append_assoc]
  rw [← em] at w
  refine ⟨?_, fun a ha => ?_, e _ _ R.rd, w _ _ R.pr, e _ _ R.cl, R.cells.mono fun _ _ _ z => z.mono w, e _ _ R.tl, R.tasks.mono fun _ _ _ z => z.mono w, e _ _ R.gl, e _ _ R.bl, R.blocks.mono fun _ _ _ z => w _ _ z, fun t ht =>
    let ⟨h1, h2, h3, h4⟩ := R.now t ht
    ⟨w _ _ h1, e _ _ h2, e _ _ h3, h4.mono fun _ _ _ z => z.mono w (e _)⟩⟩
  · rw [em, List.nodup_append]
    refine ⟨R.nd, by simp, fun a ha b hb ea => ?_⟩
    rw [List.mem_singleton.mp hb] at ea
    rw [ea] at ha
    exact hx ha
  · rcases List.mem_append.mp ha with ha | ha
    · obtain ⟨o, ho⟩ := R.exs a ha
      exact ⟨o, e _ _ ho⟩
    · rw [List.mem_singleton.mp ha]; exact h1
theorem ndne {l : List Addr} (h : l.Nodup) (i j : Nat) {a b : Addr} (hi : l[i]? = some a) (hj : l[j]? = some b) (hij : i ≠ j) : a ≠ b := fun e => by
  obtain ⟨h1, h2⟩ := List.getElem?_eq_some_iff.mp hi
  obtain ⟨h3, h4⟩ := List.getElem?_eq_some_iff.mp hj
  have p := List.pairwise_iff_getElem.mp h
  rcases Nat.lt_or_gt_of_ne hij with z | z
  · exact p i j h1 h3 z (by rw [h2, h4, e])
  · exact p j i h3 h1 z (by rw [h2, h4, e])
theorem ndmem {l : List Addr} (h : l.Nodup) (i k : Nat) {a b : Addr} (hi : l[i]? = some a) (hk : i < k) (hb : b ∈ l.drop k) : a ≠ b := fun e => by
  obtain ⟨j, hj⟩ := List.mem_iff_getElem?.mp hb
  rw [List.getElem?_drop] at hj
  exact ndne h i (k + j) hi hj (by omega) e
theorem RdAt.nd' {t : Xb15.Task} (R : RdAt K H L s) (hn : s.now = some t) : (L.M (some t)).Nodup := hn ▸ R.nd
theorem Lay.isD {L : Lay} {t : Xb15.Task} {a : Addr} (h : a ∈ L.is) : a ∈ (L.M (some t)).drop 7 := List.mem_append_left _ h
theorem Lay.exD {L : Lay} {t : Xb15.Task} {a : Addr} (h : a ∈ L.ex) : a ∈ (L.M (some t)).drop 7 := List.mem_append_right _ h
theorem RdAt.next {t : Xb15.Task} {x : Addr} {i : Xb15.Instruction} {n : Nat} (R : RdAt K H L s) (hn : s.now = some t) (hx : L.ex = [x]) (hI : InsAt K (wo H (L.M s.now)) H x (i, n)) :
    RdAt K (L2.upd H L.ia (.lst (L.is.map V.ref ++ [.ref x]))) { L with is := L.is ++ [x], ex := [] } { s with now := some { t with code := t.code ++ [(i, n)] } } := by
  have nd := R.nd' hn
  obtain ⟨r1, r2, r3, r4⟩ := R.now t hn
  have R2 := R
  obtain ⟨_, q1, q2, q3, q4, q5, q6, q7, q8, q9, q10, _⟩ := R2
  rw [hn] at r1 r4 hI q3 q5 q6 q7 q10
  have hM : ({ L with is := L.is ++ [x], ex := [] } : Lay).M (some { t with code := t.code ++ [(i, n)] }) = L.M (some t) := by simp [Lay.M, Lay.P, hx]
  have hw : wo (L2.upd H L.ia (.lst (L.is.map V.ref ++ [.ref x]))) (L.M (some t)) = wo H (L.M (some t)) := wo_upd (Lay.inP (Lay.iaP rfl))
  have o : ∀ {b : Addr} {u : HO} (j : Nat), (L.M (some t))[j]? = some b → j ≠ 6 → H b = some u → L2.upd H L.ia (.lst (L.is.map V.ref ++ [.ref x])) b = some u := fun j hj hne hu => by
    rw [upd_ne (ndne nd j 6 hj rfl hne)]
    exact hu
  refine ⟨by rw [hM]; exact nd, (fun a ha => by cases ha), o 0 rfl (by decide) (by rw [hn] at q2; exact q2), by rw [hM, hw]; exact q3, o 1 rfl (by decide) q4, by rw [hM, hw]; exact q5, o 2 rfl (by decide) q6, by rw [hM, hw]; exact q7, o 3 rfl (by decide) q8, o 4 rfl (by decide) q9,
    by rw [hM, hw]; exact q10, fun t' ht => ?_⟩
  cases ht
  rw [hM, hw]
  refine ⟨r1, o 5 rfl (by decide) r2, ?_, ?_⟩
  · rw [L2.upd_same]; simp
  · refine All2.snoc (r4.mono fun a b hm z => z.mono (Same.refl _) fun o h => ?_) (hI.mono (Same.refl _) fun o h => ?_)
    · rw [upd_ne (Ne.symm (ndmem nd 6 7 rfl (by decide) (Lay.isD hm)))]; exact h
    · rw [upd_ne (Ne.symm (ndmem nd 6 7 rfl (by decide) (Lay.exD (by rw [hx]; simp))))]; exact h
theorem RdAt.var {t : Xb15.Task} {x : Xb15.Bytes} (R : RdAt K H L s) (hn : s.now = some t) :
    RdAt K (L2.upd H L.sa (.lst (t.vars.map wv ++ [wv x]))) L { s with now := some { t with vars := t.vars ++ [x] } } := by
  have nd := R.nd' hn
  obtain ⟨r1, r2, r3, r4⟩ := R.now t hn
  have R2 := R
  obtain ⟨_, q1, q2, q3, q4, q5, q6, q7, q8, q9, q10, _⟩ := R2
  rw [hn] at r1 r4 q3 q5 q6 q7 q10
  have hM : L.M (some { t with vars := t.vars ++ [x] }) = L.M (some t) := rfl
  have hw : wo (L2.upd H L.sa (.lst (t.vars.map wv ++ [wv x]))) (L.M (some t)) = wo H (L.M (some t)) := wo_upd (Lay.inP (Lay.saP rfl))
  have o : ∀ {b : Addr} {u : HO} (j : Nat), (L.M (some t))[j]? = some b → j ≠ 5 → H b = some u → L2.upd H L.sa (.lst (t.vars.map wv ++ [wv x])) b = some u := fun j hj hne hu => by
    rw [upd_ne (ndne nd j 5 hj rfl hne)]
    exact hu
  refine ⟨by rw [hM]; exact nd, (fun a ha => ?_), o 0 rfl (by decide) (by rw [hn] at q2; exact q2), by rw [hM, hw]; exact q3, o 1 rfl (by decide) q4, by rw [hM, hw]; exact q5, o 2 rfl (by decide) q6, by rw [hM, hw]; exact q7, o 3 rfl (by decide) q8, o 4 rfl (by decide) q9,
    by rw [hM, hw]; exact q10, fun t' ht => ?_⟩
  · obtain ⟨o, ho⟩ := q1 a ha
    exact ⟨o, by rw [upd_ne (Ne.symm (ndmem nd 5 7 rfl (by decide) (Lay.exD ha)))]; exact ho⟩
  cases ht
  rw [hM, hw]
  refine ⟨r1, ?_, o 6 rfl (by decide) r3, ?_⟩
  · rw [L2.upd_same]; simp
  · refine r4.mono fun a b hm z => z.mono (Same.refl _) fun o h => ?_
    rw [upd_ne (Ne.symm (ndmem nd 5 7 rfl (by decide) (Lay.isD hm)))]; exact h
/-! one of the five lists or objects is changed -/
theorem All2.inv {α β : Type} {R : α → β → Prop} {a : α} {b : β} {l : List α} {m : List β} (h : All2 R (a :: l) (b :: m)) : R a b ∧ All2 R l m :=
  ⟨h.at_ 0 a b rfl rfl, ⟨by simpa using h.len, fun i x y h1 h2 => h.at_ (i + 1) x y (by simpa using h1) (by simpa using h2)⟩⟩
theorem RdAt.other (R : RdAt K H L s) {j : Nat} {m : Addr} {u : HO} (hm : (L.M s.now)[j]? = some m) {b : Addr} {o : HO} (i : Nat) (hi : (L.M s.now)[i]? = some b) (hne : i ≠ j) (h : H b = some o) : L2.upd H m u b = some o := by
  rw [upd_ne (ndne R.nd i j hi hm hne)]
  exact h
theorem RdAt.nowIx {t : Xb15.Task} (hn : s.now = some t) : (L.M s.now)[5]? = some L.sa ∧ (L.M s.now)[6]? = some L.ia ∧ ∀ a ∈ L.is, ∃ i, 7 ≤ i ∧ (L.M s.now)[i]? = some a := by
  rw [hn]
  refine ⟨rfl, rfl, fun a ha => ?_⟩
  obtain ⟨i, hi⟩ := List.mem_iff_getElem?.mp (Lay.isD (t := t) ha)
  rw [List.getElem?_drop] at hi
  exact ⟨7 + i, by omega, hi⟩
theorem RdAt.exIx {a : Addr} (h : a ∈ L.ex) : ∃ i, 5 ≤ i ∧ (L.M s.now)[i]? = some a := by
  have : a ∈ (L.M s.now).drop 5 := by
    unfold Lay.M
    rw [List.drop_append]
    exact List.mem_append_right _ (by simpa [Lay.P] using h)
  obtain ⟨i, hi⟩ := List.mem_iff_getElem?.mp this
  rw [List.getElem?_drop] at hi
  exact ⟨5 + i, by omega, hi⟩
/-- the part of the task that is being defined -/
theorem RdAt.keepNow (R : RdAt K H L s) {j : Nat} (hj : j < 5) {m : Addr} {u : HO} (hm : (L.M s.now)[j]? = some m) : (∀ a ∈ L.ex, ∃ o, L2.upd H m u a = some o) ∧ ∀ t, s.now = some t → atTask K (wo (L2.upd H m u) (L.M s.now)) L.t0 L.dxt (wv t.name) (.ref L.sa) (.ref L.ia) ∧
    L2.upd H m u L.sa = some (.lst (t.vars.map wv)) ∧ L2.upd H m u L.ia = some (.lst (L.is.map V.ref)) ∧ All2 (InsAt K (wo (L2.upd H m u) (L.M s.now)) (L2.upd H m u)) L.is t.code := by
  have hw : wo (L2.upd H m u) (L.M s.now) = wo H (L.M s.now) := wo_upd (List.mem_of_getElem? hm)
  refine ⟨fun a ha => ?_, fun t hn => ?_⟩
  · obtain ⟨o, ho⟩ := R.exs a ha
    obtain ⟨i, hi, hi2⟩ := RdAt.exIx (s := s) ha
    exact ⟨o, R.other hm i hi2 (by omega) ho⟩
  · obtain ⟨r1, r2, r3, r4⟩ := R.now t hn
    obtain ⟨x5, x6, x7⟩ := RdAt.nowIx (L := L) hn
    rw [hw]
    refine ⟨r1, R.other hm 5 x5 (by omega) r2, R.other hm 6 x6 (by omega) r3, r4.mono fun a b ha z => z.mono (Same.refl _) fun o h => ?_⟩
    obtain ⟨i, hi, hi2⟩ := x7 a ha
    exact R.other hm i hi2 (by omega) h
theorem RdAt.setB (R : RdAt K H L s) {bs : List Addr} {op : List (Nat × Nat)} (hb : All2 (fun b x => wo H (L.M s.now) b = some (.tup (blockV x))) bs op.reverse) : RdAt K (L2.upd H L.ba (.lst (bs.map V.ref))) { L with bs := bs } { s with opened := op } := by
  have hm : (L.M s.now)[4]? = some L.ba := rfl
  have hw : wo (L2.upd H L.ba (.lst (bs.map V.ref))) (L.M s.now) = wo H (L.M s.now) := wo_upd (List.mem_of_getElem? hm)
  obtain ⟨k1, k2⟩ := R.keepNow (by decide) hm
  exact ⟨R.nd, k1, R.other hm 0 rfl (by decide) R.rd, hw.symm ▸ R.pr, R.other hm 1 rfl (by decide) R.cl, hw.symm ▸ R.cells, R.other hm 2 rfl (by decide) R.tl, hw.symm ▸ R.tasks, R.other hm 3 rfl (by decide) R.gl, L2.upd_same, hw.symm ▸ hb, k2⟩
theorem RdAt.push (R : RdAt K H L s) {p : Addr} (hp : H p = none) (x : Nat × Nat) : RdAt K (L2.upd (L2.upd H p (.tup (blockV x))) L.ba (.lst (L.bs.map V.ref ++ [.ref p]))) { L with bs := L.bs ++ [p] } { s with opened := x :: s.opened } := by
  have R1 := R.mono (same_upd (o := .tup (blockV x)) hp)
  have := R1.setB (bs := L.bs ++ [p]) (op := x :: s.opened) (by
    rw [List.reverse_cons]
    exact R1.blocks.snoc (wo_some.mpr ⟨R.fresh hp, L2.upd_same⟩))
  rw [List.map_append] at this
  exact this
theorem RdAt.pop (R : RdAt K H L s) {x : Nat × Nat} {r : List (Nat × Nat)} (ho : s.opened = x :: r) : (∃ bs b, L.bs = bs ++ [b] ∧ H b = some (.tup (blockV x))) ∧ RdAt K (L2.upd H L.ba (.lst (L.bs.map V.ref).dropLast)) { L with bs := L.bs.dropLast } { s with opened := r } := by
  have hb := R.blocks
  rw [ho, List.reverse_cons] at hb
  constructor
  · have hl := hb.len
    simp at hl
    have hne : L.bs ≠ [] := fun e => by rw [e] at hl; simp at hl
    refine ⟨L.bs.dropLast, L.bs.getLast hne, (List.dropLast_concat_getLast hne).symm, ?_⟩
    refine wo_same _ _ _ _ (hb.at_ (r.reverse).length _ _ ?_ (by simp))
    rw [List.getElem?_eq_getElem (by simp; omega)]
    congr 1
    rw [List.getLast_eq_getElem]
    congr 1
    simp
    omega
  · have := R.setB (bs := L.bs.dropLast) (op := r) (by have z := hb.dropLast; rwa [List.dropLast_concat] at z)
    rw [List.map_dropLast] at this
    exact this
/-- the goal of an if -/
theorem RdAt.goal {t : Xb15.Task} {x dx fa sa : Addr} {i n : Nat} {e : Xb15.Exp} {g : Nat} {g0 : Int} (R : RdAt K H L s) (hn : s.now = some t) (hx : L.is[i]? = some x) (hc : t.code[i]? = some (.skipIfZero e g, n))
    (ho : atInstruction K H x dx (.str (ivOf (.skipIfZero e g)).word) (iv n) (.str (ivOf (.skipIfZero e g)).way) (.int (ivOf (.skipIfZero e g)).cell) (.ref fa) (.ref sa) (.int (ivOf (.skipIfZero e g)).slot) (.int (ivOf (.skipIfZero e g)).number) (.int g0))
    (hf : TermsAt (wo H (L.M s.now)) fa (oterms (ivOf (.skipIfZero e g)).first)) (hs : TermsAt (wo H (L.M s.now)) sa (oterms (ivOf (.skipIfZero e g)).second)) (v : Nat) :
    RdAt K (L2.upd H x (.ins (He.ga K "Instruction") dx (fInstruction (.str (ivOf (.skipIfZero e g)).word) (iv n) (.str (ivOf (.skipIfZero e g)).way) (.int (ivOf (.skipIfZero e g)).cell) (.ref fa) (.ref sa) (.int (ivOf (.skipIfZero e g)).slot) (.int (ivOf (.skipIfZero e g)).number) (.int v))))
      L { s with now := some { t with code := Xb15.setSkipTarget t.code i v } } := by
  generalize hu : (HO.ins (He.ga K "Instruction") dx (fInstruction (.str (ivOf (.skipIfZero e g)).word) (iv n) (.str (ivOf (.skipIfZero e g)).way) (.int (ivOf (.skipIfZero e g)).cell) (.ref fa) (.ref sa) (.int (ivOf (.skipIfZero e g)).slot) (.int (ivOf (.skipIfZero e g)).number) (.int v))) = u
  obtain ⟨r1, r2, r3, r4⟩ := R.now t hn
  obtain ⟨x5, x6, x7⟩ := RdAt.nowIx (L := L) hn
  have hxm := List.mem_of_getElem? hx
  obtain ⟨j, hj, hm⟩ := x7 x hxm
  have hw : wo (L2.upd H x u) (L.M s.now) = wo H (L.M s.now) := wo_upd (List.mem_of_getElem? hm)
  have hM : L.M (some { t with code := Xb15.setSkipTarget t.code i v }) = L.M s.now := by rw [hn]; rfl
  have R2 := R
  obtain ⟨q0, q1, q2, q3, q4, q5, q6, q7, q8, q9, q10, _⟩ := R2
  refine ⟨by show (L.M (some _)).Nodup; rw [hM]; exact q0, fun a ha => ?_, R.other hm 0 rfl (by omega) (by rw [hn] at q2; exact q2), ?_, R.other hm 1 rfl (by omega) q4, ?_, R.other hm 2 rfl (by omega) (by rw [hn] at q6; exact q6), ?_, R.other hm 3 rfl (by omega) q8, R.other hm 4 rfl (by omega) q9, ?_, fun t' ht => ?_⟩
  · by_cases ea : a = x
    · rw [ea]; exact ⟨_, L2.upd_same⟩
    · rw [upd_ne ea]; exact q1 a ha
  · show atProgram K (wo _ (L.M (some _))) _ _ _ _ _; rw [hM, hw]; exact q3
  · show All2 (CellAt K (wo _ (L.M (some _)))) _ _; rw [hM, hw]; exact q5
  · show All2 (TaskAt K (wo _ (L.M (some _)))) _ _; rw [hM, hw]; exact q7
  · show All2 (fun b x => wo _ (L.M (some _)) b = _) _ _; rw [hM, hw]; exact q10
  · cases ht
    show atTask K (wo _ (L.M (some _))) _ _ _ _ _ ∧ _ ∧ _ ∧ All2 (InsAt K (wo _ (L.M (some _))) _) _ _
    rw [hM, hw]
    refine ⟨r1, R.other hm 5 x5 (by omega) r2, R.other hm 6 x6 (by omega) r3, ?_⟩
    have hcode : Xb15.setSkipTarget t.code i v = t.code.set i (.skipIfZero e v, n) := by
      unfold Xb15.setSkipTarget
      apply List.ext_getElem?
      intro k
      rw [List.getElem?_modify]
      by_cases hk : i = k
      · subst hk
        rw [hc, List.getElem?_set_self (List.getElem?_eq_some_iff.mp hc).1]
        simp
      · rw [List.getElem?_set_ne hk]
        cases t.code[k]? <;> simp [hk]
    show All2 _ L.is (Xb15.setSkipTarget t.code i v)
    rw [hcode]
    refine ⟨by rw [List.length_set]; exact r4.len, fun k a b h1 h2 => ?_⟩
    by_cases hk : i = k
    · subst hk
      rw [List.getElem?_set_self (List.getElem?_eq_some_iff.mp hc).1] at h2
      cases h2
      rw [hx] at h1
      cases h1
      exact ⟨dx, fa, sa, v, by show L2.upd H x u x = _; rw [L2.upd_same, ← hu]; rfl, hf, hs, fun _ => rfl⟩
    · rw [List.getElem?_set_ne hk] at h2
      refine (r4.at_ k a b h1 h2).mono (Same.refl _) fun o hh => ?_
      rw [upd_ne (fun ea => ?_)]
      · exact hh
      · subst ea
        have d1 : (L.M s.now)[7 + i]? = some a := by
          rw [hn]
          show (L.r :: L.ca :: L.ta :: L.ga :: L.ba :: (L.sa :: L.ia :: L.is) ++ L.ex)[7 + i]? = _
          rw [List.getElem?_append_left (by have := (List.getElem?_eq_some_iff.mp hx).1; simp; omega)]
          rw [show 7 + i = i + 7 by omega]
          exact hx
        have d2 : (L.M s.now)[7 + k]? = some a := by
          rw [hn]
          show (L.r :: L.ca :: L.ta :: L.ga :: L.ba :: (L.sa :: L.ia :: L.is) ++ L.ex)[7 + k]? = _
          rw [List.getElem?_append_left (by have := (List.getElem?_eq_some_iff.mp h1).1; simp; omega)]
          rw [show 7 + k = k + 7 by omega]
          exact h1
        exact ndne R.nd (7 + i) (7 + k) d1 d2 (by omega) rfl
/-- a task's definition ends -/
theorem RdAt.done {t : Xb15.Task} (R : RdAt K H L s) (hn : s.now = some t) (hex : L.ex = []) :
    RdAt K (L2.upd H L.r (.ins (He.ga K "Reading") L.dxr (fReading (.ref L.pa) (.bl false) (.ref L.ba)))) { L with ts := L.ts ++ [L.t0] } { s with program := { s.program with tasks := s.program.tasks ++ [t] }, now := none } := by
  generalize hu : (HO.ins (He.ga K "Reading") L.dxr (fReading (.ref L.pa) (.bl false) (.ref L.ba))) = u
  have hm : (L.M s.now)[0]? = some L.r := rfl
  have hw : wo (L2.upd H L.r u) (L.M s.now) = wo H (L.M s.now) := wo_upd (List.mem_of_getElem? hm)
  obtain ⟨r1, r2, r3, r4⟩ := R.now t hn
  obtain ⟨x5, x6, x7⟩ := RdAt.nowIx (L := L) hn
  have hMn : L.M none = [L.r, L.ca, L.ta, L.ga, L.ba] := by simp [Lay.M, Lay.P, hex]
  have hMs : L.M s.now = [L.r, L.ca, L.ta, L.ga, L.ba] ++ (L.sa :: L.ia :: L.is) := by rw [hn]; simp [Lay.M, Lay.P, hex]
  have nd := R.nd
  have e : Same (wo H (L.M s.now)) (wo (L2.upd H L.r u) (L.M none)) := by
    rw [← hw]
    refine wo_to fun b o hb q => ⟨fun z => hb ?_, q⟩
    rw [hMs]
    rw [hMn] at z
    exact List.mem_append_left _ z
  have nw7 : ∀ a ∈ L.sa :: L.ia :: L.is, ∀ o, H a = some o → wo (L2.upd H L.r u) (L.M none) a = some o := fun a ha o ho => by
    rw [hMs, List.nodup_append] at nd
    have h5 : a ∉ [L.r, L.ca, L.ta, L.ga, L.ba] := fun z => nd.2.2 a z a ha rfl
    refine wo_some.mpr ⟨by rw [hMn]; exact h5, ?_⟩
    rw [upd_ne (fun z => h5 (by rw [z]; simp))]
    exact ho
  refine ⟨?_, (fun a ha => by rw [show ({ L with ts := L.ts ++ [L.t0] } : Lay).ex = [] from hex] at ha; cases ha), ?_, e _ _ R.pr, R.other hm 1 rfl (by decide) R.cl, R.cells.mono fun _ _ _ z => z.mono e, ?_, ?_, R.other hm 3 rfl (by decide) R.gl, R.other hm 4 rfl (by decide) R.bl,
    R.blocks.mono fun _ _ _ z => e _ _ z, fun t' ht => by cases ht⟩
  · show (L.M none).Nodup
    rw [hMs, List.nodup_append] at nd
    rw [hMn]
    exact nd.1
  · show L2.upd H L.r u L.r = _
    rw [L2.upd_same, ← hu]
    rfl
  · have := R.other (u := u) hm 2 rfl (by decide) R.tl
    rw [hn] at this
    rw [List.append_nil]
    exact this
  · refine (R.tasks.mono fun _ _ _ z => z.mono e).snoc ⟨L.dxt, L.sa, L.ia, L.is, e _ _ r1, nw7 _ (by simp) _ r2, nw7 _ (by simp) _ r3, r4.mono fun a b ha z => z.mono e fun o ho => nw7 _ (by simp [ha]) _ ho⟩
/-! outside task definitions -/
theorem RdAt.addCell (R : RdAt K H L s) (hn : s.now = none) {x : Addr} {c : Xb15.Cell} (hc : CellAt K (wo H (L.M s.now)) x c) :
    RdAt K (L2.upd H L.ca (.lst (L.cs.map V.ref ++ [.ref x]))) { L with cs := L.cs ++ [x] } { s with program := { s.program with cells := s.program.cells ++ [c] } } := by
  have hm : (L.M s.now)[1]? = some L.ca := rfl
  have hw : wo (L2.upd H L.ca (.lst (L.cs.map V.ref ++ [.ref x]))) (L.M s.now) = wo H (L.M s.now) := wo_upd (List.mem_of_getElem? hm)
  obtain ⟨k1, k2⟩ := R.keepNow (u := .lst (L.cs.map V.ref ++ [.ref x])) (by decide) hm
  exact ⟨R.nd, k1, R.other hm 0 rfl (by decide) R.rd, hw.symm ▸ R.pr, by show L2.upd H L.ca _ L.ca = _; rw [L2.upd_same, List.map_append]; rfl, hw.symm ▸ R.cells.snoc hc, R.other hm 2 rfl (by decide) R.tl, hw.symm ▸ R.tasks, R.other hm 3 rfl (by decide) R.gl, R.other hm 4 rfl (by decide) R.bl, hw.symm ▸ R.blocks, k2⟩
theorem RdAt.addGo (R : RdAt K H L s) {g : Nat} :
    RdAt K (L2.upd H L.ga (.lst (s.program.goes.map iv ++ [iv g]))) L { s with program := { s.program with goes := s.program.goes ++ [g] } } := by
  have hm : (L.M s.now)[3]? = some L.ga := rfl
  have hw : wo (L2.upd H L.ga (.lst (s.program.goes.map iv ++ [iv g]))) (L.M s.now) = wo H (L.M s.now) := wo_upd (List.mem_of_getElem? hm)
  obtain ⟨k1, k2⟩ := R.keepNow (u := .lst (s.program.goes.map iv ++ [iv g])) (by decide) hm
  exact ⟨R.nd, k1, R.other hm 0 rfl (by decide) R.rd, hw.symm ▸ R.pr, R.other hm 1 rfl (by decide) R.cl, hw.symm ▸ R.cells, R.other hm 2 rfl (by decide) R.tl, hw.symm ▸ R.tasks, by show L2.upd H L.ga _ L.ga = _; rw [L2.upd_same, List.map_append]; rfl, R.other hm 4 rfl (by decide) R.bl, hw.symm ▸ R.blocks, k2⟩
theorem RdAt.begin {H0 : Hp} {nm : Xb15.Bytes} {x dxt sa ia : Addr} (R : RdAt K H0 L s) (hn : s.now = none) (hex : L.ex = []) (hop : s.opened = []) (e : Same H0 H) (hx0 : H0 x = none) (hsa0 : H0 sa = none) (hia0 : H0 ia = none) (hne : sa ≠ ia)
    (hx : atTask K H x dxt (wv nm) (.ref sa) (.ref ia)) (hs : H sa = some (.lst [])) (hi : H ia = some (.lst [])) :
    RdAt K (L2.upd (L2.upd H L.ta (.lst (L.ts.map V.ref ++ [.ref x]))) L.r (.ins (He.ga K "Reading") L.dxr (fReading (.ref L.pa) (.bl true) (.ref L.ba)))) { L with t0 := x, dxt := dxt, sa := sa, ia := ia, is := [] } { s with now := some ⟨nm, [], []⟩, opened := [] } := by
  generalize hu : (HO.ins (He.ga K "Reading") L.dxr (fReading (.ref L.pa) (.bl true) (.ref L.ba))) = u
  generalize hv : HO.lst (L.ts.map V.ref ++ [.ref x]) = v
  have hMn : L.M s.now = [L.r, L.ca, L.ta, L.ga, L.ba] := by rw [hn]; simp [Lay.M, Lay.P, hex]
  have hM : ({ L with t0 := x, dxt := dxt, sa := sa, ia := ia, is := [] } : Lay).M (some ⟨nm, [], []⟩) = [L.r, L.ca, L.ta, L.ga, L.ba] ++ [sa, ia] := by simp [Lay.M, Lay.P, hex]
  have nd := R.nd
  have fr : ∀ {p : Addr}, H0 p = none → p ∉ [L.r, L.ca, L.ta, L.ga, L.ba] := fun {p} hp z => R.fresh hp (by rw [hMn]; exact z)
  have hR := R.mono e
  have ndM : ([L.r, L.ca, L.ta, L.ga, L.ba] ++ [sa, ia]).Nodup := by
    rw [List.nodup_append]
    refine ⟨by rw [← hMn]; exact nd, by simp [hne], fun a ha b hb z => ?_⟩
    subst z
    simp only [List.mem_cons, List.not_mem_nil, or_false] at hb
    rcases hb with rfl | rfl
    · exact fr hsa0 ha
    · exact fr hia0 ha
  have hrta : L.ta ≠ L.r := fun z => by
    rw [hMn] at nd
    exact ndne nd 2 0 rfl rfl (by decide) z
  have o : ∀ {b : Addr} {q : HO}, b ≠ L.ta → b ≠ L.r → H b = some q → L2.upd (L2.upd H L.ta v) L.r u b = some q := fun h1 h2 h3 => by
    rw [upd_ne h2, upd_ne h1]; exact h3
  have wm : Same (wo H0 (L.M s.now)) (wo (L2.upd (L2.upd H L.ta v) L.r u) (({ L with t0 := x, dxt := dxt, sa := sa, ia := ia, is := [] } : Lay).M (some ⟨nm, [], []⟩))) := by
    rw [hM, hMn]
    refine wo_to fun b q hb hq => ⟨fun z => ?_, o (fun z => hb (by rw [z]; simp)) (fun z => hb (by rw [z]; simp)) (e _ _ hq)⟩
    rcases List.mem_append.mp z with z | z
    · exact hb z
    · simp only [List.mem_cons, List.not_mem_nil, or_false] at z
      rcases z with rfl | rfl
      · rw [hsa0] at hq; cases hq
      · rw [hia0] at hq; cases hq
  have hx' : H x = some _ := hx
  have xs : x ≠ sa := fun z => by rw [z, hs] at hx'; cases hx'
  have xi : x ≠ ia := fun z => by rw [z, hi] at hx'; cases hx'
  have ne5 : ∀ {p : Addr}, H0 p = none → p ≠ L.ta ∧ p ≠ L.r := fun hp => ⟨fun z => fr hp (by rw [z]; simp), fun z => fr hp (by rw [z]; simp)⟩
  have nd5 : ∀ (i j : Nat) {a b : Addr}, [L.r, L.ca, L.ta, L.ga, L.ba][i]? = some a → [L.r, L.ca, L.ta, L.ga, L.ba][j]? = some b → i ≠ j → a ≠ b := fun i j a b h1 h2 h3 => by
    rw [hMn] at nd
    exact ndne nd i j h1 h2 h3
  refine ⟨by show (Lay.M _ (some _)).Nodup; rw [hM]; exact ndM, (fun a ha => by rw [show ({ L with t0 := x, dxt := dxt, sa := sa, ia := ia, is := [] } : Lay).ex = [] from hex] at ha; cases ha), ?_, wm _ _ R.pr, o (nd5 1 2 rfl rfl (by decide)) (nd5 1 0 rfl rfl (by decide)) hR.cl, R.cells.mono fun _ _ _ z => z.mono wm, ?_, R.tasks.mono fun _ _ _ z => z.mono wm,
    o (nd5 3 2 rfl rfl (by decide)) (nd5 3 0 rfl rfl (by decide)) hR.gl, o (nd5 4 2 rfl rfl (by decide)) (nd5 4 0 rfl rfl (by decide)) hR.bl, ?_, fun t' ht => ?_⟩
  · show L2.upd _ L.r u L.r = _
    rw [L2.upd_same, ← hu]
    rfl
  · show L2.upd (L2.upd H L.ta v) L.r u L.ta = _
    rw [upd_ne hrta, L2.upd_same, ← hv, List.map_append]
    rfl
  · have := R.blocks
    rw [hop] at this
    refine (this : All2 _ L.bs []).mono fun b y hb z => wm _ _ z
  · cases ht
    refine ⟨wo_some.mpr ⟨fun z => ?_, o (ne5 hx0).1 (ne5 hx0).2 hx⟩, o (ne5 hsa0).1 (ne5 hsa0).2 hs, o (ne5 hia0).1 (ne5 hia0).2 hi, All2.nil⟩
    rw [hM] at z
    rcases List.mem_append.mp z with z | z
    · exact fr hx0 z
    · simp only [List.mem_cons, List.not_mem_nil, or_false] at z
      rcases z with z | z
      · exact xs z
      · exact xi z
end
end GW
/-! More readings in small steps -/
namespace GW
open PySem PySem.Spec PyProof.Rows L2
section
variable {σ : L2.St} {H : Hp} {ta tb tc te : TE} {K : PySem.W.Frag} {D : Ends} {b : Bool} {x y z v : V} {p : Addr} {xs ys : List V} {i j : Int}
theorem val_ixL (ha : Val ta σ H (.ref p)) (hb : Val tb σ H (.int i)) (hS : SqL K H p xs) (e : atI xs i = some v) : Val (tOp (rIxL K) ta tb) σ H v := fun Q q => ha _ (hb _ ⟨p, xs, i, v, rfl, rfl, hS, e, q⟩)
theorem val_ixT (ha : Val ta σ H (.ref p)) (hb : Val tb σ H (.int i)) (hS : SqT K H p xs) (e : atI xs i = some v) : Val (tOp (rIxT K) ta tb) σ H v := fun Q q => ha _ (hb _ ⟨p, xs, i, v, rfl, rfl, hS, e, q⟩)
theorem val_len (ha : Val ta σ H (.ref p)) (hS : SqL K H p xs) : Val (tCB (fun xs H Q => ∃ x n, xs = [x] ∧ LenV K x H n ∧ Q (.int (n : Int)) H) (tCons ta tNil)) σ H (.int xs.length) := fun Q q => ha _ ⟨_, _, rfl, .inl ⟨_, hS, rfl⟩, q⟩
theorem val_lenT (ha : Val ta σ H (.ref p)) (hS : SqT K H p xs) : Val (tCB (fun xs H Q => ∃ x n, xs = [x] ∧ LenV K x H n ∧ Q (.int (n : Int)) H) (tCons ta tNil)) σ H (.int xs.length) := fun Q q => ha _ ⟨_, _, rfl, .inr ⟨_, hS, rfl⟩, q⟩
theorem val_lenM {α : Type} {f : α → V} {l : List α} (ha : Val ta σ H (.ref p)) (hS : SqL K H p (l.map f)) : Val (tCB (fun xs H Q => ∃ x n, xs = [x] ∧ LenV K x H n ∧ Q (.int (n : Int)) H) (tCons ta tNil)) σ H (.int l.length) := fun Q q => ha _ ⟨_, _, rfl, .inl ⟨_, hS, rfl⟩, by rw [List.length_map]; exact q⟩
theorem val_add (ha : Val ta σ H (.int i)) (hb : Val tb σ H (.int j)) : Val (tOp (rI0 fun i j => .int (i + j)) ta tb) σ H (.int (i + j)) := val_I ha hb
theorem val_sub (ha : Val ta σ H (.int i)) (hb : Val tb σ H (.int j)) : Val (tOp (rI0 fun i j => .int (i - j)) ta tb) σ H (.int (i - j)) := val_I ha hb
theorem val_lt (ha : Val ta σ H (.int i)) (hb : Val tb σ H (.int j)) : Val (tOp (rI0 fun i j => .bl (decide (i < j))) ta tb) σ H (.bl (decide (i < j))) := val_I ha hb
theorem val_le (ha : Val ta σ H (.int i)) (hb : Val tb σ H (.int j)) : Val (tOp (rI0 fun i j => .bl (decide (i ≤ j))) ta tb) σ H (.bl (decide (i ≤ j))) := val_I ha hb
theorem val_gt (ha : Val ta σ H (.int i)) (hb : Val tb σ H (.int j)) : Val (tOp (rI0 fun i j => .bl (decide (j < i))) ta tb) σ H (.bl (decide (j < i))) := val_I ha hb
theorem val_ge (ha : Val ta σ H (.int i)) (hb : Val tb σ H (.int j)) : Val (tOp (rI0 fun i j => .bl (decide (j ≤ i))) ta tb) σ H (.bl (decide (j ≤ i))) := val_I ha hb
theorem val_isN (ha : Val ta σ H x) : Val (tOp (fun x y H Q => y = V.non ∧ Q (.bl (decide (x = V.non))) H) ta (tC .non)) σ H (.bl (decide (x = .non))) := fun Q q => ha _ ⟨rfl, q⟩
theorem val_notN (ha : Val ta σ H x) : Val (tOp (fun x y H Q => y = V.non ∧ Q (.bl !(decide (x = V.non))) H) ta (tC .non)) σ H (.bl !(decide (x = .non))) := fun Q q => ha _ ⟨rfl, q⟩
theorem val_inL (ha : Val ta σ H x) (hb : Val tb σ H (.ref p)) (hS : SqL K H p xs) (hx : flatV x = true) (hxs : xs.all flatV = true) : Val (tOp (rIn K false) ta tb) σ H (.bl (inV x xs)) := fun Q q => ha _ (hb _ ⟨p, xs, rfl, .inl hS, hx, hxs, q⟩)
theorem val_inT (ha : Val ta σ H x) (hb : Val tb σ H (.ref p)) (hS : SqT K H p xs) (hx : flatV x = true) (hxs : xs.all flatV = true) : Val (tOp (rIn K false) ta tb) σ H (.bl (inV x xs)) := fun Q q => ha _ (hb _ ⟨p, xs, rfl, .inr hS, hx, hxs, q⟩)
theorem val_notInL (ha : Val ta σ H x) (hb : Val tb σ H (.ref p)) (hS : SqL K H p xs) (hx : flatV x = true) (hxs : xs.all flatV = true) : Val (tOp (rIn K true) ta tb) σ H (.bl (!inV x xs)) := fun Q q => ha _ (hb _ ⟨p, xs, rfl, .inl hS, hx, hxs, q⟩)
end
section
variable {σ : L2.St} {H : Hp} {ta tb tc td te : TE} {D : Ends} {x y z u : V} {Q : VK} {E : XK} {i : Nat}
theorem st_append {K : PySem.W.Frag} {p : Addr} {xs : List V} (h1 : Val ta σ H (.ref p)) (h2 : Val tb σ H y) (hp : H p = some (.lst xs)) (hl : xs.length ≤ 100000) (q : D.nx σ (upd H p (.lst (xs ++ [y])))) : tDrop (tBM K "list" rAppend ta (tCons tb tNil)) D σ H :=
  h1 _ ⟨.inl ⟨rfl, _, SqL.of hp⟩, h2 _ ⟨p, xs, y, rfl, rfl, hp, lineN hl, q⟩⟩
theorem tup1 (h1 : Val ta σ H x) (q : ∀ p, H p = none → Q (.ref p) (upd H p (.tup [x]))) : tTup (tCons ta tNil) σ H Q := h1 _ ⟨by show 1 ≤ sizeLine; decide, q⟩
theorem tup2 (h1 : Val ta σ H x) (h2 : Val tb σ H y) (q : ∀ p, H p = none → Q (.ref p) (upd H p (.tup [x, y]))) : tTup (tCons ta (tCons tb tNil)) σ H Q := h1 _ (h2 _ ⟨by show 2 ≤ sizeLine; decide, q⟩)
theorem tup3 (h1 : Val ta σ H x) (h2 : Val tb σ H y) (h3 : Val tc σ H z) (q : ∀ p, H p = none → Q (.ref p) (upd H p (.tup [x, y, z]))) : tTup (tCons ta (tCons tb (tCons tc tNil))) σ H Q := h1 _ (h2 _ (h3 _ ⟨by show 3 ≤ sizeLine; decide, q⟩))
theorem lst0 (q : ∀ p, H p = none → Q (.ref p) (upd H p (.lst []))) : tLst tNil σ H Q := ⟨by show 0 ≤ sizeLine; decide, q⟩
theorem lst1 (h1 : Val ta σ H x) (q : ∀ p, H p = none → Q (.ref p) (upd H p (.lst [x]))) : tLst (tCons ta tNil) σ H Q := h1 _ ⟨by show 1 ≤ sizeLine; decide, q⟩
theorem lst2 (h1 : Val ta σ H x) (h2 : Val tb σ H y) (q : ∀ p, H p = none → Q (.ref p) (upd H p (.lst [x, y]))) : tLst (tCons ta (tCons tb tNil)) σ H Q := h1 _ (h2 _ ⟨by show 2 ≤ sizeLine; decide, q⟩)
theorem lst1H (h : ta σ H fun x H1 => ∀ p, H1 p = none → Q (.ref p) (upd H1 p (.lst [x]))) : tLst (tCons ta tNil) σ H Q := by
  have z : (fun (x : V) (H1 : Hp) => ∀ p, H1 p = none → Q (.ref p) (upd H1 p (.lst [x]))) = fun x H1 => [x].length ≤ sizeLine ∧ ∀ p, H1 p = none → Q (.ref p) (upd H1 p (.lst [x])) := by
    funext x H1
    exact propext ⟨fun h => ⟨by show 1 ≤ sizeLine; decide, h⟩, fun h => h.2⟩
  rw [z] at h
  exact h
theorem tup2H (h : ta σ H fun x H1 => tb σ H1 fun y H2 => ∀ p, H2 p = none → Q (.ref p) (upd H2 p (.tup [x, y]))) : tTup (tCons ta (tCons tb tNil)) σ H Q := by
  have z : (fun (x : V) (H1 : Hp) => tb σ H1 fun y H2 => ∀ p, H2 p = none → Q (.ref p) (upd H2 p (.tup [x, y]))) = fun x H1 => tb σ H1 fun y H2 => [x, y].length ≤ sizeLine ∧ ∀ p, H2 p = none → Q (.ref p) (upd H2 p (.tup [x, y])) := by
    funext x H1
    congr 1
    funext y H2
    exact propext ⟨fun h => ⟨by show 2 ≤ sizeLine; decide, h⟩, fun h => h.2⟩
  rw [z] at h
  exact h
theorem val_int {a : Str} {n : Int} (h : Val ta σ H (.str a)) (h1 : PySem.intText? a = some n) (h2 : a.length ≤ 640) : Val (tCB (fun xs H Q => ∃ a n, xs = [V.str a] ∧ PySem.intText? a = some n ∧ a.length ≤ 640 ∧ Q (.int n) H) (tCons ta tNil)) σ H (.int n) := fun Q q => h _ ⟨a, n, rfl, h1, h2, q⟩
theorem st_asg (h : te σ H fun v H1 => D.nx (σ.set i (some v)) H1) : tAsg te (gName i) D σ H := h
theorem st_expr (h : te σ H fun _ H1 => D.nx σ H1) : tDrop te D σ H := h
theorem st_retH (h : te σ H D.rt) : tRet te D σ H := h
theorem call1 {φ} (h1 : Val ta σ H x) (q : φ x H Q E) : tCall (sp1 φ) [] E (tCons ta tNil) σ H Q := h1 _ ⟨x, rfl, q⟩
theorem call2 {φ} (h1 : Val ta σ H x) (h2 : Val tb σ H y) (q : φ x y H Q E) : tCall (sp2 φ) [] E (tCons ta (tCons tb tNil)) σ H Q := h1 _ (h2 _ ⟨x, y, rfl, q⟩)
theorem call3 {φ} (h1 : Val ta σ H x) (h2 : Val tb σ H y) (h3 : Val tc σ H z) (q : φ x y z H Q E) : tCall (sp3 φ) [] E (tCons ta (tCons tb (tCons tc tNil))) σ H Q := h1 _ (h2 _ (h3 _ ⟨x, y, z, rfl, q⟩))
theorem call4 {φ} (h1 : Val ta σ H x) (h2 : Val tb σ H y) (h3 : Val tc σ H z) (h4 : Val td σ H u) (q : φ x y z u H Q E) : tCall (sp4 φ) [] E (tCons ta (tCons tb (tCons tc (tCons td tNil)))) σ H Q := h1 _ (h2 _ (h3 _ (h4 _ ⟨x, y, z, u, rfl, q⟩)))
/-- an operation whose left side leaves another heap -/
theorem opIH {g : Int → Int → V} {j : Int} (h : ta σ H fun v H1 => ∃ i, v = .int i ∧ Q (g i j) H1) : tOp (rI0 g) ta (tC (.int j)) σ H Q := by
  have z : (fun (v : V) (H1 : Hp) => ∃ i, v = .int i ∧ Q (g i j) H1) = fun v H1 => rI0 g v (.int j) H1 Q := by
    funext v H1
    exact propext ⟨fun ⟨i, e, h⟩ => ⟨i, j, e, rfl, h⟩, fun ⟨i, j', e, e', h⟩ => by cases e'; exact ⟨i, e, h⟩⟩
  rw [z] at h
  exact h
theorem call1H {φ} (h : ta σ H fun x H1 => φ x H1 Q E) : tCall (sp1 φ) [] E (tCons ta tNil) σ H Q := by
  have z : (fun (x : V) (H1 : Hp) => φ x H1 Q E) = fun x H1 => sp1 φ [x] H1 Q E := by
    funext x H1
    exact propext ⟨fun h => ⟨x, rfl, h⟩, fun ⟨_, e, h⟩ => by cases e; exact h⟩
  rw [z] at h
  exact h
theorem call2H {φ} (h : ta σ H fun x H1 => tb σ H1 fun y H2 => φ x y H2 Q E) : tCall (sp2 φ) [] E (tCons ta (tCons tb tNil)) σ H Q := by
  have z : (fun (x : V) (H1 : Hp) => tb σ H1 fun y H2 => φ x y H2 Q E) = fun x H1 => tb σ H1 fun y H2 => sp2 φ [x, y] H2 Q E := by
    funext x H1
    congr 1
    funext y H2
    exact propext ⟨fun h => ⟨x, y, rfl, h⟩, fun ⟨_, _, e, h⟩ => by cases e; exact h⟩
  rw [z] at h
  exact h
theorem call3H {φ} (h : ta σ H fun x H1 => tb σ H1 fun y H2 => tc σ H2 fun w H3 => φ x y w H3 Q E) : tCall (sp3 φ) [] E (tCons ta (tCons tb (tCons tc tNil))) σ H Q := by
  have z : (fun (x : V) (H1 : Hp) => tb σ H1 fun y H2 => tc σ H2 fun w H3 => φ x y w H3 Q E) = fun x H1 => tb σ H1 fun y H2 => tc σ H2 fun w H3 => sp3 φ [x, y, w] H3 Q E := by
    funext x H1
    congr 1
    funext y H2
    congr 1
    funext w H3
    exact propext ⟨fun h => ⟨x, y, w, rfl, h⟩, fun ⟨_, _, _, e, h⟩ => by cases e; exact h⟩
  rw [z] at h
  exact h
end
theorem rgC2 {n : Nat} (h : n ≤ 100000) : RgC 1 (n : Int) 2 (n / 2) := by
  have hs : PySem.Builtin.Range.rangeSize 1 (n : Int) 2 = ((n / 2 : Nat) : Int) := by
    unfold PySem.Builtin.Range.rangeSize
    rw [if_pos (by decide)]
    split <;> omega
  refine ⟨by decide, by decide, ?_, hs⟩
  unfold PySem.Builtin.Range.small
  rw [hs]
  unfold PySem.Builtin.Range.rangeFitsLong
  simp only [Bool.and_eq_true, Bool.or_eq_true, decide_eq_true_eq, beq_iff_eq]
  refine ⟨⟨⟨⟨?_, ?_⟩, ?_⟩, ?_⟩, .inr ?_⟩
  all_goals first
    | omega
    | (rw [if_pos (by decide)]; simp only [Bool.and_eq_true, decide_eq_true_eq]; omega)
theorem cutV_take (xs : List V) (k : Nat) : cutV xs none (some (k : Int)) = xs.take k := by
  unfold cutV
  rw [HT.sIx_none, HT.sIx_nat]
  simp
theorem cutV_drop (xs : List V) (k : Nat) : cutV xs (some (k : Int)) none = xs.drop k := by
  unfold cutV
  rw [HT.sIx_none, HT.sIx_nat]
  by_cases h : k ≤ xs.length
  · rw [Nat.min_eq_left h, List.take_of_length_le (by simp)]
  · rw [Nat.min_eq_right (by omega), List.drop_eq_nil_of_le (Nat.le_refl _), List.drop_eq_nil_of_le (by omega)]
    simp
section
variable {σ : L2.St} {H : Hp} {ta tb tc : TE} {g : TG} {ts : TS} {D : Ends} {K : PySem.W.Frag} {lo hi c : Int} {n : Nat} {a : Addr} {xs : List V}
theorem st_forC (Pv : Nat → L2.St → Hp → Prop) (h1 : Val ta σ H (.int lo)) (h2 : Val tb σ H (.int hi)) (h3 : Val tc σ H (.int c)) (hR : RgC lo hi c n) (h0 : Pv 0 σ H)
    (hs : ∀ (i : Nat) (σ : L2.St) (H : Hp), i < n → Pv i σ H → g (.int (lo + (i : Int) * c)) σ H fun σ2 H2 => ts { nx := Pv (i + 1), rt := D.rt, bk := D.nx, ct := Pv (i + 1) } σ2 H2)
    (he : ∀ (σ : L2.St) (H : Hp), Pv n σ H → D.nx σ H) : tFor (iRng3 (tCons ta (tCons tb (tCons tc tNil)))) g ts D σ H := h1 _ (h2 _ (h3 _ ⟨_, _, _, _, rfl, hR, for_rangeC Pv h0 hs he⟩))
theorem st_forR1 (Pv : Nat → L2.St → Hp → Prop) (h1 : Val ta σ H (.int n)) (hn : n ≤ 100000) (h0 : Pv 0 σ H)
    (hs : ∀ (i : Nat) (σ : L2.St) (H : Hp), i < n → Pv i σ H → g (.int (0 + (i : Int))) σ H fun σ2 H2 => ts { nx := Pv (i + 1), rt := D.rt, bk := D.nx, ct := Pv (i + 1) } σ2 H2)
    (he : ∀ (σ : L2.St) (H : Hp), Pv n σ H → D.nx σ H) : tFor (iRng1 (tCons ta tNil)) g ts D σ H := h1 _ ⟨_, rfl, by omega, by omega, for_range (n := n) Pv h0 hs he⟩
theorem st_forL (Pv : Nat → L2.St → Hp → Prop) (h1 : Val ta σ H (.ref a)) (hS : SqL K H a xs) (h0 : Pv 0 σ H) (hk : ∀ (i : Nat) (σ : L2.St) (H : Hp), i ≤ xs.length → Pv i σ H → SqL K H a xs)
    (hs : ∀ (i : Nat) (x : V) (σ : L2.St) (H : Hp), xs[i]? = some x → Pv i σ H → g x σ H fun σ2 H2 => ts { nx := Pv (i + 1), rt := D.rt, bk := D.nx, ct := Pv (i + 1) } σ2 H2)
    (he : ∀ (σ : L2.St) (H : Hp), Pv xs.length σ H → D.nx σ H) : tFor (iList K ta) g ts D σ H := h1 _ ⟨a, rfl, ⟨xs, hS⟩, for_list (K := K) (a := a) (xs := xs) Pv h0 hk hs he⟩
end
section
variable {σ : L2.St} {H : Hp} {ta tb : TE} {K : PySem.W.Frag} {p : Addr} {Q : VK} {α : Type} {f : α → V} {l : List α} {k : Nat}
theorem slc_from (ha : Val ta σ H (.ref p)) (hb : Val tb σ H (.int (k : Int))) (hS : SqL K H p (l.map f)) (q : ∀ q, H q = none → Q (.ref q) (upd H q (.lst ((l.drop k).map f)))) : tSl (rSlL K) ta (tPart tb) tNoPart σ H Q :=
  ha _ (hb _ ⟨_, rfl, p, _, rfl, hS, fun r hr => by rw [cutV_drop, ← List.map_drop]; exact q r hr⟩)
theorem slc_to (ha : Val ta σ H (.ref p)) (hb : Val tb σ H (.int (k : Int))) (hS : SqL K H p (l.map f)) (q : ∀ q, H q = none → Q (.ref q) (upd H q (.lst ((l.take k).map f)))) : tSl (rSlL K) ta tNoPart (tPart tb) σ H Q :=
  ha _ (hb _ ⟨_, rfl, p, _, rfl, hS, fun r hr => by rw [cutV_take, ← List.map_take]; exact q r hr⟩)
end
/-- what a loop over J is to show -/
def ForIn (J : It) (g : TG) (tb : TS) (D : Ends) (σ : L2.St) (H : Hp) : Prop := ∃ W : Nat → Nat → L2.St → Hp → Prop, (∃ m, W 0 m σ H) ∧ ∀ (i m : Nat) (σ : L2.St) (H : Hp), W i m σ H → (J.stop i H ∧ D.nx σ H) ∨ (J.go i H ∧ ∃ N : L2.St → Hp → Prop, (∀ σ' H', N σ' H' → ∃ m', m' < m ∧ W (i + 1) m' σ' H') ∧
  ∀ x H', J.yld i H x H' → g x σ H' fun σ2 H2 => tb { nx := N, rt := D.rt, bk := D.nx, ct := N } σ2 H2)
theorem st_forLH {K : PySem.W.Frag} {ta : TE} {g : TG} {ts : TS} {D : Ends} {σ : L2.St} {H : Hp} (h : ta σ H fun x H1 => ∃ a, x = .ref a ∧ (∃ xs, SqL K H1 a xs) ∧ ForIn (Itl K a) g ts D σ H1) : tFor (iList K ta) g ts D σ H := h
theorem forIn {K : PySem.W.Frag} {g : TG} {ts : TS} {D : Ends} {σ : L2.St} {H : Hp} {a : Addr} {xs : List V} (Pv : Nat → L2.St → Hp → Prop) (h0 : Pv 0 σ H) (hk : ∀ (i : Nat) (σ : L2.St) (H : Hp), i ≤ xs.length → Pv i σ H → SqL K H a xs)
    (hs : ∀ (i : Nat) (x : V) (σ : L2.St) (H : Hp), xs[i]? = some x → Pv i σ H → g x σ H fun σ2 H2 => ts { nx := Pv (i + 1), rt := D.rt, bk := D.nx, ct := Pv (i + 1) } σ2 H2)
    (he : ∀ (σ : L2.St) (H : Hp), Pv xs.length σ H → D.nx σ H) : ForIn (Itl K a) g ts D σ H := for_list (K := K) (a := a) (xs := xs) Pv h0 hk hs he
/-- a comprehension over a list, its parts without effect -/
theorem lcL {α : Type} {zs : List α} {K : PySem.W.Frag} {σ : L2.St} {H : Hp} {ta te : TE} {g : TG} {tt : TT} {vs : List Nat} {Q : VK} {a : Addr} {xs : List V} (σ' : α → L2.St) (p : α → Bool) (fv : α → V) (h1 : Val ta σ H (.ref a)) (hS : SqL K H a xs) (hx : xs.length = zs.length) (hl : zs.length ≤ 100000)
    (hw : ∀ z, wipe (σ' z) vs = wipe σ vs) (hg : ∀ (i : Nat) (z : α) (x : V) (H1 : Hp) (R : L2.St → Hp → Prop), zs[i]? = some z → xs[i]? = some x → Same H H1 → R (σ' z) H1 → g x (wipe σ vs) H1 R)
    (ht : ∀ (z : α) (H1 : Hp), z ∈ zs → Same H H1 → Ans tt (σ' z) H1 (p z)) (he : ∀ (z : α) (H1 : Hp), z ∈ zs → p z = true → Same H H1 → Val te (σ' z) H1 (fv z))
    (hd : ∀ H' D, Same H H' → H' D = some (.lst ((zs.filter p).map fv)) → Q (.ref D) H') : tLc (iList K ta) g tt te vs σ H Q :=
  h1 _ ⟨a, rfl, ⟨_, hS⟩, fun D hD => lc_gen (walk_list (K := K) (a := a) (xs := xs)) (zs := zs) σ' p fv hx hl hD (fun H' s' => s'.seq hS) hw
    (fun i z H1 y H2 R hz s1 yy q => by
      obtain ⟨rfl, hy⟩ := yy
      exact hg i z y _ R hz hy s1 (q _ (Same.refl _)))
    (fun z H1 R hm s1 q => ht z H1 hm s1 _ (q H1 (Same.refl H1))) (fun z H1 R hm hp s1 q => he z H1 hm hp s1 _ (q H1 (Same.refl H1))) (fun H' s1 hD' => hd H' D s1 hD')⟩
section
variable {X : Cx} {K : PySem.W.Frag} {e : Expr} {ta : TE} {f : Str} {pos : Pos}
theorem pg_tupK {es : List Expr} {k : Nat} {t : TGs} {n : Nat} (hK : X.K = K) (hc : X.calm = true) (h : PGs X es t) (hn : (assignEach es X.env).length = n := by rfl) (hi : (assignEach es X.env).findIdx? (fun x => x.1) = none := by rfl) : PG X (.Tuple es k pos) (gTup K n t) := by
  subst hK
  exact pg_tup hc h hn hi
theorem pe_fldK (hK : X.K = K) (he : PE X e ta) (hb : attributeBase e f X.env (eval e X.env) = eval e X.env) : PE X (.Attribute e f pos) (tFld K ta f) := by
  subst hK
  exact pe_fld he hb
end
end GW
/-! The walk 2: programs -/
namespace GW
open PySem PySem.Spec PyProof.Rows L2
/-! ### promises of defs that may raise -/
def Err (K : PySem.W.Frag) (E : XK) (F : Hp) (c : Nat) : Prop := ∀ d H', H' d = some (.xd [("code", .int (c : Int))]) → Same F H' → E (.ref (He.ga K "Wrong")) (some d) H'
def Res {α : Type} (K : PySem.W.Frag) (E : XK) (F : Hp) (r : Except Nat α) (ok : α → Prop) : Prop := match r with
  | .ok a => ok a
  | .error c => Err K E F c
section
variable {α β : Type} {K : PySem.W.Frag} {E : XK} {F F' : Hp} {c : Nat} {r : Except Nat α} {f : α → Except Nat β} {ok ok' : α → Prop}
theorem Err.mono (e : Same F F') (h : Err K E F c) : Err K E F' c := fun d H' h1 h2 => h d H' h1 (e.trans h2)
theorem Res.bind {ok : β → Prop} (h : Res K E F (r >>= f) ok) : Res K E F r fun a => Res K E F (f a) ok := by
  cases r with
  | error c => exact h
  | ok a => exact h
theorem Res.mono (e : Same F F') (h : Res K E F r ok) (g : ∀ a, r = .ok a → ok a → ok' a) : Res K E F' r ok' := by
  cases r with
  | error c => exact Err.mono e h
  | ok a => exact g a rfl h
end
theorem nw_wo {H H' : Hp} {M : List Addr} (R : ∀ a ∈ M, ∃ o, H a = some o) : Same (nw H H') (wo H' M) := fun b o h => by
  obtain ⟨h1, h2⟩ := nw_some.mp h
  refine wo_some.mpr ⟨fun z => ?_, h2⟩
  obtain ⟨u, hu⟩ := R b z
  rw [h1] at hu
  cases hu
/-! ### names -/
theorem eqV_wv {a b : Xb15.Bytes} (h : RightW b) : eqV (wv a) (wv b) = (a == b) := by
  show (phi a == phi b) = (a == b)
  rw [Bool.eq_iff_iff]
  simp only [beq_iff_eq]
  exact phi_right h
theorem inV_wv {b : Xb15.Bytes} (h : RightW b) : ∀ l : List Xb15.Bytes, inV (wv b) (l.map wv) = (l.findIdx? fun v => v == b).isSome := fun l => by
  unfold inV
  rw [List.any_map]
  have e : ((fun y => eqV y (wv b)) ∘ wv) = fun v => v == b := by
    funext a
    exact eqV_wv h
  rw [e]
  simp
theorem flat_wv : ∀ l : List Xb15.Bytes, (l.map wv).all flatV = true := fun l => by
  rw [List.all_map]
  exact List.all_eq_true.mpr fun _ _ => rfl
def idx (ns : List Xb15.Bytes) (x : Xb15.Bytes) : Int := match ns.findIdx? fun v => v == x with
  | some i => i
  | none => -1
/-- the first place of a word -/
theorem index_wv {K : PySem.W.Frag} {H : Hp} {l : Addr} {ns : List Xb15.Bytes} {b : Xb15.Bytes} {i : Nat} {Q : VK} (hb : RightW b) (hS : SqL K H l (ns.map wv)) (e : (ns.findIdx? fun v => v == b) = some i) (q : Q (.int i) H) : rIndex K (.ref l) [wv b] H Q := by
  obtain ⟨h1, h2, h3⟩ := List.findIdx?_eq_some_iff_getElem.mp e
  refine ⟨l, _, _, i, wv ns[i], rfl, rfl, hS, rfl, flat_wv _, by simp [h1], ?_, fun m z' hm hz => ?_, q⟩
  · rw [eqV_wv hb]; exact h2
  · obtain ⟨y, hy, rfl⟩ := map_get hz
    obtain ⟨hl, rfl⟩ := List.getElem?_eq_some_iff.mp hy
    rw [eqV_wv hb]
    simpa using h3 m hm
theorem val_index {K : PySem.W.Frag} {σ : L2.St} {H : Hp} {ta tb : TE} {p : Addr} {ns : List Xb15.Bytes} {b : Xb15.Bytes} {i : Nat} (ha : Val ta σ H (.ref p)) (hb : Val tb σ H (wv b)) (hr : RightW b) (hS : SqL K H p (ns.map wv)) (e : (ns.findIdx? fun v => v == b) = some i) :
    Val (tBM K "list" (rIndex K) ta (tCons tb tNil)) σ H (.int i) := fun Q q => ha _ ⟨.inl ⟨rfl, _, hS⟩, hb _ (index_wv hr hS e q)⟩
/-- a cell or a task by its name -/
def Named (K : PySem.W.Frag) (H : Hp) (a : Addr) (n : Xb15.Bytes) : Prop := (∃ dx k lo hi, atCell K H a dx (wv n) k lo hi) ∨ ∃ dx s i, atTask K H a dx (wv n) s i
theorem Named.mono {K : PySem.W.Frag} {H H' : Hp} (e : Same H H') {a : Addr} {n : Xb15.Bytes} (h : Named K H a n) : Named K H' a n := by
  rcases h with ⟨dx, k, lo, hi, h⟩ | ⟨dx, s, i, h⟩
  · exact .inl ⟨dx, k, lo, hi, e _ _ h⟩
  · exact .inr ⟨dx, s, i, e _ _ h⟩
theorem findIdx_map {α : Type} {f : α → Xb15.Bytes} {b : Xb15.Bytes} (l : List α) : ((l.map f).findIdx? fun v => v == b) = l.findIdx? fun x => f x == b := by
  rw [List.findIdx?_map]
  rfl
/-! ### fields as __init__ fills them -/
section
variable {K : PySem.W.Frag} {σ : L2.St} {H : Hp} {C x dx : Addr} {fs fs' : List (Str × V)} {f : Str} {y : V} {tv : TE} {D : Ends}
theorem fld0 (c : Cls K C) (n : NoAttr K C f) (hs : σ[0]? = some (some (.ref x))) (hv : Val tv σ H y) (hx : H x = some (.ins C dx fs)) (hl : fs.length < 1000) (e : putF f y fs = fs') (q : D.nx σ (upd H x (.ins C dx fs'))) : sFld K (tVar 0) tv f D σ H :=
  hv _ ⟨_, hs, x, C, dx, fs, rfl, hx, c, n, hl, by rw [e]; exact q⟩
theorem fld0L {g : V → List (Str × V)} (c : Cls K C) (n : NoAttr K C f) (hs : σ[0]? = some (some (.ref x))) (hx : H x = some (.ins C dx fs)) (hl : fs.length < 1000) (e : ∀ v, putF f v fs = g v)
    (q : ∀ p, H p = none → D.nx σ (upd (upd H p (.lst [])) x (.ins C dx (g (.ref p))))) : sFld K (tVar 0) (tLst tNil) f D σ H :=
  ⟨by show 0 ≤ sizeLine; decide, fun p hp => ⟨_, hs, x, C, dx, fs, rfl, by rw [upd_ne (ne_of_none hx hp)]; exact hx, c, n, hl, by rw [e]; exact q p hp⟩⟩
theorem val_neg {i : Int} (h : Val tv σ H (.int i)) : Val (tUn (rU fun i => V.int (-i)) tv) σ H (.int (-i)) := fun Q q => h _ ⟨i, rfl, q⟩
end
def thisSp (K : PySem.W.Frag) : Sp := sp1 fun a H Q E => ∃ L s t, a = .ref L.r ∧ RdAt K H L s ∧ s.now = some t ∧ Q (.ref L.t0) H
def wantSp (K : PySem.W.Frag) : Sp := sp2 fun a c H Q E => ∃ (b : Bool) (n : Nat), a = .bl b ∧ c = iv n ∧ (b = true → Q .non H) ∧ (b = false → Err K E H n)
section
variable {K : PySem.W.Frag} {σ : L2.St} {H : Hp} {te : TE} {D : Ends} {E : XK} {b : Bool}
theorem st_wantH {c : V} (n : Nat) (h : te σ H fun v H1 => ∃ b : Bool, v = .bl b ∧ (b = true → D.nx σ H1) ∧ (b = false → Err K E H1 n)) (e : c = iv n) : tDrop (tCall (wantSp K) [] E (tCons te (tCons (tC c) tNil))) D σ H := by
  have z : (fun (v : V) (H1 : Hp) => ∃ b : Bool, v = .bl b ∧ (b = true → D.nx σ H1) ∧ (b = false → Err K E H1 n)) = fun v H1 => wantSp K [v, c] H1 (fun _ H2 => D.nx σ H2) E := by
    funext v H1
    refine propext ⟨fun ⟨b, h1, h2, h3⟩ => ⟨v, c, rfl, b, n, h1, e, h2, h3⟩, fun ⟨v', c', ev, b, n', h1, h2, h3, h4⟩ => ?_⟩
    simp only [List.cons.injEq, and_true] at ev
    obtain ⟨rfl, rfl⟩ := ev
    have : n' = n := by
      rw [e] at h2
      have := V.int.inj h2
      omega
    subst this
    exact ⟨b, h1, h3, h4⟩
  rw [z] at h
  exact h
theorem st_wantI {c : V} {p : Int → Int → Bool} {i j : Int} {ta tb : TE} (n : Nat) (ha : Val ta σ H (.int i)) (hb : Val tb σ H (.int j)) (h1 : p i j = true → D.nx σ H) (h2 : p i j = false → Err K E H n) (e : c = iv n) :
    tDrop (tCall (wantSp K) [] E (tCons (tOp (rI0 fun i j => .bl (p i j)) ta tb) (tCons (tC c) tNil))) D σ H := st_wantH n (ha _ (hb _ ⟨i, j, rfl, rfl, _, rfl, h1, h2⟩)) e
theorem st_want {c : V} (n : Nat) (h : Val te σ H (.bl b)) (h1 : b = true → D.nx σ H) (h2 : b = false → Err K E H n) (e : c = iv n) : tDrop (tCall (wantSp K) [] E (tCons te (tCons (tC c) tNil))) D σ H := st_wantH n (h _ ⟨b, rfl, h1, h2⟩) e
end
def wrongSp (K : PySem.W.Frag) : Sp := sp2 fun a b H Q E => ∃ (x : Addr) (c : Nat), a = .ref x ∧ b = iv c ∧ H x = some (exo x (He.ga K "Wrong") none) ∧ ∀ dx, H dx = none → dx ≠ x → Q .non (upd (upd H dx (exd dx [("code", iv c)])) x (exo x (He.ga K "Wrong") (some dx)))
theorem findIdx_lt' {α : Type} {l : List α} {f : α → Bool} {k : Nat} (h : l.findIdx? f = some k) : k < l.length := by
  obtain ⟨h1, _⟩ := List.findIdx?_eq_some_iff_getElem.mp h
  exact h1
theorem named_cells {K : PySem.W.Frag} {H H' : Hp} {cs : List Addr} {l : List Xb15.Cell} (s : Same H H') (h : All2 (CellAt K H) cs l) : All2 (Named K H') cs (l.map Xb15.Cell.name) := ⟨by rw [List.length_map]; exact h.len, fun i a b h1 h2 => by
  rw [List.getElem?_map] at h2
  cases e : l[i]? with
  | none => rw [e] at h2; cases h2
  | some c =>
    rw [e] at h2
    cases h2
    obtain ⟨dx, q⟩ := h.at_ i a c h1 e
    exact .inl ⟨dx, _, _, _, s _ _ q⟩⟩
theorem flat_strs (l : List Str) : (l.map V.str).all flatV = true := by
  rw [List.all_map]
  exact List.all_eq_true.mpr fun _ _ => rfl
theorem inV_strs (l : List Str) (z : Str) : inV (.str z) (l.map V.str) = l.any (· == z) := by
  unfold inV
  rw [List.any_map]
  rfl
section
variable {P : Program} {w : World} {K : PySem.W.Frag} {mg : Str → Option Value} {base : Heap}
theorem sc_Wrong_init : FnScope ["self", "code"] ["self", "code"] (defScope s_Wrong_init) := ⟨rfl, rfl, rfl, by decide +kernel, rfl, by decide +kernel, by decide +kernel⟩
theorem ok_Wrong_init (T : Tx K w mg) : Dm P w K mg base CX0 1 (He.ma K (He.ga K "Wrong") "__init__") ["self", "code"] (wrongSp K) := by
  obtain ⟨fd, F⟩ := T.d_Wrong_init
  refine ⟨fd, (F.bindsN (ps := ["self", "code"]) fun _ _ _ _ _ _ us hl => match us, hl with | [_, _], _ => rfl), F.ok sc_Wrong_init sp2_len (fun cdv A outer s H vs Q E hr h => ⟨_, PSs.nox ((pss_cons (ps_expr (pe_veinit rfl T.f_ValueError (veB_ok T.vei) (pa_cons (pv 0) pa_nil)))
    (pss_one (ps_ost (pv 0) (pv 1))))), ?_⟩)⟩
  obtain ⟨_, _, rfl, x, c, rfl, rfl, hx, h⟩ := h
  exact ⟨_, rfl, x, _, [], rfl, by decide, oexB_ok T.oex, hx, _, rfl, _, rfl, x, _, rfl, oexB_ok T.oex, T.na_Wrong_code, .inl ⟨hx, fun dx h1 h2 => h dx h1 h2⟩⟩
theorem pmk_wrong {X : Cx} (T : Tx X.K X.w X.mg) (hr : Room 2 X.A) {e : Expr} {es : List Expr} {t : TA} {p pos : Pos} (ha : PA X (e :: es) t) (hg : Gl X "Wrong" := by rfl)
    (he : starEach (e :: es) X.env = (false, eval e X.env) :: starEach es X.env := by rfl) (hpl : (backTo pos (starEach es X.env)).any (·.1) = false := by rfl) : PMk X (.Call (.Name "Wrong" p) (e :: es) [] pos) (tMkO (He.ga X.K "Wrong") (wrongSp X.K) [] t) := by
  obtain ⟨fd, hb, F⟩ := (ok_Wrong_init (P := X.prog) (base := X.base) T).ex
  exact pmk_oex (oexB_ok T.oex) (of_decide_eq_true T.wi) (of_decide_eq_true T.wit) F hr hb .nil pass0 hg T.g_Wrong ha (by decide) he hpl
def cellISp (K : PySem.W.Frag) : Sp := sp5 fun a n k lo hi H Q E => ∃ x dx, a = .ref x ∧ H x = some (.ins (He.ga K "Cell") dx []) ∧ ∀ H', Kp H x H' → atCell K H' x dx n k lo hi → Q .non H'
theorem sc_Cell_init : FnScope ["self", "name", "kind", "low", "high"] ["self", "name", "kind", "low", "high"] (defScope s_Cell_init) := ⟨rfl, rfl, rfl, by decide +kernel, rfl, by decide +kernel, by decide +kernel⟩
theorem ok_Cell_init (T : Tx K w mg) : Dm P w K mg base CX0 1 (He.ma K (He.ga K "Cell") "__init__") ["self", "name", "kind", "low", "high"] (cellISp K) := by
  obtain ⟨fd, F⟩ := T.d_Cell_init
  refine ⟨fd, (F.bindsN (ps := ["self", "name", "kind", "low", "high"]) fun _ _ _ _ _ _ us hl => match us, hl with | [_, _, _, _, _], _ => rfl), F.ok sc_Cell_init sp5_len (fun cdv A outer s H vs Q E hr h => ⟨_, PSs.nox ((pss_cons (ps_fld (pv 0) (pv 1) rfl)
    (pss_cons (ps_fld (pv 0) (pv 2) rfl)
    (pss_cons (ps_fld (pv 0) (pv 3) rfl)
    (pss_one (ps_fld (pv 0) (pv 4) rfl)))))), ?_⟩)⟩
  obtain ⟨_, n, k, lo, hi, rfl, x, dx, rfl, hx, h⟩ := h
  refine fld0 T.k_Cell T.n_Cell_name rfl (val_var rfl) hx (by show 0 < 1000; decide) in_Cell_0 ?_
  refine fld0 T.k_Cell T.n_Cell_kind rfl (val_var rfl) upd_same (by show 1 < 1000; decide) in_Cell_1 ?_
  refine fld0 T.k_Cell T.n_Cell_low rfl (val_var rfl) upd_same (by show 2 < 1000; decide) in_Cell_2 ?_
  refine fld0 T.k_Cell T.n_Cell_high rfl (val_var rfl) upd_same (by show 3 < 1000; decide) in_Cell_3 ?_
  exact h _ (Kp.refl H x).upd.upd.upd.upd upd_same
def insSp (K : PySem.W.Frag) : Sp := sp3 fun a wd ln H Q E => ∃ x dx, a = .ref x ∧ H x = some (.ins (He.ga K "Instruction") dx []) ∧ ∀ H' fa sa, Kp H x H' → atInstruction K H' x dx wd ln (.str "") (.int (-1)) (.ref fa) (.ref sa) (.int (-1)) (.int 0) (.int (-1)) → nw H H' fa = some (.lst []) → nw H H' sa = some (.lst []) → Q .non H'
theorem sc_Instruction_init : FnScope ["self", "word", "line"] ["self", "word", "line"] (defScope s_Instruction_init) := ⟨rfl, rfl, rfl, by decide +kernel, rfl, by decide +kernel, by decide +kernel⟩
theorem ok_Instruction_init (T : Tx K w mg) : Dm P w K mg base CX0 1 (He.ma K (He.ga K "Instruction") "__init__") ["self", "word", "line"] (insSp K) := by
  obtain ⟨fd, F⟩ := T.d_Instruction_init
  refine ⟨fd, (F.bindsN (ps := ["self", "word", "line"]) fun _ _ _ _ _ _ us hl => match us, hl with | [_, _, _], _ => rfl), F.ok sc_Instruction_init sp3_len (fun cdv A outer s H vs Q E hr h => ⟨_, PSs.nox ((pss_cons (ps_fld (pv 0) (pv 1) rfl)
    (pss_cons (ps_fld (pv 0) (pv 2) rfl)
    (pss_cons (ps_fld (pv 0) pe_str rfl)
    (pss_cons (ps_fld (pv 0) (pe_un un_neg pe_int) rfl)
    (pss_cons (ps_fld (pv 0) (pe_lst pa_nil) rfl)
    (pss_cons (ps_fld (pv 0) (pe_lst pa_nil) rfl)
    (pss_cons (ps_fld (pv 0) (pe_un un_neg pe_int) rfl)
    (pss_cons (ps_fld (pv 0) pe_int rfl)
    (pss_one (ps_fld (pv 0) (pe_un un_neg pe_int) rfl))))))))))), ?_⟩)⟩
  obtain ⟨_, wd, ln, rfl, x, dx, rfl, hx, h⟩ := h
  refine fld0 T.k_Instruction T.n_Instruction_word rfl (val_var rfl) hx (by show 0 < 1000; decide) in_Instruction_0 ?_
  refine fld0 T.k_Instruction T.n_Instruction_line rfl (val_var rfl) upd_same (by show 1 < 1000; decide) in_Instruction_1 ?_
  refine fld0 T.k_Instruction T.n_Instruction_way rfl val_c upd_same (by show 2 < 1000; decide) in_Instruction_2 ?_
  refine fld0 T.k_Instruction T.n_Instruction_cell rfl (val_neg val_c) upd_same (by show 3 < 1000; decide) in_Instruction_3 ?_
  refine fld0L T.k_Instruction T.n_Instruction_first rfl upd_same (by show 4 < 1000; decide) (fun v => in_Instruction_4) fun fa hfa => ?_
  refine fld0L T.k_Instruction T.n_Instruction_second rfl upd_same (by show 5 < 1000; decide) (fun v => in_Instruction_5) fun sa hsa => ?_
  refine fld0 T.k_Instruction T.n_Instruction_slot rfl (val_neg val_c) upd_same (by show 6 < 1000; decide) in_Instruction_6 ?_
  refine fld0 T.k_Instruction T.n_Instruction_number rfl val_c upd_same (by show 7 < 1000; decide) in_Instruction_7 ?_
  refine fld0 T.k_Instruction T.n_Instruction_goal rfl (val_neg val_c) upd_same (by show 8 < 1000; decide) in_Instruction_8 ?_
  have fx : fa ≠ x := fun e => by rw [e, upd_same] at hfa; cases hfa
  have sx : sa ≠ x := fun e => by rw [e, upd_same] at hsa; cases hsa
  have sf : sa ≠ fa := fun e => by rw [e, upd_ne fx, upd_same] at hsa; cases hsa
  simp only [upd_ne fx] at hfa
  simp only [upd_ne sx, upd_ne sf] at hsa
  refine h _ fa sa (((Kp.refl H x).upd.upd.upd.upd.new (by simp only [upd_ne fx]; exact hfa) ⟨_, upd_same⟩).upd.new (by simp only [upd_ne sx, upd_ne sf]; exact hsa) ⟨_, upd_same⟩).upd.upd.upd.upd upd_same (nw_some.mpr ⟨hfa, ?_⟩) (nw_some.mpr ⟨hsa, ?_⟩)
  · simp only [upd_ne fx, upd_ne (Ne.symm sf), upd_same]
  · simp only [upd_ne sx, upd_same]
def taskISp (K : PySem.W.Frag) : Sp := sp2 fun a n H Q E => ∃ x dx, a = .ref x ∧ H x = some (.ins (He.ga K "Task") dx []) ∧ ∀ H' sa ia, Kp H x H' → atTask K H' x dx n (.ref sa) (.ref ia) → nw H H' sa = some (.lst []) → nw H H' ia = some (.lst []) → sa ≠ ia → Q .non H'
theorem sc_Task_init : FnScope ["self", "name"] ["self", "name"] (defScope s_Task_init) := ⟨rfl, rfl, rfl, by decide +kernel, rfl, by decide +kernel, by decide +kernel⟩
theorem ok_Task_init (T : Tx K w mg) : Dm P w K mg base CX0 1 (He.ma K (He.ga K "Task") "__init__") ["self", "name"] (taskISp K) := by
  obtain ⟨fd, F⟩ := T.d_Task_init
  refine ⟨fd, (F.bindsN (ps := ["self", "name"]) fun _ _ _ _ _ _ us hl => match us, hl with | [_, _], _ => rfl), F.ok sc_Task_init sp2_len (fun cdv A outer s H vs Q E hr h => ⟨_, PSs.nox ((pss_cons (ps_fld (pv 0) (pv 1) rfl)
    (pss_cons (ps_fld (pv 0) (pe_lst pa_nil) rfl)
    (pss_one (ps_fld (pv 0) (pe_lst pa_nil) rfl))))), ?_⟩)⟩
  obtain ⟨_, n, rfl, x, dx, rfl, hx, h⟩ := h
  refine fld0 T.k_Task T.n_Task_name rfl (val_var rfl) hx (by show 0 < 1000; decide) in_Task_0 ?_
  refine fld0L T.k_Task T.n_Task_slots rfl upd_same (by show 1 < 1000; decide) (fun v => in_Task_1) fun fa hfa => ?_
  refine fld0L T.k_Task T.n_Task_instructions rfl upd_same (by show 2 < 1000; decide) (fun v => in_Task_2) fun sa hsa => ?_
  have fx : fa ≠ x := fun e => by rw [e, upd_same] at hfa; cases hfa
  have sx : sa ≠ x := fun e => by rw [e, upd_same] at hsa; cases hsa
  have sf : sa ≠ fa := fun e => by rw [e, upd_ne fx, upd_same] at hsa; cases hsa
  simp only [upd_ne fx] at hfa
  simp only [upd_ne sx, upd_ne sf] at hsa
  refine h _ fa sa (((Kp.refl H x).upd.new (by simp only [upd_ne fx]; exact hfa) ⟨_, upd_same⟩).upd.new (by simp only [upd_ne sx, upd_ne sf]; exact hsa) ⟨_, upd_same⟩).upd upd_same (nw_some.mpr ⟨hfa, ?_⟩) (nw_some.mpr ⟨hsa, ?_⟩) (Ne.symm sf)
  · simp only [upd_ne fx, upd_ne (Ne.symm sf), upd_same]
  · simp only [upd_ne sx, upd_same]
theorem sc_Program_init : FnScope ["self"] ["self"] (defScope s_Program_init) := ⟨rfl, rfl, rfl, by decide +kernel, rfl, by decide +kernel, by decide +kernel⟩
theorem ok_Program_init (T : Tx K w mg) : Dm P w K mg base CX0 1 (He.ma K (He.ga K "Program") "__init__") ["self"] (sp1 fun a H Q E => ∃ x dx, a = .ref x ∧ H x = some (.ins (He.ga K "Program") dx []) ∧ ∀ H' ca ta ga, Kp H x H' → atProgram K H' x dx (.ref ca) (.ref ta) (.ref ga) → nw H H' ca = some (.lst []) → nw H H' ta = some (.lst []) → nw H H' ga = some (.lst []) → ca ≠ ta → ca ≠ ga → ta ≠ ga → Q .non H') := by
  obtain ⟨fd, F⟩ := T.d_Program_init
  refine ⟨fd, (F.bindsN (ps := ["self"]) fun _ _ _ _ _ _ us hl => match us, hl with | [_], _ => rfl), F.ok sc_Program_init sp1_len (fun cdv A outer s H vs Q E hr h => ⟨_, PSs.nox ((pss_cons (ps_fld (pv 0) (pe_lst pa_nil) rfl)
    (pss_cons (ps_fld (pv 0) (pe_lst pa_nil) rfl)
    (pss_one (ps_fld (pv 0) (pe_lst pa_nil) rfl))))), ?_⟩)⟩
  obtain ⟨_, rfl, x, dx, rfl, hx, h⟩ := h
  refine fld0L T.k_Program T.n_Program_cells rfl hx (by show 0 < 1000; decide) (fun v => in_Program_0) fun ca hca => ?_
  have cx : ca ≠ x := fun e => by rw [e, hx] at hca; cases hca
  refine fld0L T.k_Program T.n_Program_tasks rfl upd_same (by show 1 < 1000; decide) (fun v => in_Program_1) fun fa hfa => ?_
  refine fld0L T.k_Program T.n_Program_goes rfl upd_same (by show 2 < 1000; decide) (fun v => in_Program_2) fun sa hsa => ?_
  have fx : fa ≠ x := fun e => by rw [e, upd_same] at hfa; cases hfa
  have sx : sa ≠ x := fun e => by rw [e, upd_same] at hsa; cases hsa
  have fc : fa ≠ ca := fun e => by rw [e, upd_ne cx, upd_same] at hfa; cases hfa
  have sf : sa ≠ fa := fun e => by rw [e, upd_ne fx, upd_same] at hsa; cases hsa
  have sc : sa ≠ ca := fun e => by rw [e, upd_ne cx, upd_ne (Ne.symm fc), upd_ne cx, upd_same] at hsa; cases hsa
  simp only [upd_ne fx, upd_ne fc] at hfa
  simp only [upd_ne sx, upd_ne sf, upd_ne sc] at hsa
  refine h _ ca fa sa ((((Kp.refl H x).new hca ⟨_, hx⟩).upd.new (by simp only [upd_ne fx, upd_ne fc]; exact hfa) ⟨_, upd_same⟩).upd.new (by simp only [upd_ne sx, upd_ne sf, upd_ne sc]; exact hsa) ⟨_, upd_same⟩).upd upd_same (nw_some.mpr ⟨hca, ?_⟩) (nw_some.mpr ⟨hfa, ?_⟩) (nw_some.mpr ⟨hsa, ?_⟩) (Ne.symm fc) (Ne.symm sc) (Ne.symm sf)
  · simp only [upd_ne cx, upd_ne (Ne.symm fc), upd_ne (Ne.symm sc), upd_same]
  · simp only [upd_ne fx, upd_ne (Ne.symm sf), upd_same]
  · simp only [upd_ne sx, upd_same]
def rdISp (K : PySem.W.Frag) : Sp := sp1 fun a H Q E => ∃ x dx, a = .ref x ∧ H x = some (.ins (He.ga K "Reading") dx []) ∧ ∀ H' L, Kp H x H' → L.r = x → L.ex = [] → (∀ m ∈ L.M none, m ≠ x → H m = none) → RdAt K H' L ⟨⟨[], [], []⟩, none, []⟩ → Q .non H'
theorem sc_Reading_init : FnScope ["self"] ["self"] (defScope s_Reading_init) := ⟨rfl, rfl, rfl, by decide +kernel, rfl, by decide +kernel, by decide +kernel⟩
theorem ok_Reading_init (T : Tx K w mg) : Dm P w K mg base CX0 3 (He.ma K (He.ga K "Reading") "__init__") ["self"] (rdISp K) := by
  obtain ⟨fd, F⟩ := T.d_Reading_init
  refine ⟨fd, (F.bindsN (ps := ["self"]) fun _ _ _ _ _ _ us hl => match us, hl with | [_], _ => rfl), F.ok sc_Reading_init sp1_len (fun cdv A outer s H vs Q E hr h => ⟨_, PSs.nox ((pss_cons (ps_fld (pv 0) (pe_cl0 T.m_Program (ok_Program_init T) (hr.mono (by decide)) T.g_Program pass0) rfl)
    (pss_cons (ps_fld (pv 0) pe_bl rfl)
    (pss_one (ps_fld (pv 0) (pe_lst pa_nil) rfl))))), ?_⟩)⟩
  obtain ⟨_, rfl, x, dx, rfl, hx, h⟩ := h
  refine fun px dxp hpx hdp hne => ⟨_, rfl, px, dxp, rfl, upd_same, fun H2 ca ta ga k hp hca hta hga n1 n2 n3 => ⟨rfl, ?_⟩⟩
  have e2 : Same H H2 := k.same hpx hdp
  refine ⟨_, rfl, x, _, dx, _, rfl, e2 _ _ hx, T.k_Reading, T.n_Reading_program, by show 0 < 1000; decide, ?_⟩
  rw [in_Reading_0]
  refine fld0 T.k_Reading T.n_Reading_is_inside rfl val_c upd_same (by show 1 < 1000; decide) in_Reading_1 ?_
  refine fld0L T.k_Reading T.n_Reading_blocks rfl upd_same (by show 2 < 1000; decide) (fun v => in_Reading_2) fun ba hba => ?_
  obtain ⟨c1, c2, c3⟩ := fresh2 (nw_some.mp hca).1
  obtain ⟨t1, t2, t3⟩ := fresh2 (nw_some.mp hta).1
  obtain ⟨g1, g2, g3⟩ := fresh2 (nw_some.mp hga).1
  have hca := (nw_some.mp hca).2
  have hta := (nw_some.mp hta).2
  have hga := (nw_some.mp hga).2
  have px_x : px ≠ x := fun e => by rw [e, hx] at hpx; cases hpx
  have cx : ca ≠ x := fun e => by rw [e, hx] at c1; cases c1
  have tx : ta ≠ x := fun e => by rw [e, hx] at t1; cases t1
  have gx : ga ≠ x := fun e => by rw [e, hx] at g1; cases g1
  have bx : ba ≠ x := fun e => by rw [e, upd_same] at hba; cases hba
  simp only [upd_ne bx] at hba
  have bc : ba ≠ ca := fun e => by rw [e, hca] at hba; cases hba
  have bt : ba ≠ ta := fun e => by rw [e, hta] at hba; cases hba
  have bg : ba ≠ ga := fun e => by rw [e, hga] at hba; cases hba
  have bp : ba ≠ px := fun e => by rw [e, hp] at hba; cases hba
  refine h _ { r := x, dxr := dx, pa := px, dxp := dxp, ca := ca, ta := ta, ga := ga, ba := ba, cs := [], ts := [], bs := [], t0 := x, dxt := x, sa := x, ia := x, is := [] } (fun b o hb hn => ?_) rfl rfl (fun m hm hn => ?_) ?_
  · have bb : b ≠ ba := fun e => by rw [e, e2.free hba] at hb; cases hb
    simp only [upd_ne hn, upd_ne bb]
    exact e2 _ _ hb
  · simp only [Lay.M, Lay.P, List.append_nil, List.mem_cons, List.not_mem_nil, or_false] at hm
    rcases hm with rfl | rfl | rfl | rfl | rfl
    · exact (hn rfl).elim
    · exact c1
    · exact t1
    · exact g1
    · exact e2.free hba
  · refine ⟨?_, (fun a ha => by cases ha), upd_same, ?_, ?_, All2.nil, ?_, All2.nil, ?_, ?_, All2.nil, fun t ht => by cases ht⟩
    · simp only [Lay.M, Lay.P, List.append_nil, List.nodup_cons, List.mem_cons, List.not_mem_nil, or_false, not_or, not_false_eq_true, List.nodup_nil, and_true]
      exact ⟨⟨Ne.symm cx, Ne.symm tx, Ne.symm gx, Ne.symm bx⟩, ⟨n1, n2, Ne.symm bc⟩, ⟨n3, Ne.symm bt⟩, Ne.symm bg⟩
    · refine wo_some.mpr ⟨fun z => ?_, ?_⟩
      · simp only [Lay.M, Lay.P, List.append_nil, List.mem_cons, List.not_mem_nil, or_false] at z
        rcases z with z | z | z | z | z
        · exact px_x z
        · exact c2 z.symm
        · exact t2 z.symm
        · exact g2 z.symm
        · exact bp z.symm
      · simp only [upd_ne px_x, upd_ne (Ne.symm bp)]
        exact hp
    · simp only [upd_ne cx, upd_ne (Ne.symm bc)]; exact hca
    · simp only [upd_ne tx, upd_ne (Ne.symm bt)]; exact hta
    · simp only [upd_ne gx, upd_ne (Ne.symm bg)]; exact hga
    · simp only [upd_ne bx, upd_same]; rfl
theorem sc_Reading_this_task : FnScope ["self"] ["self"] (defScope s_Reading_this_task) := ⟨rfl, rfl, rfl, by decide +kernel, rfl, by decide +kernel, by decide +kernel⟩
theorem ok_Reading_this_task (T : Tx K w mg) : Dm P w K mg base CX0 1 (He.ma K (He.ga K "Reading") "this_task") ["self"] (thisSp K) := by
  obtain ⟨fd, F⟩ := T.d_Reading_this_task
  refine ⟨fd, (F.bindsN (ps := ["self"]) fun _ _ _ _ _ _ us hl => match us, hl with | [_], _ => rfl), F.ok sc_Reading_this_task sp1_len (fun cdv A outer s H vs Q E hr h => ⟨_, PSs.nox ((pss_one (ps_ret (pe_ix ix_list (pe_fld (pe_fld (pv 0) rfl) rfl) (pe_un un_neg pe_int) (fun _ _ => rfl))))), ?_⟩)⟩
  obtain ⟨_, rfl, L, s', t, rfl, R, hn, h⟩ := h
  have hp := wo_same _ _ _ _ R.pr
  have ht := R.tl
  rw [hn] at ht
  refine st_ret (val_ixL (T.v_Program_tasks (T.v_Reading_program (val_var rfl) R.rd) hp) (val_neg val_c) (SqL.of ht) ?_) h
  rw [List.map_append]
  exact atI_last _ _
theorem sc_want_right : FnScope ["is_right", "code"] ["is_right", "code"] (defScope s_want_right) := ⟨rfl, rfl, rfl, by decide +kernel, rfl, by decide +kernel, by decide +kernel⟩
theorem ok_want_right (T : Tx K w mg) : Df P w K mg base (L2.CX P w) 3 "want_right" ["is_right", "code"] (wantSp K) := by
  obtain ⟨fd, F⟩ := T.d_want_right
  refine ⟨fd, T.g_want_right, F.kp, (F.bindsN (ps := ["is_right", "code"]) fun _ _ _ _ _ _ us hl => match us, hl with | [_, _], _ => rfl), F.ok sc_want_right sp2_len (fun cdv A outer s H vs Q E hr h => ⟨_, ((pss_one (ps_if (pt_not (pt_val (pv 0)))
      (pss_one (ps_raise rfl (takes_of rfl rfl rfl rfl) (pmk_wrong T (hr.mono (by decide)) (pa_cons (pv 1) pa_nil))))
      pss_nil))), ?_⟩)⟩
  obtain ⟨_, _, rfl, b, n, rfl, rfl, h1, h2⟩ := h
  refine st_if (ans_not (ans_ofB (val_var rfl))) (fun e => ?_) (fun e => ?_)
  · refine ⟨_, rfl, by show 1 ≤ 1000; decide, fun a ha => ⟨_, _, rfl, a, n, rfl, rfl, upd_same, fun dx hdx hne => ⟨rfl, dx, _, upd_same, by rw [upd_ne hne, upd_same], ?_, ?_⟩⟩⟩
    · rw [upd_ne hne] at hdx; exact hdx
    · rw [upd_ne hne] at hdx
      refine h2 (by simpa using e) dx _ upd_same fun b u hb => ?_
      have hbd : b ≠ dx := ne_of_none hb hdx
      have hba : b ≠ a := ne_of_none hb ha
      rw [upd_ne hbd, del_ne hba, upd_ne hba, upd_ne hbd, upd_ne hba]
      exact hb
  · exact h1 (by simpa using e)
def placeSp (K : PySem.W.Frag) : Sp := sp2 fun a b H Q E => ∃ (l : Addr) (as : List Addr) (ns : List Xb15.Bytes) (x : Xb15.Bytes), a = .ref l ∧ b = wv x ∧ RightW x ∧ SqL K H l (as.map V.ref) ∧ as.length ≤ 20000 ∧ All2 (Named K H) as ns ∧ ∀ H', Same H H' → Q (.int (idx ns x)) H'
theorem sc_place_of : FnScope ["things", "word", "names", "thing"] ["things", "word"] (defScope s_place_of) := ⟨rfl, rfl, rfl, by decide +kernel, rfl, by decide +kernel, by decide +kernel⟩
theorem ok_place_of (T : Tx K w mg) : Df P w K mg base CX0 1 "place_of" ["things", "word"] (placeSp K) := by
  obtain ⟨fd, F⟩ := T.d_place_of
  refine ⟨fd, T.g_place_of, F.kp, (F.bindsN (ps := ["things", "word"]) fun _ _ _ _ _ _ us hl => match us, hl with | [_, _], _ => rfl), F.ok sc_place_of sp2_len (fun cdv A outer s H vs Q E hr h => ⟨_, PSs.nox ((pss_cons (ps_setLc (i := 2) (own := [("thing", 3)]) rfl sc_place_of.nd rfl rfl (sw_true rfl rfl rfl (by decide +kernel)) (pi_list (pv 0)) (blkOk_by (N := ["things", "word", "names", "thing"]) (sc := defScope s_place_of) (by decide +kernel)) (fun _ _ _ _ _ => (pg_name (i := 3) sc_place_of.nd rfl (.inl rfl))) (fun _ _ _ _ _ => pts_nil) (fun _ _ _ _ _ => (pe_fldK (K := K) rfl (pv 3) rfl)))
    (pss_one (ps_ret (pe_ifExp (pt_cmpR op_in_seq (pv 1) (pv 2) (by rfl)) (pe_bm PySem.F.plainAttrs_list PySem.F.slot_list_index PySem.F.type_list_index mt_index (pv 2) (pa_cons (pv 1) pa_nil)) (pe_un un_neg pe_int)))))), ?_⟩)⟩
  obtain ⟨_, _, rfl, l, as, ns, x, rfl, rfl, hx, hS, hl, hA, h⟩ := h
  have hlen := hA.len
  refine ⟨_, rfl, l, rfl, ⟨_, hS⟩, fun D hD => ?_⟩
  have hz1 : (as.zip ns).map Prod.fst = as := by rw [List.map_fst_zip]; omega
  have hz2 : (as.zip ns).map Prod.snd = ns := by rw [List.map_snd_zip]; omega
  have hxs : as.map V.ref = (as.zip ns).map fun z => V.ref z.1 := by
    conv => lhs; rw [← hz1]
    rw [List.map_map]
    rfl
  have hnm : ∀ z ∈ as.zip ns, Named K H z.1 z.2 := fun z hz => by
    obtain ⟨i, hi⟩ := List.mem_iff_getElem?.mp hz
    rw [List.getElem?_zip_eq_some] at hi
    exact hA.at_ i _ _ hi.1 hi.2
  refine lc_gen (walk_list (K := K) (a := l) (xs := as.map V.ref)) (zs := as.zip ns) (fun z => [some (.ref l), some (wv x), none, some (.ref z.1)]) (fun _ => true) (fun z => wv z.2) (by rw [hxs, List.length_map]) (by rw [List.length_zip]; omega) hD
    (fun H' s' => s'.seq hS) (fun _ => rfl) (fun i z H1 y H2 R hz s1 yy q => ?_) (fun z H1 R hm s1 q => q H1 (Same.refl H1)) (fun z H1 R hm _ s1 q => ?_) (fun H' s1 hD' => ?_)
  · obtain ⟨rfl, hy⟩ := yy
    rw [hxs] at hy
    obtain ⟨z', hz', rfl⟩ := map_get hy
    rw [hz] at hz'
    cases hz'
    exact q _ (Same.refl _)
  · rcases hnm z hm with ⟨dx, k, lo, hi, hc⟩ | ⟨dx, sa, ia, hc⟩
    · exact T.v_Cell_name (val_var rfl) (s1 _ _ hc) _ (q H1 (Same.refl H1))
    · exact T.v_Task_name (val_var rfl) (s1 _ _ hc) _ (q H1 (Same.refl H1))
  · rw [List.filter_eq_self.mpr (fun _ _ => rfl)] at hD'
    have hN : H' D = some (.lst (ns.map wv)) := by
      rw [hD']
      conv => rhs; rw [← hz2]
      rw [List.map_map]
      rfl
    refine st_ret (val_if (ans_of (val_inL (val_var rfl) (val_var rfl) (SqL.of hN) rfl (flat_wv _))) (fun e => ?_) (fun e => ?_)) (h H' s1)
    · rw [inV_wv hx] at e
      unfold idx
      cases e1 : ns.findIdx? fun v => v == x with
      | none => rw [e1] at e; cases e
      | some i => exact fun Q q => ⟨_, rfl, .inl ⟨rfl, _, SqL.of hN⟩, _, rfl, index_wv hx (SqL.of hN) e1 q⟩
    · rw [inV_wv hx] at e
      unfold idx
      cases e1 : ns.findIdx? fun v => v == x with
      | none => exact val_neg val_c
      | some i => rw [e1] at e; cases e
def cellSp (K : PySem.W.Frag) : Sp := sp3 fun a b ks H Q E => ∃ (pa dxp ca ta ga k : Addr) (cs : List Addr) (p : Xb15.Program) (x : Xb15.Bytes) (l : List Str) (ok : Xb15.Kind → Bool), a = .ref pa ∧ b = wv x ∧ ks = .ref k ∧ x.length ≤ 20000 ∧ atProgram K H pa dxp (.ref ca) (.ref ta) (.ref ga) ∧ SqL K H ca (cs.map V.ref) ∧ All2 (CellAt K H) cs p.cells ∧ p.cells.length ≤ 10 ∧ SqT K H k (l.map V.str) ∧ (∀ kd, l.any (· == kindS kd) = ok kd) ∧ Res K E H (Xb15.requireCell p x ok) fun n => ∀ H', Same H H' → Q (iv n) H'
theorem sc_find_cell : FnScope ["program", "word", "kinds", "number"] ["program", "word", "kinds"] (defScope s_find_cell) := ⟨rfl, rfl, rfl, by decide +kernel, rfl, by decide +kernel, by decide +kernel⟩
theorem ok_find_cell (T : Tx K w mg) : Df P w K mg base (L2.CX P w) 4 "find_cell" ["program", "word", "kinds"] (cellSp K) := by
  obtain ⟨fd, F⟩ := T.d_find_cell
  refine ⟨fd, T.g_find_cell, F.kp, (F.bindsN (ps := ["program", "word", "kinds"]) fun _ _ _ _ _ _ us hl => match us, hl with | [_, _, _], _ => rfl), F.ok sc_find_cell sp3_len (fun cdv A outer s H vs Q E hr h => ⟨_, ((pss_cons (ps_expr (pe_df (ok_want_right T) (hr.mono (by decide)) pxr (pa_cons (pe_df (ok_is_name T) (hr.mono (by decide)) pass0 (pa_cons (pv 1) pa_nil)) (pa_cons (pe_gi T.c_MALFORMED) pa_nil))))
    (pss_cons (ps_set (i := 3) sc_find_cell.nd rfl (.inl rfl) (pe_df (ok_place_of T) (hr.mono (by decide)) pass0 (pa_cons (pe_fld (pv 0) rfl) (pa_cons (pv 1) pa_nil))))
    (pss_cons (ps_expr (pe_df (ok_want_right T) (hr.mono (by decide)) pxr (pa_cons (pe_cmpR op_ge (pv 3) pe_int (nomark _)) (pa_cons (pe_gi T.c_MISNAMED) pa_nil))))
    (pss_cons (ps_expr (pe_df (ok_want_right T) (hr.mono (by decide)) pxr (pa_cons (pe_cmpR op_in_seq (pe_fld (pe_ix ix_list (pe_fld (pv 0) rfl) (pv 3) (fun _ _ => rfl)) rfl) (pv 2) (by rfl)) (pa_cons (pe_gi T.c_MISPLACED) pa_nil))))
    (pss_one (ps_ret (pv 3)))))))), ?_⟩)⟩
  obtain ⟨_, _, _, rfl, pa, dxp, ca, ta, ga, k, cs, p, x, l, ok, rfl, rfl, rfl, hxl, hp, hS, hA, hlen, hk, hok, h⟩ := h
  unfold Xb15.requireCell at h
  refine st_wantH 1 ⟨_, rfl, _, rfl, x, rfl, hxl, fun H1 s1 => ⟨_, rfl, fun e1 => ?_, fun e1 => ?_⟩⟩ rfl
  · rw [e1, if_neg (by decide)] at h
    have hp1 := s1 _ _ hp
    refine st_asg (call2 (T.v_Program_cells (val_var rfl) hp1) (val_var rfl) ⟨ca, cs, p.cells.map Xb15.Cell.name, x, rfl, rfl, right_name e1, s1.seq hS, by have := hA.len; omega, named_cells s1 hA, fun H2 s2 => ?_⟩)
    have s12 := s1.trans s2
    have hix : idx (p.cells.map Xb15.Cell.name) x = match Xb15.findCell p x with
      | some i => i
      | none => -1 := by unfold idx; rw [findIdx_map]; rfl
    rw [hix]
    cases hf : Xb15.findCell p x with
    | none =>
      rw [hf] at h
      exact st_wantI 2 (val_var rfl) val_c (fun e => by simp at e) (fun _ => Err.mono s12 h) rfl
    | some c =>
      rw [hf] at h
      have hc : c < p.cells.length := findIdx_lt' hf
      obtain ⟨a, ha, ⟨dx, hx⟩⟩ := hA.get (i := c) (b := p.cells[c]) (by simp [hc])
      refine st_wantI 2 (val_var rfl) val_c (fun _ => ?_) (fun e => by simp at e) rfl
      refine st_want 3 (val_inT (T.v_Cell_kind (val_ixL (T.v_Program_cells (val_var rfl) (s12 _ _ hp)) (val_var rfl) (s12.seq hS) (atI_nat (j := c) (by rw [List.getElem?_map, ha]; rfl))) (s12 _ _ hx)) (val_var rfl) (GW.Same.sqt s12 hk) rfl (flat_strs l)) (fun e => ?_) (fun e => ?_) rfl
      all_goals
        rw [inV_strs, hok] at e
        have ek : Xb15.cellKind p c = p.cells[c].kind := by unfold Xb15.cellKind; simp [hc]
        simp only [ek, e] at h
      · exact st_ret (val_var rfl) (h H2 s12)
      · exact Err.mono s12 h
  · rw [e1, if_pos rfl] at h
    exact Err.mono s1 h
def taskSp (K : PySem.W.Frag) : Sp := sp2 fun a b H Q E => ∃ (pa dxp ca ta ga : Addr) (ts : List Addr) (ns : List Xb15.Bytes) (x : Xb15.Bytes), a = .ref pa ∧ b = wv x ∧ x.length ≤ 20000 ∧ atProgram K H pa dxp (.ref ca) (.ref ta) (.ref ga) ∧ SqL K H ta (ts.map V.ref) ∧ All2 (Named K H) ts ns ∧ ns.length ≤ 10 ∧ Res K E H (if Xb15.isName x = false then .error 1 else match ns.findIdx? fun v => v == x with | none => .error 2 | some i => .ok i) fun n => ∀ H', Same H H' → Q (iv n) H'
theorem sc_find_task : FnScope ["program", "word", "number"] ["program", "word"] (defScope s_find_task) := ⟨rfl, rfl, rfl, by decide +kernel, rfl, by decide +kernel, by decide +kernel⟩
theorem ok_find_task (T : Tx K w mg) : Df P w K mg base (L2.CX P w) 4 "find_task" ["program", "word"] (taskSp K) := by
  obtain ⟨fd, F⟩ := T.d_find_task
  refine ⟨fd, T.g_find_task, F.kp, (F.bindsN (ps := ["program", "word"]) fun _ _ _ _ _ _ us hl => match us, hl with | [_, _], _ => rfl), F.ok sc_find_task sp2_len (fun cdv A outer s H vs Q E hr h => ⟨_, ((pss_cons (ps_expr (pe_df (ok_want_right T) (hr.mono (by decide)) pxr (pa_cons (pe_df (ok_is_name T) (hr.mono (by decide)) pass0 (pa_cons (pv 1) pa_nil)) (pa_cons (pe_gi T.c_MALFORMED) pa_nil))))
    (pss_cons (ps_set (i := 2) sc_find_task.nd rfl (.inl rfl) (pe_df (ok_place_of T) (hr.mono (by decide)) pass0 (pa_cons (pe_fld (pv 0) rfl) (pa_cons (pv 1) pa_nil))))
    (pss_cons (ps_expr (pe_df (ok_want_right T) (hr.mono (by decide)) pxr (pa_cons (pe_cmpR op_ge (pv 2) pe_int (nomark _)) (pa_cons (pe_gi T.c_MISNAMED) pa_nil))))
    (pss_one (ps_ret (pv 2))))))), ?_⟩)⟩
  obtain ⟨_, _, rfl, pa, dxp, ca, ta, ga, ts, ns, x, rfl, rfl, hxl, hp, hS, hA, hlen, h⟩ := h
  refine st_wantH 1 ⟨_, rfl, _, rfl, x, rfl, hxl, fun H1 s1 => ⟨_, rfl, fun e1 => ?_, fun e1 => ?_⟩⟩ rfl
  · rw [e1, if_neg (by decide)] at h
    refine st_asg (call2 (T.v_Program_tasks (val_var rfl) (s1 _ _ hp)) (val_var rfl) ⟨ta, ts, ns, x, rfl, rfl, right_name e1, s1.seq hS, by have := hA.len; omega, hA.mono fun _ _ _ z => z.mono s1, fun H2 s2 => ?_⟩)
    have s12 := s1.trans s2
    unfold idx
    cases hf : ns.findIdx? fun v => v == x with
    | none =>
      rw [hf] at h
      exact st_wantI 2 (val_var rfl) val_c (fun e => by simp at e) (fun _ => Err.mono s12 h) rfl
    | some c =>
      rw [hf] at h
      exact st_wantI 2 (val_var rfl) val_c (fun _ => st_ret (val_var rfl) (h H2 s12)) (fun e => by simp at e) rfl
  · rw [e1, if_pos rfl] at h
    exact Err.mono s1 h
def newSp (K : PySem.W.Frag) : Sp := sp2 fun a b H Q E => ∃ (pa dxp ca ta ga : Addr) (cs ts : List Addr) (nc nt : List Xb15.Bytes) (x : Xb15.Bytes), a = .ref pa ∧ b = wv x ∧ RightW x ∧ atProgram K H pa dxp (.ref ca) (.ref ta) (.ref ga) ∧ SqL K H ca (cs.map V.ref) ∧ All2 (Named K H) cs nc ∧ nc.length ≤ 10 ∧ SqL K H ta (ts.map V.ref) ∧ All2 (Named K H) ts nt ∧ nt.length ≤ 10 ∧ Res K E H (if ((nc.findIdx? fun v => v == x).isNone && (nt.findIdx? fun v => v == x).isNone) = false then .error 2 else .ok ()) fun _ => ∀ H', Same H H' → Q .non H'
theorem sc_want_new_name : FnScope ["program", "word"] ["program", "word"] (defScope s_want_new_name) := ⟨rfl, rfl, rfl, by decide +kernel, rfl, by decide +kernel, by decide +kernel⟩
theorem ok_want_new_name (T : Tx K w mg) : Df P w K mg base (L2.CX P w) 4 "want_new_name" ["program", "word"] (newSp K) := by
  obtain ⟨fd, F⟩ := T.d_want_new_name
  refine ⟨fd, T.g_want_new_name, F.kp, (F.bindsN (ps := ["program", "word"]) fun _ _ _ _ _ _ us hl => match us, hl with | [_, _], _ => rfl), F.ok sc_want_new_name sp2_len (fun cdv A outer s H vs Q E hr h => ⟨_, ((pss_one (ps_expr (pe_df (ok_want_right T) (hr.mono (by decide)) pxr (pa_cons (pe_and (pe_cmpR op_lt (pe_df (ok_place_of T) (hr.mono (by decide)) pass0 (pa_cons (pe_fld (pv 0) rfl) (pa_cons (pv 1) pa_nil))) pe_int (nomark _)) (pe_one (pe_cmpR op_lt (pe_df (ok_place_of T) (hr.mono (by decide)) pass0 (pa_cons (pe_fld (pv 0) rfl) (pa_cons (pv 1) pa_nil))) pe_int (nomark _)))) (pa_cons (pe_gi T.c_MISNAMED) pa_nil)))))), ?_⟩)⟩
  obtain ⟨_, _, rfl, pa, dxp, ca, ta, ga, cs, ts, nc, nt, x, rfl, rfl, hx, hp, hS, hA, hlen, hS2, hA2, hlen2, h⟩ := h
  have low : ∀ ns : List Xb15.Bytes, decide (idx ns x < 0) = (ns.findIdx? fun v => v == x).isNone := fun ns => by
    unfold idx
    cases ns.findIdx? fun v => v == x with
    | none => rfl
    | some i =>
      simp

  refine st_wantH 2 (opIH (call2 (T.v_Program_cells (val_var rfl) hp) (val_var rfl) ⟨ca, cs, nc, x, rfl, rfl, hx, hS, by have := hA.len; omega, hA, fun H1 s1 => ⟨_, rfl, _, rfl, ?_⟩⟩)) rfl
  rw [low]
  refine ifb (fun e => ?_) (fun e => ?_)
  · refine opIH (call2 (T.v_Program_tasks (val_var rfl) (s1 _ _ hp)) (val_var rfl) ⟨ta, ts, nt, x, rfl, rfl, hx, s1.seq hS2, by have := hA2.len; omega, hA2.mono fun _ _ _ z => z.mono s1, fun H2 s2 => ⟨_, rfl, _, rfl, fun e' => ?_, fun e' => ?_⟩⟩)
    all_goals
      rw [low] at e'
      rw [e, e'] at h
    · exact h H2 (s1.trans s2)
    · exact Err.mono (s1.trans s2) h
  · refine ⟨_, rfl, fun e' => ?_, fun e' => ?_⟩
    · cases e'
    · rw [e] at h
      exact Err.mono s1 h
theorem Tx.this_task (T : Tx K w mg) {ta : TE} {σ : L2.St} {H : Hp} {L : Lay} {s : Xb15.ParseState} {t : Xb15.Task} (h : Val ta σ H (.ref L.r)) (R : RdAt K H L s) (hn : s.now = some t) : Val (tMeth (He.ga K "Reading") "this_task" (thisSp K) [] E0 ta tNil) σ H (.ref L.t0) := fun Q q =>
  h _ ⟨L.r, _, _, rfl, R.rd, lk_Reading_this_task, _, rfl, L, s, t, rfl, R, hn, q⟩
def addSp (K : PySem.W.Frag) : Sp := sp2 fun a b H Q E => ∃ L s t i n x, a = .ref L.r ∧ b = .ref x ∧ RdAt K H L s ∧ s.now = some t ∧ t.code.length ≤ 40 ∧ L.ex = [x] ∧ InsAt K (wo H (L.M s.now)) H x (i, n) ∧ Res K E (wo H (L.M s.now)) (Xb15.addInstruction s t i n) fun s' => ∀ H', Kp H L.ia H' → RdAt K H' { L with is := L.is ++ [x], ex := [] } s' → Q .non H'
theorem same_wo {H H' : Hp} {M : List Addr} (e : Same H H') : Same (wo H M) H' := (wo_same H M).trans e
theorem sc_add_instruction : FnScope ["reading", "instruction", "task"] ["reading", "instruction"] (defScope s_add_instruction) := ⟨rfl, rfl, rfl, by decide +kernel, rfl, by decide +kernel, by decide +kernel⟩
theorem ok_add_instruction (T : Tx K w mg) : Df P w K mg base (L2.CX P w) 4 "add_instruction" ["reading", "instruction"] (addSp K) := by
  obtain ⟨fd, F⟩ := T.d_add_instruction
  refine ⟨fd, T.g_add_instruction, F.kp, (F.bindsN (ps := ["reading", "instruction"]) fun _ _ _ _ _ _ us hl => match us, hl with | [_, _], _ => rfl), F.ok sc_add_instruction sp2_len (fun cdv A outer s H vs Q E hr h => ⟨_, ((pss_cons (ps_set (i := 2) sc_add_instruction.nd rfl (.inl rfl) (pe_me0 T.k_Reading T.t_this_task (ok_Reading_this_task T) (hr.mono (by decide)) pass0 (pv 0)))
    (pss_cons (ps_expr (pe_df (ok_want_right T) (hr.mono (by decide)) pxr (pa_cons (pe_cmpR op_lt (pe_callB call_len (by rfl) T.f_len (by decide +kernel) (pa_cons (pe_fld (pv 2) rfl) pa_nil)) (pe_gi T.c_MOST_INSTRUCTIONS) (nomark _)) (pa_cons (pe_gi T.c_EXCEEDED) pa_nil))))
    (pss_one (ps_expr (pe_bm PySem.F.plainAttrs_list PySem.F.slot_list_append PySem.F.type_list_append mt_append (pe_fld (pv 2) rfl) (pa_cons (pv 1) pa_nil))))))), ?_⟩)⟩
  obtain ⟨_, _, rfl, L, s', t, i, n, x, rfl, rfl, R, hn, hl, hx, hI, h⟩ := h
  obtain ⟨r1, r2, r3, r4⟩ := R.now t hn
  have r1' := wo_same _ _ _ _ r1
  refine st_set (T.this_task (val_var rfl) R hn) ?_
  unfold Xb15.addInstruction at h
  refine st_wantI 5 (val_len (T.v_Task_instructions (val_var rfl) r1') (SqL.of r3)) val_c (fun e => ?_) (fun e => ?_) rfl
  · have hc := r4.len
    rw [List.length_map] at e
    have e' : L.is.length < 40 := by have := of_decide_eq_true e; omega
    rw [if_neg (by omega)] at h
    refine st_append (T.v_Task_instructions (val_var rfl) r1') (val_var rfl) r3 (by rw [List.length_map]; omega) ?_
    exact h _ (Kp.refl H L.ia).upd (R.next hn hx hI)
  · have hc := r4.len
    rw [List.length_map] at e
    have e' : ¬ L.is.length < 40 := by have := of_decide_eq_false e; omega
    rw [if_pos (by omega)] at h
    exact Err.mono (wo_same _ _) h
end
end GW
/-! The walk 3: expressions are read -/
namespace GW
open PySem PySem.Spec PyProof.Rows L2
theorem nw_new {H0 H : Hp} {p : Addr} {o : HO} (s : Same H0 H) (hp : H p = none) : nw H0 (upd H p o) p = some o := nw_some.mpr ⟨s.free hp, upd_same⟩
/-- of a task what its expressions are read with -/
def VarsAt (K : PySem.W.Frag) (H : Hp) (a : Addr) (vs : List Xb15.Bytes) : Prop := ∃ dx nm sa ia, atTask K H a dx nm (.ref sa) ia ∧ SqL K H sa (vs.map wv) ∧ vs.length ≤ 6
theorem VarsAt.mono {K : PySem.W.Frag} {H H' : Hp} {a : Addr} {vs : List Xb15.Bytes} (e : Same H H') (h : VarsAt K H a vs) : VarsAt K H' a vs := let ⟨dx, nm, sa, ia, h1, h2, h3⟩ := h; ⟨dx, nm, sa, ia, e _ _ h1, e.seq h2, h3⟩
theorem op_words : ∀ k : Fin 5, opS k.val = (["+", "-", "*", "<", "="] : List Str)[k.val]! := by decide +kernel
theorem terms_snoc {H H' : Hp} {ts : List Addr} {l : List (Nat × Xb15.Atom)} {p : Addr} {x : Nat × Xb15.Atom} (h : All2 (TermAt H) ts l) (e : Same H H') (hp : TermAt H' p x) : All2 (TermAt H') (ts ++ [p]) (l ++ [x]) := (h.mono fun _ _ _ z => e _ _ z).snoc hp
theorem parsePairs_0 (t : Xb15.Task) (l : List Xb15.Bytes) : Xb15.parsePairs t 0 l = .error 5 := by cases l <;> rfl
theorem parsePairs_nil (t : Xb15.Task) (f : Nat) : Xb15.parsePairs t (f + 1) [] = .ok [] := rfl
theorem parsePairs_one (t : Xb15.Task) (f : Nat) (s : Xb15.Bytes) : Xb15.parsePairs t (f + 1) [s] = .error 1 := rfl
theorem parsePairs_more (t : Xb15.Task) (f : Nat) (s x : Xb15.Bytes) (l : List Xb15.Bytes) : Xb15.parsePairs t (f + 1) (s :: x :: l) = match Xb15.parseOperator s with
    | none => .error 1
    | some k => do
      let a ← Xb15.parseAtom t x
      let r ← Xb15.parsePairs t f l
      return (k, a) :: r := rfl
theorem cut_at : ∀ ws : List Xb15.Bytes, (∀ i, (ws.findIdx? fun v => v == [44]) = some i → (ws.takeWhile fun v => v != [44]) = ws.take i ∧ (ws.dropWhile fun v => v != [44]) = [44] :: ws.drop (i + 1)) ∧ ((ws.findIdx? fun v => v == [44]) = none → (ws.dropWhile fun v => v != [44]) = [])
  | [] => ⟨fun i h => by simp at h, fun _ => rfl⟩
  | v :: ws => by
    obtain ⟨h1, h2⟩ := cut_at ws
    by_cases hv : v = [44]
    · subst hv
      exact ⟨fun i h => by simp [List.findIdx?_cons] at h; subst h; simp [List.takeWhile, List.dropWhile], fun h => by simp [List.findIdx?_cons] at h⟩
    · have e1 : (v == [44]) = false := by simpa using hv
      have e2 : (v != [44]) = true := by simpa using hv
      rw [List.findIdx?_cons, e1]
      refine ⟨fun i h => ?_, fun h => ?_⟩
      · simp only [if_false, Bool.false_eq_true] at h
        cases hf : ws.findIdx? fun v => v == [44] with
        | none => rw [hf] at h; cases h
        | some j =>
          rw [hf] at h
          cases h
          obtain ⟨z1, z2⟩ := h1 j hf
          simp only [List.takeWhile, List.dropWhile, e2, z1, z2, List.take_succ_cons, List.drop_succ_cons, and_self]
      · simp only [if_false, Bool.false_eq_true] at h
        have hf : (ws.findIdx? fun v => v == [44]) = none := by
          cases hf : ws.findIdx? fun v => v == [44] with
          | none => rfl
          | some j => rw [hf] at h; cases h
        simp only [List.dropWhile, e2, h2 hf]
theorem parseExpPair_cut (t : Xb15.Task) (ws : List Xb15.Bytes) : Xb15.parseExpPair t ws = match ws.findIdx? fun v => v == [44] with
    | none => .error 1
    | some i => do
      let x ← Xb15.parseExp t (ws.take i)
      let y ← Xb15.parseExp t (ws.drop (i + 1))
      return (x, y) := by
  obtain ⟨h1, h2⟩ := cut_at ws
  unfold Xb15.parseExpPair
  cases hf : ws.findIdx? fun v => v == [44] with
  | none => rw [h2 hf]
  | some i =>
    obtain ⟨z1, z2⟩ := h1 i hf
    rw [z1, z2]
theorem parseAtom_nil (t : Xb15.Task) : Xb15.parseAtom t [] = .error 1 := by rfl
/-- an operator by its word -/
theorem op_in (b : Xb15.Bytes) : inV (wv b) [.str "+", .str "-", .str "*", .str "<", .str "="] = (Xb15.parseOperator b).isSome ∧ ∀ k, Xb15.parseOperator b = some k → wv b = .str (opS k) := by
  have a1 := phi_ascii (z := "+") (w := [43]) (by decide +kernel) (fun c hc => by simp at hc; subst hc; unfold Right; omega) b
  have a2 := phi_ascii (z := "-") (w := [45]) (by decide +kernel) (fun c hc => by simp at hc; subst hc; unfold Right; omega) b
  have a3 := phi_ascii (z := "*") (w := [42]) (by decide +kernel) (fun c hc => by simp at hc; subst hc; unfold Right; omega) b
  have a4 := phi_ascii (z := "<") (w := [60]) (by decide +kernel) (fun c hc => by simp at hc; subst hc; unfold Right; omega) b
  have a5 := phi_ascii (z := "=") (w := [61]) (by decide +kernel) (fun c hc => by simp at hc; subst hc; unfold Right; omega) b
  have e : Xb15.parseOperator b = if b = [43] then some 0 else if b = [45] then some 1 else if b = [42] then some 2 else if b = [60] then some 3 else if b = [61] then some 4 else none := by
    have e0 : ["+", "-", "*", "<", "="].map Xb15.ascii = [[43], [45], [42], [60], [61]] := by decide +kernel
    unfold Xb15.parseOperator
    rw [e0]
    simp only [List.findIdx?_cons, List.findIdx?_nil, beq_iff_eq]
    by_cases h1 : b = [43]
    · subst h1; rfl
    by_cases h2 : b = [45]
    · subst h2; rfl
    by_cases h3 : b = [42]
    · subst h3; rfl
    by_cases h4 : b = [60]
    · subst h4; rfl
    by_cases h5 : b = [61]
    · subst h5; rfl
    simp [h1, h2, h3, h4, h5, Ne.symm h1, Ne.symm h2, Ne.symm h3, Ne.symm h4, Ne.symm h5]
  rw [e]
  have i : inV (wv b) [.str "+", .str "-", .str "*", .str "<", .str "="] = (decide (b = [43]) || (decide (b = [45]) || (decide (b = [42]) || (decide (b = [60]) || decide (b = [61]))))) := by
    show (((Str.ofString "+") == phi b) || (((Str.ofString "-") == phi b) || (((Str.ofString "*") == phi b) || (((Str.ofString "<") == phi b) || (((Str.ofString "=") == phi b) || false))))) = _
    rw [Bool.or_false]
    have c : ∀ (z : Str) (l : Xb15.Bytes), (phi b = z ↔ b = l) → (z == phi b) = decide (b = l) := fun z l h => by
      rw [Bool.eq_iff_iff]
      simp only [beq_iff_eq, decide_eq_true_eq]
      exact ⟨fun q => h.mp q.symm, fun q => (h.mpr q).symm⟩
    rw [c _ _ a1, c _ _ a2, c _ _ a3, c _ _ a4, c _ _ a5]
  rw [i]
  by_cases h1 : b = [43]
  · subst h1; exact ⟨by decide, fun k hk => by cases hk; exact congrArg V.str (a1.mpr rfl)⟩
  by_cases h2 : b = [45]
  · subst h2; exact ⟨by decide, fun k hk => by cases hk; exact congrArg V.str (a2.mpr rfl)⟩
  by_cases h3 : b = [42]
  · subst h3; exact ⟨by decide, fun k hk => by cases hk; exact congrArg V.str (a3.mpr rfl)⟩
  by_cases h4 : b = [60]
  · subst h4; exact ⟨by decide, fun k hk => by cases hk; exact congrArg V.str (a4.mpr rfl)⟩
  by_cases h5 : b = [61]
  · subst h5; exact ⟨by decide, fun k hk => by cases hk; exact congrArg V.str (a5.mpr rfl)⟩
  simp [h1, h2, h3, h4, h5]
section
variable {P : Program} {w : World} {K : PySem.W.Frag} {mg : Str → Option Value} {base : Heap}
def termSp (K : PySem.W.Frag) : Sp := sp3 fun a o b H Q E => ∃ t0 t k x, a = .ref t0 ∧ o = .str (opS k) ∧ b = wv x ∧ x.length ≤ 20000 ∧ VarsAt K H t0 t.vars ∧ Res K E H (Xb15.parseAtom t x) fun at' => ∀ H' p, Same H H' → nw H H' p = some (.tup [.str (opS k), .int (aslot at'), .int (anum at')]) → Q (.ref p) H'
theorem sc_read_term : FnScope ["task", "operator", "word"] ["task", "operator", "word"] (defScope s_read_term) := ⟨rfl, rfl, rfl, by decide +kernel, rfl, by decide +kernel, by decide +kernel⟩
theorem ok_read_term (T : Tx K w mg) : Df P w K mg base (L2.CX P w) 4 "read_term" ["task", "operator", "word"] (termSp K) := by
  obtain ⟨fd, F⟩ := T.d_read_term
  refine ⟨fd, T.g_read_term, F.kp, (F.bindsN (ps := ["task", "operator", "word"]) fun _ _ _ _ _ _ us hl => match us, hl with | [_, _, _], _ => rfl), F.ok sc_read_term sp3_len (fun cdv A outer s H vs Q E hr h => ⟨_, ((pss_cons (ps_if (pt_val (pe_df (ok_is_number T) (hr.mono (by decide)) pass0 (pa_cons (pv 2) pa_nil)))
      (pss_one (ps_ret (pe_tup (pa_cons (pv 1) (pa_cons (pe_un un_neg pe_int) (pa_cons (pe_callTy call_int_str (by rfl) T.f_int (by decide +kernel) (pa_cons (pv 2) pa_nil)) pa_nil))))))
      pss_nil)
    (pss_cons (ps_expr (pe_df (ok_want_right T) (hr.mono (by decide)) pxr (pa_cons (pe_df (ok_is_name T) (hr.mono (by decide)) pass0 (pa_cons (pv 2) pa_nil)) (pa_cons (pe_gi T.c_MALFORMED) pa_nil))))
    (pss_cons (ps_expr (pe_df (ok_want_right T) (hr.mono (by decide)) pxr (pa_cons (pe_cmpR op_in_seq (pv 2) (pe_fld (pv 0) rfl) (by rfl)) (pa_cons (pe_gi T.c_MISNAMED) pa_nil))))
    (pss_one (ps_ret (pe_tup (pa_cons (pv 1) (pa_cons (pe_bm PySem.F.plainAttrs_list PySem.F.slot_list_index PySem.F.type_list_index mt_index (pe_fld (pv 0) rfl) (pa_cons (pv 2) pa_nil)) (pa_cons pe_int pa_nil)))))))))), ?_⟩)⟩
  obtain ⟨_, _, _, rfl, t0, t, k, x, rfl, rfl, rfl, hxl, hV, h⟩ := h
  unfold Xb15.parseAtom at h
  have hnum : Val (tCall (numberSp K) [] E0 (tCons (tVar 2) tNil)) [some (.ref t0), some (.str (opS k)), some (wv x)] H (.bl (Xb15.parseInt? x).isSome) := fun Q q => call1 (val_var rfl) ⟨x, rfl, hxl, q⟩
  refine st_if (ans_ofB hnum) (fun e => ?_) (fun e => ?_)
  · obtain ⟨z, hz⟩ := Option.isSome_iff_exists.mp e
    rw [hz] at h
    obtain ⟨i1, i2⟩ := int_word hz
    exact st_retH (tup3 (val_var rfl) (val_neg val_c) (val_int (val_var rfl) i1 i2) fun p hp => h _ p (same_upd hp) (nw_new (Same.refl H) hp))
  · have hz : Xb15.parseInt? x = none := by simpa using e
    rw [hz] at h
    refine st_wantH 1 (call1 (val_var rfl) ⟨x, rfl, hxl, fun H1 s1 => ⟨_, rfl, fun e1 => ?_, fun e1 => ?_⟩⟩) rfl
    · simp only [e1, if_true] at h
      obtain ⟨dx, nm, sa, ia, q1, q2, q3⟩ := hV.mono s1
      refine st_want 2 (val_inL (val_var rfl) (T.v_Task_slots (val_var rfl) q1) q2 rfl (flat_wv _)) (fun e2 => ?_) (fun e2 => ?_) rfl
      all_goals rw [inV_wv (right_name e1)] at e2
      · obtain ⟨i, hi⟩ := Option.isSome_iff_exists.mp e2
        rw [hi] at h
        refine st_retH (tup3 (val_var rfl) (val_index (T.v_Task_slots (val_var rfl) q1) (val_var rfl) (right_name e1) q2 hi) val_c fun p hp => h _ p (same_new s1 (s1.free hp)) (nw_new s1 hp))
      · have hi : (t.vars.findIdx? fun v => v == x) = none := by simpa using e2
        rw [hi] at h
        exact Err.mono s1 h
    · simp only [e1] at h
      exact Err.mono s1 h
def expSp (K : PySem.W.Frag) : Sp := sp2 fun a b H Q E => ∃ t0 t l ws, a = .ref t0 ∧ b = .ref l ∧ VarsAt K H t0 t.vars ∧ SqL K H l (ws.map wv) ∧ ws.length ≤ 20000 ∧ (∀ x ∈ ws, x.length ≤ 20000) ∧ Res K E H (Xb15.parseExp t ws) fun e => ∀ H' fa, Same H H' → TermsAt (nw H H') fa (terms e) → Q (.ref fa) H'
theorem sc_read_expression : FnScope ["task", "words", "found", "at"] ["task", "words"] (defScope s_read_expression) := ⟨rfl, rfl, rfl, by decide +kernel, rfl, by decide +kernel, by decide +kernel⟩
theorem ok_read_expression (T : Tx K w mg) : Df P w K mg base (L2.CX P w) 5 "read_expression" ["task", "words"] (expSp K) := by
  obtain ⟨fd, F⟩ := T.d_read_expression
  refine ⟨fd, T.g_read_expression, F.kp, (F.bindsN (ps := ["task", "words"]) fun _ _ _ _ _ _ us hl => match us, hl with | [_, _], _ => rfl), F.ok sc_read_expression sp2_len (fun cdv A outer s H vs Q E hr h => ⟨_, ((pss_cons (ps_set (i := 2) sc_read_expression.nd rfl (.inl rfl) (pe_lst (pa_cons (pe_df (ok_read_term T) (hr.mono (by decide)) pxr (pa_cons (pv 0) (pa_cons pe_str (pa_cons (pe_df (ok_word_at T) (hr.mono (by decide)) pass0 (pa_cons (pv 1) (pa_cons pe_int pa_nil))) pa_nil)))) pa_nil)))
    (pss_cons (ps_for (passes_of rfl) rfl (pi_range3 (by rfl) T.f_range (pa_cons pe_int (pa_cons (pe_callB call_len (by rfl) T.f_len (by decide +kernel) (pa_cons (pv 1) pa_nil)) (pa_cons pe_int pa_nil)))) (pg_name (i := 3) sc_read_expression.nd rfl (.inl rfl))
      (pss_cons (ps_expr (pe_df (ok_want_right T) (hr.mono (by decide)) pxr (pa_cons (pe_cmpR op_in_seq (pe_ix ix_list (pv 1) (pv 3) (fun _ _ => rfl)) (pe_gr T.g_OPERATORS) (by rfl)) (pa_cons (pe_gi T.c_MALFORMED) pa_nil))))
    (pss_cons (ps_expr (pe_bm PySem.F.plainAttrs_list PySem.F.slot_list_append PySem.F.type_list_append mt_append (pv 2) (pa_cons (pe_df (ok_read_term T) (hr.mono (by decide)) pxr (pa_cons (pv 0) (pa_cons (pe_ix ix_list (pv 1) (pv 3) (fun _ _ => rfl)) (pa_cons (pe_df (ok_word_at T) (hr.mono (by decide)) pass0 (pa_cons (pv 1) (pa_cons (pe_op op_add (pv 3) pe_int) pa_nil))) pa_nil)))) pa_nil)))
    (pss_one (ps_expr (pe_df (ok_want_right T) (hr.mono (by decide)) pxr (pa_cons (pe_cmpR op_le (pe_op op_sub (pe_callB call_len (by rfl) T.f_len (by decide +kernel) (pa_cons (pv 2) pa_nil)) pe_int) (pe_gi T.c_MOST_OPERATORS) (nomark _)) (pa_cons (pe_gi T.c_EXCEEDED) pa_nil))))))))
    (pss_one (ps_ret (pv 2)))))), ?_⟩)⟩
  obtain ⟨_, _, rfl, t0, t, l, ws, rfl, rfl, hV, hS, hl, hw, h⟩ := h
  have hget : ∀ i, (ws.getD i []).length ≤ 20000 := fun i => by
    rw [List.getD_eq_getElem?_getD]
    cases e : ws[i]? with
    | none => simp
    | some y => exact hw y (List.mem_of_getElem? e)
  have hat : ∀ {H1 : Hp} {σ : L2.St} {ti : TE} {i : Nat}, Same H H1 → σ[1]? = some (some (.ref l)) → Val ti σ H1 (iv i) → Val (tCall (wordAtSp K) [] E0 (tCons (tVar 1) (tCons ti tNil))) σ H1 (wv (ws.getD i [])) :=
    fun s1 hs hi Q q => call2 (val_var hs) hi ⟨l, ws, _, rfl, rfl, s1.seq hS, q⟩
  have h0 : Res K E H (Xb15.parseAtom t (ws.getD 0 [])) fun a => Res K E H (Xb15.parsePairs t 100 (ws.drop 1)) fun r => ∀ H' fa, Same H H' → TermsAt (nw H H') fa ((0, a) :: r) → Q (.ref fa) H' := by
    cases ws with
    | nil => exact h
    | cons x r =>
      refine (Res.bind h).mono (Same.refl H) fun a _ h1 => (Res.bind h1).mono (Same.refl H) fun r _ h2 => h2
  refine st_asg (lst1H (call3 (val_var rfl) val_c (hat (i := 0) (Same.refl H) rfl val_c) ⟨t0, t, 0, _, rfl, rfl, rfl, hget 0, hV, h0.mono (Same.refl H) fun a _ h1 H1 p s1 hp f hf => ?_⟩))
  have hpf : p ≠ f := fun e => by rw [← e, (nw_some.mp hp).2] at hf; cases hf
  have s1' : Same H (upd H1 f (.lst [.ref p])) := same_new s1 (s1.free hf)
  refine st_forC (n := ws.length / 2) (fun i σ H' => ∃ (v : Option V) (ts : List Addr) (done : List (Nat × Xb15.Atom)), σ = [some (.ref t0), some (.ref l), some (.ref f), v] ∧ Same H H' ∧ H' f = some (.lst (ts.map V.ref)) ∧ All2 (TermAt (nw H H')) ts ((0, a) :: done) ∧ done.length = i ∧ i ≤ 99 ∧
      Res K E H (Xb15.parsePairs t (100 - i) (ws.drop (1 + 2 * i))) fun r => ∀ H' fa, Same H H' → TermsAt (nw H H') fa ((0, a) :: (done ++ r)) → Q (.ref fa) H')
    val_c (val_lenM (val_var rfl) (s1'.seq hS)) val_c (rgC2 (by omega)) ⟨none, [p], [], rfl, s1', upd_same, ?_, rfl, by decide, h1⟩ ?_ ?_
  · refine All2.cons ?_ All2.nil
    refine nw_some.mpr ⟨(nw_some.mp hp).1, ?_⟩
    rw [upd_ne hpf]
    exact (nw_some.mp hp).2
  · rintro i σ H' hi ⟨v, ts, done, rfl, s', hf', hA, hd, hi9, hr⟩
    have hlt : 1 + 2 * i < ws.length := by omega
    have hcast : V.int (1 + (i : Int) * 2) = iv (1 + 2 * i) := by show V.int _ = V.int _; congr 1; omega
    have hdrop : ws.drop (1 + 2 * i) = ws[1 + 2 * i] :: ws.drop (2 + 2 * i) := by rw [List.drop_eq_getElem_cons hlt]; congr 2; omega
    rw [hdrop] at hr
    generalize hsv : ws[1 + 2 * i] = sg at hr
    have hat1 : (ws.map wv)[1 + 2 * i]? = some (wv sg) := by rw [List.getElem?_map, List.getElem?_eq_getElem hlt, hsv]; rfl
    obtain ⟨o1, o2⟩ := op_in sg
    rw [hcast]
    have hf0 : H f = none := s1.free hf
    refine st_want 1 (val_inT (val_ixL (val_var rfl) (val_var rfl) (s'.seq hS) (atI_nat hat1)) val_c (tupAt_ok T.tu_OPERATORS H') rfl rfl) (fun e => ?_) (fun e => ?_) rfl
    · rw [o1] at e
      obtain ⟨k, hk⟩ := Option.isSome_iff_exists.mp e
      have hRes : Res K E H (Xb15.parseAtom t (ws.getD (2 + 2 * i) [])) fun b => Res K E H (Xb15.parsePairs t (99 - i) (ws.drop (3 + 2 * i))) fun r => ∀ H' fa, Same H H' → TermsAt (nw H H') fa ((0, a) :: ((done ++ [(k, b)]) ++ r)) → Q (.ref fa) H' := by
        rw [show 100 - i = (99 - i) + 1 by omega] at hr
        by_cases hl2 : 2 + 2 * i < ws.length
        · have e2 : ws.drop (2 + 2 * i) = ws[2 + 2 * i] :: ws.drop (3 + 2 * i) := by rw [List.drop_eq_getElem_cons hl2]; congr 2; omega
          have e3 : ws.getD (2 + 2 * i) [] = ws[2 + 2 * i] := by simp [hl2]
          rw [e2, parsePairs_more, hk] at hr
          rw [e3]
          refine (Res.bind hr).mono (Same.refl H) fun b _ h1 => (Res.bind h1).mono (Same.refl H) fun r _ h2 H' fa q1 q2 => h2 H' fa q1 ?_
          rw [List.append_assoc] at q2
          exact q2
        · have e2 : ws.drop (2 + 2 * i) = [] := List.drop_eq_nil_of_le (by omega)
          have e3 : ws.getD (2 + 2 * i) [] = [] := by rw [List.getD_eq_getElem?_getD, List.getElem?_eq_none (by omega)]; rfl
          rw [e2, parsePairs_one] at hr
          rw [e3, parseAtom_nil]
          exact hr
      refine ⟨_, rfl, .inl ⟨rfl, _, SqL.of hf'⟩, call3 (val_var rfl) (val_is (val_ixL (val_var rfl) (val_var rfl) (s'.seq hS) (atI_nat hat1)) (o2 k hk)) (hat (i := 2 + 2 * i) s' rfl (val_is (val_add (val_var rfl) val_c) (by show V.int _ = V.int _; congr 1; show ((1 + 2 * i : Nat) : Int) + 1 = _; omega))) ⟨t0, t, k, _, rfl, rfl, rfl, hget _, hV.mono s', hRes.mono s' fun b _ h2 H2 q s2 hq => ?_⟩⟩
      have hq2 := nw_some.mp hq
      have hqf : q ≠ f := fun e => by rw [e, hf'] at hq2; cases hq2.1
      have hlen := hA.len
      simp only [List.length_cons] at hlen
      have hf2 := s2 _ _ hf'
      refine ⟨f, _, _, rfl, rfl, hf2, by rw [List.length_map]; exact lineN (by omega), ?_⟩
      have s3 : Same H (upd H2 f (.lst (ts.map V.ref ++ [.ref q]))) := same_new (s'.trans s2) hf0
      have hA3 : All2 (TermAt (nw H (upd H2 f (.lst (ts.map V.ref ++ [.ref q]))))) (ts ++ [q]) ((0, a) :: (done ++ [(k, b)])) := by
        refine All2.snoc (l := ts) (m := (0, a) :: done) (hA.mono fun x y _ z => ?_) ?_
        · obtain ⟨z1, z2⟩ := nw_some.mp z
          refine nw_some.mpr ⟨z1, ?_⟩
          rw [upd_ne (fun e => by rw [e, hf'] at z2; cases z2)]
          exact s2 _ _ z2
        · refine nw_some.mpr ⟨s'.free hq2.1, ?_⟩
          rw [upd_ne hqf]
          exact hq2.2
      have hf3 : upd H2 f (.lst (ts.map V.ref ++ [.ref q])) f = some (.lst ((ts ++ [q]).map V.ref)) := by rw [upd_same]; simp
      refine st_wantI 5 (val_sub (val_lenM (val_var rfl) (SqL.of hf3)) val_c) val_c (fun e4 => ?_) (fun e4 => ?_) rfl
      · have e5 := of_decide_eq_true e4
        rw [List.length_append] at e5
        simp only [List.length_cons, List.length_nil] at e5
        refine ⟨_, ts ++ [q], done ++ [(k, b)], rfl, s3, hf3, hA3, by simp [hd], by omega, ?_⟩
        rw [show 100 - (i + 1) = 99 - i by omega, show 1 + 2 * (i + 1) = 3 + 2 * i by omega]
        exact h2
      · have e5 := of_decide_eq_false e4
        rw [List.length_append] at e5
        simp only [List.length_cons, List.length_nil] at e5
        rw [show 99 - i = 0 by omega, parsePairs_0] at h2
        exact Err.mono s3 h2
    · rw [o1] at e
      have hk : Xb15.parseOperator sg = none := by simpa using e
      have : Res K E H (.error 1) fun r : List (Nat × Xb15.Atom) => ∀ H' fa, Same H H' → TermsAt (nw H H') fa ((0, a) :: (done ++ r)) → Q (.ref fa) H' := by
        rw [show 100 - i = (99 - i) + 1 by omega] at hr
        cases hr' : ws.drop (2 + 2 * i) with
        | nil => rw [hr', parsePairs_one] at hr; exact hr
        | cons y r => rw [hr', parsePairs_more, hk] at hr; exact hr
      exact Err.mono s' this
  · rintro σ H' ⟨v, ts, done, rfl, s', hf', hA, hd, hi9, hr⟩
    rw [show 100 - ws.length / 2 = (99 - ws.length / 2) + 1 by omega, List.drop_eq_nil_of_le (by omega), parsePairs_nil] at hr
    refine st_ret (val_var rfl) (hr H' f s' ⟨ts, nw_some.mpr ⟨s1.free hf, hf'⟩, ?_⟩)
    rw [List.append_nil]
    exact hA
def twoSp (K : PySem.W.Frag) : Sp := sp2 fun a b H Q E => ∃ t0 t l ws, a = .ref t0 ∧ b = .ref l ∧ VarsAt K H t0 t.vars ∧ SqL K H l (ws.map wv) ∧ ws.length ≤ 20000 ∧ (∀ x ∈ ws, x.length ≤ 20000) ∧ Res K E H (Xb15.parseExpPair t ws) fun x => ∀ H' p fa sa, Same H H' → nw H H' p = some (.tup [.ref fa, .ref sa]) → TermsAt (nw H H') fa (terms x.1) → TermsAt (nw H H') sa (terms x.2) → Q (.ref p) H'
theorem sc_read_two : FnScope ["task", "words", "at", "first"] ["task", "words"] (defScope s_read_two) := ⟨rfl, rfl, rfl, by decide +kernel, rfl, by decide +kernel, by decide +kernel⟩
theorem ok_read_two (T : Tx K w mg) : Df P w K mg base (L2.CX P w) 6 "read_two" ["task", "words"] (twoSp K) := by
  obtain ⟨fd, F⟩ := T.d_read_two
  refine ⟨fd, T.g_read_two, F.kp, (F.bindsN (ps := ["task", "words"]) fun _ _ _ _ _ _ us hl => match us, hl with | [_, _], _ => rfl), F.ok sc_read_two sp2_len (fun cdv A outer s H vs Q E hr h => ⟨_, ((pss_cons (ps_expr (pe_df (ok_want_right T) (hr.mono (by decide)) pxr (pa_cons (pe_cmpR op_in_seq (pe_gs T.c_COMMA) (pv 1) (by rfl)) (pa_cons (pe_gi T.c_MALFORMED) pa_nil))))
    (pss_cons (ps_set (i := 2) sc_read_two.nd rfl (.inl rfl) (pe_bm PySem.F.plainAttrs_list PySem.F.slot_list_index PySem.F.type_list_index mt_index (pv 1) (pa_cons (pe_gs T.c_COMMA) pa_nil)))
    (pss_cons (ps_set (i := 3) sc_read_two.nd rfl (.inl rfl) (pe_df (ok_read_expression T) (hr.mono (by decide)) pxr (pa_cons (pv 0) (pa_cons (pe_slice sl_list (pv 1) po_none (po_some (pv 2))) pa_nil))))
    (pss_one (ps_ret (pe_tup (pa_cons (pv 3) (pa_cons (pe_df (ok_read_expression T) (hr.mono (by decide)) pxr (pa_cons (pv 0) (pa_cons (pe_slice sl_list (pv 1) (po_some (pe_op op_add (pv 2) pe_int)) po_none) pa_nil))) pa_nil))))))))), ?_⟩)⟩
  obtain ⟨_, _, rfl, t0, t, l, ws, rfl, rfl, hV, hS, hl, hw, h⟩ := h
  have hcR : RightW [44] := fun c hc => by simp at hc; subst hc; unfold Right; omega
  have hcv : V.str "," = wv [44] := congrArg V.str (show Str.ofString "," = phi [44] by decide +kernel)
  rw [parseExpPair_cut] at h
  refine st_want 1 (val_inL val_c (val_var rfl) hS rfl (flat_wv _)) (fun e => ?_) (fun e => ?_) rfl
  all_goals
    rw [hcv, inV_wv hcR] at e
  · obtain ⟨i, hi⟩ := Option.isSome_iff_exists.mp e
    rw [hi] at h
    have h1 := (Res.bind h).mono (Same.refl H) fun x _ h2 => Res.bind h2
    refine st_set (val_index (val_var rfl) (val_is val_c hcv) hcR hS hi) ?_
    dsimp only
    refine st_asg ?_
    refine call2H ?_
    refine ⟨_, rfl, slc_to (k := i) (l := ws) (f := wv) (val_var rfl) (val_var rfl) hS fun q hq => ⟨t0, t, q, ws.take i, rfl, rfl, hV.mono (same_upd hq), SqL.of upd_same, by rw [List.length_take]; omega, fun x hx => hw x (List.mem_of_mem_take hx), h1.mono (same_upd hq) fun e1 _ h2 H1 fa s1 hfa => ?_⟩⟩
    have s1' := (same_upd (o := .lst ((ws.take i).map wv)) hq).trans s1
    have hfa' : TermsAt (nw H H1) fa (terms e1) := hfa.mono (nw_old (same_upd hq))
    dsimp only
    refine st_retH ?_
    refine tup2H ?_
    refine ⟨_, rfl, ?_⟩
    refine call2H ?_
    refine ⟨_, rfl, slc_from (k := i + 1) (l := ws) (f := wv) (val_var rfl) (val_is (val_add (val_var rfl) val_c) (by show V.int _ = V.int _; congr 1)) (s1'.seq hS) fun r hr => ⟨t0, t, r, ws.drop (i + 1), rfl, rfl, hV.mono (same_new s1' (s1'.free hr)), SqL.of upd_same, by rw [List.length_drop]; omega, fun x hx => hw x (List.mem_of_mem_drop hx), h2.mono (same_new s1' (s1'.free hr)) fun e2 _ h3 H2 sa s2 hsa p hp => ?_⟩⟩
    have s2' : Same H H2 := (same_new s1' (s1'.free hr)).trans s2
    refine h3 _ p fa sa (same_new s2' (s2'.free hp)) (nw_new s2' hp) (hfa'.mono (nw_mono ?_)) (hsa.mono ?_)
    · exact ((same_upd hr).trans s2).trans (same_upd hp)
    · exact (nw_old (same_new s1' (s1'.free hr))).trans (nw_mono (same_upd hp))
  · have hi : (ws.findIdx? fun v => v == [44]) = none := by simpa using e
    rw [hi] at h
    exact h
def varSp (K : PySem.W.Frag) : Sp := sp2 fun a b H Q E => ∃ L s t x, a = .ref L.t0 ∧ b = wv x ∧ x.length ≤ 20000 ∧ RdAt K H L s ∧ s.now = some t ∧ t.vars.length ≤ 6 ∧ Res K E (wo H (L.M s.now)) (Xb15.assignVariable t x) fun y => ∀ H', Kp H L.sa H' → RdAt K H' L { s with now := some y.1 } → Q (iv y.2) H'
theorem sc_read_variable : FnScope ["task", "word"] ["task", "word"] (defScope s_read_variable) := ⟨rfl, rfl, rfl, by decide +kernel, rfl, by decide +kernel, by decide +kernel⟩
theorem ok_read_variable (T : Tx K w mg) : Df P w K mg base (L2.CX P w) 4 "read_variable" ["task", "word"] (varSp K) := by
  obtain ⟨fd, F⟩ := T.d_read_variable
  refine ⟨fd, T.g_read_variable, F.kp, (F.bindsN (ps := ["task", "word"]) fun _ _ _ _ _ _ us hl => match us, hl with | [_, _], _ => rfl), F.ok sc_read_variable sp2_len (fun cdv A outer s H vs Q E hr h => ⟨_, ((pss_cons (ps_expr (pe_df (ok_want_right T) (hr.mono (by decide)) pxr (pa_cons (pe_df (ok_is_name T) (hr.mono (by decide)) pass0 (pa_cons (pv 1) pa_nil)) (pa_cons (pe_gi T.c_MALFORMED) pa_nil))))
    (pss_cons (ps_if (pt_cmpR op_notIn_seq (pv 1) (pe_fld (pv 0) rfl) (by rfl))
      (pss_cons (ps_expr (pe_df (ok_want_right T) (hr.mono (by decide)) pxr (pa_cons (pe_cmpR op_lt (pe_callB call_len (by rfl) T.f_len (by decide +kernel) (pa_cons (pe_fld (pv 0) rfl) pa_nil)) (pe_gi T.c_MOST_VARIABLES) (nomark _)) (pa_cons (pe_gi T.c_EXCEEDED) pa_nil))))
    (pss_one (ps_expr (pe_bm PySem.F.plainAttrs_list PySem.F.slot_list_append PySem.F.type_list_append mt_append (pe_fld (pv 0) rfl) (pa_cons (pv 1) pa_nil)))))
      pss_nil)
    (pss_one (ps_ret (pe_bm PySem.F.plainAttrs_list PySem.F.slot_list_index PySem.F.type_list_index mt_index (pe_fld (pv 0) rfl) (pa_cons (pv 1) pa_nil))))))), ?_⟩)⟩
  obtain ⟨_, _, rfl, L, s', t, x, rfl, rfl, hxl, R, hn, hl, h⟩ := h
  unfold Xb15.assignVariable at h
  refine st_wantH 1 (call1 (val_var rfl) ⟨x, rfl, hxl, fun H1 s1 => ⟨_, rfl, fun e1 => ?_, fun e1 => ?_⟩⟩) rfl
  · rw [e1, if_neg (by decide)] at h
    have hr := right_name e1
    have R1 := R.mono s1
    obtain ⟨r1, r2, r3, r4⟩ := R1.now t hn
    have r1' := wo_same _ _ _ _ r1
    have sE : Same (wo H (L.M s'.now)) H1 := same_wo s1
    refine st_if (ans_of (val_notInL (val_var rfl) (T.v_Task_slots (val_var rfl) r1') (SqL.of r2) rfl (flat_wv _))) (fun e => ?_) (fun e => ?_)
    all_goals
      rw [inV_wv hr] at e
    · have hi : (t.vars.findIdx? fun v => v == x) = none := by simpa using e
      rw [hi] at h
      refine st_wantI 5 (val_lenM (T.v_Task_slots (val_var rfl) r1') (SqL.of r2)) val_c (fun e2 => ?_) (fun e2 => ?_) rfl
      · have e3 := of_decide_eq_true e2
        rw [if_neg (by omega)] at h
        refine st_append (T.v_Task_slots (val_var rfl) r1') (val_var rfl) r2 (by rw [List.length_map]; omega) ?_
        have R2 := R1.var (x := x) hn
        obtain ⟨u1, u2, u3, u4⟩ := R2.now _ rfl
        have u1' := wo_same _ _ _ _ u1
        have hix : ((t.vars ++ [x]).findIdx? fun v => v == x) = some t.vars.length := by
          rw [List.findIdx?_append, hi]
          simp
        refine st_ret (val_index (T.v_Task_slots (val_var rfl) u1') (val_var rfl) hr (SqL.of u2) hix) (h _ (fun b o hb hne => ?_) R2)
        rw [upd_ne hne]
        exact s1 _ _ hb
      · have e3 := of_decide_eq_false e2
        rw [if_pos (by omega)] at h
        exact Err.mono sE h
    · obtain ⟨i, hi⟩ := Option.isSome_iff_exists.mp (show (t.vars.findIdx? fun v => v == x).isSome = true by simpa using e)
      rw [hi] at h
      refine st_ret (val_index (T.v_Task_slots (val_var rfl) r1') (val_var rfl) hr (SqL.of r2) hi) (h _ (fun b o hb _ => s1 _ _ hb) ?_)
      have : ({ s' with now := some t } : Xb15.ParseState) = s' := by rw [← hn]
      rw [this]
      exact R1
  · rw [e1, if_pos rfl] at h
    exact Err.mono (same_wo s1) h
end
end GW
/-! The walk 4: statements -/
namespace GW
open PySem PySem.Spec PyProof.Rows L2
open Gc (SOk)
section
variable {σ : L2.St} {H : Hp} {ta tb tc te tv : TE} {x y z : V} {sp : Sp} {Q : VK} {E : XK} {D : Ends} {K : PySem.W.Frag} {C : Addr} {f : Str} {i : Nat}
theorem callS1 (h1 : Val ta σ H x) (q : sp [x] H Q E) : tCall sp [] E (tCons ta tNil) σ H Q := h1 _ q
theorem callS2 (h1 : Val ta σ H x) (h2 : Val tb σ H y) (q : sp [x, y] H Q E) : tCall sp [] E (tCons ta (tCons tb tNil)) σ H Q := h1 _ (h2 _ q)
theorem callS3 (h1 : Val ta σ H x) (h2 : Val tb σ H y) (h3 : Val tc σ H z) (q : sp [x, y, z] H Q E) : tCall sp [] E (tCons ta (tCons tb (tCons tc tNil))) σ H Q := h1 _ (h2 _ (h3 _ q))
theorem callS2H (h1 : Val ta σ H x) (h : tb σ H fun y H1 => sp [x, y] H1 Q E) : tCall sp [] E (tCons ta (tCons tb tNil)) σ H Q := h1 _ h
/-- a field of a named object is to be stored -/
def FldTo (K : PySem.W.Frag) (i : Nat) (f : Str) (D : Ends) (σ : L2.St) (y : V) (H1 : Hp) : Prop := tVar i σ H1 fun x H2 => ∃ a C dx fs, x = V.ref a ∧ H2 a = some (.ins C dx fs) ∧ Cls K C ∧ NoAttr K C f ∧ fs.length < 1000 ∧ D.nx σ (upd H2 a (.ins C dx (putF f y fs)))
theorem st_fldH (h : tv σ H fun y H1 => FldTo K i f D σ y H1) : sFld K (tVar i) tv f D σ H := h
theorem fldTo {a dx : Addr} {fs fs' : List (Str × V)} (c : Cls K C) (n : NoAttr K C f) (hs : σ[i]? = some (some (V.ref a))) (hx : H a = some (.ins C dx fs)) (e : putF f y fs = fs') (hl : fs.length < 1000) (q : D.nx σ (upd H a (.ins C dx fs'))) : FldTo K i f D σ y H :=
  ⟨_, hs, a, C, dx, fs, rfl, hx, c, n, hl, by rw [e]; exact q⟩
end
/-- what a def that reads a line is to end with -/
def Out (K : PySem.W.Frag) (r : Addr) (F : Hp) (Q : VK) (s' : Xb15.ParseState) : Prop := ∀ H' L', L'.r = r → L'.ex = [] → Same F (wo H' (L'.M s'.now)) → RdAt K H' L' s' → Q .non H'
/-- an instruction is being built at x -/
structure Stg (K : PySem.W.Frag) (F : Hp) (L : Lay) (x : Addr) (s : Xb15.ParseState) (H : Hp) : Prop where
  R : RdAt K H L s
  F : Same F (wo H (L.M s.now))
  x : L.ex = [x]
section
variable {K : PySem.W.Frag} {F H H' : Hp} {L : Lay} {x : Addr} {s : Xb15.ParseState} {t : Xb15.Task}
theorem Stg.same (G : Stg K F L x s H) (e : Same H H') : Stg K F L x s H' := ⟨G.R.mono e, G.F.trans (wo_more e), G.x⟩
theorem Stg.mem (G : Stg K F L x s H) : x ∈ L.M s.now := List.mem_append_right _ (by rw [G.x]; simp)
theorem Stg.put (G : Stg K F L x s H) (o : HO) : Stg K F L x s (upd H x o) := ⟨G.R.upd (by rw [G.x]; simp), by rw [wo_upd G.mem]; exact G.F, G.x⟩
theorem Stg.old (G : Stg K F L x s H) : Same F H := G.F.trans (wo_same _ _)
theorem tm_same {M : List Addr} {a : Addr} {l : List (Nat × Xb15.Atom)} (e : Same H H') (h : TermsAt (wo H M) a l) : TermsAt (wo H' M) a l := h.mono (wo_more e)
theorem tm_put {M : List Addr} {a : Addr} {o : HO} {l : List (Nat × Xb15.Atom)} (m : x ∈ M) (h : TermsAt (wo H M) a l) : TermsAt (wo (upd H x o) M) a l := by rw [wo_upd m]; exact h
theorem Stg.new (G : Stg K F L x s H) {a : Addr} {l : List (Nat × Xb15.Atom)} (h : TermsAt (nw H H') a l) : TermsAt (wo H' (L.M s.now)) a l := h.mono (nw_wo fun _ z => G.R.there z)
end
section
variable {P : Program} {w : World} {K : PySem.W.Frag} {mg : Str → Option Value} {base : Heap} {F H : Hp} {L : Lay} {x : Addr} {s : Xb15.ParseState} {t : Xb15.Task} {σ : L2.St} {ta tb tc : TE} {Q : VK} {E : XK} {D : Ends} {n : Nat}
theorem Tx.mk_ins (T : Tx K w mg) (R : RdAt K H L s) (hex : L.ex = []) {wd : Str} (h1 : Val ta σ H (.str wd)) (h2 : Val tb σ H (iv n))
    (q : ∀ H1 x dx fa sa, Same H H1 → H x = none → Stg K (wo H (L.M s.now)) { L with ex := [x] } x s H1 → atInstruction K H1 x dx (.str wd) (iv n) (.str "") (.int (-1)) (.ref fa) (.ref sa) (.int (-1)) (.int 0) (.int (-1)) →
      TermsAt (wo H1 (({ L with ex := [x] } : Lay).M s.now)) fa [] → TermsAt (wo H1 (({ L with ex := [x] } : Lay).M s.now)) sa [] → Q (.ref x) H1) : tMake (He.ga K "Instruction") (insSp K) [] E0 (tCons ta (tCons tb tNil)) σ H Q := by
  refine h1 _ (h2 _ fun x dx hx hdx hne => ⟨_, _, _, rfl, x, dx, rfl, upd_same, fun H' fa sa k ho hfa hsa => ⟨rfl, ?_⟩⟩)
  have e : Same H H' := k.same hx hdx
  have R1 := R.build e hx ⟨_, ho⟩
  have hL : ({ L with ex := L.ex ++ [x] } : Lay) = { L with ex := [x] } := by rw [hex]; rfl
  rw [hL] at R1
  have hM : ({ L with ex := [x] } : Lay).M s.now = L.M s.now ++ [x] := by simp [Lay.M, Lay.P, hex]
  have hF : Same (wo H (L.M s.now)) (wo H' (({ L with ex := [x] } : Lay).M s.now)) := by
    rw [hM]
    refine wo_to fun b o hb q => ⟨fun z => ?_, e _ _ q⟩
    rcases List.mem_append.mp z with z | z
    · exact hb z
    · rw [List.mem_singleton.mp z, hx] at q
      cases q
  have hnil : ∀ {y : Addr}, nw (upd (upd H dx (.own x)) x (.ins (He.ga K "Instruction") dx [])) H' y = some (.lst []) → TermsAt (wo H' (({ L with ex := [x] } : Lay).M s.now)) y [] := fun {y} hy => by
    obtain ⟨y1, y2⟩ := nw_some.mp hy
    obtain ⟨z1, z2, z3⟩ := fresh2 y1
    refine ⟨[], wo_some.mpr ⟨fun z => ?_, y2⟩, All2.nil⟩
    rw [hM] at z
    rcases List.mem_append.mp z with z | z
    · exact R.fresh z1 z
    · exact z2 (List.mem_singleton.mp z)
  exact q H' x dx fa sa e hx ⟨R1, hF, rfl⟩ ho (hnil hfa) (hnil hsa)
/-- a cell is looked for -/
theorem Stg.cell (T : Tx K w mg) (G : RdAt K H L s) (S : SOk s) (hF : Same F H) {b : Xb15.Bytes} {k : Addr} {l : List Str} {ok : Xb15.Kind → Bool} (h0 : σ[0]? = some (some (.ref L.r))) (h1 : Val tb σ H (wv b)) (hb : b.length ≤ 20000) (h2 : Val tc σ H (.ref k)) (hk : SqT K H k (l.map V.str))
    (hok : ∀ kd, l.any (· == kindS kd) = ok kd) {o : Nat → Prop} (h : Res K E F (Xb15.requireCell s.program b ok) o) (q : ∀ c H', o c → Same H H' → Q (iv c) H') : tCall (cellSp K) [] E (tCons (tFld K (tVar 0) "program") (tCons tb (tCons tc tNil))) σ H Q :=
  callS3 (T.v_Reading_program (val_var h0) G.rd) h1 h2 ⟨_, _, _, rfl, L.pa, L.dxp, L.ca, L.ta, L.ga, k, L.cs, s.program, b, l, ok, rfl, rfl, rfl, hb, wo_same _ _ _ _ G.pr, SqL.of G.cl, G.cells.mono fun _ _ _ z => z.mono (wo_same _ _), S.prog.cells, hk, hok,
    h.mono hF fun c _ z H' e => q c H' z e⟩
theorem Stg.vars (G : RdAt K H L s) (S : SOk s) (hn : s.now = some t) : VarsAt K H L.t0 t.vars := by
  obtain ⟨r1, r2, r3, r4⟩ := G.now t hn
  exact ⟨L.dxt, _, L.sa, _, wo_same _ _ _ _ r1, SqL.of r2, (S.some_ t hn).1.vars⟩
/-- what words of a line are -/
structure WordsAt (K : PySem.W.Frag) (F : Hp) (l : Addr) (ws : List Xb15.Bytes) : Prop where
  at_ : SqL K F l (ws.map wv)
  len : ws.length ≤ 20000
  each : ∀ b ∈ ws, b.length ≤ 20000
theorem WordsAt.get {l : Addr} {ws : List Xb15.Bytes} (W : WordsAt K F l ws) (i : Nat) : (ws.getD i []).length ≤ 20000 := by
  rw [List.getD_eq_getElem?_getD]
  cases e : ws[i]? with
  | none => simp
  | some y => exact W.each y (List.mem_of_getElem? e)
theorem WordsAt.at {l : Addr} {ws : List Xb15.Bytes} (W : WordsAt K F l ws) (hF : Same F H) {ti : TE} {i j : Nat} (hs : σ[j]? = some (some (.ref l))) (hi : Val ti σ H (iv i)) : Val (tCall (wordAtSp K) [] E0 (tCons (tVar j) (tCons ti tNil))) σ H (wv (ws.getD i [])) :=
  fun Q q => call2 (val_var hs) hi ⟨l, ws, _, rfl, rfl, hF.seq W.at_, q⟩
theorem WordsAt.ix {l : Addr} {ws : List Xb15.Bytes} (W : WordsAt K F l ws) (hF : Same F H) {ti : TE} {i j : Nat} {b : Xb15.Bytes} (hs : σ[j]? = some (some (.ref l))) (hi : Val ti σ H (iv i)) (hb : ws[i]? = some b) : Val (tOp (rIxL K) (tVar j) ti) σ H (wv b) :=
  val_ixL (val_var hs) hi (hF.seq W.at_) (atI_nat (by rw [List.getElem?_map, hb]; rfl))
/-- an expression is read -/
theorem Stg.exp (T : Tx K w mg) (G : Stg K F L x s H) (S : SOk s) (hn : s.now = some t) {l : Addr} {ws : List Xb15.Bytes} (W : WordsAt K F l ws) {k : Nat} (h0 : σ[0]? = some (some (.ref L.r))) (h1 : σ[1]? = some (some (.ref l))) (hk : Val tb σ H (.int (k : Int))) {o : Xb15.Exp → Prop}
    (h : Res K E F (Xb15.parseExp t (ws.drop k)) o) (q : ∀ e H' fa, o e → Same H H' → TermsAt (wo H' (L.M s.now)) fa (terms e) → Q (.ref fa) H') :
    tCall (expSp K) [] E (tCons (tMeth (He.ga K "Reading") "this_task" (thisSp K) [] E0 (tVar 0) tNil) (tCons (tSl (rSlL K) (tVar 1) (tPart tb) tNoPart) tNil)) σ H Q := by
  refine callS2H (T.this_task (val_var h0) G.R hn) (slc_from (l := ws) (f := wv) (val_var h1) hk (G.old.seq W.at_) fun p hp => ⟨_, _, rfl, L.t0, t, p, ws.drop k, rfl, rfl, (Stg.vars G.R S hn).mono (same_upd hp), SqL.of upd_same, by rw [List.length_drop]; have := W.len; omega, fun b hb => W.each b (List.mem_of_mem_drop hb), ?_⟩)
  refine h.mono (G.old.trans (same_upd hp)) fun e _ z H' fa e1 e2 => q e H' fa z ((same_upd hp).trans e1) ?_
  exact (G.same (same_upd hp)).new e2
theorem Stg.two (T : Tx K w mg) (G : Stg K F L x s H) (S : SOk s) (hn : s.now = some t) {l : Addr} {ws : List Xb15.Bytes} (W : WordsAt K F l ws) {k : Nat} (h0 : σ[0]? = some (some (.ref L.r))) (h1 : σ[1]? = some (some (.ref l))) (hk : Val tb σ H (.int (k : Int))) {o : Xb15.Exp × Xb15.Exp → Prop}
    (h : Res K E F (Xb15.parseExpPair t (ws.drop k)) o) (q : ∀ e H' p fa sa, o e → Same H H' → H' p = some (.tup [.ref fa, .ref sa]) → p ≠ x → TermsAt (wo H' (L.M s.now)) fa (terms e.1) → TermsAt (wo H' (L.M s.now)) sa (terms e.2) → Q (.ref p) H') :
    tCall (twoSp K) [] E (tCons (tMeth (He.ga K "Reading") "this_task" (thisSp K) [] E0 (tVar 0) tNil) (tCons (tSl (rSlL K) (tVar 1) (tPart tb) tNoPart) tNil)) σ H Q := by
  refine callS2H (T.this_task (val_var h0) G.R hn) (slc_from (l := ws) (f := wv) (val_var h1) hk (G.old.seq W.at_) fun p hp => ⟨_, _, rfl, L.t0, t, p, ws.drop k, rfl, rfl, (Stg.vars G.R S hn).mono (same_upd hp), SqL.of upd_same, by rw [List.length_drop]; have := W.len; omega, fun b hb => W.each b (List.mem_of_mem_drop hb), ?_⟩)
  refine h.mono (G.old.trans (same_upd hp)) fun e _ z H' p' fa sa e1 hp' e2 e3 => q e H' p' fa sa z ((same_upd hp).trans e1) (nw_some.mp hp').2 ?_ ((G.same (same_upd hp)).new e2) ((G.same (same_upd hp)).new e3)
  have := (G.same (same_upd (o := .lst ((ws.drop k).map wv)) hp)).R.fresh (nw_some.mp hp').1
  exact fun e => this (by rw [e]; exact G.mem)
/-- a variable is read: it may be a new one -/
theorem Stg.var (T : Tx K w mg) (G : Stg K F L x s H) (S : SOk s) (hn : s.now = some t) {b : Xb15.Bytes} (h0 : σ[0]? = some (some (.ref L.r))) (hb : Val tb σ H (wv b)) (hl : b.length ≤ 20000) {o : Xb15.Task × Nat → Prop} (h : Res K E F (Xb15.assignVariable t b) o)
    (q : ∀ y H', o y → Stg K F L x { s with now := some y.1 } H' → (∀ u, H x = some u → H' x = some u) → (∀ a l, TermsAt (wo H (L.M s.now)) a l → TermsAt (wo H' (L.M s.now)) a l) → Q (iv y.2) H') :
    tCall (varSp K) [] E (tCons (tMeth (He.ga K "Reading") "this_task" (thisSp K) [] E0 (tVar 0) tNil) (tCons tb tNil)) σ H Q := by
  refine callS2 (T.this_task (val_var h0) G.R hn) hb ⟨_, _, rfl, L, s, t, b, rfl, rfl, hl, G.R, hn, (S.some_ t hn).1.vars, h.mono G.F fun y _ z H' k R' => ?_⟩
  have hw : Same (wo H (L.M s.now)) (wo H' (L.M s.now)) := wo_to fun b o hb' z => ⟨hb', k _ _ z fun e => hb' (by rw [e]; exact Lay.inP (Lay.saP hn))⟩
  have hM : L.M (some y.1) = L.M s.now := by rw [hn]; rfl
  refine q y H' z ⟨R', by show Same F (wo H' (L.M (some y.1))); rw [hM]; exact G.F.trans hw, G.x⟩ (fun u hu => k _ _ hu fun e => ?_) fun a l z => z.mono hw
  have := G.R.away (a := L.sa) (Lay.saP hn)
  exact this (by rw [G.x, ← e]; simp)
/-- the instruction is added -/
theorem Stg.add (T : Tx K w mg) (G : Stg K F L x s H) (S : t.code.length ≤ 40) (hn : s.now = some t) {i : Xb15.Instruction} {k : Nat} (h0 : σ[0]? = some (some (.ref L.r))) (hk : σ[k]? = some (some (.ref x))) (hI : InsAt K (wo H (L.M s.now)) H x (i, n))
    {o : Xb15.ParseState → Prop} (h : Res K E F (Xb15.addInstruction s t i n) o) (q : ∀ s' H' L', o s' → L'.r = L.r → L'.ex = [] → L'.is = L.is ++ [x] → L'.t0 = L.t0 → Same F (wo H' (L'.M s'.now)) → RdAt K H' L' s' → (∀ u, H x = some u → H' x = some u) → D.nx σ H') :
    tDrop (tCall (addSp K) [] E (tCons (tVar 0) (tCons (tVar k) tNil))) D σ H := by
  refine st_expr (callS2 (val_var h0) (val_var hk) ⟨_, _, rfl, L, s, t, i, n, x, rfl, rfl, G.R, hn, S, G.x, hI, h.mono G.F fun s' es z H' kp R' => ?_⟩)
  obtain ⟨_, e'⟩ := Gc.add_ok es
  have hM : ({ L with is := L.is ++ [x], ex := [] } : Lay).M s'.now = L.M s.now := by rw [e', hn]; simp [Lay.M, Lay.P, G.x]
  refine q s' H' { L with is := L.is ++ [x], ex := [] } z rfl rfl rfl rfl ?_ R' fun u hu => kp _ _ hu fun e => ?_
  · rw [hM]
    exact G.F.trans (wo_to fun b o hb z => ⟨hb, kp _ _ z fun e => hb (by rw [e]; exact Lay.inP (Lay.iaP hn))⟩)
  · have := G.R.away (a := L.ia) (Lay.iaP hn)
    exact this (by rw [G.x, ← e]; simp)
end
/-! ### the program's tables -/
theorem op_in_kdT {X : Cx} {d : Addr} (h : ∃ es n, KDict X.K X.w d es n) : OpR X (compareOp .In) (fun x y H Q => ∃ z r, x = V.str z ∧ y = V.ref d ∧ PySem.W.nsIn X.K d z = some r ∧ Q (.bl r.isSome) H) := let ⟨_, _, k⟩ := h; op_in_kd k
/-! ### what a line inside a task comes to, word by word -/
section
variable (s : Xb15.ParseState) (t : Xb15.Task) (n : Nat) (ws : List Xb15.Bytes)
open Xb15
theorem in_put : parseInner s t n (ascii "put") ws = match ws with
    | c :: e => do
      let c ← requireCell s.program c fun x => !isRange x
      let e ← parseExp t e
      addInstruction s t (.put c e) n
    | _ => .error 1 := by
  unfold parseInner
  rw [if_pos rfl]
  cases ws <;> rfl
theorem in_narrow : parseInner s t n (ascii "narrow") ws = match ws with
    | c :: e => do
      let c ← requireCell s.program c isRange
      let x ← parseExpPair t e
      addInstruction s t (.narrow c x.1 x.2) n
    | _ => .error 1 := by
  unfold parseInner
  rw [if_neg (by decide +kernel), if_pos rfl]
  cases ws <;> rfl
end
def putL : List Str := ["max", "min", "set", "one", "flag"]
theorem putL_ok : ∀ kd, putL.any (· == kindS kd) = !Xb15.isRange kd := fun kd => by cases kd <;> rfl
section
variable {P : Program} {w : World} {K : PySem.W.Frag} {mg : Str → Option Value} {base : Heap}
def readSp (K : PySem.W.Frag) (wd : String) : Sp := sp3 fun a b c H Q E => ∃ L s t l ws n, a = .ref L.r ∧ b = .ref l ∧ c = iv n ∧ RdAt K H L s ∧ L.ex = [] ∧ SOk s ∧ s.now = some t ∧ WordsAt K (wo H (L.M s.now)) l (Xb15.ascii wd :: ws) ∧ Res K E (wo H (L.M s.now)) (Xb15.parseInner s t n (Xb15.ascii wd) ws) (Out K L.r (wo H (L.M s.now)) Q)
theorem sc_read_put : FnScope ["reading", "words", "line", "found"] ["reading", "words", "line"] (defScope s_read_put) := ⟨rfl, rfl, rfl, by decide +kernel, rfl, by decide +kernel, by decide +kernel⟩
theorem ok_read_put (T : Tx K w mg) : Df P w K mg base (L2.CX P w) 6 "read_put" ["reading", "words", "line"] (readSp K "put") := by
  obtain ⟨fd, F⟩ := T.d_read_put
  refine ⟨fd, T.g_read_put, F.kp, (F.bindsN (ps := ["reading", "words", "line"]) fun _ _ _ _ _ _ us hl => match us, hl with | [_, _, _], _ => rfl), F.ok sc_read_put sp3_len (fun cdv A outer s H vs Q E hr h => ⟨_, ((pss_cons (ps_set (i := 3) sc_read_put.nd rfl (.inl rfl) (pe_cl T.m_Instruction (ok_Instruction_init T) (hr.mono (by decide)) T.g_Instruction pass0 (pa_cons pe_str (pa_cons (pv 2) pa_nil))))
    (pss_cons (ps_fld (pv 3) (pe_df (ok_find_cell T) (hr.mono (by decide)) pxr (pa_cons (pe_fld (pv 0) rfl) (pa_cons (pe_df (ok_word_at T) (hr.mono (by decide)) pass0 (pa_cons (pv 1) (pa_cons pe_int pa_nil))) (pa_cons (pe_gr T.g_PUT_KINDS) pa_nil)))) rfl)
    (pss_cons (ps_fld (pv 3) (pe_df (ok_read_expression T) (hr.mono (by decide)) pxr (pa_cons (pe_me0 T.k_Reading T.t_this_task (ok_Reading_this_task T) (hr.mono (by decide)) pass0 (pv 0)) (pa_cons (pe_slice sl_list (pv 1) (po_some pe_int) po_none) pa_nil))) rfl)
    (pss_one (ps_expr (pe_df (ok_add_instruction T) (hr.mono (by decide)) pxr (pa_cons (pv 0) (pa_cons (pv 3) pa_nil))))))))), ?_⟩)⟩
  obtain ⟨_, _, _, rfl, L, s', t, l, ws, n, rfl, rfl, rfl, R, hex, S, hn, W, h⟩ := h
  rw [in_put] at h
  have hl := (S.some_ t hn).1.len
  have h1 : Res K E (wo H (L.M s'.now)) (Xb15.requireCell s'.program ((Xb15.ascii "put" :: ws).getD 1 []) fun x => !Xb15.isRange x) fun c => Res K E (wo H (L.M s'.now)) (Xb15.parseExp t ((Xb15.ascii "put" :: ws).drop 2)) fun e => Res K E (wo H (L.M s'.now)) (Xb15.addInstruction s' t (.put c e) n) (Out K L.r (wo H (L.M s'.now)) Q) := by
    cases ws with
    | nil => exact h
    | cons c e => exact (Res.bind h).mono (Same.refl _) fun c _ z => (Res.bind z).mono (Same.refl _) fun e _ z => z
  refine st_asg (T.mk_ins R hex val_c (val_var rfl) fun H1 x dx fa sa s1 hx G ho hf hs => ?_)
  dsimp only
  refine st_fldH (Stg.cell T G.R S G.old rfl (W.at G.old rfl val_c) (W.get 1) val_c (l := putL) (tupAt_ok T.tu_PUT_KINDS H1) putL_ok h1 fun c H2 h2 e2 => fldTo T.k_Instruction T.n_Instruction_cell rfl (e2 _ _ ho) pt_Instruction_cell (by show 9 < 1000; decide) ?_)
  have G3 := (G.same e2).put (.ins (He.ga K "Instruction") dx (fInstruction (.str "put") (iv n) (.str "") (iv c) (.ref fa) (.ref sa) (.int (-1)) (.int 0) (.int (-1))))
  dsimp only
  refine st_fldH (Stg.exp T G3 S hn W (k := 2) rfl rfl val_c h2 fun e H4 fa' h4 e4 hf4 => fldTo T.k_Instruction T.n_Instruction_first rfl (e4 _ _ upd_same) pt_Instruction_first (by show 9 < 1000; decide) ?_)
  refine Stg.add T (i := .put c e) ((G3.same e4).put _) hl hn rfl rfl ⟨dx, fa', sa, _, upd_same, tm_put G3.mem hf4, tm_put G3.mem (tm_same e4 (tm_put G.mem (tm_same e2 hs))), trivial⟩ h4 fun s2 H' L' hO hr hx' _ _ hF hR _ => hO H' L' hr hx' hF hR
end
end GW
/-! The walk 5: statements -/
namespace GW
open PySem PySem.Spec PyProof.Rows L2
open Gc (SOk)
/-! ### written words -/
def litOk (z : String) : Bool := decide ((Str.ofString z).cps.toList = Xb15.ascii z) && (Xb15.ascii z).all fun c => decide (97 ≤ c) && decide (c ≤ 122)
theorem lit {z : String} (h : litOk z = true) (b : Xb15.Bytes) : phi b = Str.ofString z ↔ b = Xb15.ascii z := by
  obtain ⟨h1, h2⟩ := He.ba h
  refine phi_ascii (of_decide_eq_true h1) (fun c hc => ?_) b
  have := List.all_eq_true.mp h2 c hc
  simp only [Bool.and_eq_true, decide_eq_true_eq] at this
  exact .inl this
theorem lit_v {z : String} (h : litOk z = true) : wv (Xb15.ascii z) = .str (Str.ofString z) := congrArg V.str ((lit h _).mpr rfl)
theorem lit_eq {z : String} (h : litOk z = true) (b : Xb15.Bytes) : decide (wv b = V.str (Str.ofString z)) = decide (b = Xb15.ascii z) := by
  have := lit h b
  show decide (V.str (phi b) = _) = _
  rw [Bool.eq_iff_iff]
  simp only [decide_eq_true_eq, V.str.injEq]
  exact this
theorem lit_beq {z : String} (h : litOk z = true) (b : Xb15.Bytes) : (Str.ofString z == phi b) = decide (b = Xb15.ascii z) := by
  have := lit h b
  rw [Bool.eq_iff_iff]
  simp only [beq_iff_eq, decide_eq_true_eq]
  exact ⟨fun q => this.mp q.symm, fun q => (this.mpr q).symm⟩
def six : List Str := ["atleast", "atmost", "has", "size", "within", "known"]
theorem six_any (b : Xb15.Bytes) : six.any (· == phi b) = (decide (b = Xb15.ascii "atleast") || (decide (b = Xb15.ascii "atmost") || (decide (b = Xb15.ascii "has") || (decide (b = Xb15.ascii "size") || (decide (b = Xb15.ascii "within") || decide (b = Xb15.ascii "known")))))) := by
  unfold six
  simp only [List.any_cons, List.any_nil, Bool.or_false]
  rw [lit_beq (by decide +kernel), lit_beq (by decide +kernel), lit_beq (by decide +kernel), lit_beq (by decide +kernel), lit_beq (by decide +kernel), lit_beq (by decide +kernel)]
theorem kdct {K : PySem.W.Frag} {w : World} {d : Addr} {z : Str} (h : ∃ es n, KDict K w d es n) (hr : refB K d z = true) : KDct K w d z (.ref (valA K d z)) := let ⟨es, n, k⟩ := h; ⟨es, n, _, k.at_, k.lit, of_decide_eq_true hr, rfl⟩
section
variable {σ : L2.St} {H : Hp} {ta tb : TE} {K : PySem.W.Frag} {w : World} {d : Addr} {z : Str} {v : V}
theorem callS3H {sp : Sp} {tc : TE} {x y : V} {Q : VK} {E : XK} (h1 : Val ta σ H x) (h2 : Val tb σ H y) (h : tc σ H fun z H1 => sp [x, y, z] H1 Q E) : tCall sp [] E (tCons ta (tCons tb (tCons tc tNil))) σ H Q := h1 _ (h2 _ h)
theorem val_inKd {ks : List Str} (h : keysB K d ks = true) (ha : Val ta σ H (.str z)) : Val (tOp (fun x y H Q => ∃ z r, x = V.str z ∧ y = V.ref d ∧ PySem.W.nsIn K d z = some r ∧ Q (.bl r.isSome) H) ta (tC (.ref d))) σ H (.bl (ks.any (· == z))) := fun Q q => by
  obtain ⟨r, h1, h2⟩ := keysB_ok h z
  exact ha _ ⟨z, r, rfl, rfl, h1, by rw [h2]; exact q⟩
theorem val_ixD (hk : KDct K w d z v) (ha : Val ta σ H (.str z)) : Val (tOp (rIxD K w) (tC (.ref d)) ta) σ H v := fun Q q => ha _ ⟨d, z, v, rfl, rfl, hk, q⟩
theorem gFldTo {C a dx : Addr} {f : Str} {i : Nat} {y : V} {fs fs' : List (Str × V)} {R : L2.St → Hp → Prop} (c : Cls K C) (n : NoAttr K C f) (hs : σ[i]? = some (some (.ref a))) (hx : H a = some (.ins C dx fs)) (e : putF f y fs = fs') (hl : fs.length < 1000) (q : R σ (upd H a (.ins C dx fs'))) : gFld K (tVar i) f y σ H R :=
  ⟨_, hs, a, C, dx, fs, rfl, hx, c, n, hl, by rw [e]; exact q⟩
end
section
variable {P : Program} {w : World} {K : PySem.W.Frag} {mg : Str → Option Value} {base : Heap} {F H : Hp} {L : Lay} {x : Addr} {s : Xb15.ParseState} {t : Xb15.Task} {σ : L2.St} {ta tb tc : TE} {Q : VK} {E : XK} {D : Ends} {n : Nat}
/-- the kinds are written in the call -/
theorem Stg.cellT (T : Tx K w mg) (G : RdAt K H L s) (S : SOk s) (hF : Same F H) {b : Xb15.Bytes} {z : Str} {ok : Xb15.Kind → Bool} (h0 : σ[0]? = some (some (.ref L.r))) (h1 : Val tb σ H (wv b)) (hb : b.length ≤ 20000)
    (hok : ∀ kd, [z].any (· == kindS kd) = ok kd) {o : Nat → Prop} (h : Res K E F (Xb15.requireCell s.program b ok) o) (q : ∀ c H', o c → Same H H' → Q (iv c) H') : tCall (cellSp K) [] E (tCons (tFld K (tVar 0) "program") (tCons tb (tCons (tTup (tCons (tC (.str z)) tNil)) tNil))) σ H Q :=
  callS3H (T.v_Reading_program (val_var h0) G.rd) h1 ⟨by show 1 ≤ sizeLine; decide, fun k hk => ⟨_, _, _, rfl, L.pa, L.dxp, L.ca, L.ta, L.ga, k, L.cs, s.program, b, [z], ok, rfl, rfl, rfl, hb, same_upd hk _ _ (wo_same _ _ _ _ G.pr), SqL.of (same_upd hk _ _ G.cl), G.cells.mono fun _ _ _ y => y.mono ((wo_same _ _).trans (same_upd hk)),
    S.prog.cells, .inl (.inl upd_same), hok, h.mono (hF.trans (same_upd hk)) fun c _ y H' e => q c H' y ((same_upd hk).trans e)⟩⟩
end
section
variable (s : Xb15.ParseState) (t : Xb15.Task) (n : Nat) (ws : List Xb15.Bytes)
open Xb15
theorem in_wait : parseInner s t n (ascii "wait") ws = match ws with
    | [c, w] => if w ≠ ascii "known" then .error 1 else do
      let c ← requireCell s.program c fun x => x == .one || x == .flag
      addInstruction s t (.wait (.known c)) n
    | c :: w :: e => if w = ascii "atleast" then do
        let c ← requireCell s.program c fun x => x == .max
        let e ← parseExp t e
        addInstruction s t (.wait (.atleast c e)) n
      else if w = ascii "atmost" then do
        let c ← requireCell s.program c fun x => x == .min
        let e ← parseExp t e
        addInstruction s t (.wait (.atmost c e)) n
      else if w = ascii "has" then do
        let c ← requireCell s.program c fun x => x == .set
        let e ← parseExp t e
        addInstruction s t (.wait (.has c e)) n
      else if w = ascii "size" then do
        let c ← requireCell s.program c fun x => x == .set
        let e ← parseExp t e
        addInstruction s t (.wait (.size c e)) n
      else if w = ascii "within" then do
        let c ← requireCell s.program c isRange
        let x ← parseExpPair t e
        addInstruction s t (.wait (.within c x.1 x.2)) n
      else .error 1
    | _ => .error 1 := by
  unfold parseInner
  rw [if_neg (by decide +kernel), if_neg (by decide +kernel), if_pos rfl]
  match ws with
  | [] => rfl
  | [_] => rfl
  | [_, _] => rfl
  | _ :: _ :: _ :: _ => rfl
theorem in_read : parseInner s t n (ascii "read") ws = match ws with
    | [v, c] => do
      let c ← requireCell s.program c fun x => x == .one
      let x ← assignVariable t v
      addInstruction s x.1 (.load x.2 c) n
    | _ => .error 1 := by
  unfold parseInner
  rw [if_neg (by decide +kernel), if_neg (by decide +kernel), if_neg (by decide +kernel), if_pos rfl]
  match ws with
  | [] => rfl
  | [_] => rfl
  | [_, _] => rfl
  | _ :: _ :: _ :: _ => rfl
theorem in_let : parseInner s t n (ascii "let") ws = match ws with
    | v :: e => do
      let e ← parseExp t e
      let x ← assignVariable t v
      addInstruction s x.1 (.assign x.2 e) n
    | _ => .error 1 := by
  unfold parseInner
  rw [if_neg (by decide +kernel), if_neg (by decide +kernel), if_neg (by decide +kernel), if_neg (by decide +kernel), if_pos rfl]
  cases ws <;> rfl
/-- what a wait that has an expression is -/
structure WaitE (K : PySem.W.Frag) (w : World) (c b : Bytes) (e : List Bytes) (wd : Str) (l : List Str) (ok : Xb15.Kind → Bool) (mk : Nat → Exp → Condition) : Prop where
  word : wv b = .str wd
  within : wd ≠ Str.ofString "within"
  known : wd ≠ Str.ofString "known"
  at_ : ∀ H, SqT K H (valA K (He.ga K "WAITS") wd) (l.map V.str)
  get : KDct K w (He.ga K "WAITS") wd (.ref (valA K (He.ga K "WAITS") wd))
  kinds : ∀ kd, l.any (· == kindS kd) = ok kd
  iv_ : ∀ c e, ivOf (.wait (mk c e)) = { word := "wait", way := wd, cell := c, first := some e }
  goal : ∀ c e g, goalOk (.wait (mk c e)) g
  spec : parseInner s t n (ascii "wait") (c :: b :: e) = do
    let c ← requireCell s.program c ok
    let e ← parseExp t e
    addInstruction s t (.wait (mk c e)) n
theorem get2 {b : Bytes} (hb : b ≠ []) (h : ws.getD 1 [] = b) : ∃ c e, ws = c :: b :: e := by
  match ws, h with
  | [], h => exact (hb h.symm).elim
  | [_], h => exact (hb h.symm).elim
  | c :: d :: e, h =>
    have : d = b := h
    rw [this]
    exact ⟨c, e, rfl⟩
theorem wait_bad (h : (six.any (· == phi (ws.getD 1 [])) && decide (V.bl (decide ((3 : Int) < (((ascii "wait" :: ws).length : Nat) : Int))) = V.bl (!decide (wv (ws.getD 1 []) = V.str (Str.ofString "known"))))) = false) : parseInner s t n (ascii "wait") ws = .error 1 := by
  rw [in_wait]
  rw [lit_eq (by decide +kernel), six_any] at h
  match ws with
  | [] => rfl
  | [_] => rfl
  | [c, b] =>
    have hb : b ≠ ascii "known" := fun e => by
      subst e
      have hg : [c, ascii "known"].getD 1 [] = ascii "known" := rfl
      have hl : decide ((3 : Int) < (((ascii "wait" :: [c, ascii "known"]).length : Nat) : Int)) = false := rfl
      rw [hg, hl] at h
      revert h
      decide +kernel
    show (if b ≠ ascii "known" then _ else _) = _
    rw [if_pos hb]
  | c :: b :: e1 :: es =>
    have hl : decide ((3 : Int) < (((ascii "wait" :: c :: b :: e1 :: es).length : Nat) : Int)) = true := by simp; omega
    rw [hl] at h
    have hg : (c :: b :: e1 :: es).getD 1 [] = b := rfl
    rw [hg] at h
    have hk : b ≠ ascii "known" → (b ≠ ascii "atleast" ∧ b ≠ ascii "atmost" ∧ b ≠ ascii "has" ∧ b ≠ ascii "size" ∧ b ≠ ascii "within") := fun hk => by
      simp [hk] at h
      exact h
    by_cases hk0 : b = ascii "known"
    · subst hk0
      show (if ascii "known" = ascii "atleast" then _ else _) = _
      rw [if_neg (by decide +kernel), if_neg (by decide +kernel), if_neg (by decide +kernel), if_neg (by decide +kernel), if_neg (by decide +kernel)]
    · obtain ⟨k1, k2, k3, k4, k5⟩ := hk hk0
      show (if b = ascii "atleast" then _ else _) = _
      rw [if_neg k1, if_neg k2, if_neg k3, if_neg k4, if_neg k5]
theorem wait_good {K : PySem.W.Frag} {w : World} {mg : Str → Option Value} (T : Tx K w mg) (h : (six.any (· == phi (ws.getD 1 [])) && decide (V.bl (decide ((3 : Int) < (((ascii "wait" :: ws).length : Nat) : Int))) = V.bl (!decide (wv (ws.getD 1 []) = V.str (Str.ofString "known"))))) = true) :
    (∃ c b e wd l ok mk, ws = c :: b :: e ∧ WaitE s t n K w c b e wd l ok mk) ∨ (∃ c e, ws = c :: ascii "within" :: e ∧ parseInner s t n (ascii "wait") ws = do
      let c ← requireCell s.program c isRange
      let x ← parseExpPair t e
      addInstruction s t (.wait (.within c x.1 x.2)) n) ∨ (∃ c, ws = [c, ascii "known"]) := by
  rw [lit_eq (by decide +kernel), six_any] at h
  simp only [Bool.and_eq_true, Bool.or_eq_true, decide_eq_true_eq] at h
  obtain ⟨h1, h2⟩ := h
  have more : ∀ {b : Bytes} {e : List Bytes} {c : Bytes}, ws = c :: b :: e → b ≠ ascii "known" → ∃ e1 es, e = e1 :: es := fun {b e c} hw hk => by
    subst hw
    cases e with
    | cons e1 es => exact ⟨e1, es, rfl⟩
    | nil =>
      have hg : [c, b].getD 1 [] = b := rfl
      rw [hg] at h2
      simp [hk] at h2
  rcases h1 with h1 | h1 | h1 | h1 | h1 | h1
  · obtain ⟨c, e, rfl⟩ := get2 ws (by decide +kernel) h1
    obtain ⟨e1, es, rfl⟩ := more rfl (by decide +kernel)
    exact .inl ⟨c, _, e1 :: es, "atleast", ["max"], fun x => x == .max, .atleast, rfl, lit_v (by decide +kernel), by decide +kernel, by decide +kernel, tupAt_ok T.wt_atleast, kdct T.kd_WAITS T.wr_atleast, (fun kd => by cases kd <;> rfl), fun _ _ => rfl, fun _ _ _ => trivial, by
      rw [in_wait]
      show (if ascii "atleast" = ascii "atleast" then _ else _) = _
      rw [if_pos rfl]⟩
  · obtain ⟨c, e, rfl⟩ := get2 ws (by decide +kernel) h1
    obtain ⟨e1, es, rfl⟩ := more rfl (by decide +kernel)
    exact .inl ⟨c, _, e1 :: es, "atmost", ["min"], fun x => x == .min, .atmost, rfl, lit_v (by decide +kernel), by decide +kernel, by decide +kernel, tupAt_ok T.wt_atmost, kdct T.kd_WAITS T.wr_atmost, (fun kd => by cases kd <;> rfl), fun _ _ => rfl, fun _ _ _ => trivial, by
      rw [in_wait]
      show (if ascii "atmost" = ascii "atleast" then _ else _) = _
      rw [if_neg (by decide +kernel), if_pos rfl]⟩
  · obtain ⟨c, e, rfl⟩ := get2 ws (by decide +kernel) h1
    obtain ⟨e1, es, rfl⟩ := more rfl (by decide +kernel)
    exact .inl ⟨c, _, e1 :: es, "has", ["set"], fun x => x == .set, .has, rfl, lit_v (by decide +kernel), by decide +kernel, by decide +kernel, tupAt_ok T.wt_has, kdct T.kd_WAITS T.wr_has, (fun kd => by cases kd <;> rfl), fun _ _ => rfl, fun _ _ _ => trivial, by
      rw [in_wait]
      show (if ascii "has" = ascii "atleast" then _ else _) = _
      rw [if_neg (by decide +kernel), if_neg (by decide +kernel), if_pos rfl]⟩
  · obtain ⟨c, e, rfl⟩ := get2 ws (by decide +kernel) h1
    obtain ⟨e1, es, rfl⟩ := more rfl (by decide +kernel)
    exact .inl ⟨c, _, e1 :: es, "size", ["set"], fun x => x == .set, .size, rfl, lit_v (by decide +kernel), by decide +kernel, by decide +kernel, tupAt_ok T.wt_size, kdct T.kd_WAITS T.wr_size, (fun kd => by cases kd <;> rfl), fun _ _ => rfl, fun _ _ _ => trivial, by
      rw [in_wait]
      show (if ascii "size" = ascii "atleast" then _ else _) = _
      rw [if_neg (by decide +kernel), if_neg (by decide +kernel), if_neg (by decide +kernel), if_pos rfl]⟩
  · obtain ⟨c, e, rfl⟩ := get2 ws (by decide +kernel) h1
    obtain ⟨e1, es, rfl⟩ := more rfl (by decide +kernel)
    refine .inr (.inl ⟨c, e1 :: es, rfl, ?_⟩)
    rw [in_wait]
    show (if ascii "within" = ascii "atleast" then _ else _) = _
    rw [if_neg (by decide +kernel), if_neg (by decide +kernel), if_neg (by decide +kernel), if_neg (by decide +kernel), if_pos rfl]
  · obtain ⟨c, e, rfl⟩ := get2 ws (by decide +kernel) h1
    cases e with
    | nil => exact .inr (.inr ⟨c, rfl⟩)
    | cons e1 es =>
      exfalso
      have hg : (c :: ascii "known" :: e1 :: es).getD 1 [] = ascii "known" := rfl
      rw [hg] at h2
      simp at h2
      omega
end
section
variable {P : Program} {w : World} {K : PySem.W.Frag} {mg : Str → Option Value} {base : Heap}
theorem sc_read_narrow : FnScope ["reading", "words", "line", "found"] ["reading", "words", "line"] (defScope s_read_narrow) := ⟨rfl, rfl, rfl, by decide +kernel, rfl, by decide +kernel, by decide +kernel⟩
theorem ok_read_narrow (T : Tx K w mg) : Df P w K mg base (L2.CX P w) 7 "read_narrow" ["reading", "words", "line"] (readSp K "narrow") := by
  obtain ⟨fd, F⟩ := T.d_read_narrow
  refine ⟨fd, T.g_read_narrow, F.kp, (F.bindsN (ps := ["reading", "words", "line"]) fun _ _ _ _ _ _ us hl => match us, hl with | [_, _, _], _ => rfl), F.ok sc_read_narrow sp3_len (fun cdv A outer s H vs Q E hr h => ⟨_, ((pss_cons (ps_set (i := 3) sc_read_narrow.nd rfl (.inl rfl) (pe_cl T.m_Instruction (ok_Instruction_init T) (hr.mono (by decide)) T.g_Instruction pass0 (pa_cons pe_str (pa_cons (pv 2) pa_nil))))
    (pss_cons (ps_fld (pv 3) (pe_df (ok_find_cell T) (hr.mono (by decide)) pxr (pa_cons (pe_fld (pv 0) rfl) (pa_cons (pe_df (ok_word_at T) (hr.mono (by decide)) pass0 (pa_cons (pv 1) (pa_cons pe_int pa_nil))) (pa_cons (pe_tup (pa_cons pe_str pa_nil)) pa_nil)))) rfl)
    (pss_cons (ps_asg (pe_df (ok_read_two T) (hr.mono (by decide)) pxr (pa_cons (pe_me0 T.k_Reading T.t_this_task (ok_Reading_this_task T) (hr.mono (by decide)) pass0 (pv 0)) (pa_cons (pe_slice sl_list (pv 1) (po_some pe_int) po_none) pa_nil))) (pg_tup (n := 2) rfl (pgs_cons (pg_fld (pv 3)) (pgs_cons (pg_fld (pv 3)) pgs_nil))))
    (pss_one (ps_expr (pe_df (ok_add_instruction T) (hr.mono (by decide)) pxr (pa_cons (pv 0) (pa_cons (pv 3) pa_nil))))))))), ?_⟩)⟩
  obtain ⟨_, _, _, rfl, L, s', t, l, ws, n, rfl, rfl, rfl, R, hex, S, hn, W, h⟩ := h
  rw [in_narrow] at h
  have hl := (S.some_ t hn).1.len
  have h1 : Res K E (wo H (L.M s'.now)) (Xb15.requireCell s'.program ((Xb15.ascii "narrow" :: ws).getD 1 []) Xb15.isRange) fun c => Res K E (wo H (L.M s'.now)) (Xb15.parseExpPair t ((Xb15.ascii "narrow" :: ws).drop 2)) fun e => Res K E (wo H (L.M s'.now)) (Xb15.addInstruction s' t (.narrow c e.1 e.2) n) (Out K L.r (wo H (L.M s'.now)) Q) := by
    cases ws with
    | nil => exact h
    | cons c e => exact (Res.bind h).mono (Same.refl _) fun c _ z => (Res.bind z).mono (Same.refl _) fun e _ z => z
  refine st_asg (T.mk_ins R hex val_c (val_var rfl) fun H1 x dx fa sa s1 hx G ho hf hs => ?_)
  dsimp only
  refine st_fldH (Stg.cellT T G.R S G.old rfl (W.at G.old rfl val_c) (W.get 1) (fun kd => by cases kd <;> rfl) h1 fun c H2 h2 e2 => fldTo T.k_Instruction T.n_Instruction_cell rfl (e2 _ _ ho) pt_Instruction_cell (by show 9 < 1000; decide) ?_)
  have G3 := (G.same e2).put (.ins (He.ga K "Instruction") dx (fInstruction (.str "narrow") (iv n) (.str "") (iv c) (.ref fa) (.ref sa) (.int (-1)) (.int 0) (.int (-1))))
  dsimp only
  refine Stg.two T G3 S hn W (k := 2) rfl rfl val_c h2 fun e H4 p fa' sa' h4 e4 hp hpx hf4 hs4 => ⟨p, _, rfl, .inl (.inl hp), rfl, _, _, rfl, gFldTo T.k_Instruction T.n_Instruction_first rfl (e4 _ _ upd_same) pt_Instruction_first (by show 9 < 1000; decide) ⟨_, _, rfl, gFldTo T.k_Instruction T.n_Instruction_second rfl upd_same pt_Instruction_second (by show 9 < 1000; decide) ⟨rfl, ?_⟩⟩⟩
  dsimp only
  refine Stg.add T (i := .narrow c e.1 e.2) (((G3.same e4).put _).put _) hl hn rfl rfl ⟨dx, fa', sa', _, upd_same, tm_put G3.mem (tm_put G3.mem hf4), tm_put G3.mem (tm_put G3.mem hs4), trivial⟩ h4 fun s2 H' L' hO hr hx' _ _ hF hR _ => hO H' L' hr hx' hF hR
theorem sc_read_wait : FnScope ["reading", "words", "line", "found"] ["reading", "words", "line"] (defScope s_read_wait) := ⟨rfl, rfl, rfl, by decide +kernel, rfl, by decide +kernel, by decide +kernel⟩
theorem ok_read_wait (T : Tx K w mg) : Df P w K mg base (L2.CX P w) 7 "read_wait" ["reading", "words", "line"] (readSp K "wait") := by
  obtain ⟨fd, F⟩ := T.d_read_wait
  refine ⟨fd, T.g_read_wait, F.kp, (F.bindsN (ps := ["reading", "words", "line"]) fun _ _ _ _ _ _ us hl => match us, hl with | [_, _, _], _ => rfl), F.ok sc_read_wait sp3_len (fun cdv A outer s H vs Q E hr h => ⟨_, ((pss_cons (ps_set (i := 3) sc_read_wait.nd rfl (.inl rfl) (pe_cl T.m_Instruction (ok_Instruction_init T) (hr.mono (by decide)) T.g_Instruction pass0 (pa_cons pe_str (pa_cons (pv 2) pa_nil))))
    (pss_cons (ps_fld (pv 3) (pe_df (ok_word_at T) (hr.mono (by decide)) pass0 (pa_cons (pv 1) (pa_cons pe_int pa_nil))) rfl)
    (pss_cons (ps_expr (pe_df (ok_want_right T) (hr.mono (by decide)) pxr (pa_cons (pe_and (pe_cmpR (op_in_kdT T.kd_WAITS) (pe_fld (pv 3) rfl) (pe_gr T.g_WAITS) (by rfl)) (pe_one (pe_cmpR op_eq (pe_cmpR op_gt (pe_callB call_len (by rfl) T.f_len (by decide +kernel) (pa_cons (pv 1) pa_nil)) pe_int (nomark _)) (pe_cmpR op_ne (pe_fld (pv 3) rfl) pe_str (nomark _)) (nomark _)))) (pa_cons (pe_gi T.c_MALFORMED) pa_nil))))
    (pss_cons (ps_fld (pv 3) (pe_df (ok_find_cell T) (hr.mono (by decide)) pxr (pa_cons (pe_fld (pv 0) rfl) (pa_cons (pe_ix ix_list (pv 1) pe_int (fun _ _ => rfl)) (pa_cons (pe_ix ix_kdict (pe_gr T.g_WAITS) (pe_fld (pv 3) rfl) (fun _ _ => rfl)) pa_nil)))) rfl)
    (pss_cons (ps_if (pt_cmpR op_eq (pe_fld (pv 3) rfl) pe_str (nomark _))
      (pss_one (ps_asg (pe_df (ok_read_two T) (hr.mono (by decide)) pxr (pa_cons (pe_me0 T.k_Reading T.t_this_task (ok_Reading_this_task T) (hr.mono (by decide)) pass0 (pv 0)) (pa_cons (pe_slice sl_list (pv 1) (po_some pe_int) po_none) pa_nil))) (pg_tup (n := 2) rfl (pgs_cons (pg_fld (pv 3)) (pgs_cons (pg_fld (pv 3)) pgs_nil)))))
      (pss_one (ps_if (pt_cmpR op_ne (pe_fld (pv 3) rfl) pe_str (nomark _))
      (pss_one (ps_fld (pv 3) (pe_df (ok_read_expression T) (hr.mono (by decide)) pxr (pa_cons (pe_me0 T.k_Reading T.t_this_task (ok_Reading_this_task T) (hr.mono (by decide)) pass0 (pv 0)) (pa_cons (pe_slice sl_list (pv 1) (po_some pe_int) po_none) pa_nil))) rfl))
      pss_nil)))
    (pss_one (ps_expr (pe_df (ok_add_instruction T) (hr.mono (by decide)) pxr (pa_cons (pv 0) (pa_cons (pv 3) pa_nil))))))))))), ?_⟩)⟩
  obtain ⟨_, _, _, rfl, L, s', t, l, ws, n, rfl, rfl, rfl, R, hex, S, hn, W, h⟩ := h
  have hl := (S.some_ t hn).1.len
  refine st_asg (T.mk_ins R hex val_c (val_var rfl) fun H1 x dx fa sa s1 hx G ho hf hs => ?_)
  dsimp only
  have ho1 : atInstruction K (upd H1 x (.ins (He.ga K "Instruction") dx (fInstruction (.str "wait") (iv n) (wv (ws.getD 1 [])) (.int (-1)) (.ref fa) (.ref sa) (.int (-1)) (.int 0) (.int (-1))))) x dx (.str "wait") (iv n) (wv (ws.getD 1 [])) (.int (-1)) (.ref fa) (.ref sa) (.int (-1)) (.int 0) (.int (-1)) := upd_same
  have G1 := G.put (.ins (He.ga K "Instruction") dx (fInstruction (.str "wait") (iv n) (wv (ws.getD 1 [])) (.int (-1)) (.ref fa) (.ref sa) (.int (-1)) (.int 0) (.int (-1))))
  have hs1 := tm_put (o := .ins (He.ga K "Instruction") dx (fInstruction (.str "wait") (iv n) (wv (ws.getD 1 [])) (.int (-1)) (.ref fa) (.ref sa) (.int (-1)) (.int 0) (.int (-1)))) G.mem hs
  have hf1 := tm_put (o := .ins (He.ga K "Instruction") dx (fInstruction (.str "wait") (iv n) (wv (ws.getD 1 [])) (.int (-1)) (.ref fa) (.ref sa) (.int (-1)) (.int 0) (.int (-1)))) G.mem hf
  refine T.w_Instruction_way (y := wv (ws.getD 1 [])) (W.at G.old (i := 2) rfl val_c) (val_var rfl) ho ?_
  refine (fun H2 (ho2 : atInstruction K H2 x dx (.str "wait") (iv n) (wv (ws.getD 1 [])) (.int (-1)) (.ref fa) (.ref sa) (.int (-1)) (.int 0) (.int (-1))) (G2 : Stg K (wo H (L.M s'.now)) { L with ex := [x] } x s' H2) (hs2 : TermsAt (wo H2 (({ L with ex := [x] } : Lay).M s'.now)) sa [])
    (hf2 : TermsAt (wo H2 (({ L with ex := [x] } : Lay).M s'.now)) fa []) => ?_ : ∀ H2, _ → _ → _ → _ → Ends.nx _ _ H2) _ ho1 G1 hs1 hf1
  dsimp only
  refine st_want 1 (val_andV (val_inKd T.ke_WAITS (T.v_Instruction_way (val_var rfl) ho2)) fun _ => val_eq (val_gt (val_lenM (val_var rfl) (G2.old.seq W.at_)) val_c) (val_ne (T.v_Instruction_way (val_var rfl) ho2) val_c rfl) rfl) (fun e => ?_) (fun e => ?_) rfl
  · rcases wait_good s' t n ws T e with ⟨c, b, e1, wd, lk, ok, mk, rfl, WE⟩ | ⟨c, e1, rfl, hsp⟩ | ⟨c, rfl⟩
    · rw [WE.spec] at h
      have h1 := (Res.bind h).mono (Same.refl _) fun c _ z => Res.bind z
      rw [show (c :: b :: e1).getD 1 [] = b from rfl, WE.word] at ho2
      dsimp only
      refine st_fldH (Stg.cell T G2.R S G2.old rfl (W.ix G2.old (i := 1) rfl val_c rfl) (W.each c (by simp)) (val_ixD WE.get (T.v_Instruction_way (val_var rfl) ho2)) (WE.at_ H2) WE.kinds h1 fun cc H3 h2 e2 => fldTo T.k_Instruction T.n_Instruction_cell rfl (e2 _ _ ho2) pt_Instruction_cell (by show 9 < 1000; decide) ?_)
      have G4 := (G2.same e2).put (.ins (He.ga K "Instruction") dx (fInstruction (.str "wait") (iv n) (.str wd) (iv cc) (.ref fa) (.ref sa) (.int (-1)) (.int 0) (.int (-1))))
      dsimp only
      refine st_if (ans_of (val_eq (T.v_Instruction_way (val_var rfl) upd_same) val_c rfl)) (fun e => ?_) (fun e => ?_)
      · exact (WE.within (V.str.inj (of_decide_eq_true e))).elim
      · refine st_if (ans_of (val_ne (T.v_Instruction_way (val_var rfl) upd_same) val_c rfl)) (fun e => ?_) (fun e => ?_)
        · refine st_fldH (Stg.exp T G4 S hn W (k := 3) rfl rfl val_c h2 fun ee H5 fa' h4 e4 hf4 => fldTo T.k_Instruction T.n_Instruction_first rfl (e4 _ _ upd_same) pt_Instruction_first (by show 9 < 1000; decide) ?_)
          dsimp only
          refine Stg.add T (i := .wait (mk cc ee)) ((G4.same e4).put _) hl hn rfl rfl ⟨dx, fa', sa, _, by simp only [WE.iv_]; exact upd_same, by simp only [WE.iv_]; exact tm_put G4.mem hf4, by simp only [WE.iv_]; exact tm_put G4.mem (tm_same e4 (tm_put G2.mem (tm_same e2 hs2))), WE.goal _ _ _⟩ h4 fun s2 H' L' hO hr hx' _ _ hF hR _ => hO H' L' hr hx' hF hR
        · exact (WE.known (by simpa using e)).elim
    · rw [hsp] at h
      have h1 := (Res.bind h).mono (Same.refl _) fun c _ z => Res.bind z
      rw [show (c :: Xb15.ascii "within" :: e1).getD 1 [] = Xb15.ascii "within" from rfl, lit_v (z := "within") (by decide +kernel)] at ho2
      dsimp only
      refine st_fldH (Stg.cell T G2.R S G2.old rfl (W.ix G2.old (i := 1) rfl val_c rfl) (W.each c (by simp)) (val_ixD (kdct T.kd_WAITS T.wr_within) (T.v_Instruction_way (val_var rfl) ho2)) (l := ["range"]) (tupAt_ok T.wt_within H2) (fun kd => by cases kd <;> rfl) h1 fun cc H3 h2 e2 => fldTo T.k_Instruction T.n_Instruction_cell rfl (e2 _ _ ho2) pt_Instruction_cell (by show 9 < 1000; decide) ?_)
      have G4 := (G2.same e2).put (.ins (He.ga K "Instruction") dx (fInstruction (.str "wait") (iv n) (.str "within") (iv cc) (.ref fa) (.ref sa) (.int (-1)) (.int 0) (.int (-1))))
      dsimp only
      refine st_if (ans_of (val_eq (T.v_Instruction_way (val_var rfl) upd_same) val_c rfl)) (fun e => ?_) (fun e => by simp at e)
      refine Stg.two T G4 S hn W (k := 3) rfl rfl val_c h2 fun ee H4 p fa' sa' h4 e4 hp hpx hf4 hs4 => ⟨p, _, rfl, .inl (.inl hp), rfl, _, _, rfl, gFldTo T.k_Instruction T.n_Instruction_first rfl (e4 _ _ upd_same) pt_Instruction_first (by show 9 < 1000; decide) ⟨_, _, rfl, gFldTo T.k_Instruction T.n_Instruction_second rfl upd_same pt_Instruction_second (by show 9 < 1000; decide) ⟨rfl, ?_⟩⟩⟩
      dsimp only
      refine Stg.add T (i := .wait (.within cc ee.1 ee.2)) (((G4.same e4).put _).put _) hl hn rfl rfl ⟨dx, fa', sa', _, upd_same, tm_put G4.mem (tm_put G4.mem hf4), tm_put G4.mem (tm_put G4.mem hs4), trivial⟩ h4 fun s2 H' L' hO hr hx' _ _ hF hR _ => hO H' L' hr hx' hF hR
    · rw [in_wait] at h
      have h1 : Res K E (wo H (L.M s'.now)) (Xb15.requireCell s'.program c fun x => x == .one || x == .flag) fun c => Res K E (wo H (L.M s'.now)) (Xb15.addInstruction s' t (.wait (.known c)) n) (Out K L.r (wo H (L.M s'.now)) Q) := Res.bind h
      rw [show [c, Xb15.ascii "known"].getD 1 [] = Xb15.ascii "known" from rfl, lit_v (z := "known") (by decide +kernel)] at ho2
      dsimp only
      refine st_fldH (Stg.cell T G2.R S G2.old rfl (W.ix G2.old (i := 1) rfl val_c rfl) (W.each c (by simp)) (val_ixD (kdct T.kd_WAITS T.wr_known) (T.v_Instruction_way (val_var rfl) ho2)) (l := ["one", "flag"]) (tupAt_ok T.wt_known H2) (fun kd => by cases kd <;> rfl) h1 fun cc H3 h2 e2 => fldTo T.k_Instruction T.n_Instruction_cell rfl (e2 _ _ ho2) pt_Instruction_cell (by show 9 < 1000; decide) ?_)
      have G4 := (G2.same e2).put (.ins (He.ga K "Instruction") dx (fInstruction (.str "wait") (iv n) (.str "known") (iv cc) (.ref fa) (.ref sa) (.int (-1)) (.int 0) (.int (-1))))
      dsimp only
      refine st_if (ans_of (val_eq (T.v_Instruction_way (val_var rfl) upd_same) val_c rfl)) (fun e => absurd e (by decide +kernel)) (fun e => ?_)
      refine st_if (ans_of (val_ne (T.v_Instruction_way (val_var rfl) upd_same) val_c rfl)) (fun e => by simp at e) (fun e => ?_)
      refine st_next ?_
      dsimp only
      refine Stg.add T (i := .wait (.known cc)) G4 hl hn rfl rfl ⟨dx, fa, sa, _, upd_same, tm_put G2.mem (tm_same e2 hf2), tm_put G2.mem (tm_same e2 hs2), trivial⟩ h2 fun s2 H' L' hO hr hx' _ _ hF hR _ => hO H' L' hr hx' hF hR
  · rw [wait_bad s' t n ws e] at h
    exact Err.mono G2.old h
theorem len_ws {k : Xb15.Bytes} {ws : List Xb15.Bytes} {m : Nat} (e : decide (V.int (((k :: ws).length : Nat) : Int) = V.int ((m + 1 : Nat) : Int)) = true) : ws.length = m := by
  have := V.int.inj (of_decide_eq_true e)
  simp at this
  omega
theorem len_ws' {k : Xb15.Bytes} {ws : List Xb15.Bytes} {m : Nat} (e : decide (V.int (((k :: ws).length : Nat) : Int) = V.int ((m + 1 : Nat) : Int)) = false) : ws.length ≠ m := fun h => by
  have := of_decide_eq_false e
  apply this
  simp [h]
theorem two_ws {ws : List Xb15.Bytes} (h : ws.length = 2) : ∃ a b, ws = [a, b] := by
  match ws, h with
  | [a, b], _ => exact ⟨a, b, rfl⟩
theorem one_ws {ws : List Xb15.Bytes} (h : ws.length = 1) : ∃ a, ws = [a] := by
  match ws, h with
  | [a], _ => exact ⟨a, rfl⟩
theorem assign_code {t t' : Xb15.Task} {b : Xb15.Bytes} {k : Nat} (h : Xb15.assignVariable t b = .ok (t', k)) : t'.code = t.code := by
  unfold Xb15.assignVariable at h
  split at h
  · cases h
  · split at h
    · cases h; rfl
    · split at h
      · cases h
      · cases h; rfl
theorem sc_read_read : FnScope ["reading", "words", "line", "found"] ["reading", "words", "line"] (defScope s_read_read) := ⟨rfl, rfl, rfl, by decide +kernel, rfl, by decide +kernel, by decide +kernel⟩
theorem ok_read_read (T : Tx K w mg) : Df P w K mg base (L2.CX P w) 5 "read_read" ["reading", "words", "line"] (readSp K "read") := by
  obtain ⟨fd, F⟩ := T.d_read_read
  refine ⟨fd, T.g_read_read, F.kp, (F.bindsN (ps := ["reading", "words", "line"]) fun _ _ _ _ _ _ us hl => match us, hl with | [_, _, _], _ => rfl), F.ok sc_read_read sp3_len (fun cdv A outer s H vs Q E hr h => ⟨_, ((pss_cons (ps_expr (pe_df (ok_want_right T) (hr.mono (by decide)) pxr (pa_cons (pe_cmpR op_eq (pe_callB call_len (by rfl) T.f_len (by decide +kernel) (pa_cons (pv 1) pa_nil)) pe_int (nomark _)) (pa_cons (pe_gi T.c_MALFORMED) pa_nil))))
    (pss_cons (ps_set (i := 3) sc_read_read.nd rfl (.inl rfl) (pe_cl T.m_Instruction (ok_Instruction_init T) (hr.mono (by decide)) T.g_Instruction pass0 (pa_cons pe_str (pa_cons (pv 2) pa_nil))))
    (pss_cons (ps_fld (pv 3) (pe_df (ok_find_cell T) (hr.mono (by decide)) pxr (pa_cons (pe_fld (pv 0) rfl) (pa_cons (pe_ix ix_list (pv 1) pe_int (fun _ _ => rfl)) (pa_cons (pe_tup (pa_cons pe_str pa_nil)) pa_nil)))) rfl)
    (pss_cons (ps_fld (pv 3) (pe_df (ok_read_variable T) (hr.mono (by decide)) pxr (pa_cons (pe_me0 T.k_Reading T.t_this_task (ok_Reading_this_task T) (hr.mono (by decide)) pass0 (pv 0)) (pa_cons (pe_ix ix_list (pv 1) pe_int (fun _ _ => rfl)) pa_nil))) rfl)
    (pss_one (ps_expr (pe_df (ok_add_instruction T) (hr.mono (by decide)) pxr (pa_cons (pv 0) (pa_cons (pv 3) pa_nil)))))))))), ?_⟩)⟩
  obtain ⟨_, _, _, rfl, L, s', t, l, ws, n, rfl, rfl, rfl, R, hex, S, hn, W, h⟩ := h
  rw [in_read] at h
  have hl := (S.some_ t hn).1.len
  refine st_want 1 (val_eq (val_lenM (val_var rfl) ((wo_same _ _).seq W.at_)) val_c rfl) (fun e => ?_) (fun e => ?_) rfl
  · obtain ⟨v, c, rfl⟩ := two_ws (len_ws (m := 2) e)
    have h1 : Res K E (wo H (L.M s'.now)) (Xb15.requireCell s'.program c fun x => x == .one) fun c => Res K E (wo H (L.M s'.now)) (Xb15.assignVariable t v) fun y => y.1.code.length ≤ 40 ∧ Res K E (wo H (L.M s'.now)) (Xb15.addInstruction s' y.1 (.load y.2 c) n) (Out K L.r (wo H (L.M s'.now)) Q) :=
      (Res.bind h).mono (Same.refl _) fun c _ z => (Res.bind z).mono (Same.refl _) fun y hy z => ⟨by rw [assign_code (t' := y.1) (k := y.2) hy]; exact hl, z⟩
    refine st_asg (T.mk_ins R hex val_c (val_var rfl) fun H1 x dx fa sa s1 hx G ho hf hs => ?_)
    dsimp only
    refine st_fldH (Stg.cellT T G.R S G.old rfl (W.ix G.old (i := 2) rfl val_c rfl) (W.each c (by simp)) (fun kd => by cases kd <;> rfl) h1 fun c H2 h2 e2 => fldTo T.k_Instruction T.n_Instruction_cell rfl (e2 _ _ ho) pt_Instruction_cell (by show 9 < 1000; decide) ?_)
    have G3 := (G.same e2).put (.ins (He.ga K "Instruction") dx (fInstruction (.str "read") (iv n) (.str "") (iv c) (.ref fa) (.ref sa) (.int (-1)) (.int 0) (.int (-1))))
    dsimp only
    refine st_fldH (Stg.var T G3 S hn rfl (W.ix G3.old (i := 1) rfl val_c rfl) (W.each v (by simp)) h2 fun y H4 h4 G4 hk ht => fldTo T.k_Instruction T.n_Instruction_slot rfl (hk _ upd_same) pt_Instruction_slot (by show 9 < 1000; decide) ?_)
    dsimp only
    have hM : ({ L with ex := [x] } : Lay).M (some y.1) = ({ L with ex := [x] } : Lay).M s'.now := by rw [hn]; rfl
    have ff := ht _ _ (tm_put G.mem (tm_same e2 hf))
    have ss := ht _ _ (tm_put G.mem (tm_same e2 hs))
    rw [← hM] at ff ss
    refine Stg.add T (t := y.1) (i := .load y.2 c) (G4.put _) h4.1 rfl rfl rfl ⟨dx, fa, sa, _, upd_same, tm_put G4.mem ff, tm_put G4.mem ss, trivial⟩ h4.2 fun s2 H' L' hO hr hx' _ _ hF hR _ => hO H' L' hr hx' hF hR
  · have : (match ws with
      | [v, c] => do
        let c ← Xb15.requireCell s'.program c fun x => x == .one
        let x ← Xb15.assignVariable t v
        Xb15.addInstruction s' x.1 (.load x.2 c) n
      | _ => .error 1) = Except.error 1 := by
      have hne := len_ws' (m := 2) e
      match ws, hne with
      | [], _ => rfl
      | [_], _ => rfl
      | [_, _], hne => exact (hne rfl).elim
      | _ :: _ :: _ :: _, _ => rfl
    rw [this] at h
    exact Err.mono (wo_same _ _) h
theorem sc_read_let : FnScope ["reading", "words", "line", "found"] ["reading", "words", "line"] (defScope s_read_let) := ⟨rfl, rfl, rfl, by decide +kernel, rfl, by decide +kernel, by decide +kernel⟩
theorem ok_read_let (T : Tx K w mg) : Df P w K mg base (L2.CX P w) 6 "read_let" ["reading", "words", "line"] (readSp K "let") := by
  obtain ⟨fd, F⟩ := T.d_read_let
  refine ⟨fd, T.g_read_let, F.kp, (F.bindsN (ps := ["reading", "words", "line"]) fun _ _ _ _ _ _ us hl => match us, hl with | [_, _, _], _ => rfl), F.ok sc_read_let sp3_len (fun cdv A outer s H vs Q E hr h => ⟨_, ((pss_cons (ps_set (i := 3) sc_read_let.nd rfl (.inl rfl) (pe_cl T.m_Instruction (ok_Instruction_init T) (hr.mono (by decide)) T.g_Instruction pass0 (pa_cons pe_str (pa_cons (pv 2) pa_nil))))
    (pss_cons (ps_fld (pv 3) (pe_df (ok_read_expression T) (hr.mono (by decide)) pxr (pa_cons (pe_me0 T.k_Reading T.t_this_task (ok_Reading_this_task T) (hr.mono (by decide)) pass0 (pv 0)) (pa_cons (pe_slice sl_list (pv 1) (po_some pe_int) po_none) pa_nil))) rfl)
    (pss_cons (ps_fld (pv 3) (pe_df (ok_read_variable T) (hr.mono (by decide)) pxr (pa_cons (pe_me0 T.k_Reading T.t_this_task (ok_Reading_this_task T) (hr.mono (by decide)) pass0 (pv 0)) (pa_cons (pe_ix ix_list (pv 1) pe_int (fun _ _ => rfl)) pa_nil))) rfl)
    (pss_one (ps_expr (pe_df (ok_add_instruction T) (hr.mono (by decide)) pxr (pa_cons (pv 0) (pa_cons (pv 3) pa_nil))))))))), ?_⟩)⟩
  obtain ⟨_, _, _, rfl, L, s', t, l, ws, n, rfl, rfl, rfl, R, hex, S, hn, W, h⟩ := h
  rw [in_let] at h
  have hl := (S.some_ t hn).1.len
  have h1 : Res K E (wo H (L.M s'.now)) (Xb15.parseExp t ((Xb15.ascii "let" :: ws).drop 2)) fun e => ∃ v r, ws = v :: r ∧ Res K E (wo H (L.M s'.now)) (Xb15.assignVariable t v) fun y => y.1.code.length ≤ 40 ∧ Res K E (wo H (L.M s'.now)) (Xb15.addInstruction s' y.1 (.assign y.2 e) n) (Out K L.r (wo H (L.M s'.now)) Q) := by
    cases ws with
    | nil => exact h
    | cons v r => exact (Res.bind h).mono (Same.refl _) fun c _ z => ⟨v, r, rfl, (Res.bind z).mono (Same.refl _) fun y hy z => ⟨by rw [assign_code (t' := y.1) (k := y.2) hy]; exact hl, z⟩⟩
  refine st_asg (T.mk_ins R hex val_c (val_var rfl) fun H1 x dx fa sa s1 hx G ho hf hs => ?_)
  dsimp only
  refine st_fldH (Stg.exp T G S hn W (k := 2) rfl rfl val_c h1 fun e H4 fa' h4 e4 hf4 => fldTo T.k_Instruction T.n_Instruction_first rfl (e4 _ _ ho) pt_Instruction_first (by show 9 < 1000; decide) ?_)
  obtain ⟨v, r, rfl, h5⟩ := h4
  have G5 := (G.same e4).put (.ins (He.ga K "Instruction") dx (fInstruction (.str "let") (iv n) (.str "") (.int (-1)) (.ref fa') (.ref sa) (.int (-1)) (.int 0) (.int (-1))))
  dsimp only
  refine st_fldH (Stg.var T G5 S hn rfl (W.ix G5.old (i := 1) rfl val_c rfl) (W.each v (by simp)) h5 fun y H6 h6 G6 hk ht => fldTo T.k_Instruction T.n_Instruction_slot rfl (hk _ upd_same) pt_Instruction_slot (by show 9 < 1000; decide) ?_)
  dsimp only
  have hM : ({ L with ex := [x] } : Lay).M (some y.1) = ({ L with ex := [x] } : Lay).M s'.now := by rw [hn]; rfl
  have ff := ht _ _ (tm_put G.mem hf4)
  have ss := ht _ _ (tm_put G.mem (tm_same e4 hs))
  rw [← hM] at ff ss
  refine Stg.add T (t := y.1) (i := .assign y.2 e) (G6.put _) h6.1 rfl rfl rfl ⟨dx, fa', sa, _, upd_same, tm_put G6.mem ff, tm_put G6.mem ss, trivial⟩ h6.2 fun s2 H' L' hO hr hx' _ _ hF hR _ => hO H' L' hr hx' hF hR
end
end GW
/-! The walk 6: blocks, starts, ends -/
namespace GW
open PySem PySem.Spec PyProof.Rows L2
open Gc (SOk)
section
variable {σ : L2.St} {H : Hp} {ta tb : TE} {v : V} {R : List V → Hp → Prop}
theorem val_andF (h : Val ta σ H (.bl false)) : Val (tAndV ta tb) σ H (.bl false) := fun Q q => h _ ⟨false, rfl, q⟩
theorem val_andT (h : Val ta σ H (.bl true)) (h2 : Val tb σ H v) : Val (tAndV ta tb) σ H v := fun Q q => h _ ⟨true, rfl, h2 _ q⟩
theorem st_appendH {K : PySem.W.Frag} {D : Ends} {p : Addr} {xs : List V} (h1 : Val ta σ H (.ref p)) (hp : SqL K H p xs) (h : tb σ H fun y H1 => rAppend (.ref p) [y] H1 fun _ H2 => D.nx σ H2) : tDrop (tBM K "list" rAppend ta (tCons tb tNil)) D σ H := h1 _ ⟨.inl ⟨rfl, _, hp⟩, h⟩
theorem andH {Q : VK} (h : ta σ H fun x H1 => ∃ c, x = V.bl c ∧ if c = true then tb σ H1 Q else Q (.bl false) H1) : tAndV ta tb σ H Q := h
theorem ne_nilH {K : PySem.W.Frag} {a : Addr} {xs : List V} {Q : VK} (h1 : Val ta σ H (.ref a)) (hS : SqL K H a xs) (hd : ∀ H', Same H H' → ∃ ds, DpAll K H' xs ds ∧ PyData.canLayAll0 ds = true ∧ PyData.depthAll ds ≤ 10) (q : ∀ H', Same H H' → Q (.bl (!xs.isEmpty)) H') : tOp (rNeD K) ta (tLst tNil) σ H Q :=
  h1 _ ⟨by show 0 ≤ sizeLine; decide, fun p hp => by
    obtain ⟨ds, d1, d2, d3⟩ := hd _ (same_upd (o := .lst []) hp)
    exact neD_nil ((same_upd hp).seq hS) d1 d2 (by omega) upd_same (q _ (same_upd hp))⟩
theorem eq_nilH {K : PySem.W.Frag} {a : Addr} {xs : List V} {Q : VK} (h1 : Val ta σ H (.ref a)) (hS : SqL K H a xs) (hd : ∀ H', Same H H' → ∃ ds, DpAll K H' xs ds ∧ PyData.canLayAll0 ds = true ∧ PyData.depthAll ds ≤ 10) (q : ∀ H', Same H H' → Q (.bl xs.isEmpty) H') : tOp (rEqD K) ta (tLst tNil) σ H Q :=
  h1 _ ⟨by show 0 ≤ sizeLine; decide, fun p hp => by
    obtain ⟨ds, d1, d2, d3⟩ := hd _ (same_upd (o := .lst []) hp)
    exact eqD_nil ((same_upd hp).seq hS) d1 d2 (by omega) upd_same (q _ (same_upd hp))⟩
theorem st_popH {K : PySem.W.Frag} {D : Ends} {p : Addr} {xs : List V} {y : V} {g : TG} (h1 : Val ta σ H (.ref p)) (hp : H p = some (.lst xs)) (hy : xs[xs.length - 1]? = some y) (q : g y σ (upd H p (.lst xs.dropLast)) D.nx) : tAsg (tBM0 K "list" rPop ta) g D σ H :=
  h1 _ ⟨.inl ⟨rfl, _, SqL.of hp⟩, p, xs, y, rfl, rfl, hp, hy, q⟩
theorem consH1 (h : ta σ H fun x H1 => R [x] H1) : tCons ta tNil σ H R := h
end
def blockW (kd : Nat) : Str := if kd = 1 then "times" else "if"
def endOf (ws : List Xb15.Bytes) (op : List (Nat × Nat)) (kd : Nat) : Except Nat (Nat × List (Nat × Nat)) := if ws ≠ [] then .error 1 else match op with
  | x :: r => if x.2 = kd then .ok (x.1, r) else .error 4
  | [] => .error 4
section
variable (s : Xb15.ParseState) (t : Xb15.Task) (n : Nat) (ws : List Xb15.Bytes)
open Xb15
theorem in_if : parseInner s t n (ascii "if") ws = (parseExp t ws >>= fun e => if 4 ≤ s.opened.length then .error 5 else addInstruction { s with opened := (t.code.length, 0) :: s.opened } t (.skipIfZero e 0) n) := by
  unfold parseInner
  rw [if_neg (by decide +kernel), if_neg (by decide +kernel), if_neg (by decide +kernel), if_neg (by decide +kernel), if_neg (by decide +kernel), if_pos rfl]
theorem in_fi : parseInner s t n (ascii "fi") ws = (endOf ws s.opened 0 >>= fun x => .ok { s with now := some { t with code := setSkipTarget t.code x.1 t.code.length }, opened := x.2 }) := by
  unfold parseInner endOf
  rw [if_neg (by decide +kernel), if_neg (by decide +kernel), if_neg (by decide +kernel), if_neg (by decide +kernel), if_neg (by decide +kernel), if_neg (by decide +kernel)]
  cases ws with
  | nil =>
    rw [if_pos ⟨rfl, rfl⟩, if_neg (fun h => h rfl)]
    match s.opened with
    | [] => rfl
    | (i, 0) :: r => rfl
    | (i, k + 1) :: r => rfl
  | cons a r =>
    rw [if_neg (fun h => by cases h.2), if_neg (by decide +kernel), if_neg (fun h => by cases h.2), if_neg (by decide +kernel), if_neg (fun h => by cases h.2), if_pos (by simp)]
    rfl
theorem in_times : parseInner s t n (ascii "times") ws = match ws with
    | [w] => (match parseNat? w with
      | some m => if m < 1 ∨ 5 < m then .error 1 else if 4 ≤ s.opened.length ∨ 2 ≤ (s.opened.filter fun x => x.2 == 1).length then .error 5 else addInstruction { s with opened := (t.code.length, 1) :: s.opened } t (.times m) n
      | none => .error 1)
    | _ => .error 1 := by
  unfold parseInner
  rw [if_neg (by decide +kernel), if_neg (by decide +kernel), if_neg (by decide +kernel), if_neg (by decide +kernel), if_neg (by decide +kernel), if_neg (by decide +kernel), if_neg (fun h => absurd h.1 (by decide +kernel)), if_pos rfl]
  match ws with
  | [] => rfl
  | [_] => rfl
  | _ :: _ :: _ => rfl
theorem in_again : parseInner s t n (ascii "again") ws = (endOf ws s.opened 1 >>= fun x => addInstruction { s with opened := x.2 } t (.again (x.1 + 1)) n) := by
  unfold parseInner endOf
  rw [if_neg (by decide +kernel), if_neg (by decide +kernel), if_neg (by decide +kernel), if_neg (by decide +kernel), if_neg (by decide +kernel), if_neg (by decide +kernel), if_neg (fun h => absurd h.1 (by decide +kernel)), if_neg (by decide +kernel)]
  cases ws with
  | nil =>
    rw [if_pos ⟨rfl, rfl⟩, if_neg (fun h => h rfl)]
    match s.opened with
    | [] => rfl
    | (i, 0) :: r => rfl
    | (i, 1) :: r => rfl
    | (i, k + 2) :: r => rfl
  | cons a r =>
    rw [if_neg (fun h => by cases h.2), if_neg (by decide +kernel), if_neg (fun h => by cases h.2), if_pos (by simp)]
    rfl
theorem in_start : parseInner s t n (ascii "start") ws = match ws with
    | [w] => if isName w = false then .error 1 else if w = t.name then addInstruction s t (.start s.program.tasks.length) n else (match findTask s.program w with
      | none => .error 2
      | some i => addInstruction s t (.start i) n)
    | _ => .error 1 := by
  unfold parseInner
  rw [if_neg (by decide +kernel), if_neg (by decide +kernel), if_neg (by decide +kernel), if_neg (by decide +kernel), if_neg (by decide +kernel), if_neg (by decide +kernel), if_neg (fun h => absurd h.1 (by decide +kernel)), if_neg (by decide +kernel), if_neg (fun h => absurd h.1 (by decide +kernel)), if_pos rfl]
  match ws with
  | [] => rfl
  | [_] => rfl
  | _ :: _ :: _ => rfl
theorem in_end : parseInner s t n (ascii "end") ws = if ws = [] then (if s.opened ≠ [] then .error 4 else .ok { s with program := { s.program with tasks := s.program.tasks ++ [t] }, now := none }) else .error 1 := by
  unfold parseInner
  rw [if_neg (by decide +kernel), if_neg (by decide +kernel), if_neg (by decide +kernel), if_neg (by decide +kernel), if_neg (by decide +kernel), if_neg (by decide +kernel), if_neg (fun h => absurd h.1 (by decide +kernel)), if_neg (by decide +kernel), if_neg (fun h => absurd h.1 (by decide +kernel)), if_neg (by decide +kernel)]
  cases ws with
  | nil => rw [if_pos ⟨rfl, rfl⟩, if_pos rfl]
  | cons a r => rw [if_neg (fun h => by cases h.2), if_neg (by simp)]
theorem num_cases (w : Bytes) : (parseInt? w = none ∧ parseNat? w = none) ∨ (∃ m : Nat, parseInt? w = some (m : Int) ∧ parseNat? w = some m) ∨ ∃ z : Int, parseInt? w = some z ∧ parseNat? w = none ∧ z ≤ 0 := by
  unfold parseInt?
  split
  · rename_i r
    have h0 : parseNat? (45 :: r) = none := by
      unfold parseNat?
      rw [if_pos]
      refine .inr (.inr (.inl ?_))
      simp
    cases e : parseNat? r with
    | none => exact .inl ⟨rfl, h0⟩
    | some m => exact .inr (.inr ⟨-(m : Int), rfl, h0, by omega⟩)
  · cases e : parseNat? w with
    | none => exact .inl ⟨rfl, rfl⟩
    | some m => exact .inr (.inl ⟨m, rfl, rfl⟩)
end
theorem blocks_kind {code : Gc.Code} : ∀ {o : List (Nat × Nat)} {hi : Nat}, Gc.Blocks code o hi → ∀ x ∈ o, x.2 = 0 ∨ x.2 = 1
  | [], _, _, x, hx => by simp at hx
  | (i, k) :: r, hi, ⟨_, h2, _, h4⟩, x, hx => by
    rcases List.mem_cons.mp hx with rfl | hx
    · rcases h2 with ⟨h, _⟩ | ⟨h, _⟩
      · exact .inr h
      · exact .inl h
    · exact blocks_kind h4 x hx
theorem blockW_eq {a b : Nat} (ha : a = 0 ∨ a = 1) (hb : b = 0 ∨ b = 1) : decide (V.str (blockW a) = V.str (blockW b)) = decide (a = b) := by
  rcases ha with rfl | rfl <;> rcases hb with rfl | rfl <;> decide +kernel
theorem dp_blocks {K : PySem.W.Frag} {H : Hp} : ∀ {bs : List Addr} {l : List (Nat × Nat)}, All2 (fun b x => H b = some (.tup (blockV x))) bs l → ∃ ds, DpAll K H (bs.map V.ref) ds ∧ PyData.canLayAll0 ds = true ∧ PyData.depthAll ds ≤ 10
  | [], [], _ => ⟨[], .nil, rfl, by decide⟩
  | [], _ :: _, h => by have := h.len; simp at this
  | _ :: _, [], h => by have := h.len; simp at this
  | b :: bs, x :: l, h => by
    obtain ⟨h1, h2⟩ := h.inv
    obtain ⟨ds, d1, d2, d3⟩ := dp_blocks h2
    refine ⟨.tuple [.str (if x.2 = 1 then "times" else "if"), .int x.1] :: ds, .cons (.tup (.inl (.inl h1)) (.cons (.str _) (.cons (.int _) .nil))) d1, ?_, ?_⟩
    · simp only [PyData.canLayAll0, PyData.canLay0, Bool.true_and, Bool.and_true, d2]
      split <;> decide +kernel
    · simp only [PyData.depthAll, PyData.depth]
      omega
section
variable {P : Program} {w : World} {K : PySem.W.Frag} {mg : Str → Option Value} {base : Heap}
theorem add_opened {s : Xb15.ParseState} {t : Xb15.Task} {i : Xb15.Instruction} {n : Nat} {op : List (Nat × Nat)} {E : XK} {F : Hp} {o : Xb15.ParseState → Prop} (h : Res K E F (Xb15.addInstruction { s with opened := op } t i n) o) :
    Res K E F (Xb15.addInstruction s t i n) fun s1 => s1.opened = s.opened ∧ s1.now = some { t with code := t.code ++ [(i, n)] } ∧ o { s1 with opened := op } := by
  unfold Xb15.addInstruction at h ⊢
  split
  · rename_i hc
    rw [if_pos hc] at h
    exact h
  · rename_i hc
    rw [if_neg hc] at h
    exact ⟨rfl, rfl, h⟩
def blockSp (K : PySem.W.Frag) : Sp := sp2 fun a b H Q E => ∃ F L s t i n x kd, a = .ref L.r ∧ b = .ref x ∧ Stg K F L x s H ∧ s.now = some t ∧ t.code.length ≤ 40 ∧ s.opened.length ≤ 4 ∧ InsAt K (wo H (L.M s.now)) H x (i, n) ∧ (ivOf i).word = blockW kd ∧ Res K E F (Xb15.addInstruction { s with opened := (t.code.length, kd) :: s.opened } t i n) (Out K L.r F Q)
theorem sc_begin_block : FnScope ["reading", "instruction"] ["reading", "instruction"] (defScope s_begin_block) := ⟨rfl, rfl, rfl, by decide +kernel, rfl, by decide +kernel, by decide +kernel⟩
theorem ok_begin_block (T : Tx K w mg) : Df P w K mg base (L2.CX P w) 5 "begin_block" ["reading", "instruction"] (blockSp K) := by
  obtain ⟨fd, F⟩ := T.d_begin_block
  refine ⟨fd, T.g_begin_block, F.kp, (F.bindsN (ps := ["reading", "instruction"]) fun _ _ _ _ _ _ us hl => match us, hl with | [_, _], _ => rfl), F.ok sc_begin_block sp2_len (fun cdv A outer s H vs Q E hr h => ⟨_, ((pss_cons (ps_expr (pe_df (ok_add_instruction T) (hr.mono (by decide)) pxr (pa_cons (pv 0) (pa_cons (pv 1) pa_nil))))
    (pss_one (ps_expr (pe_bm PySem.F.plainAttrs_list PySem.F.slot_list_append PySem.F.type_list_append mt_append (pe_fld (pv 0) rfl) (pa_cons (pe_tup (pa_cons (pe_fld (pv 1) rfl) (pa_cons (pe_op op_sub (pe_callB call_len (by rfl) T.f_len (by decide +kernel) (pa_cons (pe_fld (pe_me0 T.k_Reading T.t_this_task (ok_Reading_this_task T) (hr.mono (by decide)) pass0 (pv 0)) rfl) pa_nil)) pe_int) pa_nil))) pa_nil)))))), ?_⟩)⟩
  obtain ⟨_, _, rfl, F', L, s', t, i, n, x, kd, rfl, rfl, G, hn, hl, hop, hI, hwd, h⟩ := h
  refine Stg.add T G hl hn rfl rfl hI (add_opened h) fun s1 H1 L1 hO hr hx' his ht0 hF hR hk => ?_
  obtain ⟨ho1, hn1, hO⟩ := hO
  have rd : atReading K H1 L.r L1.dxr (.ref L1.pa) (.bl s1.now.isSome) (.ref L1.ba) := by rw [← hr]; exact hR.rd
  obtain ⟨dx, fa, sa, g, hi, _⟩ := hI
  obtain ⟨r1, r2, r3, r4⟩ := hR.now _ hn1
  have hlen : (L1.is.length : Int) - 1 = (t.code.length : Int) := by
    have := r4.len
    simp at this
    omega
  have hb := hR.blocks.len
  rw [List.length_reverse, ho1] at hb
  refine st_appendH (T.v_Reading_blocks (val_var rfl) rd) (SqL.of hR.bl) (tup2 (T.v_Instruction_word (val_var rfl) (hk _ hi)) (val_sub (val_lenM (T.v_Task_instructions (T.this_task (L := L1) (by rw [hr]; exact val_var rfl) hR hn1) (wo_same _ _ _ _ r1)) (SqL.of r3)) val_c) fun p hp => ?_)
  refine ⟨L1.ba, _, _, rfl, rfl, same_upd hp _ _ hR.bl, by rw [List.length_map]; exact lineN (by omega), ?_⟩
  have hv : [V.str (ivOf i).word, V.int ((L1.is.length : Int) - 1)] = blockV (t.code.length, kd) := by
    rw [hlen, hwd]
    rfl
  have hP := hR.push hp (t.code.length, kd)
  rw [ho1] at hP
  rw [← hv] at hP
  refine hO _ { L1 with bs := L1.bs ++ [p] } hr hx' ?_ hP
  show Same F' (wo _ (L1.M s1.now))
  rw [wo_upd (Lay.inP Lay.baP)]
  exact hF.trans (wo_more (same_upd hp))
theorem sc_read_if : FnScope ["reading", "words", "line", "found"] ["reading", "words", "line"] (defScope s_read_if) := ⟨rfl, rfl, rfl, by decide +kernel, rfl, by decide +kernel, by decide +kernel⟩
theorem ok_read_if (T : Tx K w mg) : Df P w K mg base (L2.CX P w) 6 "read_if" ["reading", "words", "line"] (readSp K "if") := by
  obtain ⟨fd, F⟩ := T.d_read_if
  refine ⟨fd, T.g_read_if, F.kp, (F.bindsN (ps := ["reading", "words", "line"]) fun _ _ _ _ _ _ us hl => match us, hl with | [_, _, _], _ => rfl), F.ok sc_read_if sp3_len (fun cdv A outer s H vs Q E hr h => ⟨_, ((pss_cons (ps_set (i := 3) sc_read_if.nd rfl (.inl rfl) (pe_cl T.m_Instruction (ok_Instruction_init T) (hr.mono (by decide)) T.g_Instruction pass0 (pa_cons pe_str (pa_cons (pv 2) pa_nil))))
    (pss_cons (ps_fld (pv 3) (pe_df (ok_read_expression T) (hr.mono (by decide)) pxr (pa_cons (pe_me0 T.k_Reading T.t_this_task (ok_Reading_this_task T) (hr.mono (by decide)) pass0 (pv 0)) (pa_cons (pe_slice sl_list (pv 1) (po_some pe_int) po_none) pa_nil))) rfl)
    (pss_cons (ps_expr (pe_df (ok_want_right T) (hr.mono (by decide)) pxr (pa_cons (pe_cmpR op_lt (pe_callB call_len (by rfl) T.f_len (by decide +kernel) (pa_cons (pe_fld (pv 0) rfl) pa_nil)) (pe_gi T.c_MOST_BLOCKS) (nomark _)) (pa_cons (pe_gi T.c_EXCEEDED) pa_nil))))
    (pss_one (ps_expr (pe_df (ok_begin_block T) (hr.mono (by decide)) pxr (pa_cons (pv 0) (pa_cons (pv 3) pa_nil))))))))), ?_⟩)⟩
  obtain ⟨_, _, _, rfl, L, s', t, l, ws, n, rfl, rfl, rfl, R, hex, S, hn, W, h⟩ := h
  rw [in_if] at h
  have hl := (S.some_ t hn).1.len
  have hop := (S.some_ t hn).2.2.2.1
  refine st_asg (T.mk_ins R hex val_c (val_var rfl) fun H1 x dx fa sa s1 hx G ho hf hs => ?_)
  dsimp only
  refine st_fldH (Stg.exp T G S hn W (k := 1) rfl rfl val_c (Res.bind h) fun e H4 fa' h4 e4 hf4 => fldTo T.k_Instruction T.n_Instruction_first rfl (e4 _ _ ho) pt_Instruction_first (by show 9 < 1000; decide) ?_)
  have G5 := (G.same e4).put (.ins (He.ga K "Instruction") dx (fInstruction (.str "if") (iv n) (.str "") (.int (-1)) (.ref fa') (.ref sa) (.int (-1)) (.int 0) (.int (-1))))
  dsimp only
  have hb := G5.R.blocks.len
  rw [List.length_reverse] at hb
  refine st_wantI 5 (val_lenM (T.v_Reading_blocks (val_var rfl) G5.R.rd) (SqL.of G5.R.bl)) val_c (fun e5 => ?_) (fun e5 => ?_) rfl
  · have e6 := of_decide_eq_true e5
    rw [if_neg (by omega)] at h4
    refine st_expr (callS2 (val_var rfl) (val_var rfl) ⟨_, _, rfl, _, { L with ex := [x] }, s', t, .skipIfZero e 0, n, x, 0, rfl, rfl, G5, hn, hl, hop, ⟨dx, fa', sa, _, upd_same, tm_put G.mem hf4, tm_put G.mem (tm_same e4 hs), fun z => absurd rfl z⟩, rfl, h4⟩)
  · have e6 := of_decide_eq_false e5
    rw [if_pos (by omega)] at h4
    exact Err.mono G5.old h4
theorem sc_read_times : FnScope ["reading", "words", "line", "found", "around", "word", "place"] ["reading", "words", "line"] (defScope s_read_times) := ⟨rfl, rfl, rfl, by decide +kernel, rfl, by decide +kernel, by decide +kernel⟩
theorem ok_read_times (T : Tx K w mg) : Df P w K mg base (L2.CX P w) 6 "read_times" ["reading", "words", "line"] (readSp K "times") := by
  obtain ⟨fd, F⟩ := T.d_read_times
  refine ⟨fd, T.g_read_times, F.kp, (F.bindsN (ps := ["reading", "words", "line"]) fun _ _ _ _ _ _ us hl => match us, hl with | [_, _, _], _ => rfl), F.ok sc_read_times sp3_len (fun cdv A outer s H vs Q E hr h => ⟨_, ((pss_cons (ps_expr (pe_df (ok_want_right T) (hr.mono (by decide)) pxr (pa_cons (pe_and (pe_cmpR op_eq (pe_callB call_len (by rfl) T.f_len (by decide +kernel) (pa_cons (pv 1) pa_nil)) pe_int (nomark _)) (pe_and (pe_df (ok_is_number T) (hr.mono (by decide)) pass0 (pa_cons (pe_ix ix_list (pv 1) pe_int (fun _ _ => rfl)) pa_nil)) (pe_one (pe_chain op_le op_le pe_int (pe_callTy call_int_str (by rfl) T.f_int (by decide +kernel) (pa_cons (pe_ix ix_list (pv 1) pe_int (fun _ _ => rfl)) pa_nil)) (pe_gi T.c_MOST_ROUNDS))))) (pa_cons (pe_gi T.c_MALFORMED) pa_nil))))
    (pss_cons (ps_set (i := 3) sc_read_times.nd rfl (.inl rfl) (pe_cl T.m_Instruction (ok_Instruction_init T) (hr.mono (by decide)) T.g_Instruction pass0 (pa_cons pe_str (pa_cons (pv 2) pa_nil))))
    (pss_cons (ps_fld (pv 3) (pe_callTy call_int_str (by rfl) T.f_int (by decide +kernel) (pa_cons (pe_ix ix_list (pv 1) pe_int (fun _ _ => rfl)) pa_nil)) rfl)
    (pss_cons (ps_setLc (i := 4) (own := [("word", 5), ("place", 6)]) rfl sc_read_times.nd rfl rfl (sw_true rfl rfl rfl (by decide +kernel)) (pi_list (pe_fld (pv 0) rfl)) (blkOk_by (N := ["reading", "words", "line", "found", "around", "word", "place"]) (sc := defScope s_read_times) (by decide +kernel)) (fun _ _ _ _ _ => (pg_tupK (K := K) (n := 2) rfl rfl (pgs_cons (pg_name (i := 5) sc_read_times.nd rfl (.inl rfl)) (pgs_cons (pg_name (i := 6) sc_read_times.nd rfl (.inl rfl)) pgs_nil)))) (fun _ _ _ _ _ => (pts_one (pt_cmpR op_eq (pv 5) pe_str (nomark _)))) (fun _ _ _ _ _ => (pv 5)))
    (pss_cons (ps_expr (pe_df (ok_want_right T) (hr.mono (by decide)) pxr (pa_cons (pe_and (pe_cmpR op_lt (pe_callB call_len (by rfl) T.f_len (by decide +kernel) (pa_cons (pe_fld (pv 0) rfl) pa_nil)) (pe_gi T.c_MOST_BLOCKS) (nomark _)) (pe_one (pe_cmpR op_lt (pe_callB call_len (by rfl) T.f_len (by decide +kernel) (pa_cons (pv 4) pa_nil)) (pe_gi T.c_MOST_TIMES) (nomark _)))) (pa_cons (pe_gi T.c_EXCEEDED) pa_nil))))
    (pss_one (ps_expr (pe_df (ok_begin_block T) (hr.mono (by decide)) pxr (pa_cons (pv 0) (pa_cons (pv 3) pa_nil))))))))))), ?_⟩)⟩
  obtain ⟨_, _, _, rfl, L, s', t, l, ws, n, rfl, rfl, rfl, R, hex, S, hn, W, h⟩ := h
  rw [in_times] at h
  have hl := (S.some_ t hn).1.len
  have hop := (S.some_ t hn).2.2.2.1
  have hkd := blocks_kind (S.some_ t hn).2.1
  have hW : Same (wo H (L.M s'.now)) H := wo_same _ _
  have hlen2 := val_eq (val_lenM (σ := L2.start ["reading", "words", "line", "found", "around", "word", "place"] [V.ref L.r, V.ref l, iv n]) (ta := tVar 1) (val_var rfl) (hW.seq W.at_)) (val_c (v := V.int 2)) rfl
  have cond : (∃ b z, ws = [b] ∧ Xb15.parseInt? b = some z ∧ (1 ≤ z ∧ z ≤ 5)) ∨ ((match ws with
    | [w] => (match Xb15.parseNat? w with
      | some m => if m < 1 ∨ 5 < m then .error 1 else if 4 ≤ s'.opened.length ∨ 2 ≤ (s'.opened.filter fun x => x.2 == 1).length then .error 5 else Xb15.addInstruction { s' with opened := (t.code.length, 1) :: s'.opened } t (.times m) n
      | none => .error 1)
    | _ => .error 1) = Except.error 1 ∧ (ws.length ≠ 1 ∨ ∃ b, ws = [b] ∧ (Xb15.parseInt? b = none ∨ ∃ z, Xb15.parseInt? b = some z ∧ ¬ (1 ≤ z ∧ z ≤ 5)))) := by
    match ws with
    | [] => exact .inr ⟨rfl, .inl (by decide)⟩
    | _ :: _ :: _ => exact .inr ⟨rfl, .inl (by simp)⟩
    | [b] =>
      rcases num_cases b with ⟨h1, h2⟩ | ⟨m, h1, h2⟩ | ⟨z, h1, h2, h3⟩
      · exact .inr ⟨by dsimp only; rw [h2], .inr ⟨b, rfl, .inl h1⟩⟩
      · by_cases hm : 1 ≤ m ∧ m ≤ 5
        · exact .inl ⟨b, m, rfl, h1, by omega⟩
        · exact .inr ⟨by dsimp only; rw [h2]; dsimp only; rw [if_pos (by omega)], .inr ⟨b, rfl, .inr ⟨m, h1, by omega⟩⟩⟩
      · exact .inr ⟨by dsimp only; rw [h2], .inr ⟨b, rfl, .inr ⟨z, h1, by omega⟩⟩⟩
  rcases cond with ⟨b, z, rfl, hz, hz1⟩ | ⟨hbad, hc⟩
  · obtain ⟨i1, i2⟩ := int_word hz
    have hm : ∃ m : Nat, z = m ∧ Xb15.parseNat? b = some m := by
      rcases num_cases b with ⟨h1, h2⟩ | ⟨m, h1, h2⟩ | ⟨y, h1, h2, h3⟩
      · rw [h1] at hz; cases hz
      · rw [h1] at hz; exact ⟨m, (Option.some.inj hz).symm, h2⟩
      · rw [h1] at hz
        cases hz
        omega
    obtain ⟨m, rfl, hm⟩ := hm
    refine st_want (b := true) 1 (val_andT (val_is (val_eq (val_lenM (val_var rfl) (hW.seq W.at_)) val_c rfl) rfl) (val_andT (fun Q q => callS1 (W.ix hW (i := 1) rfl val_c rfl) ⟨_, rfl, b, rfl, W.each b (by simp), by rw [hz]; exact q⟩)
      (val_is (val_chain_le val_c (val_int (W.ix hW (i := 1) rfl val_c rfl) i1 i2) val_c) (by simp; omega)))) (fun _ => ?_) (fun e => by cases e) rfl
    refine st_asg (T.mk_ins R hex val_c (val_var rfl) fun H1 x dx fa sa s1 hx G ho hf hs => ?_)
    dsimp only
    refine T.w_Instruction_number (y := .int m) (val_int (W.ix G.old (i := 1) rfl val_c rfl) i1 i2) (val_var rfl) ho ?_
    have G5 := G.put (.ins (He.ga K "Instruction") dx (fInstruction (.str "times") (iv n) (.str "") (.int (-1)) (.ref fa) (.ref sa) (.int (-1)) (.int m) (.int (-1))))
    dsimp only
    have hbl := G5.R.blocks
    have hb := hbl.len
    rw [List.length_reverse] at hb
    have hb1 : L.bs.length = s'.opened.length := hb
    have hb2 : ({ L with ex := [x] } : Lay).bs.length = s'.opened.length := hb
    refine st_asg (lcL (zs := s'.opened.reverse) (fun z => [some (.ref L.r), some (.ref l), some (iv n), some (.ref x), none, some (.str (blockW z.2)), some (iv z.1)]) (fun z => z.2 == 1) (fun z => .str (blockW z.2)) (T.v_Reading_blocks (val_var rfl) G5.R.rd) (SqL.of G5.R.bl) (by rw [List.length_map]; exact hbl.len) (by rw [List.length_reverse]; omega) (fun _ => rfl)
      (fun i z y H6 R' hz hy s6 q => ?_) (fun z H6 hm s6 => ?_) (fun z H6 hm hp s6 => val_var rfl) fun H6 D s6 hD => ?_)
    · obtain ⟨b', hb', rfl⟩ := map_get hy
      have hbz := s6 _ _ (wo_same _ _ _ _ (hbl.at_ i b' z hb' hz))
      exact ⟨b', _, rfl, .inl (.inl hbz), rfl, _, _, rfl, _, _, rfl, rfl, q⟩
    · have hk1 := hkd z (List.mem_reverse.mp hm)
      refine ans_is (ans_of (val_eq (val_var rfl) val_c rfl)) ?_
      exact (blockW_eq (b := 1) hk1 (.inr rfl)).trans (by rw [Bool.eq_iff_iff]; simp)
    · have G6 := G5.same s6
      have hfl : ((s'.opened.reverse.filter fun z => z.2 == 1).map fun z => V.str (blockW z.2)).length = (s'.opened.filter fun x => x.2 == 1).length := by
        rw [List.length_map, List.filter_reverse, List.length_reverse]
      dsimp only at h
      rw [hm] at h
      dsimp only at h
      rw [if_neg (by omega)] at h
      refine st_want 5 (val_andV (val_lt (val_lenM (T.v_Reading_blocks (val_var rfl) G6.R.rd) (SqL.of G6.R.bl)) val_c) fun _ => val_lt (val_len (val_var rfl) (SqL.of hD)) val_c) (fun e => ?_) (fun e => ?_) rfl
      all_goals rw [hfl] at e
      · simp only [Bool.and_eq_true, decide_eq_true_eq] at e
        rw [if_neg (by omega)] at h
        refine st_expr (callS2 (val_var rfl) (val_var rfl) ⟨_, _, rfl, _, { L with ex := [x] }, s', t, .times m, n, x, 1, rfl, rfl, G6, hn, hl, hop, ⟨dx, fa, sa, _, s6 _ _ upd_same, tm_same s6 (tm_put G.mem hf), tm_same s6 (tm_put G.mem hs), trivial⟩, rfl, h⟩)
      · rw [Bool.and_eq_false_iff] at e
        simp only [decide_eq_false_iff_not] at e
        rw [if_pos (by omega)] at h
        exact Err.mono G6.old h
  · rw [hbad] at h
    have hE := Err.mono hW h
    rcases hc with hc | ⟨b, rfl, hc⟩
    · refine st_want (b := false) 1 (val_andF (val_is hlen2 ?_)) (fun e => by cases e) (fun _ => hE) rfl
      congr 1
      have : ¬ ((ws.length : Int) + 1 = 2) := by omega
      simpa using this
    · rcases hc with hc | ⟨z, hc, hz⟩
      · exact st_want (b := false) 1 (val_andT (val_is hlen2 rfl) (val_andF fun Q q => callS1 (W.ix hW (i := 1) rfl val_c rfl) ⟨_, rfl, b, rfl, W.each b (by simp), by rw [hc]; exact q⟩)) (fun e => by cases e) (fun _ => hE) rfl
      · obtain ⟨i1, i2⟩ := int_word hc
        exact st_want (b := false) 1 (val_andT (val_is hlen2 rfl) (val_andT (fun Q q => callS1 (W.ix hW (i := 1) rfl val_c rfl) ⟨_, rfl, b, rfl, W.each b (by simp), by rw [hc]; exact q⟩) (val_is (val_chain_le val_c (val_int (W.ix hW (i := 1) rfl val_c rfl) i1 i2) val_c) (by congr 1; rw [Bool.and_eq_false_iff]; simp; omega)))) (fun e => by cases e) (fun _ => hE) rfl
def endSp (K : PySem.W.Frag) : Sp := sp3 fun a b c H Q E => ∃ L s l k ws kd, a = .ref L.r ∧ b = .ref l ∧ c = .str (blockW kd) ∧ (kd = 0 ∨ kd = 1) ∧ RdAt K H L s ∧ SqL K H l ((k :: ws).map wv) ∧ s.opened.length ≤ 4 ∧ (∀ x ∈ s.opened, x.2 = 0 ∨ x.2 = 1) ∧
    Res K E H (endOf ws s.opened kd) fun y => ∀ H', Kp H L.ba H' → RdAt K H' { L with bs := L.bs.dropLast } { s with opened := y.2 } → Q (iv y.1) H'
theorem sc_end_block : FnScope ["reading", "words", "opener", "word", "place"] ["reading", "words", "opener"] (defScope s_end_block) := ⟨rfl, rfl, rfl, by decide +kernel, rfl, by decide +kernel, by decide +kernel⟩
theorem ok_end_block (T : Tx K w mg) : Df P w K mg base (L2.CX P w) 4 "end_block" ["reading", "words", "opener"] (endSp K) := by
  obtain ⟨fd, F⟩ := T.d_end_block
  refine ⟨fd, T.g_end_block, F.kp, (F.bindsN (ps := ["reading", "words", "opener"]) fun _ _ _ _ _ _ us hl => match us, hl with | [_, _, _], _ => rfl), F.ok sc_end_block sp3_len (fun cdv A outer s H vs Q E hr h => ⟨_, ((pss_cons (ps_expr (pe_df (ok_want_right T) (hr.mono (by decide)) pxr (pa_cons (pe_cmpR op_eq (pe_callB call_len (by rfl) T.f_len (by decide +kernel) (pa_cons (pv 1) pa_nil)) pe_int (nomark _)) (pa_cons (pe_gi T.c_MALFORMED) pa_nil))))
    (pss_cons (ps_expr (pe_df (ok_want_right T) (hr.mono (by decide)) pxr (pa_cons (pe_and (pe_cmpR (op_neD (by exact hr.units)) (pe_fld (pv 0) rfl) (pe_lst pa_nil) (nomark _)) (pe_one (pe_cmpR op_eq (pe_ix ix_tup (pe_ix ix_list (pe_fld (pv 0) rfl) (pe_un un_neg pe_int) (fun _ _ => rfl)) pe_int (fun _ _ => rfl)) (pv 2) (nomark _)))) (pa_cons (pe_gi T.c_UNBALANCED) pa_nil))))
    (pss_cons (ps_asg (pe_bm0 PySem.F.plainAttrs_list PySem.F.slot_list_pop PySem.F.type_list_pop mt_pop (pe_fld (pv 0) rfl)) (pg_tup (n := 2) rfl (pgs_cons (pg_name (i := 3) sc_end_block.nd rfl (.inl rfl)) (pgs_cons (pg_name (i := 4) sc_end_block.nd rfl (.inl rfl)) pgs_nil))))
    (pss_one (ps_ret (pv 4))))))), ?_⟩)⟩
  obtain ⟨_, _, _, rfl, L, s', l, k, ws, kd, rfl, rfl, rfl, hkd, R, hS, hop, hkds, h⟩ := h
  unfold endOf at h
  refine st_want 1 (val_eq (val_lenM (val_var rfl) hS) val_c rfl) (fun e => ?_) (fun e => ?_) rfl
  · have hws : ws = [] := List.eq_nil_of_length_eq_zero (len_ws (m := 0) e)
    subst hws
    rw [if_neg (fun z => z rfl)] at h
    have hbl := R.blocks.len
    rw [List.length_reverse] at hbl
    dsimp only
    refine st_wantH 4 ?_ rfl
    refine andH (ne_nilH (T.v_Reading_blocks (val_var rfl) R.rd) (SqL.of R.bl) (fun H' e' => dp_blocks (R.blocks.mono fun _ _ _ z => e' _ _ (wo_same _ _ _ _ z))) fun H1 s1 => ⟨_, rfl, ifb (fun e1 => ?_) (fun e1 => ?_)⟩)
    · cases ho : s'.opened with
      | nil =>
        rw [ho] at hbl
        have : L.bs = [] := List.eq_nil_of_length_eq_zero hbl
        rw [this] at e1
        cases e1
      | cons y r =>
        have R1 := R.mono s1
        obtain ⟨⟨bs, b, eb, hb⟩, hpop⟩ := R1.pop ho
        have hlast : L.bs.map V.ref = bs.map V.ref ++ [.ref b] := by rw [eb]; simp
        rw [ho] at h hkds
        dsimp only at h
        refine val_eq (val_ixT (val_ixL (T.v_Reading_blocks (val_var rfl) R1.rd) (val_neg val_c) (SqL.of R1.bl) (by rw [hlast]; exact atI_last _ _)) val_c (.inl (.inl hb)) rfl) (val_var rfl) rfl _ ⟨_, rfl, fun e2 => ?_, fun e2 => ?_⟩
        all_goals rw [show V.str (if y.2 = 1 then "times" else "if") = V.str (blockW y.2) from rfl, blockW_eq (hkds y (by simp)) hkd] at e2
        · rw [if_pos (of_decide_eq_true e2)] at h
          have hne : (L.bs.map V.ref)[(L.bs.map V.ref).length - 1]? = some (V.ref b) := by rw [hlast]; simp
          dsimp only
          refine st_popH (T.v_Reading_blocks (val_var rfl) R1.rd) R1.bl hne ⟨b, blockV y, rfl, .inl (.inl ?_), rfl, _, _, rfl, _, _, rfl, rfl, ?_⟩
          · have hbn : b ≠ L.ba := fun z => by rw [z, R1.bl] at hb; cases hb
            rw [upd_ne hbn]
            exact hb
          · refine st_ret (val_var rfl) (h _ (fun u o hu hn => ?_) hpop)
            rw [upd_ne hn]
            exact s1 _ _ hu
        · rw [if_neg (of_decide_eq_false e2)] at h
          exact Err.mono s1 h
    · have hb0 : L.bs = [] := by
        cases hb : L.bs with
        | nil => rfl
        | cons a r => rw [hb] at e1; cases e1
      rw [hb0] at hbl
      have ho : s'.opened = [] := List.eq_nil_of_length_eq_zero hbl.symm
      rw [ho] at h
      exact ⟨_, rfl, (fun z => by cases z), fun _ => Err.mono s1 h⟩
  · rw [if_pos (fun z => len_ws' (m := 0) e (by rw [z]; rfl))] at h
    exact h
theorem end_ok {ws : List Xb15.Bytes} {op r : List (Nat × Nat)} {kd i : Nat} (h : endOf ws op kd = .ok (i, r)) : op = (i, kd) :: r := by
  unfold endOf at h
  split at h
  · cases h
  · split at h
    · rename_i x r'
      split at h
      · rename_i e
        cases h
        rw [← e]
      · cases h
    · cases h
theorem sc_read_fi : FnScope ["reading", "words", "line", "place", "instructions", "begun"] ["reading", "words", "line"] (defScope s_read_fi) := ⟨rfl, rfl, rfl, by decide +kernel, rfl, by decide +kernel, by decide +kernel⟩
theorem ok_read_fi (T : Tx K w mg) : Df P w K mg base (L2.CX P w) 5 "read_fi" ["reading", "words", "line"] (readSp K "fi") := by
  obtain ⟨fd, F⟩ := T.d_read_fi
  refine ⟨fd, T.g_read_fi, F.kp, (F.bindsN (ps := ["reading", "words", "line"]) fun _ _ _ _ _ _ us hl => match us, hl with | [_, _, _], _ => rfl), F.ok sc_read_fi sp3_len (fun cdv A outer s H vs Q E hr h => ⟨_, ((pss_cons (ps_set (i := 3) sc_read_fi.nd rfl (.inl rfl) (pe_df (ok_end_block T) (hr.mono (by decide)) pxr (pa_cons (pv 0) (pa_cons (pv 1) (pa_cons pe_str pa_nil)))))
    (pss_cons (ps_set (i := 4) sc_read_fi.nd rfl (.inl rfl) (pe_fld (pe_me0 T.k_Reading T.t_this_task (ok_Reading_this_task T) (hr.mono (by decide)) pass0 (pv 0)) rfl))
    (pss_cons (ps_set (i := 5) sc_read_fi.nd rfl (.inl rfl) (pe_ix ix_list (pv 4) (pv 3) (fun _ _ => rfl)))
    (pss_one (ps_fld (pv 5) (pe_callB call_len (by rfl) T.f_len (by decide +kernel) (pa_cons (pv 4) pa_nil)) rfl)))))), ?_⟩)⟩
  obtain ⟨_, _, _, rfl, L, s', t, l, ws, n, rfl, rfl, rfl, R, hex, S, hn, W, h⟩ := h
  rw [in_fi] at h
  have hB := (S.some_ t hn).2.1
  have hop := (S.some_ t hn).2.2.2.1
  refine st_asg (callS3 (val_var rfl) (val_var rfl) val_c ⟨_, _, _, rfl, L, s', l, _, ws, 0, rfl, rfl, rfl, .inl rfl, R, (wo_same _ _).seq W.at_, hop, blocks_kind hB, (Res.bind h).mono (wo_same _ _) fun y hy hO H1 k1 R1 => ?_⟩)
  obtain ⟨i, r⟩ := y
  have ho := end_ok hy
  rw [ho] at hB
  obtain ⟨hlt, hc, _, _⟩ := hB
  obtain ⟨e, g, m, hc⟩ : ∃ e g m, t.code[i]? = some (.skipIfZero e g, m) := by
    rcases hc with ⟨h, _⟩ | ⟨_, h⟩
    · cases h
    · exact h
  obtain ⟨r1, r2, r3, r4⟩ := R1.now t hn
  obtain ⟨x, hx, ⟨dx, fa, sa, g0, hi1, hi2, hi3, _⟩⟩ := r4.get hc
  have hlen : L.is.length = t.code.length := r4.len
  dsimp only
  refine st_set (T.v_Task_instructions (T.this_task (L := { L with bs := L.bs.dropLast }) (val_var rfl) R1 hn) (wo_same _ _ _ _ r1)) ?_
  dsimp only
  refine st_set (val_ixL (val_var rfl) (val_var rfl) (SqL.of r3) (atI_nat (j := i) (by rw [List.getElem?_map, hx]; rfl))) ?_
  dsimp only
  have RG := R1.goal hn hx hc hi1 hi2 hi3 t.code.length
  refine T.w_Instruction_goal (y := .int t.code.length) (val_is (val_lenM (f := V.ref) (l := L.is) (val_var rfl) (SqL.of r3)) (by rw [hlen])) (val_var rfl) hi1 ?_
  have hxM : x ∈ L.M s'.now := Lay.inP (Lay.isP hn (List.mem_of_getElem? hx))
  refine hO _ { L with bs := L.bs.dropLast } rfl hex ?_ RG
  have hM : L.M (some { t with code := Xb15.setSkipTarget t.code i t.code.length }) = L.M s'.now := by rw [hn]; rfl
  show Same _ (wo _ (L.M (some { t with code := Xb15.setSkipTarget t.code i t.code.length })))
  rw [hM, wo_upd hxM]
  exact wo_to fun b o hb z => ⟨hb, k1 _ _ z fun e => hb (by rw [e]; exact Lay.inP Lay.baP)⟩
theorem sc_read_again : FnScope ["reading", "words", "line", "found"] ["reading", "words", "line"] (defScope s_read_again) := ⟨rfl, rfl, rfl, by decide +kernel, rfl, by decide +kernel, by decide +kernel⟩
theorem ok_read_again (T : Tx K w mg) : Df P w K mg base (L2.CX P w) 5 "read_again" ["reading", "words", "line"] (readSp K "again") := by
  obtain ⟨fd, F⟩ := T.d_read_again
  refine ⟨fd, T.g_read_again, F.kp, (F.bindsN (ps := ["reading", "words", "line"]) fun _ _ _ _ _ _ us hl => match us, hl with | [_, _, _], _ => rfl), F.ok sc_read_again sp3_len (fun cdv A outer s H vs Q E hr h => ⟨_, ((pss_cons (ps_set (i := 3) sc_read_again.nd rfl (.inl rfl) (pe_cl T.m_Instruction (ok_Instruction_init T) (hr.mono (by decide)) T.g_Instruction pass0 (pa_cons pe_str (pa_cons (pv 2) pa_nil))))
    (pss_cons (ps_fld (pv 3) (pe_op op_add (pe_df (ok_end_block T) (hr.mono (by decide)) pxr (pa_cons (pv 0) (pa_cons (pv 1) (pa_cons pe_str pa_nil)))) pe_int) rfl)
    (pss_one (ps_expr (pe_df (ok_add_instruction T) (hr.mono (by decide)) pxr (pa_cons (pv 0) (pa_cons (pv 3) pa_nil)))))))), ?_⟩)⟩
  obtain ⟨_, _, _, rfl, L, s', t, l, ws, n, rfl, rfl, rfl, R, hex, S, hn, W, h⟩ := h
  rw [in_again] at h
  have hl := (S.some_ t hn).1.len
  have hB := (S.some_ t hn).2.1
  have hop := (S.some_ t hn).2.2.2.1
  refine st_asg (T.mk_ins R hex val_c (val_var rfl) fun H1 x dx fa sa s1 hx G ho hf hs => ?_)
  dsimp only
  refine st_fldH (opIH (callS3 (val_var rfl) (val_var rfl) val_c ⟨_, _, _, rfl, { L with ex := [x] }, s', l, _, ws, 1, rfl, rfl, rfl, .inr rfl, G.R, G.old.seq W.at_, hop, blocks_kind hB, (Res.bind h).mono G.old fun y hy hO H2 k2 R2 => ⟨_, rfl, ?_⟩⟩))
  have hxb : x ≠ L.ba := fun e => by
    have := G.R.away (a := L.ba) Lay.baP
    exact this (by rw [← e]; simp)
  have hM : ({ L with bs := L.bs.dropLast, ex := [x] } : Lay).M s'.now = ({ L with ex := [x] } : Lay).M s'.now := rfl
  have kw : Same (wo H1 (({ L with ex := [x] } : Lay).M s'.now)) (wo H2 (({ L with ex := [x] } : Lay).M s'.now)) := wo_to fun b o hb z => ⟨hb, k2 _ _ z fun e => hb (by rw [e]; exact Lay.inP Lay.baP)⟩
  have G2 : Stg K (wo H (L.M s'.now)) { L with bs := L.bs.dropLast, ex := [x] } x { s' with opened := y.2 } H2 := ⟨R2, by show Same _ (wo H2 (({ L with bs := L.bs.dropLast, ex := [x] } : Lay).M s'.now)); rw [hM]; exact G.F.trans kw, rfl⟩
  have ho2 := k2 _ _ ho hxb
  refine fldTo T.k_Instruction T.n_Instruction_goal rfl ho2 pt_Instruction_goal (by show 9 < 1000; decide) ?_
  dsimp only
  refine Stg.add T (i := .again (y.1 + 1)) (G2.put _) hl hn rfl rfl ⟨dx, fa, sa, _, upd_same, tm_put G2.mem (hf.mono kw), tm_put G2.mem (hs.mono kw), by show (y.1 : Int) + 1 = ((y.1 + 1 : Nat) : Int); omega⟩ hO fun s2 H' L' hO hr hx' _ _ hF hR _ => hO H' L' hr hx' hF hR
theorem sc_read_start : FnScope ["reading", "words", "line", "found"] ["reading", "words", "line"] (defScope s_read_start) := ⟨rfl, rfl, rfl, by decide +kernel, rfl, by decide +kernel, by decide +kernel⟩
theorem ok_read_start (T : Tx K w mg) : Df P w K mg base (L2.CX P w) 5 "read_start" ["reading", "words", "line"] (readSp K "start") := by
  obtain ⟨fd, F⟩ := T.d_read_start
  refine ⟨fd, T.g_read_start, F.kp, (F.bindsN (ps := ["reading", "words", "line"]) fun _ _ _ _ _ _ us hl => match us, hl with | [_, _, _], _ => rfl), F.ok sc_read_start sp3_len (fun cdv A outer s H vs Q E hr h => ⟨_, ((pss_cons (ps_expr (pe_df (ok_want_right T) (hr.mono (by decide)) pxr (pa_cons (pe_cmpR op_eq (pe_callB call_len (by rfl) T.f_len (by decide +kernel) (pa_cons (pv 1) pa_nil)) pe_int (nomark _)) (pa_cons (pe_gi T.c_MALFORMED) pa_nil))))
    (pss_cons (ps_set (i := 3) sc_read_start.nd rfl (.inl rfl) (pe_cl T.m_Instruction (ok_Instruction_init T) (hr.mono (by decide)) T.g_Instruction pass0 (pa_cons pe_str (pa_cons (pv 2) pa_nil))))
    (pss_cons (ps_fld (pv 3) (pe_df (ok_find_task T) (hr.mono (by decide)) pxr (pa_cons (pe_fld (pv 0) rfl) (pa_cons (pe_ix ix_list (pv 1) pe_int (fun _ _ => rfl)) pa_nil))) rfl)
    (pss_one (ps_expr (pe_df (ok_add_instruction T) (hr.mono (by decide)) pxr (pa_cons (pv 0) (pa_cons (pv 3) pa_nil))))))))), ?_⟩)⟩
  obtain ⟨_, _, _, rfl, L, s', t, l, ws, n, rfl, rfl, rfl, R, hex, S, hn, W, h⟩ := h
  rw [in_start] at h
  have hl := (S.some_ t hn).1.len
  obtain ⟨_, _, _, _, htl, _, hnt⟩ := S.some_ t hn
  refine st_want 1 (val_eq (val_lenM (val_var rfl) ((wo_same _ _).seq W.at_)) val_c rfl) (fun e => ?_) (fun e => ?_) rfl
  · obtain ⟨b, rfl⟩ := one_ws (len_ws (m := 1) e)
    refine st_asg (T.mk_ins R hex val_c (val_var rfl) fun H1 x dx fa sa s1 hx G ho hf hs => ?_)
    dsimp only
    obtain ⟨r1, r2, r3, r4⟩ := G.R.now t hn
    have htl' : H1 L.ta = some (.lst ((L.ts ++ [L.t0]).map V.ref)) := by
      have := G.R.tl
      rw [hn] at this
      exact this
    have hnm : All2 (Named K H1) (L.ts ++ [L.t0]) (s'.program.tasks.map Xb15.Task.name ++ [t.name]) := by
      refine All2.snoc ⟨by rw [List.length_map]; exact G.R.tasks.len, fun i a n h1 h2 => ?_⟩ (.inr ⟨_, _, _, wo_same _ _ _ _ r1⟩)
      rw [List.getElem?_map] at h2
      cases e : s'.program.tasks[i]? with
      | none => rw [e] at h2; cases h2
      | some c =>
        rw [e] at h2
        cases h2
        obtain ⟨dx, sa, ia, is, q, _⟩ := G.R.tasks.at_ i a c h1 e
        exact .inr ⟨_, _, _, wo_same _ _ _ _ q⟩
    have hR : Res K E (wo H (L.M s'.now)) (if Xb15.isName b = false then .error 1 else match (s'.program.tasks.map Xb15.Task.name ++ [t.name]).findIdx? fun v => v == b with | none => .error 2 | some i => .ok i) fun i => Res K E (wo H (L.M s'.now)) (Xb15.addInstruction s' t (.start i) n) (Out K L.r (wo H (L.M s'.now)) Q) := by
      dsimp only at h
      by_cases hnb : Xb15.isName b = false
      · rw [if_pos hnb] at h ⊢
        exact h
      · rw [if_neg hnb] at h ⊢
        have hf0 : (s'.program.tasks.map Xb15.Task.name).findIdx? (fun v => v == b) = Xb15.findTask s'.program b := by rw [findIdx_map]; rfl
        rw [List.findIdx?_append, hf0]
        by_cases hbt : b = t.name
        · subst hbt
          rw [hnt]
          rw [if_pos rfl] at h
          simp [List.findIdx?_cons]
          exact h
        · rw [if_neg hbt] at h
          cases hf : Xb15.findTask s'.program b with
          | none =>
            rw [hf] at h
            simp [List.findIdx?_cons, Ne.symm hbt]
            exact h
          | some i =>
            rw [hf] at h
            simp
            exact h
    refine st_fldH (callS2 (T.v_Reading_program (val_var rfl) G.R.rd) (W.ix G.old (i := 1) rfl val_c rfl) ⟨_, _, rfl, L.pa, L.dxp, L.ca, L.ta, L.ga, L.ts ++ [L.t0], s'.program.tasks.map Xb15.Task.name ++ [t.name], b, rfl, rfl, W.each b (by simp), wo_same _ _ _ _ G.R.pr, SqL.of htl', hnm, by simp; omega, hR.mono G.old fun i _ hi H2 s2 => ?_⟩)
    refine fldTo T.k_Instruction T.n_Instruction_number rfl (s2 _ _ ho) pt_Instruction_number (by show 9 < 1000; decide) ?_
    dsimp only
    refine Stg.add T (i := .start i) ((G.same s2).put _) hl hn rfl rfl ⟨dx, fa, sa, _, upd_same, tm_put G.mem (tm_same s2 hf), tm_put G.mem (tm_same s2 hs), trivial⟩ hi fun s2 H' L' hO hr hx' _ _ hF hR _ => hO H' L' hr hx' hF hR
  · have : (match ws with
      | [w] => if Xb15.isName w = false then .error 1 else if w = t.name then Xb15.addInstruction s' t (.start s'.program.tasks.length) n else (match Xb15.findTask s'.program w with
        | none => .error 2
        | some i => Xb15.addInstruction s' t (.start i) n)
      | _ => .error 1) = Except.error 1 := by
      have hne := len_ws' (m := 1) e
      match ws, hne with
      | [], _ => rfl
      | [_], hne => exact (hne rfl).elim
      | _ :: _ :: _, _ => rfl
    rw [this] at h
    exact Err.mono (wo_same _ _) h
theorem sc_read_end : FnScope ["reading", "words", "line"] ["reading", "words", "line"] (defScope s_read_end) := ⟨rfl, rfl, rfl, by decide +kernel, rfl, by decide +kernel, by decide +kernel⟩
theorem ok_read_end (T : Tx K w mg) : Df P w K mg base (L2.CX P w) 4 "read_end" ["reading", "words", "line"] (readSp K "end") := by
  obtain ⟨fd, F⟩ := T.d_read_end
  refine ⟨fd, T.g_read_end, F.kp, (F.bindsN (ps := ["reading", "words", "line"]) fun _ _ _ _ _ _ us hl => match us, hl with | [_, _, _], _ => rfl), F.ok sc_read_end sp3_len (fun cdv A outer s H vs Q E hr h => ⟨_, ((pss_cons (ps_expr (pe_df (ok_want_right T) (hr.mono (by decide)) pxr (pa_cons (pe_cmpR op_eq (pe_callB call_len (by rfl) T.f_len (by decide +kernel) (pa_cons (pv 1) pa_nil)) pe_int (nomark _)) (pa_cons (pe_gi T.c_MALFORMED) pa_nil))))
    (pss_cons (ps_expr (pe_df (ok_want_right T) (hr.mono (by decide)) pxr (pa_cons (pe_cmpR (op_eqD (by exact hr.units)) (pe_fld (pv 0) rfl) (pe_lst pa_nil) (nomark _)) (pa_cons (pe_gi T.c_UNBALANCED) pa_nil))))
    (pss_one (ps_fld (pv 0) pe_bl rfl))))), ?_⟩)⟩
  obtain ⟨_, _, _, rfl, L, s', t, l, ws, n, rfl, rfl, rfl, R, hex, S, hn, W, h⟩ := h
  rw [in_end] at h
  refine st_want 1 (val_eq (val_lenM (val_var rfl) ((wo_same _ _).seq W.at_)) val_c rfl) (fun e => ?_) (fun e => ?_) rfl
  · have hws : ws = [] := List.eq_nil_of_length_eq_zero (len_ws (m := 0) e)
    rw [if_pos hws] at h
    have hbl := R.blocks.len
    rw [List.length_reverse] at hbl
    dsimp only
    refine st_wantH 4 ?_ rfl
    refine eq_nilH (T.v_Reading_blocks (val_var rfl) R.rd) (SqL.of R.bl) (fun H' e' => dp_blocks (R.blocks.mono fun _ _ _ z => e' _ _ (wo_same _ _ _ _ z))) fun H1 s1 => ⟨_, rfl, fun e1 => ?_, fun e1 => ?_⟩
    · have hb0 : L.bs = [] := by
        cases hb : L.bs with
        | nil => rfl
        | cons a r => rw [hb] at e1; cases e1
      rw [hb0] at hbl
      have ho : s'.opened = [] := List.eq_nil_of_length_eq_zero hbl.symm
      rw [if_neg (fun z => z ho)] at h
      have R1 := R.mono s1
      dsimp only
      refine T.w_Reading_is_inside (y := .bl false) val_c (val_var rfl) R1.rd ?_
      refine h _ { L with ts := L.ts ++ [L.t0] } rfl hex ?_ (R1.done hn hex)
      refine wo_to fun b o hb z => ?_
      have hbr : b ≠ L.r := fun e => hb (by rw [e]; exact Lay.inP Lay.rP)
      refine ⟨fun y => hb ?_, by rw [upd_ne hbr]; exact s1 _ _ z⟩
      have y : b ∈ [L.r, L.ca, L.ta, L.ga, L.ba] ++ L.ex := y
      rw [hex, List.append_nil] at y
      refine Lay.inP ?_
      simp only [Lay.P, List.mem_cons, List.not_mem_nil, or_false] at y ⊢
      rcases y with y | y | y | y | y <;> simp [y]
    · have ho : s'.opened ≠ [] := fun ho => by
        rw [ho] at hbl
        have : L.bs = [] := List.eq_nil_of_length_eq_zero hbl
        rw [this] at e1
        cases e1
      rw [if_pos ho] at h
      exact Err.mono (same_wo s1) h
  · rw [if_neg (fun z => len_ws' (m := 0) e (by rw [z]; rfl))] at h
    exact Err.mono (wo_same _ _) h
end
end GW
/-! The walk 7: the table of statements, the outer statements -/
namespace GW
open PySem PySem.Spec PyProof.Rows L2
open Gc (SOk)
theorem Df.up {P : Program} {w : World} {K : PySem.W.Frag} {mg : Str → Option Value} {base : Heap} {CX : CXT} {j k : Nat} {x : Str} {ps : List Str} {sp : Sp} (D : Df P w K mg base CX j x ps sp) (h : j ≤ k) : Df P w K mg base CX k x ps sp := by
  obtain ⟨fd, h1, h2, h3, F⟩ := D.ex
  exact ⟨fd, h1, h2, h3, F.mono h⟩
def insideWords : List String := ["put", "narrow", "wait", "read", "let", "if", "times", "fi", "again", "start", "end"]
theorem inside_any (b : Xb15.Bytes) : (["put", "narrow", "wait", "read", "let", "if", "times", "fi", "again", "start", "end"] : List Str).any (· == phi b) = insideWords.any fun z => decide (b = Xb15.ascii z) := by
  unfold insideWords
  simp only [List.any_cons, List.any_nil, Bool.or_false]
  rw [lit_beq (by decide +kernel), lit_beq (by decide +kernel), lit_beq (by decide +kernel), lit_beq (by decide +kernel), lit_beq (by decide +kernel), lit_beq (by decide +kernel), lit_beq (by decide +kernel), lit_beq (by decide +kernel), lit_beq (by decide +kernel), lit_beq (by decide +kernel), lit_beq (by decide +kernel)]
theorem in_none (s : Xb15.ParseState) (t : Xb15.Task) (n : Nat) (k : Xb15.Bytes) (ws : List Xb15.Bytes) (h : (insideWords.any fun z => decide (k = Xb15.ascii z)) = false) : Xb15.parseInner s t n k ws = .error 1 := by
  unfold insideWords at h
  simp only [List.any_cons, List.any_nil, Bool.or_false, Bool.or_eq_false_iff, decide_eq_false_iff_not] at h
  obtain ⟨h1, h2, h3, h4, h5, h6, h7, h8, h9, h10, h11⟩ := h
  unfold Xb15.parseInner
  rw [if_neg h1, if_neg h2, if_neg h3, if_neg h4, if_neg h5, if_neg h6, if_neg (fun z => h8 z.1), if_neg h7, if_neg (fun z => h9 z.1), if_neg h10, if_neg (fun z => h11 z.1)]
/-- what a def of the table may be -/
def insideR (K : PySem.W.Frag) (f : Addr) (sp : Sp) : Prop := ∃ z ∈ insideWords, f = He.ga K (Str.ofString ("read_" ++ z)) ∧ sp = readSp K z
section
variable {σ : L2.St} {H : Hp} {ta tb tc : TE} {x y z : V} {Q : VK} {E : XK}
theorem callT3 {i : Nat} {R : Addr → Sp → Prop} {f : Addr} {sp : Sp} (hs : σ[i]? = some (some (.ref f))) (hR : R f sp) (h1 : Val ta σ H x) (h2 : Val tb σ H y) (h3 : Val tc σ H z) (q : sp [x, y, z] H Q E) : tCallR i R E (tCons ta (tCons tb (tCons tc tNil))) σ H Q := ⟨f, sp, hs, hR, h1 _ (h2 _ (h3 _ q))⟩
theorem callT2 {i : Nat} {R : Addr → Sp → Prop} {f : Addr} {sp : Sp} (hs : σ[i]? = some (some (.ref f))) (hR : R f sp) (h1 : Val ta σ H x) (h2 : Val tb σ H y) (q : sp [x, y] H Q E) : tCallR i R E (tCons ta (tCons tb tNil)) σ H Q := ⟨f, sp, hs, hR, h1 _ (h2 _ q)⟩
theorem kdctV {K : PySem.W.Frag} {w : World} {d : Addr} {kvs : List (Str × He.Dv)} (h : ∃ es n, KDict K w d es n) (hv : He.valsB K d kvs = true) {q : Str × He.Dv} (hq : q ∈ kvs) : KDct K w d q.1 (q.2.v K) := by
  obtain ⟨es, n, k⟩ := h
  obtain ⟨u, h1, h2⟩ := He.valsB_ok hv hq
  exact ⟨es, n, u, k.at_, k.lit, h1, h2⟩
theorem ans_orT {t u : TT} (h : Ans t σ H true) : Ans (tOr t u) σ H true := fun Q q => h _ (by rw [if_pos rfl]; exact q)
end
section
variable {P : Program} {w : World} {K : PySem.W.Frag} {mg : Str → Option Value} {base : Heap}
theorem insideA (T : Tx K w mg) : ∀ f sp, insideR K f sp → ∃ y ps, f = He.ga K y ∧ Df P w K mg base (L2.CX P w) 7 y ps sp := by
  rintro f sp ⟨z, hz, rfl, rfl⟩
  unfold insideWords at hz
  simp only [List.mem_cons, List.not_mem_nil, or_false] at hz
  rcases hz with rfl | rfl | rfl | rfl | rfl | rfl | rfl | rfl | rfl | rfl | rfl
  · exact ⟨_, _, rfl, (ok_read_put T).up (by decide)⟩
  · exact ⟨_, _, rfl, (ok_read_narrow T).up (by decide)⟩
  · exact ⟨_, _, rfl, (ok_read_wait T).up (by decide)⟩
  · exact ⟨_, _, rfl, (ok_read_read T).up (by decide)⟩
  · exact ⟨_, _, rfl, (ok_read_let T).up (by decide)⟩
  · exact ⟨_, _, rfl, (ok_read_if T).up (by decide)⟩
  · exact ⟨_, _, rfl, (ok_read_times T).up (by decide)⟩
  · exact ⟨_, _, rfl, (ok_read_fi T).up (by decide)⟩
  · exact ⟨_, _, rfl, (ok_read_again T).up (by decide)⟩
  · exact ⟨_, _, rfl, (ok_read_start T).up (by decide)⟩
  · exact ⟨_, _, rfl, (ok_read_end T).up (by decide)⟩
def insideSp (K : PySem.W.Frag) : Sp := sp3 fun a b c H Q E => ∃ L s t l k ws n, a = .ref L.r ∧ b = .ref l ∧ c = iv n ∧ RdAt K H L s ∧ L.ex = [] ∧ SOk s ∧ s.now = some t ∧ WordsAt K (wo H (L.M s.now)) l (k :: ws) ∧ Res K E (wo H (L.M s.now)) (Xb15.parseInner s t n k ws) (Out K L.r (wo H (L.M s.now)) Q)
theorem sc_read_inside : FnScope ["reading", "words", "line", "deed"] ["reading", "words", "line"] (defScope s_read_inside) := ⟨rfl, rfl, rfl, by decide +kernel, rfl, by decide +kernel, by decide +kernel⟩
theorem ok_read_inside (T : Tx K w mg) : Df P w K mg base (L2.CX P w) 8 "read_inside" ["reading", "words", "line"] (insideSp K) := by
  obtain ⟨fd, F⟩ := T.d_read_inside
  refine ⟨fd, T.g_read_inside, F.kp, (F.bindsN (ps := ["reading", "words", "line"]) fun _ _ _ _ _ _ us hl => match us, hl with | [_, _, _], _ => rfl), F.ok sc_read_inside sp3_len (fun cdv A outer s H vs Q E hr h => ⟨_, ((pss_cons (ps_expr (pe_df (ok_want_right T) (hr.mono (by decide)) pxr (pa_cons (pe_cmpR (op_in_kdT T.kd_INSIDE) (pe_ix ix_list (pv 1) pe_int (fun _ _ => rfl)) (pe_gr T.g_INSIDE) (by rfl)) (pa_cons (pe_gi T.c_MALFORMED) pa_nil))))
    (pss_cons (ps_set (i := 3) sc_read_inside.nd rfl (.inl rfl) (pe_ix ix_kdict (pe_gr T.g_INSIDE) (pe_ix ix_list (pv 1) pe_int (fun _ _ => rfl)) (fun _ _ => rfl)))
    (pss_one (ps_expr (pe_dfR (i := 3) (R := insideR K) (insideA T) (hr.mono (by decide)) rfl (.inl rfl) pxr (pa_cons (pv 0) (pa_cons (pv 1) (pa_cons (pv 2) pa_nil))))))))), ?_⟩)⟩
  obtain ⟨_, _, _, rfl, L, s', t, l, k, ws, n, rfl, rfl, rfl, R, hex, S, hn, W, h⟩ := h
  have hW : Same (wo H (L.M s'.now)) H := wo_same _ _
  refine st_want 1 (val_inKd T.ke_INSIDE (W.ix hW (i := 0) rfl val_c rfl)) (fun e => ?_) (fun e => ?_) rfl
  all_goals rw [inside_any] at e
  · have hv : ∀ z ∈ insideWords, k = Xb15.ascii z → KDct K w (He.ga K "INSIDE") (phi k) (.ref (He.ga K (Str.ofString ("read_" ++ z)))) := fun z hz ek => by
      have hp : phi k = Str.ofString z := by
        subst ek
        unfold insideWords at hz
        simp only [List.mem_cons, List.not_mem_nil, or_false] at hz
        rcases hz with rfl | rfl | rfl | rfl | rfl | rfl | rfl | rfl | rfl | rfl | rfl <;> exact (lit (by decide +kernel) _).mpr rfl
      rw [hp]
      exact kdctV (q := (Str.ofString z, .glo (Str.ofString ("read_" ++ z)))) T.kd_INSIDE T.va_INSIDE (by
        unfold insideWords at hz
        simp only [List.mem_cons, List.not_mem_nil, or_false] at hz
        rcases hz with rfl | rfl | rfl | rfl | rfl | rfl | rfl | rfl | rfl | rfl | rfl
        · exact .head _
        · exact .tail _ (.head _)
        · exact .tail _ (.tail _ (.head _))
        · exact .tail _ (.tail _ (.tail _ (.head _)))
        · exact .tail _ (.tail _ (.tail _ (.tail _ (.head _))))
        · exact .tail _ (.tail _ (.tail _ (.tail _ (.tail _ (.head _)))))
        · exact .tail _ (.tail _ (.tail _ (.tail _ (.tail _ (.tail _ (.head _))))))
        · exact .tail _ (.tail _ (.tail _ (.tail _ (.tail _ (.tail _ (.tail _ (.head _)))))))
        · exact .tail _ (.tail _ (.tail _ (.tail _ (.tail _ (.tail _ (.tail _ (.tail _ (.head _))))))))
        · exact .tail _ (.tail _ (.tail _ (.tail _ (.tail _ (.tail _ (.tail _ (.tail _ (.tail _ (.head _)))))))))
        · exact .tail _ (.tail _ (.tail _ (.tail _ (.tail _ (.tail _ (.tail _ (.tail _ (.tail _ (.tail _ (.head _)))))))))))
    obtain ⟨z, hz, hk⟩ := List.any_eq_true.mp e
    have hk := of_decide_eq_true hk
    dsimp only
    refine st_set (val_ixD (hv z hz hk) (W.ix hW (i := 0) rfl val_c rfl)) ?_
    subst hk
    dsimp only
    exact st_expr (callT3 (R := insideR K) rfl ⟨z, hz, rfl, rfl⟩ (val_var rfl) (val_var rfl) (val_var rfl) ⟨_, _, _, rfl, L, s', t, l, ws, n, rfl, rfl, rfl, R, hex, S, hn, W, h⟩)
  · rw [in_none s' t n k ws e] at h
    exact Err.mono hW h
/-! ### outer lines -/
def rangeOk (ws : List Xb15.Bytes) : Bool := match ws with
  | [_, w, a, b] => decide (w = Xb15.ascii "range") && (match Xb15.parseInt? a, Xb15.parseInt? b with
    | some x, some y => decide (x ≤ y)
    | _, _ => false)
  | _ => false
def rangeSp (K : PySem.W.Frag) : Sp := sp1 fun a H Q E => ∃ F l k ws, a = .ref l ∧ WordsAt K F l (k :: ws) ∧ Same F H ∧ Q (.bl (rangeOk ws)) H
theorem four_ws {ws : List Xb15.Bytes} (h : ws.length = 4) : ∃ a b c d, ws = [a, b, c, d] := by
  match ws, h with
  | [a, b, c, d], _ => exact ⟨a, b, c, d, rfl⟩
theorem sc_is_range_cell : FnScope ["words"] ["words"] (defScope s_is_range_cell) := ⟨rfl, rfl, rfl, by decide +kernel, rfl, by decide +kernel, by decide +kernel⟩
theorem ok_is_range_cell (T : Tx K w mg) : Df P w K mg base CX0 2 "is_range_cell" ["words"] (rangeSp K) := by
  obtain ⟨fd, F⟩ := T.d_is_range_cell
  refine ⟨fd, T.g_is_range_cell, F.kp, (F.bindsN (ps := ["words"]) fun _ _ _ _ _ _ us hl => match us, hl with | [_], _ => rfl), F.ok sc_is_range_cell sp1_len (fun cdv A outer s H vs Q E hr h => ⟨_, PSs.nox ((pss_cons (ps_if (PW.pt (pw_or (pt_cmpR op_ne (pe_callB call_len (by rfl) T.f_len (by decide +kernel) (pa_cons (pv 0) pa_nil)) pe_int (nomark _)) (pw_or (pt_cmpR op_ne (pe_ix ix_list (pv 0) pe_int (fun _ _ => rfl)) pe_str (nomark _)) (pw_or (pt_not (pt_val (pe_df (ok_is_number T) (hr.mono (by decide)) pass0 (pa_cons (pe_ix ix_list (pv 0) pe_int (fun _ _ => rfl)) pa_nil)))) (pw_or1 (pt_not (pt_val (pe_df (ok_is_number T) (hr.mono (by decide)) pass0 (pa_cons (pe_ix ix_list (pv 0) pe_int (fun _ _ => rfl)) pa_nil)))))))))
      (pss_one (ps_ret pe_bl))
      pss_nil)
    (pss_one (ps_ret (pe_cmpR op_le (pe_callTy call_int_str (by rfl) T.f_int (by decide +kernel) (pa_cons (pe_ix ix_list (pv 0) pe_int (fun _ _ => rfl)) pa_nil)) (pe_callTy call_int_str (by rfl) T.f_int (by decide +kernel) (pa_cons (pe_ix ix_list (pv 0) pe_int (fun _ _ => rfl)) pa_nil)) (nomark _)))))), ?_⟩)⟩
  obtain ⟨_, rfl, F', l, k, ws, rfl, W, hF, h⟩ := h
  by_cases hl : ws.length = 4
  · obtain ⟨n0, w0, a0, b0, rfl⟩ := four_ws hl
    have hn : ∀ (i : Nat) (b : Xb15.Bytes), (k :: [n0, w0, a0, b0])[i]? = some b → Val (tCall (numberSp K) [] E0 (tCons (tOp (rIxL K) (tVar 0) (tC (.int (i : Int)))) tNil)) [some (.ref l)] H (.bl (Xb15.parseInt? b).isSome) := fun i b hb Q q => callS1 (W.ix hF (i := i) rfl val_c hb) ⟨_, rfl, b, rfl, W.each b (List.mem_of_getElem? hb), q⟩
    have hw : Ans (tTest (tOp rNe (tOp (rIxL K) (tVar 0) (tC (.int 2))) (tC (.str "range")))) [some (.ref l)] H (!decide (w0 = Xb15.ascii "range")) := by
      refine ans_is (ans_of (val_ne (W.ix hF (i := 2) rfl val_c rfl) val_c rfl)) ?_
      rw [lit_eq (z := "range") (by decide +kernel)]
    have hlen : Ans (tTest (tOp rNe (tCB (fun xs H Q => ∃ x n, xs = [x] ∧ LenV K x H n ∧ Q (.int (n : Int)) H) (tCons (tVar 0) tNil)) (tC (.int 5)))) [some (.ref l)] H false := ans_is (ans_of (val_ne (val_lenM (val_var rfl) (hF.seq W.at_)) val_c rfl)) rfl
    have bad : rangeOk [n0, w0, a0, b0] = false → ∀ {t1 t2 : TS} {D : Ends} {c : TT}, Ans c [some (.ref l)] H true → (D.rt = Q → (t1 D [some (.ref l)] H)) → True := fun _ _ _ _ _ _ _ => trivial
    by_cases hr : w0 = Xb15.ascii "range"
    · have hw' := ans_is hw (b' := false) (by simp [hr])
      cases ea : Xb15.parseInt? a0 with
      | none =>
        have hv : rangeOk [n0, w0, a0, b0] = false := by unfold rangeOk; simp [hr, ea]
        rw [hv] at h
        refine st_if (L2.ans_or hlen (L2.ans_or hw' (ans_orT (ans_is (ans_not (ans_ofB (hn 3 a0 rfl))) (by rw [ea]; rfl))))) (fun _ => st_ret val_c h) (fun e => by cases e)
      | some x =>
        have h3 := ans_is (ans_not (ans_ofB (hn 3 a0 rfl))) (b' := false) (by rw [ea]; rfl)
        cases eb : Xb15.parseInt? b0 with
        | none =>
          have hv : rangeOk [n0, w0, a0, b0] = false := by unfold rangeOk; simp [hr, ea, eb]
          rw [hv] at h
          refine st_if (b := true) (L2.ans_or hlen (L2.ans_or hw' (L2.ans_or h3 (ans_is (ans_not (ans_ofB (hn 4 b0 rfl))) (by simp [eb]))))) (fun _ => st_ret val_c h) (fun e => by cases e)
        | some y =>
          have hv : rangeOk [n0, w0, a0, b0] = decide (x ≤ y) := by unfold rangeOk; simp [hr, ea, eb]
          rw [hv] at h
          obtain ⟨i1, i2⟩ := int_word ea
          obtain ⟨j1, j2⟩ := int_word eb
          refine st_if (b := false) (L2.ans_or hlen (L2.ans_or hw' (L2.ans_or h3 (ans_is (ans_not (ans_ofB (hn 4 b0 rfl))) (by rw [eb]; rfl))))) (fun e => by cases e) (fun _ => ?_)
          refine st_next ?_
          dsimp only
          exact st_ret (val_le (val_int (W.ix hF (i := 3) rfl val_c rfl) i1 i2) (val_int (W.ix hF (i := 4) rfl val_c rfl) j1 j2)) h
    · have hv : rangeOk [n0, w0, a0, b0] = false := by unfold rangeOk; simp [hr]
      rw [hv] at h
      exact st_if (L2.ans_or hlen (ans_orT (ans_is hw (by simp [hr])))) (fun _ => st_ret val_c h) (fun e => by cases e)
  · have hv : rangeOk ws = false := by
      match ws, hl with
      | [], _ => rfl
      | [_], _ => rfl
      | [_, _], _ => rfl
      | [_, _, _], _ => rfl
      | [_, _, _, _], hl => exact (hl rfl).elim
      | _ :: _ :: _ :: _ :: _ :: _, _ => rfl
    rw [hv] at h
    refine st_if (ans_orT (ans_is (ans_of (val_ne (val_lenM (val_var rfl) (hF.seq W.at_)) val_c rfl)) ?_)) (fun _ => st_ret val_c h) (fun e => by cases e)
    simp
    omega
def plainKind (w : Xb15.Bytes) : Option Xb15.Kind := if w = Xb15.ascii "max" then some .max else if w = Xb15.ascii "min" then some .min else if w = Xb15.ascii "set" then some .set else if w = Xb15.ascii "one" then some .one else if w = Xb15.ascii "flag" then some .flag else none
def cellOf (ws : List Xb15.Bytes) : Option (Xb15.Bytes × Xb15.Kind) := match ws with
  | [n, w] => (plainKind w).map fun k => (n, k)
  | [n, w, a, b] => if w = Xb15.ascii "range" then (match Xb15.parseInt? a, Xb15.parseInt? b with
    | some x, some y => if x ≤ y then some (n, .range x y) else none
    | _, _ => none) else none
  | _ => none
theorem out_cell (s : Xb15.ParseState) (ws : List Xb15.Bytes) : Xb15.parseOuter s (Xb15.ascii "cell") ws = match cellOf ws with
    | none => .error 1
    | some (n, kd) => if Xb15.isName n = false then .error 1 else if Xb15.isUnused s n = false then .error 2 else if 10 ≤ s.program.cells.length then .error 5 else .ok { s with program := { s.program with cells := s.program.cells ++ [⟨n, kd⟩] } } := by
  unfold Xb15.parseOuter
  rw [if_pos rfl]
  match ws with
  | [] => rfl
  | [_] => rfl
  | [n, w] =>
    unfold cellOf plainKind
    dsimp only
    repeat' split
    all_goals first
      | rfl
      | simp_all
  | [_, _, _] => rfl
  | [n, w, a, b] =>
    unfold cellOf
    dsimp only
    by_cases hw : w = Xb15.ascii "range"
    · rw [if_neg (fun z => z hw), if_pos hw]
      cases Xb15.parseInt? a with
      | none => rfl
      | some x =>
        cases Xb15.parseInt? b with
        | none => rfl
        | some y =>
          dsimp only
          by_cases hxy : x ≤ y
          · rw [if_pos hxy, if_pos hxy]
          · rw [if_neg hxy, if_neg hxy]
    · rw [if_pos hw, if_neg hw]
  | _ :: _ :: _ :: _ :: _ :: _ => rfl
theorem plain_any (b : Xb15.Bytes) : putL.any (· == phi b) = (plainKind b).isSome ∧ ∀ kd, plainKind b = some kd → wv b = .str (kindS kd) ∧ kindLo kd = 0 ∧ kindHi kd = 0 ∧ kindS kd ≠ Str.ofString "range" := by
  unfold putL plainKind
  simp only [List.any_cons, List.any_nil, Bool.or_false]
  rw [lit_beq (by decide +kernel), lit_beq (by decide +kernel), lit_beq (by decide +kernel), lit_beq (by decide +kernel), lit_beq (by decide +kernel)]
  by_cases h1 : b = Xb15.ascii "max"
  · rw [if_pos h1, h1]
    exact ⟨rfl, fun kd hk => by cases hk; exact ⟨lit_v (by decide +kernel), rfl, rfl, by decide +kernel⟩⟩
  by_cases h2 : b = Xb15.ascii "min"
  · rw [if_neg h1, if_pos h2, h2]
    exact ⟨rfl, fun kd hk => by cases hk; exact ⟨lit_v (by decide +kernel), rfl, rfl, by decide +kernel⟩⟩
  by_cases h3 : b = Xb15.ascii "set"
  · rw [if_neg h1, if_neg h2, if_pos h3, h3]
    exact ⟨rfl, fun kd hk => by cases hk; exact ⟨lit_v (by decide +kernel), rfl, rfl, by decide +kernel⟩⟩
  by_cases h4 : b = Xb15.ascii "one"
  · rw [if_neg h1, if_neg h2, if_neg h3, if_pos h4, h4]
    exact ⟨rfl, fun kd hk => by cases hk; exact ⟨lit_v (by decide +kernel), rfl, rfl, by decide +kernel⟩⟩
  by_cases h5 : b = Xb15.ascii "flag"
  · rw [if_neg h1, if_neg h2, if_neg h3, if_neg h4, if_pos h5, h5]
    exact ⟨rfl, fun kd hk => by cases hk; exact ⟨lit_v (by decide +kernel), rfl, rfl, by decide +kernel⟩⟩
  · rw [if_neg h1, if_neg h2, if_neg h3, if_neg h4, if_neg h5]
    simp [h1, h2, h3, h4, h5]
def outSp (K : PySem.W.Frag) (wd : String) : Sp := sp2 fun a b H Q E => ∃ L s l ws, a = .ref L.r ∧ b = .ref l ∧ RdAt K H L s ∧ L.ex = [] ∧ SOk s ∧ s.now = none ∧ WordsAt K (wo H (L.M s.now)) l (Xb15.ascii wd :: ws) ∧ Res K E (wo H (L.M s.now)) (Xb15.parseOuter s (Xb15.ascii wd) ws) (Out K L.r (wo H (L.M s.now)) Q)
/-- a name that is new -/
theorem RdAt.newName {H : Hp} {L : Lay} {s : Xb15.ParseState} {E : XK} {Q : VK} {F : Hp} {x : Xb15.Bytes} (R : RdAt K H L s) (S : SOk s) (hn : s.now = none) (hx : Xb15.isName x = true) (hF : Same F H) {α : Type} {r : Except Nat α} {o : α → Prop} (h : Res K E F (if Xb15.isUnused s x = false then .error 2 else r) o)
    (q : ∀ H', Same H H' → Res K E F r o → Q .non H') : newSp K [.ref L.pa, wv x] H Q E := by
  have htl := R.tl
  rw [hn, List.append_nil] at htl
  have htn : All2 (Named K H) L.ts (s.program.tasks.map Xb15.Task.name) := ⟨by rw [List.length_map]; exact R.tasks.len, fun i a n h1 h2 => by
    rw [List.getElem?_map] at h2
    cases e : s.program.tasks[i]? with
    | none => rw [e] at h2; cases h2
    | some c =>
      rw [e] at h2
      cases h2
      obtain ⟨dx, sa, ia, is, q, _⟩ := R.tasks.at_ i a c h1 e
      exact .inr ⟨_, _, _, wo_same _ _ _ _ q⟩⟩
  refine ⟨_, _, rfl, L.pa, L.dxp, L.ca, L.ta, L.ga, L.cs, L.ts, s.program.cells.map Xb15.Cell.name, s.program.tasks.map Xb15.Task.name, x, rfl, rfl, right_name hx, wo_same _ _ _ _ R.pr, SqL.of R.cl, named_cells (wo_same _ _) R.cells, by rw [List.length_map]; exact S.prog.cells, SqL.of htl, htn, by rw [List.length_map]; have := S.prog.tasks; omega, ?_⟩
  have e1 : ((s.program.cells.map Xb15.Cell.name).findIdx? fun v => v == x) = Xb15.findCell s.program x := by rw [findIdx_map]; rfl
  have e2 : ((s.program.tasks.map Xb15.Task.name).findIdx? fun v => v == x) = Xb15.findTask s.program x := by rw [findIdx_map]; rfl
  rw [e1, e2]
  show Res K E H (if Xb15.isUnused s x = false then _ else _) _
  by_cases hu : Xb15.isUnused s x = false
  · rw [if_pos hu] at h ⊢
    exact Err.mono hF h
  · rw [if_neg hu] at h ⊢
    exact fun H' e => q H' e h
theorem Tx.mk_cell (T : Tx K w mg) {σ : L2.St} {H : Hp} {ta tb tc td : TE} {n k lo hi : V} {Q : VK} (h1 : Val ta σ H n) (h2 : Val tb σ H k) (h3 : Val tc σ H lo) (h4 : Val td σ H hi) (q : ∀ H' x dx, Same H H' → H x = none → atCell K H' x dx n k lo hi → Q (.ref x) H') :
    tMake (He.ga K "Cell") (cellISp K) [] E0 (tCons ta (tCons tb (tCons tc (tCons td tNil)))) σ H Q :=
  h1 _ (h2 _ (h3 _ (h4 _ fun x dx hx hdx hne => ⟨_, _, _, _, _, rfl, x, dx, rfl, upd_same, fun H' k ho => ⟨rfl, q H' x dx (k.same hx hdx) hx ho⟩⟩)))
def plOf (ws : List Xb15.Bytes) : Bool := match ws with
  | [_, w] => (plainKind w).isSome
  | _ => false
theorem cellOf_isSome (ws : List Xb15.Bytes) : (plOf ws || rangeOk ws) = (cellOf ws).isSome := by
  match ws with
  | [] => rfl
  | [_] => rfl
  | [n, w] =>
    unfold plOf rangeOk cellOf
    dsimp only
    cases plainKind w <;> rfl
  | [_, _, _] => rfl
  | [n, w, a, b] =>
    unfold plOf rangeOk cellOf
    dsimp only
    by_cases hw : w = Xb15.ascii "range"
    · rw [if_pos hw]
      cases Xb15.parseInt? a with
      | none => simp
      | some x =>
        cases Xb15.parseInt? b with
        | none => simp
        | some y =>
          dsimp only
          by_cases hxy : x ≤ y <;> simp [hxy, hw]
    · rw [if_neg hw]
      simp [hw]
  | _ :: _ :: _ :: _ :: _ :: _ => rfl
theorem cellOf_some {ws : List Xb15.Bytes} {n : Xb15.Bytes} {kd : Xb15.Kind} (h : cellOf ws = some (n, kd)) : (∃ w, ws = [n, w] ∧ plainKind w = some kd) ∨ ∃ a b x y, ws = [n, Xb15.ascii "range", a, b] ∧ Xb15.parseInt? a = some x ∧ Xb15.parseInt? b = some y ∧ kd = .range x y := by
  match ws, h with
  | [], h => cases h
  | [_], h => cases h
  | [n', w], h =>
    unfold cellOf at h
    dsimp only at h
    cases hk : plainKind w with
    | none => rw [hk] at h; cases h
    | some k =>
      rw [hk] at h
      cases h
      exact .inl ⟨w, rfl, hk⟩
  | [_, _, _], h => cases h
  | [n', w, a, b], h =>
    unfold cellOf at h
    dsimp only at h
    by_cases hw : w = Xb15.ascii "range"
    · rw [if_pos hw] at h
      cases ha : Xb15.parseInt? a with
      | none => rw [ha] at h; cases h
      | some x =>
        cases hb : Xb15.parseInt? b with
        | none => rw [ha, hb] at h; cases h
        | some y =>
          rw [ha, hb] at h
          dsimp only at h
          by_cases hxy : x ≤ y
          · rw [if_pos hxy] at h
            cases h
            exact .inr ⟨a, b, x, y, by rw [hw], ha, hb, rfl⟩
          · rw [if_neg hxy] at h
            cases h
    · rw [if_neg hw] at h
      cases h
  | _ :: _ :: _ :: _ :: _ :: _, h => cases h
theorem sc_read_cell : FnScope ["reading", "words", "is_plain", "program"] ["reading", "words"] (defScope s_read_cell) := ⟨rfl, rfl, rfl, by decide +kernel, rfl, by decide +kernel, by decide +kernel⟩
theorem ok_read_cell (T : Tx K w mg) : Df P w K mg base (L2.CX P w) 5 "read_cell" ["reading", "words"] (outSp K "cell") := by
  obtain ⟨fd, F⟩ := T.d_read_cell
  refine ⟨fd, T.g_read_cell, F.kp, (F.bindsN (ps := ["reading", "words"]) fun _ _ _ _ _ _ us hl => match us, hl with | [_, _], _ => rfl), F.ok sc_read_cell sp2_len (fun cdv A outer s H vs Q E hr h => ⟨_, ((pss_cons (ps_set (i := 2) sc_read_cell.nd rfl (.inl rfl) (pe_and (pe_cmpR op_eq (pe_callB call_len (by rfl) T.f_len (by decide +kernel) (pa_cons (pv 1) pa_nil)) pe_int (nomark _)) (pe_one (pe_cmpR op_in_seq (pe_ix ix_list (pv 1) pe_int (fun _ _ => rfl)) (pe_gr T.g_PUT_KINDS) (by rfl)))))
    (pss_cons (ps_expr (pe_df (ok_want_right T) (hr.mono (by decide)) pxr (pa_cons (pe_and (pe_df (ok_is_name T) (hr.mono (by decide)) pass0 (pa_cons (pe_df (ok_word_at T) (hr.mono (by decide)) pass0 (pa_cons (pv 1) (pa_cons pe_int pa_nil))) pa_nil)) (pe_one (pe_or (pv 2) (pe_one (pe_df (ok_is_range_cell T) (hr.mono (by decide)) pass0 (pa_cons (pv 1) pa_nil)))))) (pa_cons (pe_gi T.c_MALFORMED) pa_nil))))
    (pss_cons (ps_set (i := 3) sc_read_cell.nd rfl (.inl rfl) (pe_fld (pv 0) rfl))
    (pss_cons (ps_expr (pe_df (ok_want_new_name T) (hr.mono (by decide)) pxr (pa_cons (pv 3) (pa_cons (pe_ix ix_list (pv 1) pe_int (fun _ _ => rfl)) pa_nil))))
    (pss_cons (ps_expr (pe_df (ok_want_right T) (hr.mono (by decide)) pxr (pa_cons (pe_cmpR op_lt (pe_callB call_len (by rfl) T.f_len (by decide +kernel) (pa_cons (pe_fld (pv 3) rfl) pa_nil)) (pe_gi T.c_MOST_CELLS) (nomark _)) (pa_cons (pe_gi T.c_EXCEEDED) pa_nil))))
    (pss_one (ps_if (pt_cmpR op_eq (pe_ix ix_list (pv 1) pe_int (fun _ _ => rfl)) pe_str (nomark _))
      (pss_one (ps_expr (pe_bm PySem.F.plainAttrs_list PySem.F.slot_list_append PySem.F.type_list_append mt_append (pe_fld (pv 3) rfl) (pa_cons (pe_cl T.m_Cell (ok_Cell_init T) (hr.mono (by decide)) T.g_Cell pass0 (pa_cons (pe_ix ix_list (pv 1) pe_int (fun _ _ => rfl)) (pa_cons (pe_ix ix_list (pv 1) pe_int (fun _ _ => rfl)) (pa_cons (pe_callTy call_int_str (by rfl) T.f_int (by decide +kernel) (pa_cons (pe_ix ix_list (pv 1) pe_int (fun _ _ => rfl)) pa_nil)) (pa_cons (pe_callTy call_int_str (by rfl) T.f_int (by decide +kernel) (pa_cons (pe_ix ix_list (pv 1) pe_int (fun _ _ => rfl)) pa_nil)) pa_nil))))) pa_nil))))
      (pss_one (ps_expr (pe_bm PySem.F.plainAttrs_list PySem.F.slot_list_append PySem.F.type_list_append mt_append (pe_fld (pv 3) rfl) (pa_cons (pe_cl T.m_Cell (ok_Cell_init T) (hr.mono (by decide)) T.g_Cell pass0 (pa_cons (pe_ix ix_list (pv 1) pe_int (fun _ _ => rfl)) (pa_cons (pe_ix ix_list (pv 1) pe_int (fun _ _ => rfl)) (pa_cons pe_int (pa_cons pe_int pa_nil))))) pa_nil)))))))))))), ?_⟩)⟩
  obtain ⟨_, _, rfl, L, s', l, ws, rfl, rfl, R, hex, S, hn, W, h⟩ := h
  rw [out_cell] at h
  have hW : Same (wo H (L.M s'.now)) H := wo_same _ _
  refine st_set (v := .bl (plOf ws)) ?_ ?_
  · by_cases hl : ws.length = 2
    · obtain ⟨n0, w0, rfl⟩ := two_ws hl
      refine val_andT (val_is (val_eq (val_lenM (val_var rfl) (hW.seq W.at_)) val_c rfl) rfl) (val_is (val_inT (W.ix hW (i := 2) rfl val_c rfl) val_c (tupAt_ok T.tu_PUT_KINDS H) rfl (flat_strs putL)) ?_)
      show V.bl (inV (.str (phi w0)) (putL.map V.str)) = _
      rw [inV_strs, (plain_any w0).1]
      rfl
    · have hp : plOf ws = false := by
        match ws, hl with
        | [], _ => rfl
        | [_], _ => rfl
        | [_, _], hl => exact (hl rfl).elim
        | _ :: _ :: _ :: _, _ => rfl
      rw [hp]
      refine val_andF (val_is (val_eq (val_lenM (val_var rfl) (hW.seq W.at_)) val_c rfl) ?_)
      congr 1
      have : ¬ ((ws.length : Int) + 1 = 3) := by omega
      simpa using this
  · dsimp only
    have hrange : ∀ {H1 : Hp} {σ : L2.St}, Same H H1 → σ[1]? = some (some (.ref l)) → Val (tCall (rangeSp K) [] E0 (tCons (tVar 1) tNil)) σ H1 (.bl (rangeOk ws)) := fun s1 hs Q q => callS1 (val_var hs) ⟨_, rfl, _, l, _, ws, rfl, W, hW.trans s1, q⟩
    have hg : (Xb15.ascii "cell" :: ws).getD 1 [] = ws.getD 0 [] := rfl
    refine st_wantH 1 ?_ rfl
    refine andH (callS1 (W.at hW (i := 1) rfl val_c) ⟨_, rfl, _, rfl, W.get 1, fun H1 s1 => ⟨_, rfl, ifb (fun e1 => ?_) (fun e1 => ?_)⟩⟩)
    · refine val_orV (val_var rfl) (fun _ => hrange s1 rfl) _ ⟨_, rfl, fun e2 => ?_, fun e2 => ?_⟩
      all_goals rw [cellOf_isSome] at e2
      · obtain ⟨⟨n, kd⟩, hc⟩ := Option.isSome_iff_exists.mp e2
        rw [hc] at h
        dsimp only at h
        rw [hg] at e1
        have hn0 : ws.getD 0 [] = n ∧ ws[0]? = some n := by
          rcases cellOf_some hc with ⟨w, rfl, _⟩ | ⟨a, b, x, y, rfl, _⟩ <;> exact ⟨rfl, rfl⟩
        rw [hn0.1] at e1
        rw [if_neg (by rw [e1]; decide)] at h
        have R1 := R.mono s1
        have F1 : Same (wo H (L.M s'.now)) H1 := hW.trans s1
        dsimp only
        refine st_set (T.v_Reading_program (val_var rfl) R1.rd) ?_
        dsimp only
        refine st_expr (callS2 (val_var rfl) (W.ix F1 (i := 1) rfl val_c hn0.2) (R1.newName S hn e1 F1 h fun H2 s2 h2 => ?_))
        have R2 := R1.mono s2
        have F2 := F1.trans s2
        have hpr2 := wo_same _ _ _ _ R2.pr
        refine st_wantI 5 (val_lenM (T.v_Program_cells (val_var rfl) hpr2) (SqL.of R2.cl)) val_c (fun e3 => ?_) (fun e3 => ?_) rfl
        · have e4 := of_decide_eq_true e3
          have hcl := R2.cells.len
          rw [if_neg (by omega)] at h2
          have fin : ∀ {H3 : Hp} {x : Addr}, Same H2 H3 → H2 x = none → CellAt K H3 x ⟨n, kd⟩ → Q .non (upd H3 L.ca (.lst (L.cs.map V.ref ++ [.ref x]))) := fun {H3 x} s3 hx ho => by
            have R3 := R2.mono s3
            have hcx : CellAt K (wo H3 (L.M s'.now)) x ⟨n, kd⟩ := by
              obtain ⟨dx, q⟩ := ho
              exact ⟨dx, wo_some.mpr ⟨R2.fresh hx, q⟩⟩
            refine h2 _ { L with cs := L.cs ++ [x] } rfl hex ?_ (R3.addCell hn hcx)
            show Same _ (wo _ (L.M s'.now))
            rw [wo_upd (Lay.inP Lay.caP)]
            exact wo_more (s1.trans (s2.trans s3))
          dsimp only
          rcases cellOf_some hc with ⟨wd, rfl, hk⟩ | ⟨a, b, x, y, rfl, ha, hb, rfl⟩
          · obtain ⟨k1, k2, k3, k4⟩ := (plain_any wd).2 kd hk
            refine st_if (b := false) (ans_is (ans_of (val_eq (W.ix F2 (i := 2) rfl val_c rfl) val_c rfl)) (by rw [k1]; simp only [V.str.injEq, decide_eq_false_iff_not]; exact k4)) (fun e => by cases e) (fun _ => ?_)
            refine st_appendH (T.v_Program_cells (val_var rfl) hpr2) (SqL.of R2.cl) (T.mk_cell (W.ix F2 (i := 1) rfl val_c rfl) (W.ix F2 (i := 2) rfl val_c rfl) val_c val_c fun H3 x dx s3 hx ho => ⟨_, _, _, rfl, rfl, s3 _ _ R2.cl, by rw [List.length_map]; exact lineN (by omega), fin s3 hx ⟨dx, ?_⟩⟩)
            rw [k1] at ho
            show atCell K H3 x dx (wv n) (.str (kindS kd)) (.int (kindLo kd)) (.int (kindHi kd))
            rw [k2, k3]
            exact ho
          · obtain ⟨i1, i2⟩ := int_word ha
            obtain ⟨j1, j2⟩ := int_word hb
            refine st_if (b := true) (ans_is (ans_of (val_eq (W.ix F2 (i := 2) rfl val_c rfl) val_c rfl)) (by rw [lit_eq (z := "range") (by decide +kernel)]; decide +kernel)) (fun _ => ?_) (fun e => by cases e)
            refine st_appendH (T.v_Program_cells (val_var rfl) hpr2) (SqL.of R2.cl) (T.mk_cell (W.ix F2 (i := 1) rfl val_c rfl) (W.ix F2 (i := 2) rfl val_c rfl) (val_int (W.ix F2 (i := 3) rfl val_c rfl) i1 i2) (val_int (W.ix F2 (i := 4) rfl val_c rfl) j1 j2) fun H3 x' dx s3 hx ho => ⟨_, _, _, rfl, rfl, s3 _ _ R2.cl, by rw [List.length_map]; exact lineN (by omega), fin s3 hx ⟨dx, ?_⟩⟩)
            rw [lit_v (z := "range") (by decide +kernel)] at ho
            exact ho
        · have e4 := of_decide_eq_false e3
          have hcl := R2.cells.len
          rw [if_pos (by omega)] at h2
          exact Err.mono F2 h2
      · have hc : cellOf ws = none := by simpa using e2
        rw [hc] at h
        exact Err.mono (hW.trans s1) h
    · refine ⟨_, rfl, (fun z => by cases z), fun _ => ?_⟩
      rw [hg] at e1
      have : (match cellOf ws with
        | none => .error 1
        | some (n, kd) => if Xb15.isName n = false then .error 1 else if Xb15.isUnused s' n = false then .error 2 else if 10 ≤ s'.program.cells.length then .error 5 else .ok { s' with program := { s'.program with cells := s'.program.cells ++ [⟨n, kd⟩] } }) = (Except.error 1 : Except Nat Xb15.ParseState) := by
        cases hc : cellOf ws with
        | none => rfl
        | some nk =>
          obtain ⟨n, kd⟩ := nk
          have hn0 : ws.getD 0 [] = n := by
            rcases cellOf_some hc with ⟨w, rfl, _⟩ | ⟨a, b, x, y, rfl, _⟩ <;> rfl
          rw [hn0] at e1
          dsimp only
          rw [if_pos e1]
      rw [this] at h
      exact Err.mono (hW.trans s1) h
end
end GW
/-! The walk 8: tasks, goes, lines, texts -/
namespace GW
open PySem PySem.Spec PyProof.Rows L2
open Gc (SOk)
theorem out_task (s : Xb15.ParseState) (ws : List Xb15.Bytes) : Xb15.parseOuter s (Xb15.ascii "task") ws = match ws with
    | [n] => if Xb15.isName n = false then .error 1 else if Xb15.isUnused s n = false then .error 2 else if 8 ≤ s.program.tasks.length then .error 5 else .ok { s with now := some ⟨n, [], []⟩, opened := [] }
    | _ => .error 1 := by
  unfold Xb15.parseOuter
  dsimp only
  rw [if_neg (by decide +kernel), if_pos rfl]
  match ws with
  | [] => rfl
  | [_] => rfl
  | _ :: _ :: _ => rfl
theorem out_go (s : Xb15.ParseState) (ws : List Xb15.Bytes) : Xb15.parseOuter s (Xb15.ascii "go") ws = match ws with
    | [n] => if Xb15.isName n = false then .error 1 else (match Xb15.findTask s.program n with
      | none => .error 2
      | some t => if 12 ≤ s.program.goes.length then .error 5 else .ok { s with program := { s.program with goes := s.program.goes ++ [t] } })
    | _ => .error 1 := by
  unfold Xb15.parseOuter
  dsimp only
  rw [if_neg (by decide +kernel), if_neg (by decide +kernel), if_pos rfl]
  match ws with
  | [] => rfl
  | [_] => rfl
  | _ :: _ :: _ => rfl
theorem out_task_bad (s : Xb15.ParseState) (ws : List Xb15.Bytes) (h : ws.length ≠ 1) : Xb15.parseOuter s (Xb15.ascii "task") ws = .error 1 := by
  rw [out_task]
  match ws, h with
  | [], _ => rfl
  | [_], h => exact (h rfl).elim
  | _ :: _ :: _, _ => rfl
theorem out_go_bad (s : Xb15.ParseState) (ws : List Xb15.Bytes) (h : ws.length ≠ 1) : Xb15.parseOuter s (Xb15.ascii "go") ws = .error 1 := by
  rw [out_go]
  match ws, h with
  | [], _ => rfl
  | [_], h => exact (h rfl).elim
  | _ :: _ :: _, _ => rfl
theorem out_none (s : Xb15.ParseState) (k : Xb15.Bytes) (ws : List Xb15.Bytes) (h1 : k ≠ Xb15.ascii "cell") (h2 : k ≠ Xb15.ascii "task") (h3 : k ≠ Xb15.ascii "go") : Xb15.parseOuter s k ws = .error 1 := by
  unfold Xb15.parseOuter
  dsimp only
  rw [if_neg h1, if_neg h2, if_neg h3]
section
variable {P : Program} {w : World} {K : PySem.W.Frag} {mg : Str → Option Value} {base : Heap}
theorem Tx.mk_task (T : Tx K w mg) {σ : L2.St} {H : Hp} {ta : TE} {n : V} {Q : VK} (h1 : Val ta σ H n) (q : ∀ H' x dx sa ia, Same H H' → H x = none → atTask K H' x dx n (.ref sa) (.ref ia) → H sa = none → H ia = none → sa ≠ ia → H' sa = some (.lst []) → H' ia = some (.lst []) → Q (.ref x) H') :
    tMake (He.ga K "Task") (taskISp K) [] E0 (tCons ta tNil) σ H Q :=
  h1 _ fun x dx hx hdx hne => ⟨_, _, rfl, x, dx, rfl, upd_same, fun H' sa ia k ho hsa hia hne2 => ⟨rfl, q H' x dx sa ia (k.same hx hdx) hx ho (fresh2 (nw_some.mp hsa).1).1 (fresh2 (nw_some.mp hia).1).1 hne2 (nw_some.mp hsa).2 (nw_some.mp hia).2⟩⟩
theorem sc_read_task : FnScope ["reading", "words", "program"] ["reading", "words"] (defScope s_read_task) := ⟨rfl, rfl, rfl, by decide +kernel, rfl, by decide +kernel, by decide +kernel⟩
theorem ok_read_task (T : Tx K w mg) : Df P w K mg base (L2.CX P w) 5 "read_task" ["reading", "words"] (outSp K "task") := by
  obtain ⟨fd, F⟩ := T.d_read_task
  refine ⟨fd, T.g_read_task, F.kp, (F.bindsN (ps := ["reading", "words"]) fun _ _ _ _ _ _ us hl => match us, hl with | [_, _], _ => rfl), F.ok sc_read_task sp2_len (fun cdv A outer s H vs Q E hr h => ⟨_, ((pss_cons (ps_expr (pe_df (ok_want_right T) (hr.mono (by decide)) pxr (pa_cons (pe_and (pe_cmpR op_eq (pe_callB call_len (by rfl) T.f_len (by decide +kernel) (pa_cons (pv 1) pa_nil)) pe_int (nomark _)) (pe_one (pe_df (ok_is_name T) (hr.mono (by decide)) pass0 (pa_cons (pe_ix ix_list (pv 1) pe_int (fun _ _ => rfl)) pa_nil)))) (pa_cons (pe_gi T.c_MALFORMED) pa_nil))))
    (pss_cons (ps_set (i := 2) sc_read_task.nd rfl (.inl rfl) (pe_fld (pv 0) rfl))
    (pss_cons (ps_expr (pe_df (ok_want_new_name T) (hr.mono (by decide)) pxr (pa_cons (pv 2) (pa_cons (pe_ix ix_list (pv 1) pe_int (fun _ _ => rfl)) pa_nil))))
    (pss_cons (ps_expr (pe_df (ok_want_right T) (hr.mono (by decide)) pxr (pa_cons (pe_cmpR op_lt (pe_callB call_len (by rfl) T.f_len (by decide +kernel) (pa_cons (pe_fld (pv 2) rfl) pa_nil)) (pe_gi T.c_MOST_TASKS) (nomark _)) (pa_cons (pe_gi T.c_EXCEEDED) pa_nil))))
    (pss_cons (ps_expr (pe_bm PySem.F.plainAttrs_list PySem.F.slot_list_append PySem.F.type_list_append mt_append (pe_fld (pv 2) rfl) (pa_cons (pe_cl T.m_Task (ok_Task_init T) (hr.mono (by decide)) T.g_Task pass0 (pa_cons (pe_ix ix_list (pv 1) pe_int (fun _ _ => rfl)) pa_nil)) pa_nil)))
    (pss_one (ps_fld (pv 0) pe_bl rfl)))))))), ?_⟩)⟩
  obtain ⟨_, _, rfl, L, s', l, ws, rfl, rfl, R, hex, S, hn, W, h⟩ := h
  have hW : Same (wo H (L.M s'.now)) H := wo_same _ _
  by_cases hl : ws.length = 1
  · obtain ⟨n, rfl⟩ := one_ws hl
    rw [out_task] at h
    dsimp only at h
    refine st_wantH 1 ?_ rfl
    refine andH (val_is (val_eq (val_lenM (val_var rfl) (hW.seq W.at_)) val_c rfl) (z := .bl true) rfl _ ⟨true, rfl, ?_⟩)
    rw [if_pos rfl]
    refine callS1 (W.ix hW (i := 1) rfl val_c rfl) ⟨_, rfl, n, rfl, W.each n (by simp), fun H1 s1 => ⟨_, rfl, fun e1 => ?_, fun e1 => ?_⟩⟩
    · rw [if_neg (by rw [e1]; decide)] at h
      have R1 := R.mono s1
      have F1 : Same (wo H (L.M s'.now)) H1 := hW.trans s1
      dsimp only
      refine st_set (T.v_Reading_program (val_var rfl) R1.rd) ?_
      dsimp only
      refine st_expr (callS2 (val_var rfl) (W.ix F1 (i := 1) rfl val_c rfl) (R1.newName S hn e1 F1 h fun H2 s2 h2 => ?_))
      have R2 := R1.mono s2
      have F2 := F1.trans s2
      have hpr2 := wo_same _ _ _ _ R2.pr
      have htl := R2.tl
      rw [hn, List.append_nil] at htl
      have htn := R2.tasks.len
      refine st_wantI 5 (val_lenM (T.v_Program_tasks (val_var rfl) hpr2) (SqL.of htl)) val_c (fun e3 => ?_) (fun e3 => ?_) rfl
      · have e4 := of_decide_eq_true e3
        rw [if_neg (by omega)] at h2
        dsimp only
        refine st_appendH (T.v_Program_tasks (val_var rfl) hpr2) (SqL.of htl) (T.mk_task (W.ix F2 (i := 1) rfl val_c rfl) fun H3 x dx sa ia s3 hx ho hsa0 hia0 hne hsa hia => ⟨_, _, _, rfl, rfl, s3 _ _ htl, by rw [List.length_map]; exact lineN (by omega), ?_⟩)
        have hB := R2.begin hn hex (S.none_ hn) s3 hx hsa0 hia0 hne ho hsa hia
        have hrt : L.r ≠ L.ta := ndne R2.nd 0 2 rfl rfl (by decide)
        have hrd3 : atReading K (upd H3 L.ta (.lst (L.ts.map V.ref ++ [.ref x]))) L.r L.dxr (.ref L.pa) (.bl s'.now.isSome) (.ref L.ba) := by
          show upd _ _ _ _ = _
          rw [upd_ne hrt]
          exact s3 _ _ R2.rd
        dsimp only
        refine T.w_Reading_is_inside (y := .bl true) val_c (val_var rfl) hrd3 ?_
        refine h2 _ { L with t0 := x, dxt := dx, sa := sa, ia := ia, is := [] } rfl hex ?_ hB
        have s123 := s1.trans (s2.trans s3)
        have hMn : L.M s'.now = [L.r, L.ca, L.ta, L.ga, L.ba] := by rw [hn]; simp [Lay.M, Lay.P, hex]
        have hM : ({ L with t0 := x, dxt := dx, sa := sa, ia := ia, is := [] } : Lay).M (some ⟨n, [], []⟩) = [L.r, L.ca, L.ta, L.ga, L.ba] ++ [sa, ia] := by simp [Lay.M, Lay.P, hex]
        show Same (wo H (L.M s'.now)) (wo _ (({ L with t0 := x, dxt := dx, sa := sa, ia := ia, is := [] } : Lay).M (some ⟨n, [], []⟩)))
        rw [hM, hMn]
        refine wo_to fun b o hb hq => ⟨fun z => ?_, ?_⟩
        · rcases List.mem_append.mp z with z | z
          · exact hb z
          · have hq2 := (s1.trans s2) _ _ hq
            simp only [List.mem_cons, List.not_mem_nil, or_false] at z
            rcases z with rfl | rfl
            · rw [hsa0] at hq2; cases hq2
            · rw [hia0] at hq2; cases hq2
        · rw [upd_ne (fun z => hb (by rw [z]; simp)), upd_ne (fun z => hb (by rw [z]; simp))]
          exact s123 _ _ hq
      · have e4 := of_decide_eq_false e3
        rw [if_pos (by omega)] at h2
        exact Err.mono F2 h2
    · rw [if_pos e1] at h
      exact Err.mono (hW.trans s1) h
  · rw [out_task_bad s' ws hl] at h
    refine st_want (b := false) 1 (val_andF (val_is (val_eq (val_lenM (val_var rfl) (hW.seq W.at_)) val_c rfl) ?_)) (fun e => by cases e) (fun _ => Err.mono hW h) rfl
    congr 1
    have : ¬ ((ws.length : Int) + 1 = 2) := by omega
    simpa using this
theorem sc_read_go : FnScope ["reading", "words", "program", "number"] ["reading", "words"] (defScope s_read_go) := ⟨rfl, rfl, rfl, by decide +kernel, rfl, by decide +kernel, by decide +kernel⟩
theorem ok_read_go (T : Tx K w mg) : Df P w K mg base (L2.CX P w) 5 "read_go" ["reading", "words"] (outSp K "go") := by
  obtain ⟨fd, F⟩ := T.d_read_go
  refine ⟨fd, T.g_read_go, F.kp, (F.bindsN (ps := ["reading", "words"]) fun _ _ _ _ _ _ us hl => match us, hl with | [_, _], _ => rfl), F.ok sc_read_go sp2_len (fun cdv A outer s H vs Q E hr h => ⟨_, ((pss_cons (ps_expr (pe_df (ok_want_right T) (hr.mono (by decide)) pxr (pa_cons (pe_cmpR op_eq (pe_callB call_len (by rfl) T.f_len (by decide +kernel) (pa_cons (pv 1) pa_nil)) pe_int (nomark _)) (pa_cons (pe_gi T.c_MALFORMED) pa_nil))))
    (pss_cons (ps_set (i := 2) sc_read_go.nd rfl (.inl rfl) (pe_fld (pv 0) rfl))
    (pss_cons (ps_set (i := 3) sc_read_go.nd rfl (.inl rfl) (pe_df (ok_find_task T) (hr.mono (by decide)) pxr (pa_cons (pv 2) (pa_cons (pe_ix ix_list (pv 1) pe_int (fun _ _ => rfl)) pa_nil))))
    (pss_cons (ps_expr (pe_df (ok_want_right T) (hr.mono (by decide)) pxr (pa_cons (pe_cmpR op_lt (pe_callB call_len (by rfl) T.f_len (by decide +kernel) (pa_cons (pe_fld (pv 2) rfl) pa_nil)) (pe_gi T.c_MOST_GOES) (nomark _)) (pa_cons (pe_gi T.c_EXCEEDED) pa_nil))))
    (pss_one (ps_expr (pe_bm PySem.F.plainAttrs_list PySem.F.slot_list_append PySem.F.type_list_append mt_append (pe_fld (pv 2) rfl) (pa_cons (pv 3) pa_nil))))))))), ?_⟩)⟩
  obtain ⟨_, _, rfl, L, s', l, ws, rfl, rfl, R, hex, S, hn, W, h⟩ := h
  have hW : Same (wo H (L.M s'.now)) H := wo_same _ _
  refine st_want 1 (val_eq (val_lenM (val_var rfl) (hW.seq W.at_)) val_c rfl) (fun e => ?_) (fun e => ?_) rfl
  · obtain ⟨n, rfl⟩ := one_ws (len_ws (m := 1) e)
    rw [out_go] at h
    dsimp only at h
    have htl := R.tl
    rw [hn, List.append_nil] at htl
    have htn : All2 (Named K H) L.ts (s'.program.tasks.map Xb15.Task.name) := ⟨by rw [List.length_map]; exact R.tasks.len, fun i a n h1 h2 => by
      rw [List.getElem?_map] at h2
      cases e : s'.program.tasks[i]? with
      | none => rw [e] at h2; cases h2
      | some c =>
        rw [e] at h2
        cases h2
        obtain ⟨dx, sa, ia, is, q, _⟩ := R.tasks.at_ i a c h1 e
        exact .inr ⟨_, _, _, wo_same _ _ _ _ q⟩⟩
    have hR : Res K E (wo H (L.M s'.now)) (if Xb15.isName n = false then .error 1 else match (s'.program.tasks.map Xb15.Task.name).findIdx? fun v => v == n with | none => .error 2 | some i => .ok i) fun i => Res K E (wo H (L.M s'.now)) (if 12 ≤ s'.program.goes.length then .error 5 else .ok { s' with program := { s'.program with goes := s'.program.goes ++ [i] } }) (Out K L.r (wo H (L.M s'.now)) Q) := by
      rw [findIdx_map]
      by_cases hnb : Xb15.isName n = false
      · rw [if_pos hnb] at h ⊢
        exact h
      · rw [if_neg hnb] at h ⊢
        have hf0 : (s'.program.tasks.findIdx? fun x => x.name == n) = Xb15.findTask s'.program n := rfl
        rw [hf0]
        cases hf : Xb15.findTask s'.program n with
        | none => rw [hf] at h; exact h
        | some i => rw [hf] at h; exact h
    dsimp only
    refine st_set (T.v_Reading_program (val_var rfl) R.rd) ?_
    dsimp only
    refine st_asg (callS2 (val_var rfl) (W.ix hW (i := 1) rfl val_c rfl) ⟨_, _, rfl, L.pa, L.dxp, L.ca, L.ta, L.ga, L.ts, s'.program.tasks.map Xb15.Task.name, n, rfl, rfl, W.each n (by simp), wo_same _ _ _ _ R.pr, SqL.of htl, htn, by rw [List.length_map]; have := S.prog.tasks; omega, hR.mono hW fun i _ h2 H1 s1 => ?_⟩)
    have R1 := R.mono s1
    have hpr1 := wo_same _ _ _ _ R1.pr
    dsimp only
    refine st_wantI 5 (val_lenM (T.v_Program_goes (val_var rfl) hpr1) (SqL.of R1.gl)) val_c (fun e3 => ?_) (fun e3 => ?_) rfl
    · have e4 := of_decide_eq_true e3
      rw [if_neg (by omega)] at h2
      dsimp only
      refine st_append (T.v_Program_goes (val_var rfl) hpr1) (val_var rfl) R1.gl (by rw [List.length_map]; omega) ?_
      refine h2 _ L rfl hex ?_ (R1.addGo (g := i))
      show Same _ (wo _ (L.M s'.now))
      rw [wo_upd (Lay.inP Lay.gaP)]
      exact wo_more s1
    · have e4 := of_decide_eq_false e3
      rw [if_pos (by omega)] at h2
      exact Err.mono (hW.trans s1) h2
  · rw [out_go_bad s' ws (len_ws' (m := 1) e)] at h
    exact Err.mono hW h
def outsideR (K : PySem.W.Frag) (f : Addr) (sp : Sp) : Prop := ∃ z ∈ (["cell", "task", "go"] : List String), f = He.ga K (Str.ofString ("read_" ++ z)) ∧ sp = outSp K z
theorem outsideA (T : Tx K w mg) : ∀ f sp, outsideR K f sp → ∃ y ps, f = He.ga K y ∧ Df P w K mg base (L2.CX P w) 8 y ps sp := by
  rintro f sp ⟨z, hz, rfl, rfl⟩
  simp only [List.mem_cons, List.not_mem_nil, or_false] at hz
  rcases hz with rfl | rfl | rfl
  · exact ⟨_, _, rfl, (ok_read_cell T).up (by decide)⟩
  · exact ⟨_, _, rfl, (ok_read_task T).up (by decide)⟩
  · exact ⟨_, _, rfl, (ok_read_go T).up (by decide)⟩
def lineOf (s : Xb15.ParseState) (n : Nat) (k : Xb15.Bytes) (ws : List Xb15.Bytes) : Except Nat Xb15.ParseState := match s.now with
  | none => Xb15.parseOuter s k ws
  | some t => Xb15.parseInner s t n k ws
def lineSp (K : PySem.W.Frag) : Sp := sp3 fun a b c H Q E => ∃ L s l k ws n, a = .ref L.r ∧ b = .ref l ∧ c = iv n ∧ RdAt K H L s ∧ L.ex = [] ∧ SOk s ∧ WordsAt K (wo H (L.M s.now)) l (k :: ws) ∧ Res K E (wo H (L.M s.now)) (lineOf s n k ws) (Out K L.r (wo H (L.M s.now)) Q)
theorem sc_read_line : FnScope ["reading", "words", "line", "deed"] ["reading", "words", "line"] (defScope s_read_line) := ⟨rfl, rfl, rfl, by decide +kernel, rfl, by decide +kernel, by decide +kernel⟩
theorem ok_read_line (T : Tx K w mg) : Df P w K mg base (L2.CX P w) 9 "read_line" ["reading", "words", "line"] (lineSp K) := by
  obtain ⟨fd, F⟩ := T.d_read_line
  refine ⟨fd, T.g_read_line, F.kp, (F.bindsN (ps := ["reading", "words", "line"]) fun _ _ _ _ _ _ us hl => match us, hl with | [_, _, _], _ => rfl), F.ok sc_read_line sp3_len (fun cdv A outer s H vs Q E hr h => ⟨_, ((pss_one (ps_if (pt_val (pe_fld (pv 0) rfl))
      (pss_one (ps_expr (pe_df (ok_read_inside T) (hr.mono (by decide)) pxr (pa_cons (pv 0) (pa_cons (pv 1) (pa_cons (pv 2) pa_nil))))))
      (pss_cons (ps_expr (pe_df (ok_want_right T) (hr.mono (by decide)) pxr (pa_cons (pe_cmpR (op_in_kdT T.kd_OUTSIDE) (pe_ix ix_list (pv 1) pe_int (fun _ _ => rfl)) (pe_gr T.g_OUTSIDE) (by rfl)) (pa_cons (pe_gi T.c_MALFORMED) pa_nil))))
    (pss_cons (ps_set (i := 3) sc_read_line.nd rfl (.inl rfl) (pe_ix ix_kdict (pe_gr T.g_OUTSIDE) (pe_ix ix_list (pv 1) pe_int (fun _ _ => rfl)) (fun _ _ => rfl)))
    (pss_one (ps_expr (pe_dfR (i := 3) (R := outsideR K) (outsideA T) (hr.mono (by decide)) rfl (.inl rfl) pxr (pa_cons (pv 0) (pa_cons (pv 1) pa_nil)))))))))), ?_⟩)⟩
  obtain ⟨_, _, _, rfl, L, s', l, k, ws, n, rfl, rfl, rfl, R, hex, S, W, h⟩ := h
  have hW : Same (wo H (L.M s'.now)) H := wo_same _ _
  unfold lineOf at h
  refine st_if (ans_ofB (T.v_Reading_is_inside (val_var rfl) R.rd)) (fun e => ?_) (fun e => ?_)
  · obtain ⟨t, hn⟩ := Option.isSome_iff_exists.mp e
    have h' : Res K E (wo H (L.M s'.now)) (Xb15.parseInner s' t n k ws) (Out K L.r (wo H (L.M s'.now)) Q) := by
      rw [hn] at h
      rw [hn]
      exact h
    exact st_expr (callS3 (val_var rfl) (val_var rfl) (val_var rfl) ⟨_, _, _, rfl, L, s', t, l, k, ws, n, rfl, rfl, rfl, R, hex, S, hn, W, h'⟩)
  · have hn : s'.now = none := by simpa using e
    have h' : Res K E (wo H (L.M s'.now)) (Xb15.parseOuter s' k ws) (Out K L.r (wo H (L.M s'.now)) Q) := by
      rw [hn] at h
      rw [hn]
      exact h
    have hany : (["cell", "task", "go"] : List Str).any (· == phi k) = (decide (k = Xb15.ascii "cell") || (decide (k = Xb15.ascii "task") || decide (k = Xb15.ascii "go"))) := by
      simp only [List.any_cons, List.any_nil, Bool.or_false]
      rw [lit_beq (by decide +kernel), lit_beq (by decide +kernel), lit_beq (by decide +kernel)]
    refine st_want 1 (val_inKd T.ke_OUTSIDE (W.ix hW (i := 0) rfl val_c rfl)) (fun e => ?_) (fun e => ?_) rfl
    all_goals rw [hany] at e
    · have go : ∀ z ∈ (["cell", "task", "go"] : List String), k = Xb15.ascii z → KDct K w (He.ga K "OUTSIDE") (phi k) (.ref (He.ga K (Str.ofString ("read_" ++ z)))) := fun z hz ek => by
        have hp : phi k = Str.ofString z := by
          subst ek
          simp only [List.mem_cons, List.not_mem_nil, or_false] at hz
          rcases hz with rfl | rfl | rfl <;> exact (lit (by decide +kernel) _).mpr rfl
        rw [hp]
        exact kdctV (q := (Str.ofString z, .glo (Str.ofString ("read_" ++ z)))) T.kd_OUTSIDE T.va_OUTSIDE (by
          simp only [List.mem_cons, List.not_mem_nil, or_false] at hz
          rcases hz with rfl | rfl | rfl
          · exact .head _
          · exact .tail _ (.head _)
          · exact .tail _ (.tail _ (.head _)))
      obtain ⟨z, hz, hk⟩ : ∃ z ∈ (["cell", "task", "go"] : List String), k = Xb15.ascii z := by
        simp only [Bool.or_eq_true, decide_eq_true_eq] at e
        rcases e with e | e | e
        · exact ⟨_, by simp, e⟩
        · exact ⟨_, by simp, e⟩
        · exact ⟨_, by simp, e⟩
      dsimp only
      refine st_set (val_ixD (go z hz hk) (W.ix hW (i := 0) rfl val_c rfl)) ?_
      subst hk
      dsimp only
      exact st_expr (callT2 (R := outsideR K) rfl ⟨z, hz, rfl, rfl⟩ (val_var rfl) (val_var rfl) ⟨_, _, rfl, L, s', l, ws, rfl, rfl, R, hex, S, hn, W, h'⟩)
    · simp only [Bool.or_eq_false_iff, decide_eq_false_iff_not] at e
      rw [out_none s' k ws e.1 e.2.1 e.2.2] at h'
      exact Err.mono hW h'
end
end GW
/-! The walk 9: the code of a line, texts -/
namespace GW
open PySem PySem.Spec PyProof.Rows L2
open Gc (SOk)
theorem strOk_phi (b : Xb15.Bytes) : PyData.strOk (phi b) = true := by
  unfold PyData.strOk
  rw [← Array.all_toList, phi_list, List.all_map]
  refine List.all_eq_true.mpr fun c _ => ?_
  have := sgn_lt c
  simp
  omega
theorem dp_words {K : PySem.W.Frag} {H : Hp} : ∀ l : List Xb15.Bytes, ∃ ds, DpAll K H (l.map wv) ds ∧ PyData.canLayAll0 ds = true ∧ PyData.depthAll ds ≤ 10
  | [] => ⟨[], .nil, rfl, by decide⟩
  | b :: l => by
    obtain ⟨ds, d1, d2, d3⟩ := dp_words (K := K) (H := H) l
    refine ⟨.str (phi b) :: ds, .cons (.str _) d1, ?_, ?_⟩
    · simp only [PyData.canLayAll0, PyData.canLay0, d2, Bool.and_true]
      exact strOk_phi b
    · simp only [PyData.depthAll, PyData.depth]
      omega
theorem WordsAt.mono {K : PySem.W.Frag} {F F' : Hp} {l : Addr} {ws : List Xb15.Bytes} (W : WordsAt K F l ws) (e : Same F F') : WordsAt K F' l ws := ⟨e.seq W.at_, W.len, W.each⟩
theorem st_ifH {te : TE} {t1 t2 : TS} {D : Ends} {σ : L2.St} {H : Hp} (h : te σ H fun x H1 => ∃ k, x = V.bl k ∧ if k = true then t1 D σ H1 else t2 D σ H1) : tIfS (tTest te) t1 t2 D σ H := h
theorem callSS3 {sp : Sp} {E : L2.St → XK} {ta tb tc : TE} {x y z : V} {σ : L2.St} {H : Hp} {Q : VK} (h1 : Val ta σ H x) (h2 : Val tb σ H y) (h3 : Val tc σ H z) (q : sp [x, y, z] H Q (E σ)) : tCallS sp E (tCons ta (tCons tb (tCons tc tNil))) σ H Q := h1 _ (h2 _ (h3 _ q))
/-- a line's words are read -/
def lineOf' (s : Xb15.ParseState) (n : Nat) (ws : List Xb15.Bytes) : Except Nat Xb15.ParseState := match ws with
  | [] => .ok s
  | k :: r => lineOf s n k r
section
variable {P : Program} {w : World} {K : PySem.W.Frag} {mg : Str → Option Value} {base : Heap}
def codeSp (K : PySem.W.Frag) : Sp := sp3 fun a b c H Q E => ∃ L s l ws n, a = .ref L.r ∧ b = .ref l ∧ c = iv n ∧ RdAt K H L s ∧ L.ex = [] ∧ SOk s ∧ WordsAt K (wo H (L.M s.now)) l ws ∧ (match lineOf' s n ws with
    | .ok s' => ∀ H' L', L'.r = L.r → L'.ex = [] → Same (wo H (L.M s.now)) (wo H' (L'.M s'.now)) → RdAt K H' L' s' → Q (.int 0) H'
    | .error c => ∀ H', Same (wo H (L.M s.now)) H' → Q (iv c) H')
theorem sc_code_of_line : FnScope ["reading", "words", "line", "e"] ["reading", "words", "line"] (defScope s_code_of_line) := ⟨rfl, rfl, rfl, by decide +kernel, rfl, by decide +kernel, by decide +kernel⟩
theorem ok_code_of_line (T : Tx K w mg) : Df P w K mg base CX0 10 "code_of_line" ["reading", "words", "line"] (codeSp K) := by
  obtain ⟨fd, F⟩ := T.d_code_of_line
  refine ⟨fd, T.g_code_of_line, F.kp, (F.bindsN (ps := ["reading", "words", "line"]) fun _ _ _ _ _ _ us hl => match us, hl with | [_, _, _], _ => rfl), F.ok sc_code_of_line sp3_len (fun cdv A outer s H vs Q E hr h => ⟨_, ((pss_cons (ps_try_as (i := 3) (tb := fun W => tIfS (tTest (tOp (rNeD K) (tVar 1) (tLst tNil))) (tDrop (tCallS (lineSp K) (WE W) (tCons (tVar 0) (tCons (tVar 1) (tCons (tVar 2) tNil))))) tNext) (ts := fun a cls d => tRet (tXf a cls d (He.ga K "Wrong") "code" (tVar 3))) (Wout := fun _ _ _ _ => False) rfl rfl sc_code_of_line.nd rfl rfl ⟨rfl, by decide, .inl T.g_Wrong⟩ takes0 (fun W pn xe tk _ => pss_one (ps_if (pt_cmpR (op_neD (by exact hr.units)) (pv 1) (pe_lst pa_nil) (nomark _)) (pss_one (ps_expr (by exact (pe_dfS (ok_read_line T) (hr.mono (by decide)) (fun σ => passAt tk σ) (by exact (pa_cons (pv 0) (pa_cons (pv 1) (pa_cons (pv 2) pa_nil)))))))) pss_nil)) (fun a oe cls d pn hz hf => pss_one (ps_ret (by exact (pe_xf (xfB_ok T.xf) T.na_Wrong_code hz hf (pv 3))))))
    (pss_one (ps_ret pe_int)))), ?_⟩)⟩
  obtain ⟨_, _, _, rfl, L, s', l, ws, n, rfl, rfl, rfl, R, hex, S, W, h⟩ := h
  have hW : Same (wo H (L.M s'.now)) H := wo_same _ _
  refine L2.st_seq ?_
  dsimp only
  refine st_ifH (ne_nilH (val_var rfl) (hW.seq W.at_) (fun _ _ => dp_words ws) fun H1 s1 => ⟨_, rfl, ifb (fun e => ?_) (fun e => ?_)⟩)
  · cases ws with
    | nil => cases e
    | cons k r =>
      have R1 := R.mono s1
      have w1 : Same (wo H (L.M s'.now)) (wo H1 (L.M s'.now)) := wo_more s1
      refine st_expr (callSS3 (val_var rfl) (val_var rfl) (val_var rfl) ⟨_, _, _, rfl, L, s', l, k, r, n, rfl, rfl, rfl, R1, hex, S, W.mono w1, ?_⟩)
      have h : (match lineOf s' n k r with
        | .ok s2 => ∀ H' L', L'.r = L.r → L'.ex = [] → Same (wo H (L.M s'.now)) (wo H' (L'.M s2.now)) → RdAt K H' L' s2 → Q (.int 0) H'
        | .error c => ∀ H', Same (wo H (L.M s'.now)) H' → Q (iv c) H') := h
      cases hl : lineOf s' n k r with
      | error c =>
        rw [hl] at h
        exact fun d H2 hd e2 => ⟨true, T.x_Wrong, fun _ a ha => ⟨_, rfl, rfl, rfl, d, _, _, rfl, hd, rfl, h H2 (w1.trans e2)⟩, fun q => by cases q⟩
      | ok s2 =>
        rw [hl] at h
        refine fun H2 L3 hr hx hF hR => ?_
        dsimp only
        exact st_ret val_c (h H2 L3 hr hx (w1.trans hF) hR)
  · cases ws with
    | nil =>
      refine st_next ?_
      dsimp only
      exact st_ret val_c (h H1 L rfl hex (wo_more s1) (R.mono s1))
    | cons k r => cases e
/-- what is promised of a text's reading -/
def TextRes (K : PySem.W.Frag) (H : Hp) (Q : VK) (r : Except (Nat × Nat) Xb15.Program) : Prop := match r with
  | .ok p => ∀ H' q pa, Same H H' → H' q = some (.tup [.ref pa, .int 0]) → ProgAt K H' pa p → Q (.ref q) H'
  | .error c => ∀ H' q, Same H H' → H' q = some (.tup [.non, .int (-(100 * (c.2 : Int) + (c.1 : Int) + 10))]) → Q (.ref q) H'
theorem line_of (s : Xb15.ParseState) (n : Nat) (l : Xb15.Bytes) : Xb15.parseLine s n l = lineOf' s n (Xb15.lineWords l) := by
  unfold Xb15.parseLine lineOf'
  cases Xb15.lineWords l with
  | nil => rfl
  | cons k r =>
    unfold lineOf
    rfl
theorem callS3B {sp : Sp} {E : XK} {ta tb tc : TE} {x : V} {σ : L2.St} {H : Hp} {Q : VK} (h1 : Val ta σ H x) (h : tb σ H fun y H1 => tc σ H1 fun z H2 => sp [x, y, z] H2 Q E) : tCall sp [] E (tCons ta (tCons tb (tCons tc tNil))) σ H Q := h1 _ h
theorem val_mul {ta tb : TE} {σ : L2.St} {H : Hp} {i j : Int} (ha : Val ta σ H (.int i)) (hb : Val tb σ H (.int j)) (hc : CMul i j) : Val (tOp (rI CMul fun i j => .int (i * j)) ta tb) σ H (.int (i * j)) := fun Q q => ha _ (hb _ ⟨i, j, rfl, rfl, hc, q⟩)
def textSp (K : PySem.W.Frag) : Sp := sp1 fun a H Q E => ∃ l cs, a = .ref l ∧ SqL K H l (cs.map iv) ∧ cs.length ≤ 4000 ∧ TextRes K H Q (Xb15.parseText cs)
theorem sc_read_text : FnScope ["codes", "reading", "line", "piece", "code"] ["codes"] (defScope s_read_text) := ⟨rfl, rfl, rfl, by decide +kernel, rfl, by decide +kernel, by decide +kernel⟩
theorem ok_read_text (T : Tx K w mg) : Df P w K mg base CX0 11 "read_text" ["codes"] (textSp K) := by
  obtain ⟨fd, F⟩ := T.d_read_text
  refine ⟨fd, T.g_read_text, F.kp, (F.bindsN (ps := ["codes"]) fun _ _ _ _ _ _ us hl => match us, hl with | [_], _ => rfl), F.ok sc_read_text sp1_len (fun cdv A outer s H vs Q E hr h => ⟨_, PSs.nox ((pss_cons (ps_par (i := 1) (j := 2) rfl sc_read_text.nd rfl rfl (by decide) rfl rfl (pa_cons (pe_cl0 T.m_Reading (ok_Reading_init T) (hr.mono (by decide)) T.g_Reading pass0) (pa_cons pe_int pa_nil)) rfl)
    (pss_cons (ps_for PassesOwn.never rfl (pi_list (pe_df (ok_pieces_of T) (hr.mono (by decide)) pass0 (pa_cons (pv 0) (pa_cons (pe_gi T.c_NEWLINE) pa_nil)))) (pg_name (i := 3) sc_read_text.nd rfl (.inl rfl))
      (pss_cons (ps_aug (i := 2) sc_read_text.nd rfl (.inl rfl) pe_int ip_add)
    (pss_cons (ps_set (i := 4) sc_read_text.nd rfl (.inl rfl) (pe_df (ok_code_of_line T) (hr.mono (by decide)) pass0 (pa_cons (pv 1) (pa_cons (pe_df (ok_words_of T) (hr.mono (by decide)) pass0 (pa_cons (pv 3) pa_nil)) (pa_cons (pv 2) pa_nil)))))
    (pss_one (ps_if (pt_cmpR op_ne (pv 4) pe_int (nomark _))
      (pss_one (ps_ret (pe_tup (pa_cons pe_non (pa_cons (pe_un un_neg (pe_op op_add (pe_op op_add (pe_op op_mul pe_int (pv 2)) (pv 4)) pe_int)) pa_nil)))))
      pss_nil)))))
    (pss_cons (ps_if (pt_val (pe_fld (pv 1) rfl))
      (pss_one (ps_ret (pe_tup (pa_cons pe_non (pa_cons (pe_un un_neg (pe_op op_add (pe_op op_add (pe_op op_mul pe_int (pe_op op_add (pv 2) pe_int)) (pe_gi T.c_UNFINISHED)) pe_int)) pa_nil)))))
      pss_nil)
    (pss_one (ps_ret (pe_tup (pa_cons (pe_fld (pv 1) rfl) (pa_cons pe_int pa_nil))))))))), ?_⟩)⟩
  obtain ⟨_, rfl, l, cs, rfl, hS, hl, h⟩ := h
  refine fun x dx hx hdx hne => ⟨_, rfl, x, dx, rfl, upd_same, fun H1 L k hr hex hM R => ⟨rfl, ?_⟩⟩
  have e1 : Same H H1 := k.same hx hdx
  refine ⟨_, _, rfl, ?_⟩
  dsimp only
  refine L2.st_seq ?_
  dsimp only
  refine st_forLH (callS2 (val_var rfl) val_c ⟨_, _, rfl, l, cs, 10, rfl, rfl, e1.seq hS, by omega, fun H2 f s2 hLL => ?_⟩)
  obtain ⟨as, hf, ha1, ha2⟩ := hLL
  have nwF : Same (nw H1 H2) (wo H2 (L.M none)) := nw_wo fun a ha => R.there ha
  have hS2 : SqL K (wo H2 (L.M none)) f (as.map V.ref) := SqL.of (nwF _ _ hf)
  have hsp := split_len 10 cs
  have hM1 : Same H (wo H2 (L.M none)) := fun b o hb => by
    refine wo_some.mpr ⟨fun z => ?_, s2 _ _ (e1 _ _ hb)⟩
    by_cases hbx : b = x
    · rw [hbx, hx] at hb; cases hb
    · have := (fresh2 (hM b z hbx)).1
      rw [this] at hb
      cases hb
  refine ⟨f, rfl, ⟨_, (wo_same _ _).seq hS2⟩, forIn (xs := as.map V.ref) (fun i σ H' => ∃ (v3 v4 : Option V) (L' : Lay) (s : Xb15.ParseState), σ = [some (.ref l), some (.ref x), some (iv i), v3, v4] ∧ L'.r = x ∧ L'.ex = [] ∧ SOk s ∧ Same (wo H2 (L.M none)) (wo H' (L'.M s.now)) ∧ RdAt K H' L' s ∧
    TextRes K H Q (Xb15.parseLines (i + 1) s ((Xb15.splitOn 10 cs).drop i))) ?_ ?_ ?_ ?_⟩
  · exact ⟨none, none, L, _, rfl, hr, hex, Gc.start_ok, Same.refl _, R.mono s2, h⟩
  · rintro i σ H' _ ⟨v3, v4, L', s', rfl, hr', hx', S, hF, R', hres⟩
    exact (hF.trans (wo_same _ _)).seq hS2
  · rintro i y σ H' hi ⟨v3, v4, L', s', rfl, hr', hx', S, hF, R', hres⟩
    obtain ⟨a, ha, rfl⟩ := map_get hi
    have hip : i < (Xb15.splitOn 10 cs).length := by
      have := (List.getElem?_eq_some_iff.mp ha).1
      omega
    have hdr : (Xb15.splitOn 10 cs).drop i = (Xb15.splitOn 10 cs)[i] :: (Xb15.splitOn 10 cs).drop (i + 1) := List.drop_eq_getElem_cons hip
    rw [hdr] at hres
    have hpa := ha2 i a _ ha (List.getElem?_eq_getElem hip)
    have hpl := hsp.2 _ (List.getElem_mem hip)
    generalize (Xb15.splitOn 10 cs)[i] = piece at hres hpa hpl
    have hpc : H' a = some (.lst (piece.map iv)) := wo_same _ _ _ _ (hF _ _ (nwF _ _ hpa))
    refine ⟨_, rfl, (i : Int), 1, rfl, rfl, ?_⟩
    dsimp only
    have hwl := split_len 32 piece
    refine st_asg (callS3B (val_var rfl) (callS1 (val_var rfl) ⟨_, rfl, a, piece, rfl, SqL.of hpc, by omega, fun H3 p s3 hp => ⟨_, rfl, ?_⟩⟩))
    have R3 := R'.mono s3
    have hp2 := nw_some.mp hp
    have W3 : WordsAt K (wo H3 (L'.M s'.now)) p (Xb15.lineWords piece) := ⟨SqL.of (wo_some.mpr ⟨R'.fresh hp2.1, hp2.2⟩), by
      unfold Xb15.lineWords
      have := List.length_filter_le (fun w : Xb15.Bytes => !w.isEmpty) (Xb15.splitOn 32 piece)
      omega, fun b hb => by
      have := hwl.2 b ((List.mem_filter.mp hb).1)
      omega⟩
    have F3 : Same (wo H2 (L.M none)) (wo H3 (L'.M s'.now)) := hF.trans (wo_more s3)
    refine ⟨_, _, _, rfl, L', s', p, Xb15.lineWords piece, i + 1, by rw [hr'], rfl, rfl, R3, hx', S, W3, ?_⟩
    rw [← line_of]
    unfold Xb15.parseLines at hres
    cases hl : Xb15.parseLine s' (i + 1) piece with
    | error c =>
      rw [hl] at hres
      have hc0 := Gc.nz_line _ _ _ _ hl
      intro H4 e4
      dsimp only
      refine st_if (b := true) (ans_is (ans_of (val_ne (val_var rfl) val_c rfl)) (by simp [iv]; exact hc0)) (fun _ => ?_) (fun e => by cases e)
      refine st_retH (tup2 val_c (val_neg (val_add (val_add (val_mul val_c (val_var rfl) (.inl ⟨by decide, by decide⟩)) (val_var rfl)) val_c)) fun q hq => ?_)
      have e5 : Same H H4 := hM1.trans (F3.trans e4)
      refine hres _ q (same_new e5 (e5.free hq)) ?_
      rw [upd_same]
      rfl
    | ok s2 =>
      rw [hl] at hres
      intro H4 L4 hr4 hx4 hF4 R4
      dsimp only
      refine st_if (b := false) (ans_is (ans_of (val_ne (val_var rfl) val_c rfl)) rfl) (fun e => by cases e) (fun _ => ?_)
      refine st_next ?_
      exact ⟨_, _, L4, s2, rfl, hr4.trans hr', hx4, Gc.line_ok S hl, F3.trans hF4, R4, hres⟩
  · rintro σ H' ⟨v3, v4, L', s', rfl, hr', hx', S, hF, R', hres⟩
    rw [List.length_map, ha1, List.drop_length] at hres
    have e5 : Same H H' := hM1.trans (hF.trans (wo_same _ _))
    have rd : atReading K H' x L'.dxr (.ref L'.pa) (.bl s'.now.isSome) (.ref L'.ba) := by rw [← hr']; exact R'.rd
    unfold Xb15.parseLines at hres
    refine st_if (ans_ofB (T.v_Reading_is_inside (val_var rfl) rd)) (fun e => ?_) (fun e => ?_)
    · rw [if_pos e] at hres
      refine st_retH (tup2 val_c (val_neg (val_add (val_add (val_mul val_c (val_add (val_var rfl) val_c) (.inl ⟨by decide, by decide⟩)) val_c) val_c)) fun q hq => ?_)
      refine hres _ q (same_new e5 (e5.free hq)) ?_
      rw [upd_same, List.length_map, ha1]
      rfl
    · rw [if_neg (by rw [e]; decide)] at hres
      have hn : s'.now = none := by simpa using e
      refine st_next ?_
      dsimp only
      refine st_retH (tup2 (T.v_Reading_program (val_var rfl) rd) val_c fun q hq => ?_)
      have eq : Same H' (upd H' q (.tup [.ref L'.pa, .int 0])) := same_upd hq
      have wq : Same (wo H' (L'.M s'.now)) (upd H' q (.tup [.ref L'.pa, .int 0])) := (wo_same _ _).trans eq
      have htl := R'.tl
      rw [hn, List.append_nil] at htl
      exact hres _ q L'.pa (same_new e5 (e5.free hq)) upd_same ⟨L'.dxp, L'.ca, L'.ta, L'.ga, L'.cs, L'.ts, wq _ _ R'.pr, eq _ _ R'.cl, R'.cells.mono fun _ _ _ z => z.mono wq, eq _ _ htl, R'.tasks.mono fun _ _ _ z => z.mono wq, eq _ _ R'.gl⟩
end
end GW
/-! The walk 10: values, states -/
namespace GW
open PySem PySem.Spec PyProof.Rows L2
open Gc (SOk opV big)
def atomV (am : List Int) : Xb15.Atom → Int
  | .num z => z
  | .var k => am.getD k 0
def tstep (am : List Int) (x : Int) (r : Nat × Xb15.Atom) : Option Int := let z := opV r.1 x (atomV am r.2)
  if -big ≤ z ∧ z ≤ big then some z else none
/-- the value of terms -/
def evT (am : List Int) (l : List (Nat × Xb15.Atom)) : Option Int := l.foldlM (tstep am) 0
def vO : Option Int → V
  | none => .non
  | some z => .int z
def AtomIn (am : List Int) : Xb15.Atom → Prop
  | .num z => -big ≤ z ∧ z ≤ big
  | .var k => ∃ v, am[k]? = some v ∧ -big ≤ v ∧ v ≤ big
theorem AtomIn.val {am : List Int} {a : Xb15.Atom} (h : AtomIn am a) : -big ≤ atomV am a ∧ atomV am a ≤ big := by
  cases a with
  | num z => exact h
  | var k =>
    obtain ⟨v, h1, h2⟩ := h
    have : atomV am (.var k) = v := by
      show am.getD k 0 = v
      rw [List.getD_eq_getElem?_getD, h1]
      rfl
    rw [this]
    exact h2
section
variable {σ : L2.St} {H : Hp} {ta tb : TE} {K : PySem.W.Frag}
theorem val_intB {b : Bool} (h : Val ta σ H (.bl b)) : Val (tCB (fun xs H Q => (∃ i, xs = [V.int i] ∧ Q (.int i) H) ∨ ∃ k, xs = [V.bl k] ∧ Q (.int (if k = true then 1 else 0)) H) (tCons ta tNil)) σ H (.int (if b = true then 1 else 0)) := fun Q q => h _ (.inr ⟨b, rfl, q⟩)
end
section
variable {P : Program} {w : World} {K : PySem.W.Frag} {mg : Str → Option Value} {base : Heap}
def resSp (K : PySem.W.Frag) : Sp := sp3 fun a b c H Q E => ∃ k x y, a = .str (opS k) ∧ k < 5 ∧ b = .int x ∧ c = .int y ∧ CMul x y ∧ Q (.int (opV k x y)) H
theorem sc_result_of : FnScope ["operator", "left", "right"] ["operator", "left", "right"] (defScope s_result_of) := ⟨rfl, rfl, rfl, by decide +kernel, rfl, by decide +kernel, by decide +kernel⟩
theorem ok_result_of (T : Tx K w mg) : Df P w K mg base CX0 1 "result_of" ["operator", "left", "right"] (resSp K) := by
  obtain ⟨fd, F⟩ := T.d_result_of
  refine ⟨fd, T.g_result_of, F.kp, (F.bindsN (ps := ["operator", "left", "right"]) fun _ _ _ _ _ _ us hl => match us, hl with | [_, _, _], _ => rfl), F.ok sc_result_of sp3_len (fun cdv A outer s H vs Q E hr h => ⟨_, PSs.nox ((pss_cons (ps_if (pt_cmpR op_eq (pv 0) pe_str (nomark _))
      (pss_one (ps_ret (pe_op op_add (pv 1) (pv 2))))
      pss_nil)
    (pss_cons (ps_if (pt_cmpR op_eq (pv 0) pe_str (nomark _))
      (pss_one (ps_ret (pe_op op_sub (pv 1) (pv 2))))
      pss_nil)
    (pss_cons (ps_if (pt_cmpR op_eq (pv 0) pe_str (nomark _))
      (pss_one (ps_ret (pe_op op_mul (pv 1) (pv 2))))
      pss_nil)
    (pss_one (ps_ret (pe_ifExp (pt_cmpR op_eq (pv 0) pe_str (nomark _)) (pe_callTy call_int1 (by rfl) T.f_int (by decide +kernel) (pa_cons (pe_cmpR op_lt (pv 1) (pv 2) (nomark _)) pa_nil)) (pe_callTy call_int1 (by rfl) T.f_int (by decide +kernel) (pa_cons (pe_cmpR op_eq (pv 1) (pv 2) (nomark _)) pa_nil))))))))), ?_⟩)⟩
  obtain ⟨_, _, _, rfl, k, x, y, rfl, hk, rfl, rfl, hc, h⟩ := h
  match k, hk with
  | 0, _ => exact st_if (b := true) (ans_is (ans_of (val_eq (val_var rfl) val_c rfl)) (by decide +kernel)) (fun _ => st_ret (val_add (val_var rfl) (val_var rfl)) h) (fun e => by cases e)
  | 1, _ =>
    refine st_if (b := false) (ans_is (ans_of (val_eq (val_var rfl) val_c rfl)) (by decide +kernel)) (fun e => by cases e) (fun _ => st_next ?_)
    dsimp only
    exact st_if (b := true) (ans_is (ans_of (val_eq (val_var rfl) val_c rfl)) (by decide +kernel)) (fun _ => st_ret (val_sub (val_var rfl) (val_var rfl)) h) (fun e => by cases e)
  | 2, _ =>
    refine st_if (b := false) (ans_is (ans_of (val_eq (val_var rfl) val_c rfl)) (by decide +kernel)) (fun e => by cases e) (fun _ => st_next ?_)
    dsimp only
    refine st_if (b := false) (ans_is (ans_of (val_eq (val_var rfl) val_c rfl)) (by decide +kernel)) (fun e => by cases e) (fun _ => st_next ?_)
    dsimp only
    exact st_if (b := true) (ans_is (ans_of (val_eq (val_var rfl) val_c rfl)) (by decide +kernel)) (fun _ => st_ret (val_mul (val_var rfl) (val_var rfl) hc) h) (fun e => by cases e)
  | 3, _ =>
    refine st_if (b := false) (ans_is (ans_of (val_eq (val_var rfl) val_c rfl)) (by decide +kernel)) (fun e => by cases e) (fun _ => st_next ?_)
    dsimp only
    refine st_if (b := false) (ans_is (ans_of (val_eq (val_var rfl) val_c rfl)) (by decide +kernel)) (fun e => by cases e) (fun _ => st_next ?_)
    dsimp only
    refine st_if (b := false) (ans_is (ans_of (val_eq (val_var rfl) val_c rfl)) (by decide +kernel)) (fun e => by cases e) (fun _ => st_next ?_)
    dsimp only
    refine st_ret (val_if (b := true) (ans_is (ans_of (val_eq (val_var rfl) val_c rfl)) (by decide +kernel)) (fun _ => val_is (val_intB (val_lt (val_var rfl) (val_var rfl))) ?_) (fun e => by cases e)) h
    unfold Gc.opV
    by_cases hxy : x < y <;> simp [hxy]
  | 4, _ =>
    refine st_if (b := false) (ans_is (ans_of (val_eq (val_var rfl) val_c rfl)) (by decide +kernel)) (fun e => by cases e) (fun _ => st_next ?_)
    dsimp only
    refine st_if (b := false) (ans_is (ans_of (val_eq (val_var rfl) val_c rfl)) (by decide +kernel)) (fun e => by cases e) (fun _ => st_next ?_)
    dsimp only
    refine st_if (b := false) (ans_is (ans_of (val_eq (val_var rfl) val_c rfl)) (by decide +kernel)) (fun e => by cases e) (fun _ => st_next ?_)
    dsimp only
    refine st_ret (val_if (b := false) (ans_is (ans_of (val_eq (val_var rfl) val_c rfl)) (by decide +kernel)) (fun e => by cases e) (fun _ => val_is (val_intB (val_eq (val_var rfl) (val_var rfl) rfl)) ?_)) h
    unfold Gc.opV
    by_cases hxy : x = y <;> simp [hxy]
def valSp (K : PySem.W.Frag) : Sp := sp2 fun a b H Q E => ∃ ta aa l am, a = .ref ta ∧ b = .ref aa ∧ TermsAt H ta l ∧ H aa = some (.lst (am.map V.int)) ∧ l.length ≤ 20000 ∧ (∀ x ∈ l, x.1 < 5 ∧ AtomIn am x.2) ∧ Q (vO (evT am l)) H
theorem sc_value_of : FnScope ["terms", "amounts", "found", "operator", "slot", "number"] ["terms", "amounts"] (defScope s_value_of) := ⟨rfl, rfl, rfl, by decide +kernel, rfl, by decide +kernel, by decide +kernel⟩
theorem ok_value_of (T : Tx K w mg) : Df P w K mg base CX0 2 "value_of" ["terms", "amounts"] (valSp K) := by
  obtain ⟨fd, F⟩ := T.d_value_of
  refine ⟨fd, T.g_value_of, F.kp, (F.bindsN (ps := ["terms", "amounts"]) fun _ _ _ _ _ _ us hl => match us, hl with | [_, _], _ => rfl), F.ok sc_value_of sp2_len (fun cdv A outer s H vs Q E hr h => ⟨_, PSs.nox ((pss_cons (ps_set (i := 2) sc_value_of.nd rfl (.inl rfl) pe_int)
    (pss_cons (ps_for PassesOwn.never rfl (pi_list (pv 0)) (pg_tup (n := 3) rfl (pgs_cons (pg_name (i := 3) sc_value_of.nd rfl (.inl rfl)) (pgs_cons (pg_name (i := 4) sc_value_of.nd rfl (.inl rfl)) (pgs_cons (pg_name (i := 5) sc_value_of.nd rfl (.inl rfl)) pgs_nil))))
      (pss_cons (ps_set (i := 2) sc_value_of.nd rfl (.inl rfl) (pe_df (ok_result_of T) (hr.mono (by decide)) pass0 (pa_cons (pv 3) (pa_cons (pv 2) (pa_cons (pe_ifExp (pt_cmpR op_ge (pv 4) pe_int (nomark _)) (pe_ix ix_list (pv 1) (pv 4) (fun _ _ => rfl)) (pv 5)) pa_nil)))))
    (pss_one (ps_if (pt_not (pt_chain op_le op_le (pe_un un_neg (pe_gi T.c_MOST_RESULT)) (pv 2) (pe_gi T.c_MOST_RESULT)))
      (pss_one (ps_ret pe_non))
      pss_nil))))
    (pss_one (ps_ret (pv 2)))))), ?_⟩)⟩
  obtain ⟨_, _, rfl, ta, aa, l, am, rfl, rfl, ⟨ts, ht, hA⟩, ha, hl, hok, h⟩ := h
  refine st_set val_c ?_
  dsimp only
  refine L2.st_seq ?_
  dsimp only
  have hlen := hA.len
  refine st_forL (K := K) (xs := ts.map V.ref) (fun i σ H' => ∃ (v3 v4 v5 : Option V) (x : Int), σ = [some (.ref ta), some (.ref aa), some (.int x), v3, v4, v5] ∧ H = H' ∧ -big ≤ x ∧ x ≤ big ∧ (l.drop i).foldlM (tstep am) x = evT am l) (val_var rfl) (SqL.of ht) ⟨none, none, none, 0, rfl, rfl, by decide, by decide, rfl⟩ ?_ ?_ ?_
  · rintro i σ H' _ ⟨v3, v4, v5, x, rfl, rfl, _⟩
    exact SqL.of ht
  · rintro i y σ H' hi ⟨v3, v4, v5, x, rfl, rfl, hx1, hx2, hf⟩
    obtain ⟨a, hai, rfl⟩ := map_get hi
    obtain ⟨r, hr, hta⟩ := hA.get' hai
    obtain ⟨hr1, hr2⟩ := hok r (List.mem_of_getElem? hr)
    obtain ⟨hv1, hv2⟩ := hr2.val
    obtain ⟨hil, hri⟩ := List.getElem?_eq_some_iff.mp hr
    have hdr : l.drop i = r :: l.drop (i + 1) := by rw [List.drop_eq_getElem_cons hil, hri]
    rw [hdr, List.foldlM_cons] at hf
    refine ⟨a, _, rfl, .inl (.inl hta), rfl, _, _, rfl, _, _, rfl, _, _, rfl, rfl, ?_⟩
    dsimp only
    have hat : Val (tIf (tTest (tOp (rI0 fun i j => .bl (decide (j ≤ i))) (tVar 4) (tC (.int 0)))) (tOp (rIxL K) (tVar 1) (tVar 4)) (tVar 5)) [some (.ref ta), some (.ref aa), some (.int x), some (.str (opS r.1)), some (.int (aslot r.2)), some (.int (anum r.2))] H (.int (atomV am r.2)) := by
      obtain ⟨op, at'⟩ := r
      cases at' with
      | num z => exact val_if (b := false) (ans_is (ans_of (val_ge (val_var rfl) val_c)) rfl) (fun e => by cases e) (fun _ => val_var rfl)
      | var k =>
        obtain ⟨v, hk, _⟩ := hr2
        refine val_if (b := true) (ans_is (ans_of (val_ge (val_var rfl) val_c)) (by simp [aslot])) (fun _ => val_ixL (val_var rfl) (val_var rfl) (SqL.of ha) (atI_nat (j := k) ?_)) (fun e => by cases e)
        have : atomV am (.var k) = v := by
          show am.getD k 0 = v
          rw [List.getD_eq_getElem?_getD, hk]
          rfl
        rw [this, List.getElem?_map, hk]
        rfl
    refine st_asg (callS3 (val_var rfl) (val_var rfl) hat ⟨_, _, _, rfl, r.1, x, atomV am r.2, rfl, hr1, rfl, rfl, .inl (by unfold Gc.big at *; omega), ?_⟩)
    dsimp only
    refine st_if (ans_not (ans_of (val_chain_le (val_neg val_c) (val_var rfl) val_c))) (fun e => ?_) (fun e => ?_)
    · have hb : ¬ (-big ≤ opV r.1 x (atomV am r.2) ∧ opV r.1 x (atomV am r.2) ≤ big) := fun z => by
        revert e
        simp only [Bool.not_eq_true', Bool.and_eq_false_iff, decide_eq_false_iff_not]
        unfold Gc.big at z
        omega
      have : tstep am x r = none := by
        unfold tstep
        exact if_neg hb
      rw [this] at hf
      rw [← hf] at h
      exact st_ret val_c h
    · have hb : -big ≤ opV r.1 x (atomV am r.2) ∧ opV r.1 x (atomV am r.2) ≤ big := by
        revert e
        simp only [Bool.not_eq_false', Bool.and_eq_true, decide_eq_true_eq]
        unfold Gc.big
        omega
      have : tstep am x r = some (opV r.1 x (atomV am r.2)) := by
        unfold tstep
        exact if_pos hb
      rw [this] at hf
      exact st_next ⟨_, _, _, _, rfl, rfl, hb.1, hb.2, hf⟩
  · rintro σ H' ⟨v3, v4, v5, x, rfl, rfl, hx1, hx2, hf⟩
    rw [List.length_map, List.drop_eq_nil_of_le (by omega)] at hf
    have : evT am l = some x := hf.symm
    rw [this] at h
    exact st_ret (val_var rfl) h
end
end GW
/-! The walk 11: states -/
namespace GW
open PySem PySem.Spec PyProof.Rows L2
open Gc (vL ShapeOk)
theorem set_len {l : List Int} (h : l.Pairwise (· < ·)) (hr : ∀ z ∈ l, 0 ≤ z ∧ z ≤ 63) : l.length ≤ 64 := by
  have key : ∀ (l : List Int) (lo : Int), l.Pairwise (· < ·) → (∀ z ∈ l, lo ≤ z ∧ z ≤ 63) → lo ≤ 64 → (l.length : Int) ≤ 64 - lo := by
    intro l
    induction l with
    | nil => intro lo _ _ hlo; simp; omega
    | cons a r ih =>
      intro lo hp hz hlo
      have ha := hz a (by simp)
      rw [List.pairwise_cons] at hp
      have := ih (a + 1) hp.2 (fun z hz' => ⟨by have := hp.1 z hz'; omega, (hz z (by simp [hz'])).2⟩) (by omega)
      simp
      omega
  have := key l 0 h (fun z hz => hr z hz) (by decide)
  omega
theorem vL_len {k : Xb15.Kind} {v : Xb15.Val} (h : ShapeOk k v) : (vL v).length ≤ 64 := by
  cases v with
  | empty => simp [vL]
  | num z => simp [vL]
  | range a b => simp [vL]
  | set l =>
    cases k <;> first
      | exact set_len h.1 h.2
      | exact h.elim
theorem dp_ints' {K : PySem.W.Frag} {H : Hp} (ns : List Int) : ∃ ds, DpAll K H (ns.map V.int) ds ∧ PyData.canLayAll0 ds = true ∧ PyData.depthAll ds ≤ 10 := by
  refine ⟨ns.map PyData.int, dp_ints ns, (lay_ints ns).1, ?_⟩
  have : ∀ ns : List Int, PyData.depthAll (ns.map PyData.int) ≤ 10 := fun ns => by
    induction ns with
    | nil => decide
    | cons n r ih =>
      simp only [List.map_cons, PyData.depthAll, PyData.depth]
      omega
  exact this ns
section
variable {σ : L2.St} {H : Hp} {ta tb : TE} {K : PySem.W.Frag} {Q : VK}
theorem val_max2 {i j : Int} (h1 : Val ta σ H (.int i)) (h2 : Val tb σ H (.int j)) : Val (tCB (fun xs H Q => ∃ i j, xs = [V.int i, V.int j] ∧ Q (.int (if j > i then j else i)) H) (tCons ta (tCons tb tNil))) σ H (.int (max i j)) := fun Q q => h1 _ (h2 _ ⟨i, j, rfl, by
  have : (if j > i then j else i) = max i j := by split <;> omega
  rw [this]; exact q⟩)
theorem val_min2 {i j : Int} (h1 : Val ta σ H (.int i)) (h2 : Val tb σ H (.int j)) : Val (tCB (fun xs H Q => ∃ i j, xs = [V.int i, V.int j] ∧ Q (.int (if j < i then j else i)) H) (tCons ta (tCons tb tNil))) σ H (.int (min i j)) := fun Q q => h1 _ (h2 _ ⟨i, j, rfl, by
  have : (if j < i then j else i) = min i j := by split <;> omega
  rw [this]; exact q⟩)
theorem st_par {i j : Nat} {x y : V} {D : Ends} (h1 : Val ta σ H x) (h2 : Val tb σ H y) (q : D.nx ((σ.set i (some x)).set j (some y)) H) : tPar i j (tCons ta (tCons tb tNil)) D σ H := h1 _ (h2 _ ⟨_, _, rfl, q⟩)
/-- xs + [z] -/
theorem catH {a : Addr} {xs : List V} {z : V} (h1 : Val ta σ H (.ref a)) (ha : H a = some (.lst xs)) (hl : xs.length ≤ 100000) (h2 : Val tb σ H z) (q : ∀ H' q, Same H H' → nw H H' q = some (.lst (xs ++ [z])) → Q (.ref q) H') : tOp rCat ta (tLst (tCons tb tNil)) σ H Q :=
  h1 _ (h2 _ ⟨by show 1 ≤ sizeLine; decide, fun p hp => ⟨a, p, xs, [z], rfl, rfl, same_upd hp _ _ ha, upd_same, (by show xs.length + 1 ≤ sizeLine; exact lineN hl), fun r hr => q _ r (same_new (same_upd hp) ((same_upd hp).free hr)) (nw_some.mpr ⟨(same_upd hp).free hr, upd_same⟩)⟩⟩)
end
section
variable {P : Program} {w : World} {K : PySem.W.Frag} {mg : Str → Option Value} {base : Heap}
def firstSp (K : PySem.W.Frag) : Sp := sp1 fun a H Q E => ∃ x c, a = .ref x ∧ CellAt K H x c ∧ ∀ H' p, Same H H' → nw H H' p = some (.lst ((vL (Xb15.initialValue c.kind)).map V.int)) → Q (.ref p) H'
theorem sc_first_state : FnScope ["cell"] ["cell"] (defScope s_first_state) := ⟨rfl, rfl, rfl, by decide +kernel, rfl, by decide +kernel, by decide +kernel⟩
theorem ok_first_state (T : Tx K w mg) : Df P w K mg base CX0 1 "first_state" ["cell"] (firstSp K) := by
  obtain ⟨fd, F⟩ := T.d_first_state
  refine ⟨fd, T.g_first_state, F.kp, (F.bindsN (ps := ["cell"]) fun _ _ _ _ _ _ us hl => match us, hl with | [_], _ => rfl), F.ok sc_first_state sp1_len (fun cdv A outer s H vs Q E hr h => ⟨_, PSs.nox ((pss_one (ps_ret (pe_ifExp (pt_cmpR op_eq (pe_fld (pv 0) rfl) pe_str (nomark _)) (pe_lst (pa_cons (pe_fld (pv 0) rfl) (pa_cons (pe_fld (pv 0) rfl) pa_nil))) (pe_lst pa_nil))))), ?_⟩)⟩
  obtain ⟨_, rfl, x, c, rfl, ⟨dx, hx⟩, h⟩ := h
  refine st_retH ?_
  have ht := ans_of (val_eq (T.v_Cell_kind (σ := [some (.ref x)]) (ta := tVar 0) (val_var rfl) hx) (val_c (v := .str "range")) rfl)
  by_cases hr : ∃ a b, c.kind = .range a b
  · obtain ⟨a, b, hr⟩ := hr
    refine ans_is ht (b' := true) (by rw [hr]; exact decide_eq_true rfl) _ ?_
    rw [if_pos rfl]
    refine lst2 (T.v_Cell_low (val_var rfl) hx) (T.v_Cell_high (val_var rfl) hx) fun p hp => h _ p (same_upd hp) (nw_some.mpr ⟨hp, ?_⟩)
    rw [upd_same, hr]
    rfl
  · refine ans_is ht (b' := false) (by cases hk : c.kind <;> first | decide +kernel | exact (hr ⟨_, _, hk⟩).elim) _ ?_
    rw [if_neg (by decide)]
    refine lst0 fun p hp => h _ p (same_upd hp) (nw_some.mpr ⟨hp, ?_⟩)
    rw [upd_same]
    cases hk : c.kind <;> first | rfl | exact (hr ⟨_, _, hk⟩).elim
def narrSp (K : PySem.W.Frag) : Sp := sp3 fun a b c H Q E => ∃ x y lo hi s, a = .ref s ∧ b = .int lo ∧ c = .int hi ∧ H s = some (.lst ((vL (.range x y)).map V.int)) ∧ (match Xb15.narrowValue (.range x y) lo hi with
    | none => Q .non H
    | some v => ∀ H' p, Same H H' → nw H H' p = some (.lst ((vL v).map V.int)) → Q (.ref p) H')
theorem sc_narrowed : FnScope ["state", "low", "high", "begin", "end"] ["state", "low", "high"] (defScope s_narrowed) := ⟨rfl, rfl, rfl, by decide +kernel, rfl, by decide +kernel, by decide +kernel⟩
theorem ok_narrowed (T : Tx K w mg) : Df P w K mg base CX0 1 "narrowed" ["state", "low", "high"] (narrSp K) := by
  obtain ⟨fd, F⟩ := T.d_narrowed
  refine ⟨fd, T.g_narrowed, F.kp, (F.bindsN (ps := ["state", "low", "high"]) fun _ _ _ _ _ _ us hl => match us, hl with | [_, _, _], _ => rfl), F.ok sc_narrowed sp3_len (fun cdv A outer s H vs Q E hr h => ⟨_, PSs.nox ((pss_cons (ps_par (i := 3) (j := 4) rfl sc_narrowed.nd rfl rfl (by decide) rfl rfl (pa_cons (pe_callB (call_max2 rfl) (by rfl) T.f_max (by decide +kernel) (pa_cons (pe_ix ix_list (pv 0) pe_int (fun _ _ => rfl)) (pa_cons (pv 1) pa_nil))) (pa_cons (pe_callB (call_min2 rfl) (by rfl) T.f_min (by decide +kernel) (pa_cons (pe_ix ix_list (pv 0) pe_int (fun _ _ => rfl)) (pa_cons (pv 2) pa_nil))) pa_nil)) rfl)
    (pss_one (ps_ret (pe_ifExp (pt_cmpR op_le (pv 3) (pv 4) (nomark _)) (pe_lst (pa_cons (pv 3) (pa_cons (pv 4) pa_nil))) pe_non))))), ?_⟩)⟩
  obtain ⟨_, _, _, rfl, x, y, lo, hi, s', rfl, rfl, rfl, hs, h⟩ := h
  have e0 : Val (tOp (rIxL K) (tVar 0) (tC (.int 0))) [some (.ref s'), some (.int lo), some (.int hi), none, none] H (.int x) := val_ixL (val_var rfl) val_c (SqL.of hs) (atI_nat (j := 0) rfl)
  have e1 : Val (tOp (rIxL K) (tVar 0) (tC (.int 1))) [some (.ref s'), some (.int lo), some (.int hi), none, none] H (.int y) := val_ixL (val_var rfl) val_c (SqL.of hs) (atI_nat (j := 1) rfl)
  refine st_par (val_max2 e0 (val_var rfl)) (val_min2 e1 (val_var rfl)) ?_
  dsimp only
  refine st_retH ?_
  unfold Xb15.narrowValue at h
  dsimp only at h
  by_cases hb : max x lo ≤ min y hi
  · rw [if_pos hb] at h
    refine ans_is (ans_of (val_le (val_var rfl) (val_var rfl))) (b' := true) (decide_eq_true hb) _ ?_
    rw [if_pos rfl]
    refine lst2 (val_var rfl) (val_var rfl) fun p hp => h _ p (same_upd hp) (nw_some.mpr ⟨hp, ?_⟩)
    rw [upd_same]
    rfl
  · rw [if_neg hb] at h
    refine ans_is (ans_of (val_le (val_var rfl) (val_var rfl))) (b' := false) (decide_eq_false hb) _ ?_
    rw [if_neg (by decide)]
    exact val_c _ h
/-- what a wait asks of a value -/
def reach (wd : String) (v : Xb15.Val) (f s : Int) : Bool := if wd = "atleast" then (match v with
    | .num y => decide (f ≤ y)
    | _ => false) else if wd = "atmost" then (match v with
    | .num y => decide (y ≤ f)
    | _ => false) else if wd = "has" then (match v with
    | .set l => l.contains f
    | _ => false) else if wd = "size" then (match v with
    | .set l => decide (f ≤ (l.length : Int))
    | _ => false) else if wd = "within" then (match v with
    | .range a b => decide (f ≤ a) && decide (b ≤ s)
    | _ => false) else (match v with
    | .num _ => true
    | _ => false)
def single (v : Xb15.Val) : Prop := v = .empty ∨ ∃ z, v = .num z
def ReachOk (wd : String) (v : Xb15.Val) : Prop := ((wd = "atleast" ∨ wd = "atmost" ∨ wd = "known") ∧ single v) ∨ ((wd = "has" ∨ wd = "size") ∧ ∃ l, v = .set l) ∨ (wd = "within" ∧ ∃ a b, v = .range a b)
def reachSp (K : PySem.W.Frag) : Sp := sp4 fun a b c d H Q E => ∃ wd v f s x, a = .str (Str.ofString wd) ∧ b = .ref x ∧ c = .int f ∧ d = .int s ∧ H x = some (.lst ((vL v).map V.int)) ∧ ReachOk wd v ∧ ∀ H', Same H H' → Q (.bl (reach wd v f s)) H'
theorem sc_is_reached : FnScope ["way", "state", "first", "second"] ["way", "state", "first", "second"] (defScope s_is_reached) := ⟨rfl, rfl, rfl, by decide +kernel, rfl, by decide +kernel, by decide +kernel⟩
theorem ok_is_reached (T : Tx K w mg) : Df P w K mg base CX0 1 "is_reached" ["way", "state", "first", "second"] (reachSp K) := by
  obtain ⟨fd, F⟩ := T.d_is_reached
  refine ⟨fd, T.g_is_reached, F.kp, (F.bindsN (ps := ["way", "state", "first", "second"]) fun _ _ _ _ _ _ us hl => match us, hl with | [_, _, _, _], _ => rfl), F.ok sc_is_reached sp4_len (fun cdv A outer s H vs Q E hr h => ⟨_, PSs.nox ((pss_cons (ps_if (pt_cmpR op_eq (pv 0) pe_str (nomark _))
      (pss_one (ps_ret (pe_and (pe_cmpR (op_neD (by exact hr.units)) (pv 1) (pe_lst pa_nil) (nomark _)) (pe_one (pe_cmpR op_ge (pe_ix ix_list (pv 1) pe_int (fun _ _ => rfl)) (pv 2) (nomark _))))))
      pss_nil)
    (pss_cons (ps_if (pt_cmpR op_eq (pv 0) pe_str (nomark _))
      (pss_one (ps_ret (pe_and (pe_cmpR (op_neD (by exact hr.units)) (pv 1) (pe_lst pa_nil) (nomark _)) (pe_one (pe_cmpR op_le (pe_ix ix_list (pv 1) pe_int (fun _ _ => rfl)) (pv 2) (nomark _))))))
      pss_nil)
    (pss_cons (ps_if (pt_cmpR op_eq (pv 0) pe_str (nomark _))
      (pss_one (ps_ret (pe_cmpR op_in_seq (pv 2) (pv 1) (by rfl))))
      pss_nil)
    (pss_cons (ps_if (pt_cmpR op_eq (pv 0) pe_str (nomark _))
      (pss_one (ps_ret (pe_cmpR op_ge (pe_callB call_len (by rfl) T.f_len (by decide +kernel) (pa_cons (pv 1) pa_nil)) (pv 2) (nomark _))))
      pss_nil)
    (pss_cons (ps_if (pt_cmpR op_eq (pv 0) pe_str (nomark _))
      (pss_one (ps_ret (pe_and (pe_cmpR op_le (pv 2) (pe_ix ix_list (pv 1) pe_int (fun _ _ => rfl)) (nomark _)) (pe_one (pe_cmpR op_le (pe_ix ix_list (pv 1) pe_int (fun _ _ => rfl)) (pv 3) (nomark _))))))
      pss_nil)
    (pss_one (ps_ret (pe_cmpR (op_neD (by exact hr.units)) (pv 1) (pe_lst pa_nil) (nomark _)))))))))), ?_⟩)⟩
  obtain ⟨_, _, _, _, rfl, wd, v, f, s', x, rfl, rfl, rfl, rfl, hx, hok, h⟩ := h
  have hne : ∀ {σ : L2.St} {Q' : VK}, σ[1]? = some (some (.ref x)) → (∀ H', Same H H' → Q' (.bl (!((vL v).map V.int).isEmpty)) H') → tOp (rNeD K) (tVar 1) (tLst tNil) σ H Q' := fun hs q => ne_nilH (val_var hs) (SqL.of hx) (fun _ _ => dp_ints' _) q
  rcases hok with ⟨hw, hv⟩ | ⟨hw, l, rfl⟩ | ⟨rfl, a, b, rfl⟩
  · rcases hw with rfl | rfl | rfl
    · refine st_if (b := true) (ans_is (ans_of (val_eq (val_var rfl) val_c rfl)) (by decide +kernel)) (fun _ => ?_) (fun e => by cases e)
      rcases hv with rfl | ⟨z, rfl⟩
      · exact st_retH (andH (hne rfl fun H' e' => ⟨_, rfl, h H' e'⟩))
      · refine st_retH (andH (hne rfl fun H' e' => ⟨_, rfl, ?_⟩))
        exact val_ge (val_ixL (val_var rfl) val_c (SqL.of (e' _ _ hx)) (atI_nat (j := 0) rfl)) (val_var rfl) _ (h H' e')
    · refine st_if (b := false) (ans_is (ans_of (val_eq (val_var rfl) val_c rfl)) (by decide +kernel)) (fun e => by cases e) (fun _ => st_next ?_)
      dsimp only
      refine st_if (b := true) (ans_is (ans_of (val_eq (val_var rfl) val_c rfl)) (by decide +kernel)) (fun _ => ?_) (fun e => by cases e)
      rcases hv with rfl | ⟨z, rfl⟩
      · exact st_retH (andH (hne rfl fun H' e' => ⟨_, rfl, h H' e'⟩))
      · refine st_retH (andH (hne rfl fun H' e' => ⟨_, rfl, ?_⟩))
        exact val_le (val_ixL (val_var rfl) val_c (SqL.of (e' _ _ hx)) (atI_nat (j := 0) rfl)) (val_var rfl) _ (h H' e')
    · refine st_if (b := false) (ans_is (ans_of (val_eq (val_var rfl) val_c rfl)) (by decide +kernel)) (fun e => by cases e) (fun _ => st_next ?_)
      dsimp only
      refine st_if (b := false) (ans_is (ans_of (val_eq (val_var rfl) val_c rfl)) (by decide +kernel)) (fun e => by cases e) (fun _ => st_next ?_)
      dsimp only
      refine st_if (b := false) (ans_is (ans_of (val_eq (val_var rfl) val_c rfl)) (by decide +kernel)) (fun e => by cases e) (fun _ => st_next ?_)
      dsimp only
      refine st_if (b := false) (ans_is (ans_of (val_eq (val_var rfl) val_c rfl)) (by decide +kernel)) (fun e => by cases e) (fun _ => st_next ?_)
      dsimp only
      refine st_if (b := false) (ans_is (ans_of (val_eq (val_var rfl) val_c rfl)) (by decide +kernel)) (fun e => by cases e) (fun _ => st_next ?_)
      dsimp only
      rcases hv with rfl | ⟨z, rfl⟩
      · exact st_retH (hne rfl fun H' e' => h H' e')
      · exact st_retH (hne rfl fun H' e' => h H' e')
  · have hin : inV (.int f) (l.map V.int) = l.contains f := by
      unfold inV
      rw [List.any_map, List.contains_eq_any_beq]
      congr 1
      funext z
      show (z == f) = (f == z)
      exact BEq.comm
    rcases hw with rfl | rfl
    · refine st_if (b := false) (ans_is (ans_of (val_eq (val_var rfl) val_c rfl)) (by decide +kernel)) (fun e => by cases e) (fun _ => st_next ?_)
      dsimp only
      refine st_if (b := false) (ans_is (ans_of (val_eq (val_var rfl) val_c rfl)) (by decide +kernel)) (fun e => by cases e) (fun _ => st_next ?_)
      dsimp only
      refine st_if (b := true) (ans_is (ans_of (val_eq (val_var rfl) val_c rfl)) (by decide +kernel)) (fun _ => ?_) (fun e => by cases e)
      refine st_ret (val_is (val_inL (val_var rfl) (val_var rfl) (SqL.of hx) rfl ?_) (congrArg V.bl hin)) (h H (Same.refl H))
      show (l.map V.int).all flatV = true
      rw [List.all_map]
      exact List.all_eq_true.mpr fun _ _ => rfl
    · refine st_if (b := false) (ans_is (ans_of (val_eq (val_var rfl) val_c rfl)) (by decide +kernel)) (fun e => by cases e) (fun _ => st_next ?_)
      dsimp only
      refine st_if (b := false) (ans_is (ans_of (val_eq (val_var rfl) val_c rfl)) (by decide +kernel)) (fun e => by cases e) (fun _ => st_next ?_)
      dsimp only
      refine st_if (b := false) (ans_is (ans_of (val_eq (val_var rfl) val_c rfl)) (by decide +kernel)) (fun e => by cases e) (fun _ => st_next ?_)
      dsimp only
      refine st_if (b := true) (ans_is (ans_of (val_eq (val_var rfl) val_c rfl)) (by decide +kernel)) (fun _ => ?_) (fun e => by cases e)
      exact st_ret (val_ge (val_lenM (val_var rfl) (SqL.of hx)) (val_var rfl)) (h H (Same.refl H))
  · refine st_if (b := false) (ans_is (ans_of (val_eq (val_var rfl) val_c rfl)) (by decide +kernel)) (fun e => by cases e) (fun _ => st_next ?_)
    dsimp only
    refine st_if (b := false) (ans_is (ans_of (val_eq (val_var rfl) val_c rfl)) (by decide +kernel)) (fun e => by cases e) (fun _ => st_next ?_)
    dsimp only
    refine st_if (b := false) (ans_is (ans_of (val_eq (val_var rfl) val_c rfl)) (by decide +kernel)) (fun e => by cases e) (fun _ => st_next ?_)
    dsimp only
    refine st_if (b := false) (ans_is (ans_of (val_eq (val_var rfl) val_c rfl)) (by decide +kernel)) (fun e => by cases e) (fun _ => st_next ?_)
    dsimp only
    refine st_if (b := true) (ans_is (ans_of (val_eq (val_var rfl) val_c rfl)) (by decide +kernel)) (fun _ => ?_) (fun e => by cases e)
    exact st_ret (val_andV (val_le (val_var rfl) (val_ixL (val_var rfl) val_c (SqL.of hx) (atI_nat (j := 0) rfl))) fun _ => val_le (val_ixL (val_var rfl) val_c (SqL.of hx) (atI_nat (j := 1) rfl)) (val_var rfl)) (h H (Same.refl H))
theorem ifH {σ : L2.St} {H : Hp} {te ta tb : TE} {Q : VK} (h : te σ H fun x H1 => ∃ k, x = V.bl k ∧ if k = true then ta σ H1 Q else tb σ H1 Q) : tIf (tTest te) ta tb σ H Q := h
theorem ifOrH {σ : L2.St} {H : Hp} {te ta tb : TE} {u : TT} {Q : VK} (h : te σ H fun x H1 => ∃ k, x = V.bl k ∧ if k = true then ta σ H1 Q else u σ H1 fun b H2 => if b = true then ta σ H2 Q else tb σ H2 Q) : tIf (tOr (tTest te) u) ta tb σ H Q := h
theorem shape_cases {kd : Xb15.Kind} {v : Xb15.Val} (h : ShapeOk kd v) : (∃ a b x y, kd = .range a b ∧ v = .range x y) ∨ (kd = .set ∧ ∃ l, v = .set l ∧ l.Pairwise (· < ·) ∧ ∀ z ∈ l, 0 ≤ z ∧ z ≤ 63) ∨ (single v ∧ kindS kd ≠ Str.ofString "range" ∧ kindS kd ≠ Str.ofString "set") := by
  cases kd with
  | range a b => cases v <;> first | exact .inl ⟨_, _, _, _, rfl, rfl⟩ | exact h.elim
  | set => cases v <;> first | exact .inr (.inl ⟨rfl, _, rfl, h.1, h.2⟩) | exact h.elim
  | max => cases v <;> first | exact .inr (.inr ⟨.inl rfl, by decide +kernel, by decide +kernel⟩) | exact .inr (.inr ⟨.inr ⟨_, rfl⟩, by decide +kernel, by decide +kernel⟩) | exact h.elim
  | min => cases v <;> first | exact .inr (.inr ⟨.inl rfl, by decide +kernel, by decide +kernel⟩) | exact .inr (.inr ⟨.inr ⟨_, rfl⟩, by decide +kernel, by decide +kernel⟩) | exact h.elim
  | one => cases v <;> first | exact .inr (.inr ⟨.inl rfl, by decide +kernel, by decide +kernel⟩) | exact .inr (.inr ⟨.inr ⟨_, rfl⟩, by decide +kernel, by decide +kernel⟩) | exact h.elim
  | flag => cases v <;> first | exact .inr (.inr ⟨.inl rfl, by decide +kernel, by decide +kernel⟩) | exact .inr (.inr ⟨.inr ⟨_, rfl⟩, by decide +kernel, by decide +kernel⟩) | exact h.elim
/-- [z, ..] + ys -/
theorem catL {σ : L2.St} {H : Hp} {ta tb : TE} {Q : VK} {b : Addr} {z : V} {ys : List V} (h1 : Val ta σ H z) (h2 : ∀ H', Same H H' → Val tb σ H' (.ref b)) (hb : H b = some (.lst ys)) (hl : ys.length ≤ 100000) (q : ∀ H' q, Same H H' → nw H H' q = some (.lst (z :: ys)) → Q (.ref q) H') : tOp rCat (tLst (tCons ta tNil)) tb σ H Q :=
  h1 _ ⟨by show 1 ≤ sizeLine; decide, fun p hp => h2 _ (same_upd hp) _ ⟨p, b, [z], ys, rfl, rfl, upd_same, same_upd hp _ _ hb, by show 1 + ys.length ≤ sizeLine; rw [Nat.add_comm]; exact lineN hl, fun r hr => q _ r (same_new (same_upd hp) ((same_upd hp).free hr)) (nw_some.mpr ⟨(same_upd hp).free hr, upd_same⟩)⟩⟩
theorem catL2 {σ : L2.St} {H : Hp} {ta tc tb : TE} {Q : VK} {b : Addr} {y z : V} {ys : List V} (h1 : Val ta σ H y) (h3 : Val tc σ H z) (h2 : ∀ H', Same H H' → Val tb σ H' (.ref b)) (hb : H b = some (.lst ys)) (hl : ys.length ≤ 90000) (q : ∀ H' q, Same H H' → nw H H' q = some (.lst (y :: z :: ys)) → Q (.ref q) H') : tOp rCat (tLst (tCons ta (tCons tc tNil))) tb σ H Q :=
  h1 _ (h3 _ ⟨by show 2 ≤ sizeLine; decide, fun p hp => h2 _ (same_upd hp) _ ⟨p, b, [y, z], ys, rfl, rfl, upd_same, same_upd hp _ _ hb, by show 2 + ys.length ≤ sizeLine; exact lineL (by omega), fun r hr => q _ r (same_new (same_upd hp) ((same_upd hp).free hr)) (nw_some.mpr ⟨(same_upd hp).free hr, upd_same⟩)⟩⟩)
def toldSp (K : PySem.W.Frag) : Sp := sp2 fun a b H Q E => ∃ kd v x, a = .str (kindS kd) ∧ b = .ref x ∧ H x = some (.lst ((vL v).map V.int)) ∧ ShapeOk kd v ∧ ∀ H' p, Same H H' → nw H H' p = some (.lst ((Xb15.valueFields v).map V.int)) → Q (.ref p) H'
theorem sc_told_state : FnScope ["kind", "state"] ["kind", "state"] (defScope s_told_state) := ⟨rfl, rfl, rfl, by decide +kernel, rfl, by decide +kernel, by decide +kernel⟩
theorem ok_told_state (T : Tx K w mg) : Df P w K mg base CX0 1 "told_state" ["kind", "state"] (toldSp K) := by
  obtain ⟨fd, F⟩ := T.d_told_state
  refine ⟨fd, T.g_told_state, F.kp, (F.bindsN (ps := ["kind", "state"]) fun _ _ _ _ _ _ us hl => match us, hl with | [_, _], _ => rfl), F.ok sc_told_state sp2_len (fun cdv A outer s H vs Q E hr h => ⟨_, PSs.nox ((pss_cons (ps_if (pt_cmpR op_eq (pv 0) pe_str (nomark _))
      (pss_one (ps_ret (pe_op op_cat (pe_lst (pa_cons pe_int pa_nil)) (pv 1))))
      pss_nil)
    (pss_cons (ps_if (pt_cmpR op_eq (pv 0) pe_str (nomark _))
      (pss_one (ps_ret (pe_op op_cat (pe_lst (pa_cons pe_int (pa_cons (pe_callB call_len (by rfl) T.f_len (by decide +kernel) (pa_cons (pv 1) pa_nil)) pa_nil))) (pv 1))))
      pss_nil)
    (pss_one (ps_ret (pe_ifExp (pt_cmpR (op_neD (by exact hr.units)) (pv 1) (pe_lst pa_nil) (nomark _)) (pe_op op_cat (pe_lst (pa_cons pe_int pa_nil)) (pv 1)) (pe_lst (pa_cons pe_int pa_nil)))))))), ?_⟩)⟩
  obtain ⟨_, _, rfl, kd, v, x, rfl, rfl, hx, hok, h⟩ := h
  rcases shape_cases hok with ⟨a, b, c, d, rfl, rfl⟩ | ⟨rfl, l, rfl, hp, hr⟩ | ⟨hs, n1, n2⟩
  · refine st_if (b := true) (ans_is (ans_of (val_eq (val_var rfl) val_c rfl)) (decide_eq_true rfl)) (fun _ => ?_) (fun e => by cases e)
    exact st_retH (catL val_c (fun _ _ => val_var rfl) hx (by simp [vL]) fun H' q e1 e2 => h H' q e1 e2)
  · refine st_if (b := false) (ans_is (ans_of (val_eq (val_var rfl) val_c rfl)) (by decide +kernel)) (fun e => by cases e) (fun _ => st_next ?_)
    dsimp only
    refine st_if (b := true) (ans_is (ans_of (val_eq (val_var rfl) val_c rfl)) (by decide +kernel)) (fun _ => ?_) (fun e => by cases e)
    have hl := set_len hp hr
    exact st_retH (catL2 val_c (val_lenM (f := V.int) (l := l) (val_var rfl) (SqL.of hx)) (fun _ _ => val_var rfl) hx (by simp [vL]; omega) fun H' q e1 e2 => h H' q e1 e2)
  · refine st_if (b := false) (ans_is (ans_of (val_eq (val_var rfl) val_c rfl)) (decide_eq_false fun e => n1 (V.str.inj e))) (fun e => by cases e) (fun _ => st_next ?_)
    dsimp only
    refine st_if (b := false) (ans_is (ans_of (val_eq (val_var rfl) val_c rfl)) (decide_eq_false fun e => n2 (V.str.inj e))) (fun e => by cases e) (fun _ => st_next ?_)
    dsimp only
    refine st_retH (ifH (ne_nilH (val_var rfl) (SqL.of hx) (fun _ _ => dp_ints' _) fun H1 s1 => ⟨_, rfl, ?_⟩))
    rcases hs with rfl | ⟨z, rfl⟩
    · exact lst1 val_c fun p hp => h _ p (same_new s1 (s1.free hp)) (nw_new s1 hp)
    · exact catL val_c (fun _ _ => val_var rfl) (s1 _ _ hx) (by simp [vL]) fun H' q e1 e2 => h H' q (s1.trans e1) (nw_old s1 _ _ e2)
theorem insert_spec : ∀ {l : List Int} {z : Int}, l.Pairwise (· < ·) → (z ∈ l → Xb15.insertSorted z l = l) ∧ (z ∉ l → (Xb15.insertSorted z l).Perm (l ++ [z]) ∧ (Xb15.insertSorted z l).Pairwise (· < ·))
  | [], z, _ => ⟨fun h => by simp at h, fun _ => ⟨List.Perm.refl _, by simp [Xb15.insertSorted]⟩⟩
  | y :: l, z, h => by
    rw [List.pairwise_cons] at h
    obtain ⟨i1, i2⟩ := insert_spec (z := z) h.2
    unfold Xb15.insertSorted
    refine ⟨fun hm => ?_, fun hm => ?_⟩
    · rcases List.mem_cons.mp hm with e | hm'
      · subst e
        rw [if_neg (by omega), if_pos rfl]
      · have := h.1 z hm'
        rw [if_neg (by omega), if_neg (by omega), i1 hm']
    · simp only [List.mem_cons, not_or] at hm
      obtain ⟨j1, j2⟩ := i2 hm.2
      by_cases hz : z < y
      · rw [if_pos hz]
        refine ⟨?_, ?_⟩
        · have := List.perm_append_comm (l₁ := [z]) (l₂ := y :: l)
          exact this
        · rw [List.pairwise_cons, List.pairwise_cons]
          exact ⟨fun a ha => by
            rcases List.mem_cons.mp ha with rfl | ha
            · exact hz
            · have := h.1 a ha; omega, h⟩
      · rw [if_neg hz, if_neg hm.1]
        refine ⟨j1.cons y, ?_⟩
        rw [List.pairwise_cons]
        refine ⟨fun a ha => ?_, j2⟩
        have := j1.mem_iff.mp ha
        rcases List.mem_append.mp this with ha | ha
        · exact h.1 a ha
        · simp at ha
          omega
theorem sorted_is {l ns : List Int} {z : Int} (h : l.Pairwise (· < ·)) (hz : z ∉ l) (hp : ns.Perm (l ++ [z])) (hs : ns.Pairwise (· ≤ ·)) : ns = Xb15.insertSorted z l := by
  obtain ⟨j1, j2⟩ := (insert_spec h).2 hz
  have : ns.Perm (Xb15.insertSorted z l) := hp.trans j1.symm
  exact this.eq_of_pairwise (fun a b _ _ h1 h2 => by omega) hs (j2.imp fun h => by omega)
def withSp (K : PySem.W.Frag) : Sp := sp3 fun a b c H Q E => ∃ kd v z x, a = .str (kindS kd) ∧ b = .ref x ∧ c = .int z ∧ H x = some (.lst ((vL v).map V.int)) ∧ ShapeOk kd v ∧ Xb15.isRange kd = false ∧ (match Xb15.joinValue kd v z with
    | none => ∀ H', Same H H' → Q .non H'
    | some v' => ∀ H' p, Same H H' → nw H H' p = some (.lst ((vL v').map V.int)) → Q (.ref p) H')
theorem sc_state_with : FnScope ["kind", "state", "number"] ["kind", "state", "number"] (defScope s_state_with) := ⟨rfl, rfl, rfl, by decide +kernel, rfl, by decide +kernel, by decide +kernel⟩
theorem ok_state_with (T : Tx K w mg) : Df P w K mg base CX0 1 "state_with" ["kind", "state", "number"] (withSp K) := by
  obtain ⟨fd, F⟩ := T.d_state_with
  refine ⟨fd, T.g_state_with, F.kp, (F.bindsN (ps := ["kind", "state", "number"]) fun _ _ _ _ _ _ us hl => match us, hl with | [_, _, _], _ => rfl), F.ok sc_state_with sp3_len (fun cdv A outer s H vs Q E hr h => ⟨_, PSs.nox ((pss_cons (ps_if (pt_cmpR op_eq (pv 0) pe_str (nomark _))
      (pss_one (ps_ret (pe_lst (pa_cons (pe_callB (cr_max rfl) (by rfl) T.f_max (by decide +kernel) (pa_cons (pe_op op_cat (pv 1) (pe_lst (pa_cons (pv 2) pa_nil))) pa_nil)) pa_nil))))
      pss_nil)
    (pss_cons (ps_if (pt_cmpR op_eq (pv 0) pe_str (nomark _))
      (pss_one (ps_ret (pe_lst (pa_cons (pe_callB (cr_min rfl) (by rfl) T.f_min (by decide +kernel) (pa_cons (pe_op op_cat (pv 1) (pe_lst (pa_cons (pv 2) pa_nil))) pa_nil)) pa_nil))))
      pss_nil)
    (pss_cons (ps_if (PW.pt (pw_and (pt_cmpR op_eq (pv 0) pe_str (nomark _)) (pw_and1 (pt_not (pt_chain op_le op_le pe_int (pv 2) (pe_gi T.c_MOST_IN_SET))))))
      (pss_one (ps_ret pe_non))
      pss_nil)
    (pss_cons (ps_if (pt_cmpR op_eq (pv 0) pe_str (nomark _))
      (pss_one (ps_ret (pe_ifExp (pt_cmpR op_in_seq (pv 2) (pv 1) (by rfl)) (pe_callTy call_list_of (by rfl) T.f_list (by decide +kernel) (pa_cons (pv 1) pa_nil)) (pe_callB cr_sortedI (by rfl) T.f_sorted (by decide +kernel) (pa_cons (pe_op op_cat (pv 1) (pe_lst (pa_cons (pv 2) pa_nil))) pa_nil)))))
      pss_nil)
    (pss_cons (ps_if (pt_cmpR op_eq (pv 0) pe_str (nomark _))
      (pss_one (ps_ret (pe_ifExp (pt_cmpR op_ne (pv 2) pe_int (nomark _)) (pe_lst (pa_cons pe_int pa_nil)) (pe_callTy call_list_of (by rfl) T.f_list (by decide +kernel) (pa_cons (pv 1) pa_nil)))))
      pss_nil)
    (pss_one (ps_ret (pe_ifExp (PW.pt (pw_or (pt_cmpR (op_eqD (by exact hr.units)) (pv 1) (pe_lst pa_nil) (nomark _)) (pw_or1 (pt_cmpR op_eq (pe_ix ix_list (pv 1) pe_int (fun _ _ => rfl)) (pv 2) (nomark _))))) (pe_lst (pa_cons (pv 2) pa_nil)) pe_non))))))))), ?_⟩)⟩
  obtain ⟨_, _, _, rfl, kd, v, z, x, rfl, rfl, rfl, hx, hok, hnr, h⟩ := h
  have hl := vL_len hok
  have hnil : ∀ {σ : L2.St} {Q' : VK}, σ[1]? = some (some (.ref x)) → (∀ H', Same H H' → Q' (.bl ((vL v).map V.int).isEmpty) H') → tOp (rEqD K) (tVar 1) (tLst tNil) σ H Q' := fun hs q => eq_nilH (val_var hs) (SqL.of hx) (fun _ _ => dp_ints' _) q
  cases kd with
  | range a b => cases hnr
  | max =>
    refine st_if (b := true) (ans_is (ans_of (val_eq (val_var rfl) val_c rfl)) (by decide +kernel)) (fun _ => ?_) (fun e => by cases e)
    refine st_retH (lst1H (catH (val_var rfl) hx (by rw [List.length_map]; omega) (val_var rfl) fun H1 q e1 e2 => ?_))
    have hq := (nw_some.mp e2).2
    cases v with
    | empty =>
      refine ⟨q, [z], rfl, SqL.of hq, by simp, fun m hm hmx p hp => ?_⟩
      have : m = z := by simpa using hm
      subst this
      exact h _ p (same_new e1 (e1.free hp)) (nw_new e1 hp)
    | num y =>
      refine ⟨q, [y, z], rfl, SqL.of hq, by simp, fun m hm hmx p hp => ?_⟩
      have hm : m = y ∨ m = z := by simpa using hm
      have m1 := hmx y (by simp)
      have m2 := hmx z (by simp)
      have : m = max y z := by
        rcases hm with rfl | rfl <;> omega
      subst this
      exact h _ p (same_new e1 (e1.free hp)) (nw_new e1 hp)
    | set l => exact hok.elim
    | range a b => exact hok.elim
  | min =>
    refine st_if (b := false) (ans_is (ans_of (val_eq (val_var rfl) val_c rfl)) (by decide +kernel)) (fun e => by cases e) (fun _ => st_next ?_)
    dsimp only
    refine st_if (b := true) (ans_is (ans_of (val_eq (val_var rfl) val_c rfl)) (by decide +kernel)) (fun _ => ?_) (fun e => by cases e)
    refine st_retH (lst1H (catH (val_var rfl) hx (by rw [List.length_map]; omega) (val_var rfl) fun H1 q e1 e2 => ?_))
    have hq := (nw_some.mp e2).2
    cases v with
    | empty =>
      refine ⟨q, [z], rfl, SqL.of hq, by simp, fun m hm hmx p hp => ?_⟩
      have : m = z := by simpa using hm
      subst this
      exact h _ p (same_new e1 (e1.free hp)) (nw_new e1 hp)
    | num y =>
      refine ⟨q, [y, z], rfl, SqL.of hq, by simp, fun m hm hmx p hp => ?_⟩
      have hm : m = y ∨ m = z := by simpa using hm
      have m1 := hmx y (by simp)
      have m2 := hmx z (by simp)
      have : m = min y z := by
        rcases hm with rfl | rfl <;> omega
      subst this
      exact h _ p (same_new e1 (e1.free hp)) (nw_new e1 hp)
    | set l => exact hok.elim
    | range a b => exact hok.elim
  | set =>
    cases v with
    | set l =>
      refine st_if (b := false) (ans_is (ans_of (val_eq (val_var rfl) val_c rfl)) (by decide +kernel)) (fun e => by cases e) (fun _ => st_next ?_)
      dsimp only
      refine st_if (b := false) (ans_is (ans_of (val_eq (val_var rfl) val_c rfl)) (by decide +kernel)) (fun e => by cases e) (fun _ => st_next ?_)
      dsimp only
      by_cases hz : 0 ≤ z ∧ z ≤ 63
      · refine st_if (b := false) (L2.ans_and (ans_is (ans_of (val_eq (val_var rfl) val_c rfl)) (b' := true) (by decide +kernel)) (ans_is (ans_not (ans_of (val_chain_le val_c (val_var rfl) val_c))) (by simp; omega))) (fun e => by cases e) (fun _ => st_next ?_)
        dsimp only
        have hj : Xb15.joinValue .set (.set l) z = some (.set (Xb15.insertSorted z l)) := by
          unfold Xb15.joinValue
          exact if_pos hz
        rw [hj] at h
        dsimp only at h
        refine st_if (b := true) (ans_is (ans_of (val_eq (val_var rfl) val_c rfl)) (by decide +kernel)) (fun _ => ?_) (fun e => by cases e)
        have hflat : (l.map V.int).all flatV = true := by
          rw [List.all_map]
          exact List.all_eq_true.mpr fun _ _ => rfl
        have hin : inV (.int z) (l.map V.int) = decide (z ∈ l) := by
          unfold inV
          rw [List.any_map, Bool.eq_iff_iff, List.any_eq_true, decide_eq_true_eq]
          refine ⟨fun ⟨y, hy, e⟩ => ?_, fun hy => ⟨z, hy, ?_⟩⟩
          · have : y = z := by simpa [eqV] using e
            exact this ▸ hy
          · simp [eqV]
        refine st_retH ?_
        by_cases hm : z ∈ l
        · refine ans_is (ans_of (val_inL (val_var rfl) (val_var rfl) (SqL.of hx) rfl hflat)) (b' := true) (by rw [show (vL (.set l)) = l from rfl, hin]; exact decide_eq_true hm) _ ?_
          rw [if_pos rfl]
          refine ⟨_, rfl, x, _, rfl, .inl (SqL.of hx), fun p hp => h _ p (same_upd hp) (nw_some.mpr ⟨hp, ?_⟩)⟩
          rw [upd_same, (insert_spec hok.1).1 hm]
        · refine ans_is (ans_of (val_inL (val_var rfl) (val_var rfl) (SqL.of hx) rfl hflat)) (b' := false) (by rw [show (vL (.set l)) = l from rfl, hin]; exact decide_eq_false hm) _ ?_
          rw [if_neg (by decide)]
          refine catH (val_var rfl) hx (by rw [List.length_map]; omega) (val_var rfl) fun H1 q e1 e2 => ?_
          have hq := (nw_some.mp e2).2
          refine ⟨q, l ++ [z], rfl, SqL.of (by rw [hq]; simp [vL]), fun ns p hp hs hfr => ?_⟩
          rw [sorted_is hok.1 hm hp hs]
          exact h _ p (same_new e1 (e1.free hfr)) (nw_new e1 hfr)
      · refine st_if (b := true) (L2.ans_and (ans_is (ans_of (val_eq (val_var rfl) val_c rfl)) (b' := true) (by decide +kernel)) (ans_is (ans_not (ans_of (val_chain_le val_c (val_var rfl) val_c))) (by rw [Bool.not_eq_true', Bool.and_eq_false_iff]; simp; omega))) (fun _ => ?_) (fun e => by cases e)
        have hj : Xb15.joinValue .set (.set l) z = none := by
          unfold Xb15.joinValue
          exact if_neg hz
        rw [hj] at h
        exact st_ret val_c (h H (Same.refl H))
    | empty => exact hok.elim
    | num y => exact hok.elim
    | range a b => exact hok.elim
  | flag =>
    refine st_if (b := false) (ans_is (ans_of (val_eq (val_var rfl) val_c rfl)) (by decide +kernel)) (fun e => by cases e) (fun _ => st_next ?_)
    dsimp only
    refine st_if (b := false) (ans_is (ans_of (val_eq (val_var rfl) val_c rfl)) (by decide +kernel)) (fun e => by cases e) (fun _ => st_next ?_)
    dsimp only
    refine st_if (b := false) (L2.ans_and0 (ans_is (ans_of (val_eq (val_var rfl) val_c rfl)) (by decide +kernel))) (fun e => by cases e) (fun _ => st_next ?_)
    dsimp only
    refine st_if (b := false) (ans_is (ans_of (val_eq (val_var rfl) val_c rfl)) (by decide +kernel)) (fun e => by cases e) (fun _ => st_next ?_)
    dsimp only
    refine st_if (b := true) (ans_is (ans_of (val_eq (val_var rfl) val_c rfl)) (by decide +kernel)) (fun _ => ?_) (fun e => by cases e)
    refine st_retH ?_
    have hj : Xb15.joinValue .flag v z = if z = 0 then some v else some (.num 1) := by cases v <;> rfl
    rw [hj] at h
    by_cases hz : z = 0
    · rw [if_pos hz] at h
      refine ans_is (ans_of (val_ne (val_var rfl) val_c rfl)) (b' := false) (by simp [hz]) _ ?_
      rw [if_neg (by decide)]
      exact ⟨_, rfl, x, _, rfl, .inl (SqL.of hx), fun p hp => h _ p (same_upd hp) (nw_some.mpr ⟨hp, upd_same⟩)⟩
    · rw [if_neg hz] at h
      refine ans_is (ans_of (val_ne (val_var rfl) val_c rfl)) (b' := true) (by simp [hz]) _ ?_
      rw [if_pos rfl]
      exact lst1 val_c fun p hp => h _ p (same_upd hp) (nw_some.mpr ⟨hp, upd_same⟩)
  | one =>
    refine st_if (b := false) (ans_is (ans_of (val_eq (val_var rfl) val_c rfl)) (by decide +kernel)) (fun e => by cases e) (fun _ => st_next ?_)
    dsimp only
    refine st_if (b := false) (ans_is (ans_of (val_eq (val_var rfl) val_c rfl)) (by decide +kernel)) (fun e => by cases e) (fun _ => st_next ?_)
    dsimp only
    refine st_if (b := false) (L2.ans_and0 (ans_is (ans_of (val_eq (val_var rfl) val_c rfl)) (by decide +kernel))) (fun e => by cases e) (fun _ => st_next ?_)
    dsimp only
    refine st_if (b := false) (ans_is (ans_of (val_eq (val_var rfl) val_c rfl)) (by decide +kernel)) (fun e => by cases e) (fun _ => st_next ?_)
    dsimp only
    refine st_if (b := false) (ans_is (ans_of (val_eq (val_var rfl) val_c rfl)) (by decide +kernel)) (fun e => by cases e) (fun _ => st_next ?_)
    dsimp only
    refine st_retH ?_
    cases v with
    | empty =>
      exact ifOrH (hnil rfl fun H1 s1 => ⟨_, rfl, lst1 (val_var rfl) fun p hp => h _ p (same_new s1 (s1.free hp)) (nw_new s1 hp)⟩)
    | num y =>
      refine ifOrH (hnil rfl fun H1 s1 => ⟨_, rfl, ?_⟩)
      rw [if_neg (show ¬ (((vL (.num y)).map V.int).isEmpty = true) from Bool.false_ne_true)]
      have e0 : Ans (tTest (tOp rEq (tOp (rIxL K) (tVar 1) (tC (.int 0))) (tVar 2))) [some (.str (kindS .one)), some (.ref x), some (.int z)] H1 (decide (V.int y = V.int z)) := ans_of (val_eq (val_ixL (val_var rfl) val_c (SqL.of (s1 _ _ hx)) (atI_nat (j := 0) rfl)) (val_var rfl) rfl)
      refine e0 _ ?_
      by_cases hyz : y = z
      · subst hyz
        have hj : Xb15.joinValue .one (.num y) y = some (.num y) := if_pos rfl
        rw [hj] at h
        rw [if_pos (decide_eq_true rfl)]
        exact lst1 (val_var rfl) fun p hp => h _ p (same_new s1 (s1.free hp)) (nw_new s1 hp)
      · have hj : Xb15.joinValue .one (.num y) z = none := if_neg hyz
        rw [hj] at h
        rw [if_neg (by simp [hyz])]
        exact val_c _ (h H1 s1)
    | set l => exact hok.elim
    | range a b => exact hok.elim
end
end GW
/-! How a run lies in the heap -/
namespace GW
open PySem PySem.Spec PyProof.Rows L2
open Gc (vL ShapeOk RInv ProgOk)
open Xb15 (State TaskInstance)
structure ILay where
  o : Addr
  dx : Addr
  am : Addr
  ro : Addr
def ILay.three (i : ILay) : List Addr := [i.o, i.am, i.ro]
structure RLay where
  r : Addr
  dxr : Addr
  pa : Addr
  sa : Addr
  ia : Addr
  ss : List Addr
  is : List ILay
  /-- what is being built besides -/
  ex : List Addr := []
def RLay.B (L : RLay) : List Addr := [L.r, L.sa, L.ia] ++ L.is.flatMap ILay.three
def RLay.M (L : RLay) : List Addr := L.B ++ L.ex
/-- how many variables a task has -/
def nv (p : Xb15.Program) (t : Nat) : Nat := match p.tasks[t]? with
  | some u => u.vars.length
  | none => 0
def InstAt (K : PySem.W.Frag) (H : Hp) (p : Xb15.Program) (i : ILay) (ti : TaskInstance) : Prop := atInstance K H i.o i.dx (iv ti.task) (iv ti.pc) (.ref i.am) (.ref i.ro) ∧ H i.am = some (.lst ((ti.vars.take (nv p ti.task)).map V.int)) ∧ H i.ro = some (.lst (ti.loops.reverse.map iv))
structure RunAt (K : PySem.W.Frag) (H : Hp) (L : RLay) (p : Xb15.Program) (s : State) : Prop where
  nd : L.B.Nodup
  exd : ∀ a ∈ L.ex, a ∉ L.B ∧ ∃ o, H a = some o
  rn : atRun K H L.r L.dxr (.ref L.pa) (.ref L.sa) (.ref L.ia) (.bl s.failed)
  pr : ProgAt K (wo H L.M) L.pa p
  sl : H L.sa = some (.lst (L.ss.map V.ref))
  st : All2 (fun a v => wo H L.M a = some (.lst ((vL v).map V.int))) L.ss s.cells
  il : H L.ia = some (.lst (L.is.map fun i => V.ref i.o))
  inst : All2 (InstAt K H p) L.is s.insts
/-- a run went on: all else is as it was -/
structure Kept (H : Hp) (L : RLay) (H' : Hp) (L' : RLay) : Prop where
  r : L'.r = L.r
  ex : L'.ex = L.ex
  sm : Same (wo H L.M) (wo H' L'.M)
  old : ∀ a ∈ L.ex, H' a = H a
  more : ∃ m, L'.is = L.is ++ m
section
variable {K : PySem.W.Frag} {H H' H'' : Hp} {L L' L'' : RLay} {p : Xb15.Program} {s : State}
theorem Kept.trans (k : Kept H L H' L') (k' : Kept H' L' H'' L'') : Kept H L H'' L'' := ⟨k'.r.trans k.r, k'.ex.trans k.ex, k.sm.trans k'.sm, fun a h => (k'.old a (by rw [k.ex]; exact h)).trans (k.old a h), by
  obtain ⟨m, e⟩ := k.more
  obtain ⟨m', e'⟩ := k'.more
  exact ⟨m ++ m', by rw [e', e, List.append_assoc]⟩⟩
theorem Kept.at_ (k : Kept H L H' L') {j : Nat} {i : ILay} (h : L.is[j]? = some i) : L'.is[j]? = some i := by
  obtain ⟨m, e⟩ := k.more
  rw [e, List.getElem?_append_left (List.getElem?_eq_some_iff.mp h).1]
  exact h
theorem RLay.inM {a : Addr} (h : a ∈ L.B) : a ∈ L.M := List.mem_append_left _ h
theorem InstAt.mono {i : ILay} {ti : TaskInstance} (h : InstAt K H p i ti) (e : ∀ b ∈ i.three, ∀ o, H b = some o → H' b = some o) : InstAt K H' p i ti := ⟨e _ (by simp [ILay.three]) _ h.1, e _ (by simp [ILay.three]) _ h.2.1, e _ (by simp [ILay.three]) _ h.2.2⟩
theorem RLay.inI {i : ILay} (hi : i ∈ L.is) {b : Addr} (hb : b ∈ i.three) : b ∈ L.B := List.mem_append_right _ (List.mem_flatMap.mpr ⟨i, hi, hb⟩)
theorem RunAt.there (R : RunAt K H L p s) {a : Addr} (h : a ∈ L.M) : ∃ o, H a = some o := by
  rcases List.mem_append.mp h with h | h
  · rcases List.mem_append.mp h with h | h
    · simp only [List.mem_cons, List.not_mem_nil, or_false] at h
      rcases h with rfl | rfl | rfl
      · exact ⟨_, R.rn⟩
      · exact ⟨_, R.sl⟩
      · exact ⟨_, R.il⟩
    · obtain ⟨i, hi, hb⟩ := List.mem_flatMap.mp h
      obtain ⟨k, hk⟩ := List.mem_iff_getElem?.mp hi
      obtain ⟨ti, _, h1, h2, h3⟩ := R.inst.get' hk
      simp only [ILay.three, List.mem_cons, List.not_mem_nil, or_false] at hb
      rcases hb with rfl | rfl | rfl
      · exact ⟨_, h1⟩
      · exact ⟨_, h2⟩
      · exact ⟨_, h3⟩
  · exact (R.exd a h).2
theorem RunAt.fresh (R : RunAt K H L p s) {a : Addr} (h : H a = none) : a ∉ L.M := fun z => by
  obtain ⟨o, ho⟩ := R.there z
  rw [h] at ho
  cases ho
theorem RunAt.notB (R : RunAt K H L p s) {a b : Addr} (h : a ∈ L.ex) (hb : b ∈ L.B) : a ≠ b := fun e => (R.exd a h).1 (by rw [e]; exact hb)
theorem RunAt.mono (R : RunAt K H L p s) (e : Same H H') : RunAt K H' L p s := by
  have w : Same (wo H L.M) (wo H' L.M) := wo_more e
  refine ⟨R.nd, fun a h => ⟨(R.exd a h).1, ?_⟩, e _ _ R.rn, R.pr.mono w, e _ _ R.sl, R.st.mono fun _ _ _ z => w _ _ z, e _ _ R.il, R.inst.mono fun _ _ _ z => z.mono fun b _ o => e b o⟩
  obtain ⟨o, ho⟩ := (R.exd a h).2
  exact ⟨o, e _ _ ho⟩
theorem RunAt.same (R : RunAt K H L p s) (e : Same H H') : Kept H L H' L := ⟨rfl, rfl, wo_more e, fun a h => by
  obtain ⟨o, ho⟩ := (R.exd a h).2
  rw [ho, e _ _ ho], [], by simp⟩
theorem RunAt.refl (R : RunAt K H L p s) : Kept H L H L := R.same (Same.refl H)
/-- the addresses of two instances differ -/
theorem RunAt.apart (R : RunAt K H L p s) {j k : Nat} {a b : ILay} (hj : L.is[j]? = some a) (hk : L.is[k]? = some b) (hjk : j ≠ k) {x y : Addr} (hx : x ∈ a.three) (hy : y ∈ b.three) : x ≠ y := by
  have nd := R.nd
  unfold RLay.B at nd
  rw [List.nodup_append] at nd
  have nd2 := nd.2.1
  unfold List.Nodup at nd2
  rw [List.pairwise_flatMap] at nd2
  have pw := List.pairwise_iff_getElem.mp nd2.2
  obtain ⟨h1, h2⟩ := List.getElem?_eq_some_iff.mp hj
  obtain ⟨h3, h4⟩ := List.getElem?_eq_some_iff.mp hk
  rcases Nat.lt_or_gt_of_ne hjk with z | z
  · exact pw j k h1 h3 z x (by rw [h2]; exact hx) y (by rw [h4]; exact hy)
  · exact Ne.symm (pw k j h3 h1 z y (by rw [h4]; exact hy) x (by rw [h2]; exact hx))
theorem RunAt.head (R : RunAt K H L p s) {a : ILay} (ha : a ∈ L.is) {x y : Addr} (hx : x ∈ a.three) (hy : y ∈ [L.r, L.sa, L.ia]) : x ≠ y := by
  have nd := R.nd
  unfold RLay.B at nd
  rw [List.nodup_append] at nd
  exact fun e => nd.2.2 y hy x (List.mem_flatMap.mpr ⟨a, ha, hx⟩) e.symm
theorem RunAt.in3 (R : RunAt K H L p s) {a : ILay} (ha : a ∈ L.is) : a.o ≠ a.am ∧ a.o ≠ a.ro ∧ a.am ≠ a.ro := by
  have nd := R.nd
  unfold RLay.B at nd
  rw [List.nodup_append] at nd
  have nd2 := nd.2.1
  unfold List.Nodup at nd2
  rw [List.pairwise_flatMap] at nd2
  have := nd2.1 a ha
  simp [ILay.three] at this
  exact ⟨this.1.1, this.1.2, this.2⟩
/-- one instance goes on -/
theorem RunAt.instk (R : RunAt K H L p s) {k : Nat} {i : ILay} {tj : TaskInstance} (hi : L.is[k]? = some i) (e : ∀ b, b ∉ i.three → H' b = H b) (hn : InstAt K H' p i tj) :
    RunAt K H' L p (Xb15.setInstance s k tj) ∧ Kept H L H' L := by
  have him := List.mem_of_getElem? hi
  have e' : ∀ b o, H b = some o → b ∉ i.three → H' b = some o := fun b o ho hb => by rw [e b hb]; exact ho
  have w : Same (wo H L.M) (wo H' L.M) := wo_to fun b o hb q => ⟨hb, e' b o q fun z => hb (RLay.inM (RLay.inI him z))⟩
  have hd : ∀ {b : Addr}, b ∈ [L.r, L.sa, L.ia] → b ∉ i.three := fun hb z => R.head him z hb rfl
  have hx : ∀ a ∈ L.ex, H' a = H a := fun a ha => e a fun z => R.notB ha (RLay.inI him z) rfl
  refine ⟨⟨R.nd, fun a ha => ⟨(R.exd a ha).1, ?_⟩, e' _ _ R.rn (hd (by simp)), R.pr.mono w, e' _ _ R.sl (hd (by simp)), R.st.mono fun _ _ _ z => w _ _ z, e' _ _ R.il (hd (by simp)), ?_⟩, ⟨rfl, rfl, w, hx, [], by simp⟩⟩
  · rw [hx a ha]
    exact (R.exd a ha).2
  refine ⟨by show L.is.length = (s.insts.set k tj).length; rw [List.length_set]; exact R.inst.len, fun j a b h1 h2 => ?_⟩
  by_cases hj : k = j
  · subst hj
    rw [hi] at h1
    cases h1
    have h2 : (s.insts.set k tj)[k]? = some b := h2
    rw [List.getElem?_set_self (by have := (List.getElem?_eq_some_iff.mp hi).1; have := R.inst.len; omega)] at h2
    cases h2
    exact hn
  · have h2 : (s.insts.set k tj)[j]? = some b := h2
    rw [List.getElem?_set_ne hj] at h2
    exact (R.inst.at_ j a b h1 h2).mono fun x hx o ho => e' x o ho fun z => R.apart h1 hi (Ne.symm hj) hx z rfl
/-- one of the three heads is changed -/
theorem RunAt.top (R : RunAt K H L p s) {m : Addr} {u : HO} (hm : m ∈ [L.r, L.sa, L.ia]) : wo (L2.upd H m u) L.M = wo H L.M ∧ (∀ a ∈ L.ex, L2.upd H m u a = H a) ∧ All2 (InstAt K (L2.upd H m u) p) L.is s.insts := by
  have hB : m ∈ L.B := List.mem_append_left _ hm
  refine ⟨wo_upd (RLay.inM hB), fun a ha => upd_ne (R.notB ha hB), R.inst.mono fun a b hm' z => z.mono fun x hx q hq => ?_⟩
  rw [upd_ne (R.head hm' hx hm)]
  exact hq
theorem RunAt.exd' (R : RunAt K H L p s) (e : ∀ a ∈ L.ex, H' a = H a) : ∀ a ∈ L.ex, a ∉ L.B ∧ ∃ o, H' a = some o := fun a ha => ⟨(R.exd a ha).1, by rw [e a ha]; exact (R.exd a ha).2⟩
/-- the run fails -/
theorem RunAt.fail (R : RunAt K H L p s) : RunAt K (L2.upd H L.r (.ins (He.ga K "Run") L.dxr (fRun (.ref L.pa) (.ref L.sa) (.ref L.ia) (.bl true)))) L p (Xb15.markFailed s) ∧ Kept H L (L2.upd H L.r (.ins (He.ga K "Run") L.dxr (fRun (.ref L.pa) (.ref L.sa) (.ref L.ia) (.bl true)))) L := by
  generalize hu : (HO.ins (He.ga K "Run") L.dxr (fRun (.ref L.pa) (.ref L.sa) (.ref L.ia) (.bl true))) = u
  obtain ⟨hw, hx, hI⟩ := R.top (m := L.r) (u := u) (by simp)
  have nd := R.nd
  have o : ∀ {b : Addr} {q : HO} (j : Nat), L.B[j]? = some b → j ≠ 0 → H b = some q → L2.upd H L.r u b = some q := fun j hj hne hq => by
    rw [upd_ne (ndne nd j 0 hj rfl hne)]; exact hq
  exact ⟨⟨nd, R.exd' hx, by show L2.upd H L.r u L.r = _; rw [L2.upd_same, ← hu]; rfl, hw.symm ▸ R.pr, o 1 rfl (by decide) R.sl, hw.symm ▸ R.st, o 2 rfl (by decide) R.il, hI⟩, ⟨rfl, rfl, hw.symm ▸ Same.refl _, hx, [], by simp⟩⟩
/-- a cell has another state -/
theorem RunAt.cell (R : RunAt K H L p s) {c : Nat} {a : Addr} {v : Xb15.Val} (ha : wo H L.M a = some (.lst ((vL v).map V.int))) :
    RunAt K (L2.upd H L.sa (.lst ((L.ss.map V.ref).set c (.ref a)))) { L with ss := L.ss.set c a } p { s with cells := s.cells.set c v } ∧ Kept H L (L2.upd H L.sa (.lst ((L.ss.map V.ref).set c (.ref a)))) { L with ss := L.ss.set c a } := by
  generalize hu : (HO.lst ((L.ss.map V.ref).set c (.ref a))) = u
  obtain ⟨hw, hx, hI⟩ := R.top (m := L.sa) (u := u) (by simp)
  have nd := R.nd
  have o : ∀ {b : Addr} {q : HO} (j : Nat), L.B[j]? = some b → j ≠ 1 → H b = some q → L2.upd H L.sa u b = some q := fun j hj hne hq => by
    rw [upd_ne (ndne nd j 1 hj rfl hne)]; exact hq
  refine ⟨⟨nd, R.exd' hx, o 0 rfl (by decide) R.rn, hw.symm ▸ R.pr, by show L2.upd H L.sa u L.sa = _; rw [L2.upd_same, ← hu, List.map_set], ?_, o 2 rfl (by decide) R.il, hI⟩, ⟨rfl, rfl, ?_, hx, [], by simp⟩⟩
  · show All2 (fun a v => wo (L2.upd H L.sa u) L.M a = _) _ _
    rw [hw]
    exact R.st.set ha
  · show Same _ (wo (L2.upd H L.sa u) L.M)
    rw [hw]
    exact Same.refl _
/-- a new instance -/
theorem RunAt.more (R : RunAt K H L p s) {i : ILay} {ti : TaskInstance} (e : Same H H') (hf : ∀ b ∈ i.three, H b = none) (hn : i.three.Nodup) (hi : InstAt K H' p i ti) :
    RunAt K (L2.upd H' L.ia (.lst ((L.is.map fun i => V.ref i.o) ++ [.ref i.o]))) { L with is := L.is ++ [i] } p { s with insts := s.insts ++ [ti] } ∧ Kept H L (L2.upd H' L.ia (.lst ((L.is.map fun i => V.ref i.o) ++ [.ref i.o]))) { L with is := L.is ++ [i] } := by
  generalize hu : (HO.lst ((L.is.map fun i => V.ref i.o) ++ [.ref i.o])) = u
  have hB : ({ L with is := L.is ++ [i] } : RLay).B = L.B ++ i.three := by
    show [L.r, L.sa, L.ia] ++ (L.is ++ [i]).flatMap ILay.three = ([L.r, L.sa, L.ia] ++ L.is.flatMap ILay.three) ++ i.three
    rw [List.flatMap_append, List.append_assoc]
    simp
  have hfr : ∀ b ∈ i.three, b ∉ L.M := fun b hb => R.fresh (hf b hb)
  have hiaB : L.ia ∈ L.B := by simp [RLay.B]
  have nd := R.nd
  have w : Same (wo H L.M) (wo (L2.upd H' L.ia u) ({ L with is := L.is ++ [i] } : RLay).M) := wo_to fun b o hb q => by
    refine ⟨fun z => ?_, ?_⟩
    · have z : b ∈ ({ L with is := L.is ++ [i] } : RLay).B ++ L.ex := z
      rw [hB] at z
      rcases List.mem_append.mp z with z | z
      · rcases List.mem_append.mp z with z | z
        · exact hb (RLay.inM z)
        · rw [hf b z] at q; cases q
      · exact hb (List.mem_append_right _ z)
    · rw [upd_ne (fun z => hb (by rw [z]; exact RLay.inM hiaB))]
      exact e _ _ q
  have o : ∀ {b : Addr} {q : HO} (j : Nat), L.B[j]? = some b → j ≠ 2 → H b = some q → L2.upd H' L.ia u b = some q := fun j hj hne hq => by
    rw [upd_ne (ndne nd j 2 hj rfl hne)]; exact e _ _ hq
  have hx : ∀ a ∈ L.ex, L2.upd H' L.ia u a = H a := fun a ha => by
    obtain ⟨q, hq⟩ := (R.exd a ha).2
    rw [upd_ne (R.notB ha hiaB), hq, e _ _ hq]
  refine ⟨⟨?_, fun a ha => ⟨fun z => ?_, ?_⟩, o 0 rfl (by decide) R.rn, R.pr.mono w, o 1 rfl (by decide) R.sl, R.st.mono fun _ _ _ z => w _ _ z, ?_, ?_⟩, ⟨rfl, rfl, w, hx, [i], rfl⟩⟩
  · rw [hB, List.nodup_append]
    exact ⟨nd, hn, fun a ha b hb z => hfr b hb (RLay.inM (by rw [← z]; exact ha))⟩
  · rw [hB] at z
    rcases List.mem_append.mp z with z | z
    · exact (R.exd a ha).1 z
    · exact hfr a z (List.mem_append_right _ ha)
  · rw [hx a ha]
    exact (R.exd a ha).2
  · show L2.upd H' L.ia u L.ia = _
    rw [L2.upd_same, ← hu, List.map_append]
    rfl
  · refine All2.snoc (R.inst.mono fun a b hm z => z.mono fun x hx q hq => ?_) (hi.mono fun x hx q hq => ?_)
    · rw [upd_ne (R.head hm hx (by simp))]
      exact e _ _ hq
    · rw [upd_ne (fun z => hfr x hx (by rw [z]; exact RLay.inM hiaB))]
      exact hq
/-- a list is being built besides -/
theorem RunAt.build (R : RunAt K H L p s) (e : Same H H') {x : Addr} (h0 : H x = none) (h1 : ∃ o, H' x = some o) (hex : L.ex = []) : RunAt K H' { L with ex := [x] } p s ∧ Same (wo H L.M) (wo H' ({ L with ex := [x] } : RLay).M) := by
  have hx := R.fresh h0
  have hM : L.M = L.B := by unfold RLay.M; rw [hex, List.append_nil]
  have w : Same (wo H L.M) (wo H' ({ L with ex := [x] } : RLay).M) := wo_to fun b o h q => by
    refine ⟨fun z => ?_, e b o q⟩
    have z : b ∈ L.B ++ [x] := z
    rcases List.mem_append.mp z with z | z
    · exact h (RLay.inM z)
    · rw [List.mem_singleton.mp z, h0] at q
      cases q
  refine ⟨⟨R.nd, fun a ha => ?_, e _ _ R.rn, R.pr.mono w, e _ _ R.sl, R.st.mono fun _ _ _ z => w _ _ z, e _ _ R.il, R.inst.mono fun _ _ _ z => z.mono fun b _ o => e b o⟩, w⟩
  have ha : a ∈ [x] := ha
  rw [List.mem_singleton.mp ha]
  exact ⟨fun z => hx (RLay.inM z), h1⟩
theorem RunAt.put (R : RunAt K H L p s) {x : Addr} {o : HO} (h : x ∈ L.ex) : RunAt K (upd H x o) L p s := by
  have ne : ∀ {b : Addr}, b ∈ L.B → b ≠ x := fun hb z => R.notB h hb z.symm
  have hw : wo (L2.upd H x o) L.M = wo H L.M := wo_upd (List.mem_append_right _ h)
  refine ⟨R.nd, fun a ha => ⟨(R.exd a ha).1, ?_⟩, ?_, hw.symm ▸ R.pr, ?_, hw.symm ▸ R.st, ?_, R.inst.mono fun a b hm z => z.mono fun y hy q hq => ?_⟩
  · by_cases e : a = x
    · rw [e]; exact ⟨_, upd_same⟩
    · rw [upd_ne e]; exact (R.exd a ha).2
  · show upd H x o L.r = _
    rw [upd_ne (ne (by simp [RLay.B]))]; exact R.rn
  · rw [upd_ne (ne (by simp [RLay.B]))]; exact R.sl
  · rw [upd_ne (ne (by simp [RLay.B]))]; exact R.il
  · rw [upd_ne (ne (RLay.inI hm hy))]; exact hq
theorem RunAt.built {x : Addr} (R : RunAt K H L p s) : RunAt K H { L with ex := [] } p s ∧ Same (wo H L.M) (wo H ({ L with ex := [] } : RLay).M) := by
  have w : Same (wo H L.M) (wo H ({ L with ex := [] } : RLay).M) := wo_to fun b o h q => ⟨fun z => h (by
    have z : b ∈ L.B ++ [] := z
    rw [List.append_nil] at z
    exact RLay.inM z), q⟩
  exact ⟨⟨R.nd, (fun a ha => by cases ha), R.rn, R.pr.mono w, R.sl, R.st.mono fun _ _ _ z => w _ _ z, R.il, R.inst⟩, w⟩
end
end GW
/-! The walk 12: instances, runs begin, cells grow -/
namespace GW
open PySem PySem.Spec PyProof.Rows L2
open Gc (vL ShapeOk RInv ProgOk big In)
open Xb15 (State TaskInstance)
section
variable {K : PySem.W.Frag} {H H' : Hp} {L : RLay} {p : Xb15.Program} {s : State} {k : Nat} {i : ILay} {ti : TaskInstance}
/-- an instance has another place, other variables, other loops -/
theorem RunAt.moved {H2 : Hp} (R : RunAt K H L p s) (hi : L.is[k]? = some i) {t : Nat} {vars : List Int} {loops : List Nat} {z : Nat} (e : ∀ b, b ∉ i.three → H2 b = H b) (h2 : H2 i.am = some (.lst ((vars.take (nv p t)).map V.int))) (h3 : H2 i.ro = some (.lst (loops.reverse.map iv))) :
    RunAt K (upd H2 i.o (.ins (He.ga K "Instance") i.dx (fInstance (iv t) (iv z) (.ref i.am) (.ref i.ro)))) L p (Xb15.setInstance s k ⟨t, z, vars, loops⟩) ∧ Kept H L (upd H2 i.o (.ins (He.ga K "Instance") i.dx (fInstance (iv t) (iv z) (.ref i.am) (.ref i.ro)))) L := by
  obtain ⟨n1, n2, n3⟩ := R.in3 (List.mem_of_getElem? hi)
  refine R.instk hi (fun b hb => ?_) ⟨upd_same, ?_, ?_⟩
  · rw [upd_ne (fun z => hb (by rw [z]; simp [ILay.three]))]
    exact e b hb
  · rw [upd_ne (Ne.symm n1)]; exact h2
  · rw [upd_ne (Ne.symm n2)]; exact h3
theorem RunAt.at_ (R : RunAt K H L p s) (hi : L.is[k]? = some i) (ht : s.insts[k]? = some ti) : InstAt K H p i ti := R.inst.at_ k i ti hi ht
end
/-- a step's end -/
def StepOut (K : PySem.W.Frag) (H : Hp) (L : RLay) (p : Xb15.Program) (r : Option State) (Q : VK) : Prop := match r with
  | none => ∀ H', Same H H' → Q (.bl false) H'
  | some s' => ∀ H' L', Kept H L H' L' → RunAt K H' L' p s' → Q (.bl (!s'.failed)) H'
section
variable {σ : L2.St} {H : Hp} {ta tb : TE} {x y : V} {Q : VK} {E : XK} {C : Addr} {sp : Sp}
theorem make0 (q : ∀ o dx, H o = none → H dx = none → dx ≠ o → sp [.ref o] (upd (upd H dx (.own o)) o (.ins C dx [])) (fun v H2 => v = .non ∧ Q (.ref o) H2) E) : tMake C sp [] E tNil σ H Q := q
theorem make1 (h1 : Val ta σ H x) (q : ∀ o dx, H o = none → H dx = none → dx ≠ o → sp [.ref o, x] (upd (upd H dx (.own o)) o (.ins C dx [])) (fun v H2 => v = .non ∧ Q (.ref o) H2) E) : tMake C sp [] E (tCons ta tNil) σ H Q := h1 _ q
theorem make2 (h1 : Val ta σ H x) (h2 : Val tb σ H y) (q : ∀ o dx, H o = none → H dx = none → dx ≠ o → sp [.ref o, x, y] (upd (upd H dx (.own o)) o (.ins C dx [])) (fun v H2 => v = .non ∧ Q (.ref o) H2) E) : tMake C sp [] E (tCons ta (tCons tb tNil)) σ H Q := h1 _ (h2 _ q)
end
theorem fld0R {K : PySem.W.Frag} {σ : L2.St} {H : Hp} {C x dx : Addr} {fs : List (Str × V)} {f : Str} {D : Ends} {g : V → List (Str × V)} {z : V} {n : Nat} (c : Cls K C) (na : NoAttr K C f) (hs : σ[0]? = some (some (.ref x))) (h2 : σ[2]? = some (some (iv n))) (hn : n ≤ 1000) (hx : H x = some (.ins C dx fs)) (hl : fs.length < 1000) (e : ∀ v, putF f v fs = g v)
    (q : ∀ p p2, H p = none → H p2 = none → p2 ≠ p → D.nx σ (upd (upd (upd H p (.lst [z])) p2 (.lst (List.replicate n z))) x (.ins C dx (g (.ref p2))))) : sFld K (tVar 0) (tOp rRep (tLst (tCons (tC z) tNil)) (tVar 2)) f D σ H := by
  have hf : (List.replicate n [z]).flatten = List.replicate n z := by
    clear q h2 hn
    induction n with
    | zero => rfl
    | succ n ih => rw [List.replicate_succ, List.flatten_cons, ih, List.replicate_succ]; rfl
  refine ⟨by show 1 ≤ sizeLine; decide, fun p hp => ⟨_, h2, p, (n : Int), [z], rfl, rfl, upd_same, by omega, by omega, ?_, fun p2 hp2 => ?_⟩⟩
  · show 1 * (n : Int).toNat ≤ sizeLine
    exact lineL (by omega)
  · have h21 : p2 ≠ p := fun e => by rw [e, upd_same] at hp2; cases hp2
    rw [upd_ne h21] at hp2
    have px : x ≠ p := ne_of_none hx hp
    have p2x : x ≠ p2 := ne_of_none hx hp2
    refine ⟨_, hs, x, C, dx, fs, rfl, by rw [upd_ne p2x, upd_ne px]; exact hx, c, na, hl, ?_⟩
    rw [e, Int.toNat_natCast, hf]
    exact q p p2 hp hp2 h21
section
variable {P : Program} {w : World} {K : PySem.W.Frag} {mg : Str → Option Value} {base : Heap}
def instISp (K : PySem.W.Frag) : Sp := sp3 fun a t m H Q E => ∃ x dx n, a = .ref x ∧ m = iv n ∧ n ≤ 6 ∧ H x = some (.ins (He.ga K "Instance") dx []) ∧ ∀ H' am ro, Kp H x H' → atInstance K H' x dx t (.int 0) (.ref am) (.ref ro) → nw H H' am = some (.lst ((List.replicate n (0 : Int)).map V.int)) → nw H H' ro = some (.lst []) → am ≠ ro → Q .non H'
theorem sc_Instance_init : FnScope ["self", "task", "many"] ["self", "task", "many"] (defScope s_Instance_init) := ⟨rfl, rfl, rfl, by decide +kernel, rfl, by decide +kernel, by decide +kernel⟩
theorem ok_Instance_init (T : Tx K w mg) : Dm P w K mg base CX0 1 (He.ma K (He.ga K "Instance") "__init__") ["self", "task", "many"] (instISp K) := by
  obtain ⟨fd, F⟩ := T.d_Instance_init
  refine ⟨fd, (F.bindsN (ps := ["self", "task", "many"]) fun _ _ _ _ _ _ us hl => match us, hl with | [_, _, _], _ => rfl), F.ok sc_Instance_init sp3_len (fun cdv A outer s H vs Q E hr h => ⟨_, PSs.nox ((pss_cons (ps_fld (pv 0) (pv 1) rfl)
    (pss_cons (ps_fld (pv 0) pe_int rfl)
    (pss_cons (ps_fld (pv 0) (pe_op op_rep (pe_lst (pa_cons pe_int pa_nil)) (pv 2)) rfl)
    (pss_one (ps_fld (pv 0) (pe_lst pa_nil) rfl)))))), ?_⟩)⟩
  obtain ⟨_, t, _, rfl, x, dx, n, rfl, rfl, hn, hx, h⟩ := h
  refine fld0 T.k_Instance T.n_Instance_task rfl (val_var rfl) hx (by show 0 < 1000; decide) in_Instance_0 ?_
  refine fld0 T.k_Instance T.n_Instance_place rfl val_c upd_same (by show 1 < 1000; decide) in_Instance_1 ?_
  refine fld0R T.k_Instance T.n_Instance_amounts rfl rfl (by omega) upd_same (by show 2 < 1000; decide) (fun v => in_Instance_2) fun q fa hq hfa hqf => ?_
  refine fld0L T.k_Instance T.n_Instance_rounds rfl upd_same (by show 3 < 1000; decide) (fun v => in_Instance_3) fun sa hsa => ?_
  have qx : q ≠ x := fun e => by rw [e, upd_same] at hq; cases hq
  have fx : fa ≠ x := fun e => by rw [e, upd_same] at hfa; cases hfa
  have sx : sa ≠ x := fun e => by rw [e, upd_same] at hsa; cases hsa
  have sf : sa ≠ fa := fun e => by rw [e, upd_ne fx, upd_same] at hsa; cases hsa
  have sq : sa ≠ q := fun e => by rw [e, upd_ne qx, upd_ne (Ne.symm hqf), upd_same] at hsa; cases hsa
  have hq' := hq
  have hfa' := hfa
  have hsa' := hsa
  simp only [upd_ne fx] at hfa
  simp only [upd_ne sx, upd_ne sf, upd_ne sq] at hsa
  dsimp only
  refine h _ fa sa (((((Kp.refl H x).upd.upd.new hq' ⟨_, upd_same⟩).new (by rw [upd_ne hqf]; exact hfa') ⟨_, by rw [upd_ne (Ne.symm qx)]; exact upd_same⟩).upd.new hsa' ⟨_, upd_same⟩).upd) upd_same (nw_some.mpr ⟨hfa, ?_⟩) (nw_some.mpr ⟨hsa, ?_⟩) (Ne.symm sf)
  · simp only [upd_ne fx, upd_ne (Ne.symm sf), upd_same, List.map_replicate]
  · simp only [upd_ne sx, upd_same]
def instNSp (K : PySem.W.Frag) : Sp := sp2 fun a b H Q E => ∃ pa p t u, a = .ref pa ∧ b = iv t ∧ ProgAt K H pa p ∧ p.tasks[t]? = some u ∧ u.vars.length ≤ 6 ∧ ∀ H' i, Same H H' → (∀ b ∈ i.three, H b = none) → i.three.Nodup → InstAt K H' p i (Xb15.newInstance t) → Q (.ref i.o) H'
theorem sc_new_instance : FnScope ["program", "task"] ["program", "task"] (defScope s_new_instance) := ⟨rfl, rfl, rfl, by decide +kernel, rfl, by decide +kernel, by decide +kernel⟩
theorem ok_new_instance (T : Tx K w mg) : Df P w K mg base CX0 3 "new_instance" ["program", "task"] (instNSp K) := by
  obtain ⟨fd, F⟩ := T.d_new_instance
  refine ⟨fd, T.g_new_instance, F.kp, (F.bindsN (ps := ["program", "task"]) fun _ _ _ _ _ _ us hl => match us, hl with | [_, _], _ => rfl), F.ok sc_new_instance sp2_len (fun cdv A outer s H vs Q E hr h => ⟨_, PSs.nox ((pss_one (ps_ret (pe_cl T.m_Instance (ok_Instance_init T) (hr.mono (by decide)) T.g_Instance pass0 (pa_cons (pv 1) (pa_cons (pe_callB call_len (by rfl) T.f_len (by decide +kernel) (pa_cons (pe_fld (pe_ix ix_list (pe_fld (pv 0) rfl) (pv 1) (fun _ _ => rfl)) rfl) pa_nil)) pa_nil)))))), ?_⟩)⟩
  obtain ⟨_, _, rfl, pa, p, t, u, rfl, rfl, ⟨dxp, ca, ta, ga, cs, ts, hp, hca, hcs, hta, hts, hga⟩, hu, hl, h⟩ := h
  obtain ⟨a, ha, dxt, sa, ia, is, h1, h2, h3, h4⟩ := hts.get hu
  refine st_retH ?_
  have hlen := val_lenM (K := K) (f := wv) (l := u.vars) (T.v_Task_slots (val_ixL (K := K) (T.v_Program_tasks (val_var (σ := [some (.ref pa), some (iv t)]) (i := 0) rfl) hp) (val_var (i := 1) rfl) (SqL.of hta) (atI_nat (by rw [List.getElem?_map, ha]; rfl))) h1) (SqL.of h2)
  refine make2 (val_var rfl) hlen (fun x dx hx hdx hne => ⟨_, _, _, rfl, x, dx, u.vars.length, rfl, rfl, hl, upd_same, fun H' am ro k hin ham hro hne2 => ⟨rfl, ?_⟩⟩)
  obtain ⟨a1, a2, a3⟩ := fresh2 (nw_some.mp ham).1
  obtain ⟨r1, r2, r3⟩ := fresh2 (nw_some.mp hro).1
  have hnv : nv p t = u.vars.length := by unfold nv; rw [hu]
  refine h H' ⟨x, dx, am, ro⟩ (k.same hx hdx) (fun b hb => ?_) ?_ ⟨hin, ?_, (nw_some.mp hro).2⟩
  · simp only [ILay.three, List.mem_cons, List.not_mem_nil, or_false] at hb
    rcases hb with rfl | rfl | rfl
    · exact hx
    · exact a1
    · exact r1
  · simp only [ILay.three, List.nodup_cons, List.mem_cons, List.not_mem_nil, or_false, not_or]
    exact ⟨⟨Ne.symm a2, Ne.symm r2⟩, hne2, not_false, List.nodup_nil⟩
  · rw [(nw_some.mp ham).2]
    show _ = some (HO.lst (((List.replicate 6 (0 : Int)).take (nv p t)).map V.int))
    rw [hnv, List.take_replicate, Nat.min_eq_left hl]
def failSp (K : PySem.W.Frag) : Sp := sp1 fun a H Q E => ∃ L p s, a = .ref L.r ∧ RunAt K H L p s ∧ ∀ H', Kept H L H' L → RunAt K H' L p (Xb15.markFailed s) → Q (.bl false) H'
theorem sc_fail : FnScope ["run"] ["run"] (defScope s_fail) := ⟨rfl, rfl, rfl, by decide +kernel, rfl, by decide +kernel, by decide +kernel⟩
theorem ok_fail (T : Tx K w mg) : Df P w K mg base CX0 1 "fail" ["run"] (failSp K) := by
  obtain ⟨fd, F⟩ := T.d_fail
  refine ⟨fd, T.g_fail, F.kp, (F.bindsN (ps := ["run"]) fun _ _ _ _ _ _ us hl => match us, hl with | [_], _ => rfl), F.ok sc_fail sp1_len (fun cdv A outer s H vs Q E hr h => ⟨_, PSs.nox ((pss_cons (ps_fld (pv 0) pe_bl rfl)
    (pss_one (ps_ret pe_bl)))), ?_⟩)⟩
  obtain ⟨_, rfl, L, p, s', rfl, R, h⟩ := h
  obtain ⟨f1, f2⟩ := R.fail
  refine T.w_Run_has_failed val_c (val_var rfl) R.rn ?_
  dsimp only
  exact st_ret val_c (h _ f2 f1)
def growSp (K : PySem.W.Frag) : Sp := sp3 fun a b d H Q E => ∃ L p s c, a = .ref L.r ∧ b = iv c ∧ RunAt K H L p s ∧ c < s.cells.length ∧ ((d = .non ∧ ∀ H', Kept H L H' L → RunAt K H' L p (Xb15.markFailed s) → Q (.bl false) H') ∨
  ∃ q v, d = .ref q ∧ wo H L.M q = some (.lst ((vL v).map V.int)) ∧ ∀ H' L', Kept H L H' L' → L'.is = L.is → RunAt K H' L' p { s with cells := s.cells.set c v } → Q (.bl true) H')
theorem sc_grow : FnScope ["run", "cell", "state"] ["run", "cell", "state"] (defScope s_grow) := ⟨rfl, rfl, rfl, by decide +kernel, rfl, by decide +kernel, by decide +kernel⟩
theorem ok_grow (T : Tx K w mg) : Df P w K mg base CX0 2 "grow" ["run", "cell", "state"] (growSp K) := by
  obtain ⟨fd, F⟩ := T.d_grow
  refine ⟨fd, T.g_grow, F.kp, (F.bindsN (ps := ["run", "cell", "state"]) fun _ _ _ _ _ _ us hl => match us, hl with | [_, _, _], _ => rfl), F.ok sc_grow sp3_len (fun cdv A outer s H vs Q E hr h => ⟨_, PSs.nox ((pss_cons (ps_if (pt_cmpR op_isN (pv 2) pe_non (nomark _))
      (pss_one (ps_ret (pe_df (ok_fail T) (hr.mono (by decide)) pass0 (pa_cons (pv 0) pa_nil))))
      pss_nil)
    (pss_cons (ps_asg (pv 2) (pg_sub (pe_fld (pv 0) rfl) (pv 1) set_list))
    (pss_one (ps_ret pe_bl))))), ?_⟩)⟩
  obtain ⟨_, _, d, rfl, L, p, s', c, rfl, rfl, R, hc, h⟩ := h
  rcases h with ⟨rfl, h⟩ | ⟨q, v, rfl, hq, h⟩
  · refine st_if (b := true) (ans_is (ans_of (val_isN (val_var rfl))) rfl) (fun _ => ?_) (fun e => by cases e)
    exact st_retH (callS1 (val_var rfl) ⟨_, rfl, L, p, s', rfl, R, h⟩)
  · refine st_if (b := false) (ans_is (ans_of (val_isN (val_var rfl))) rfl) (fun e => by cases e) (fun _ => st_next ?_)
    dsimp only
    obtain ⟨f1, f2⟩ := R.cell hq (c := c)
    refine ⟨_, rfl, T.v_Run_states (val_var rfl) R.rn _ ⟨_, rfl, L.sa, _, (c : Int), c, rfl, rfl, R.sl, ?_, ?_⟩⟩
    · unfold ixN
      rw [if_pos (by omega), if_pos (by rw [List.length_map, R.st.len]; omega)]
      rfl
    · dsimp only
      exact st_ret val_c (h _ _ f2 rfl f1)
def goSp (K : PySem.W.Frag) : Sp := sp2 fun a b H Q E => ∃ o dx t pc am ro, a = .ref o ∧ atInstance K H o dx t pc am ro ∧ Q (.bl true) (upd H o (.ins (He.ga K "Instance") dx (fInstance t b am ro)))
theorem sc_go_to : FnScope ["instance", "place"] ["instance", "place"] (defScope s_go_to) := ⟨rfl, rfl, rfl, by decide +kernel, rfl, by decide +kernel, by decide +kernel⟩
theorem ok_go_to (T : Tx K w mg) : Df P w K mg base CX0 1 "go_to" ["instance", "place"] (goSp K) := by
  obtain ⟨fd, F⟩ := T.d_go_to
  refine ⟨fd, T.g_go_to, F.kp, (F.bindsN (ps := ["instance", "place"]) fun _ _ _ _ _ _ us hl => match us, hl with | [_, _], _ => rfl), F.ok sc_go_to sp2_len (fun cdv A outer s H vs Q E hr h => ⟨_, PSs.nox ((pss_cons (ps_fld (pv 0) (pv 1) rfl)
    (pss_one (ps_ret pe_bl)))), ?_⟩)⟩
  obtain ⟨_, z, rfl, o, dx, t, pc, am, ro, rfl, ho, h⟩ := h
  refine T.w_Instance_place (val_var rfl) (val_var rfl) ho ?_
  dsimp only
  exact st_ret val_c h
theorem cell_val {p : Xb15.Program} {N : Nat} {s : State} {c : Nat} (I : RInv p N s) (hc : c < p.cells.length) : s.cells[c]? = some (Xb15.cellValue s c) := by
  have hl : c < s.cells.length := by rw [I.cl]; exact hc
  unfold Xb15.cellValue
  rw [List.getD_eq_getElem?_getD, List.getElem?_eq_getElem hl]
  rfl
theorem RunAt.cellAt {H : Hp} {L : RLay} {p : Xb15.Program} {s : State} {N c : Nat} (R : RunAt K H L p s) (I : RInv p N s) (hc : c < p.cells.length) : ∃ a, L.ss[c]? = some a ∧ wo H L.M a = some (.lst ((vL (Xb15.cellValue s c)).map V.int)) := R.st.get (cell_val I hc)
theorem kind_of {p : Xb15.Program} {c : Nat} {x : Xb15.Cell} (h : p.cells[c]? = some x) : Xb15.cellKind p c = x.kind := by
  unfold Xb15.cellKind
  rw [h]
  rfl
theorem Tx.v_kind (T : Tx K w mg) {F H : Hp} {pa : Addr} {p : Xb15.Program} {c : Nat} {σ : L2.St} {tp tc : TE} (hp : ProgAt K F pa p) (e : Same F H) (hc : c < p.cells.length) (h1 : Val tp σ H (.ref pa)) (h2 : Val tc σ H (iv c)) : Val (tFld K (tOp (rIxL K) (tFld K tp "cells") tc) "kind") σ H (.str (kindS (Xb15.cellKind p c))) := by
  obtain ⟨dxp, ca, ta, ga, cs, ts, hp, hca, hcs, hta, hts, hga⟩ := hp
  have hx : p.cells[c]? = some p.cells[c] := List.getElem?_eq_getElem hc
  obtain ⟨a, ha, dx, hcell⟩ := hcs.get hx
  rw [kind_of hx]
  exact T.v_Cell_kind (val_ixL (T.v_Program_cells h1 (e _ _ hp)) h2 (SqL.of (e _ _ hca)) (atI_nat (by rw [List.getElem?_map, ha]; rfl))) (e _ _ hcell)
theorem Tx.v_state (T : Tx K w mg) {H : Hp} {L : RLay} {p : Xb15.Program} {s : State} {N c : Nat} {σ : L2.St} {tr tc : TE} (R : RunAt K H L p s) {a : Addr} (ha : L.ss[c]? = some a) (h1 : Val tr σ H (.ref L.r)) (h2 : Val tc σ H (iv c)) : Val (tOp (rIxL K) (tFld K tr "states") tc) σ H (.ref a) :=
  val_ixL (T.v_Run_states h1 R.rn) h2 (SqL.of R.sl) (atI_nat (by rw [List.getElem?_map, ha]; rfl))
theorem callS3C {sp : Sp} {E : XK} {ta tb tc : TE} {x y : V} {σ : L2.St} {H : Hp} {Q : VK} (h1 : Val ta σ H x) (h2 : Val tb σ H y) (h : tc σ H fun z H1 => sp [x, y, z] H1 Q E) : tCall sp [] E (tCons ta (tCons tb (tCons tc tNil))) σ H Q := h1 _ (h2 _ h)
/-- a cell's state becomes what it becomes -/
def CellOut (K : PySem.W.Frag) (H : Hp) (L : RLay) (p : Xb15.Program) (s : State) (c : Nat) (r : Option Xb15.Val) (Q : VK) : Prop := match r with
  | none => ∀ H', Kept H L H' L → RunAt K H' L p (Xb15.markFailed s) → Q (.bl false) H'
  | some v => ∀ H' L', Kept H L H' L' → L'.is = L.is → RunAt K H' L' p { s with cells := s.cells.set c v } → Q (.bl true) H'
def putSp (K : PySem.W.Frag) : Sp := sp3 fun a b d H Q E => ∃ L p s c z N, a = .ref L.r ∧ b = iv c ∧ d = .int z ∧ RunAt K H L p s ∧ RInv p N s ∧ c < p.cells.length ∧ Xb15.isRange (Xb15.cellKind p c) = false ∧ CellOut K H L p s c (Xb15.joinValue (Xb15.cellKind p c) (Xb15.cellValue s c) z) Q
theorem sc_put_in : FnScope ["run", "cell", "number"] ["run", "cell", "number"] (defScope s_put_in) := ⟨rfl, rfl, rfl, by decide +kernel, rfl, by decide +kernel, by decide +kernel⟩
theorem ok_put_in (T : Tx K w mg) : Df P w K mg base CX0 3 "put_in" ["run", "cell", "number"] (putSp K) := by
  obtain ⟨fd, F⟩ := T.d_put_in
  refine ⟨fd, T.g_put_in, F.kp, (F.bindsN (ps := ["run", "cell", "number"]) fun _ _ _ _ _ _ us hl => match us, hl with | [_, _, _], _ => rfl), F.ok sc_put_in sp3_len (fun cdv A outer s H vs Q E hr h => ⟨_, PSs.nox ((pss_one (ps_ret (pe_df (ok_grow T) (hr.mono (by decide)) pass0 (pa_cons (pv 0) (pa_cons (pv 1) (pa_cons (pe_df (ok_state_with T) (hr.mono (by decide)) pass0 (pa_cons (pe_fld (pe_ix ix_list (pe_fld (pe_fld (pv 0) rfl) rfl) (pv 1) (fun _ _ => rfl)) rfl) (pa_cons (pe_ix ix_list (pe_fld (pv 0) rfl) (pv 1) (fun _ _ => rfl)) (pa_cons (pv 2) pa_nil)))) pa_nil))))))), ?_⟩)⟩
  obtain ⟨_, _, _, rfl, L, p, s', c, z, N, rfl, rfl, rfl, R, I, hc, hr0, h⟩ := h
  obtain ⟨a, ha, hv⟩ := R.cellAt I hc
  have hcl : c < s'.cells.length := by rw [I.cl]; exact hc
  have hW : Same (wo H L.M) H := wo_same _ _
  have hok := (Gc.cell_get I hc).1
  refine st_retH (callS3C (val_var rfl) (val_var rfl) (callS3 (T.v_kind R.pr hW hc (T.v_Run_program (val_var rfl) R.rn) (val_var rfl)) (T.v_state (N := N) R ha (val_var rfl) (val_var rfl)) (val_var rfl) ⟨_, _, _, rfl, _, Xb15.cellValue s' c, z, a, rfl, rfl, rfl, hW _ _ hv, hok, hr0, ?_⟩))
  unfold CellOut at h
  cases hj : Xb15.joinValue (Xb15.cellKind p c) (Xb15.cellValue s' c) z with
  | none =>
    rw [hj] at h
    exact fun H1 e1 => ⟨_, _, _, rfl, L, p, s', c, rfl, rfl, R.mono e1, hcl, .inl ⟨rfl, fun H2 k2 R2 => h H2 ((R.same e1).trans k2) R2⟩⟩
  | some v =>
    rw [hj] at h
    exact fun H1 q e1 hq => ⟨_, _, _, rfl, L, p, s', c, rfl, rfl, R.mono e1, hcl, .inr ⟨q, v, rfl, wo_some.mpr ⟨R.fresh (nw_some.mp hq).1, (nw_some.mp hq).2⟩, fun H2 L2 k2 is2 R2 => h H2 L2 ((R.same e1).trans k2) is2 R2⟩⟩
def cutSp (K : PySem.W.Frag) : Sp := sp4 fun a b d e H Q E => ∃ L p s c x y N, a = .ref L.r ∧ b = iv c ∧ d = .int x ∧ e = .int y ∧ RunAt K H L p s ∧ RInv p N s ∧ c < p.cells.length ∧ Xb15.isRange (Xb15.cellKind p c) = true ∧ CellOut K H L p s c (Xb15.narrowValue (Xb15.cellValue s c) x y) Q
theorem range_val {kd : Xb15.Kind} {v : Xb15.Val} (h : ShapeOk kd v) (hr : Xb15.isRange kd = true) : ∃ a b, v = .range a b := by
  cases kd with
  | range a b => cases v with
    | range x y => exact ⟨x, y, rfl⟩
    | empty => exact h.elim
    | num z => exact h.elim
    | set l => exact h.elim
  | _ => cases hr
theorem sc_narrow : FnScope ["run", "cell", "low", "high"] ["run", "cell", "low", "high"] (defScope s_narrow) := ⟨rfl, rfl, rfl, by decide +kernel, rfl, by decide +kernel, by decide +kernel⟩
theorem ok_narrow (T : Tx K w mg) : Df P w K mg base CX0 3 "narrow" ["run", "cell", "low", "high"] (cutSp K) := by
  obtain ⟨fd, F⟩ := T.d_narrow
  refine ⟨fd, T.g_narrow, F.kp, (F.bindsN (ps := ["run", "cell", "low", "high"]) fun _ _ _ _ _ _ us hl => match us, hl with | [_, _, _, _], _ => rfl), F.ok sc_narrow sp4_len (fun cdv A outer s H vs Q E hr h => ⟨_, PSs.nox ((pss_one (ps_ret (pe_df (ok_grow T) (hr.mono (by decide)) pass0 (pa_cons (pv 0) (pa_cons (pv 1) (pa_cons (pe_df (ok_narrowed T) (hr.mono (by decide)) pass0 (pa_cons (pe_ix ix_list (pe_fld (pv 0) rfl) (pv 1) (fun _ _ => rfl)) (pa_cons (pv 2) (pa_cons (pv 3) pa_nil)))) pa_nil))))))), ?_⟩)⟩
  obtain ⟨_, _, _, _, rfl, L, p, s', c, x, y, N, rfl, rfl, rfl, rfl, R, I, hc, hr0, h⟩ := h
  obtain ⟨a, ha, hv⟩ := R.cellAt I hc
  have hcl : c < s'.cells.length := by rw [I.cl]; exact hc
  have hW : Same (wo H L.M) H := wo_same _ _
  have hok := (Gc.cell_get I hc).1
  obtain ⟨lo, hi, hval⟩ := range_val hok hr0
  have hv' : H a = some (.lst ((vL (.range lo hi)).map V.int)) := by rw [← hval]; exact hW _ _ hv
  rw [hval] at h
  refine st_retH (callS3C (val_var rfl) (val_var rfl) (callS3 (T.v_state (N := N) R ha (val_var rfl) (val_var rfl)) (val_var rfl) (val_var rfl) ⟨_, _, _, rfl, lo, hi, x, y, a, rfl, rfl, rfl, hv', ?_⟩))
  unfold CellOut at h
  cases hj : Xb15.narrowValue (.range lo hi) x y with
  | none =>
    rw [hj] at h
    exact ⟨_, _, _, rfl, L, p, s', c, rfl, rfl, R, hcl, .inl ⟨rfl, h⟩⟩
  | some v =>
    rw [hj] at h
    exact fun H1 q e1 hq => ⟨_, _, _, rfl, L, p, s', c, rfl, rfl, R.mono e1, hcl, .inr ⟨q, v, rfl, wo_some.mpr ⟨R.fresh (nw_some.mp hq).1, (nw_some.mp hq).2⟩, fun H2 L2 k2 is2 R2 => h H2 L2 ((R.same e1).trans k2) is2 R2⟩⟩
end
end GW
/-! The walk 13: deeds -/
namespace GW
open PySem PySem.Spec PyProof.Rows L2
open Gc (vL ShapeOk RInv ProgOk big In ExpOk AtomOk)
open Xb15 (State TaskInstance)
/-! ### plain: values of expressions -/
theorem atom_take {ti : TaskInstance} {n : Nat} {a : Xb15.Atom} (h : AtomOk n a) : atomV (ti.vars.take n) a = Xb15.evalAtom ti a := by
  cases a with
  | num z => rfl
  | var k =>
    have h : k < n := h
    show (ti.vars.take n).getD k 0 = ti.vars.getD k 0
    rw [List.getD_eq_getElem?_getD, List.getD_eq_getElem?_getD, List.getElem?_take_of_lt h]
theorem tstep_eq {ti : TaskInstance} {n : Nat} {r : Nat × Xb15.Atom} (h : AtomOk n r.2) (x : Int) : tstep (ti.vars.take n) x r = Gc.estep ti x r := by
  simp only [tstep, Gc.estep, atom_take h]
theorem foldl_eq {ti : TaskInstance} {n : Nat} : ∀ (l : List (Nat × Xb15.Atom)) (x : Int), (∀ r ∈ l, AtomOk n r.2) → l.foldlM (tstep (ti.vars.take n)) x = l.foldlM (Gc.estep ti) x
  | [], _, _ => rfl
  | r :: l, x, h => by
    rw [List.foldlM_cons, List.foldlM_cons, tstep_eq (h r (by simp))]
    cases Gc.estep ti x r with
    | none => rfl
    | some y => exact foldl_eq l y fun r hr => h r (by simp [hr])
theorem evT_exp {ti : TaskInstance} {n : Nat} {e : Xb15.Exp} (he : ExpOk n e) (hv : ∀ v ∈ ti.vars, In v) : evT (ti.vars.take n) (terms e) = Xb15.evalExp ti e := by
  rw [Gc.evalExp_eq]
  unfold evT terms
  rw [List.foldlM_cons, tstep_eq (n := n) he.first]
  have hb := Gc.atom_in hv he.first
  have h0 : Gc.estep ti 0 (0, e.first) = some (Xb15.evalAtom ti e.first) := by
    have : Gc.opV 0 0 (Xb15.evalAtom ti e.first) = Xb15.evalAtom ti e.first := by show 0 + _ = _; omega
    unfold Gc.estep
    rw [this]
    exact if_pos hb
  rw [h0]
  exact foldl_eq e.rest _ fun r hr => (he.rest r hr).2
def evO (ti : TaskInstance) : Option Xb15.Exp → Option Int
  | none => some 0
  | some e => Xb15.evalExp ti e
def OExpOk (n : Nat) : Option Xb15.Exp → Prop
  | none => True
  | some e => ExpOk n e
theorem evT_o {ti : TaskInstance} {n : Nat} {o : Option Xb15.Exp} (he : OExpOk n o) (hv : ∀ v ∈ ti.vars, In v) : evT (ti.vars.take n) (oterms o) = evO ti o := by
  cases o with
  | none => rfl
  | some e => exact evT_exp he hv
theorem atom_there {ti : TaskInstance} {n : Nat} {a : Xb15.Atom} (h : AtomOk n a) (hv : ∀ v ∈ ti.vars, In v) (hl : ti.vars.length = 6) (hn : n ≤ 6) : AtomIn (ti.vars.take n) a := by
  cases a with
  | num z =>
    have h : -9999 ≤ z ∧ z ≤ 9999 := h
    show -big ≤ z ∧ z ≤ big
    unfold Gc.big
    omega
  | var k =>
    have h : k < n := h
    have hk : k < ti.vars.length := by omega
    refine ⟨ti.vars[k], ?_, hv _ (List.getElem_mem hk)⟩
    rw [List.getElem?_take_of_lt h, List.getElem?_eq_getElem hk]
theorem terms_there {ti : TaskInstance} {n : Nat} {o : Option Xb15.Exp} (he : OExpOk n o) (hv : ∀ v ∈ ti.vars, In v) (hl : ti.vars.length = 6) (hn : n ≤ 6) : (oterms o).length ≤ 20000 ∧ ∀ x ∈ oterms o, x.1 < 5 ∧ AtomIn (ti.vars.take n) x.2 := by
  cases o with
  | none => exact ⟨by decide, fun x hx => by cases hx⟩
  | some e =>
    have he : ExpOk n e := he
    refine ⟨?_, fun x hx => ?_⟩
    · have := he.len
      show ((0, e.first) :: e.rest).length ≤ 20000
      simp
      omega
    · rcases List.mem_cons.mp hx with rfl | hx
      · exact ⟨by show 0 < 5; decide, atom_there he.first hv hl hn⟩
      · exact ⟨(he.rest x hx).1, atom_there (he.rest x hx).2 hv hl hn⟩
def wdS : Xb15.Instruction → String
  | .put _ _ => "put"
  | .narrow _ _ _ => "narrow"
  | .wait _ => "wait"
  | .load _ _ => "read"
  | .assign _ _ => "let"
  | .skipIfZero _ _ => "if"
  | .times _ => "times"
  | .again _ => "again"
  | .start _ => "start"
theorem word_is (o : Xb15.Instruction) : (ivOf o).word = Str.ofString (wdS o) := by
  cases o with
  | wait t => cases t <;> rfl
  | _ => rfl
/-! ### a deed -/
structure Deed (K : PySem.W.Frag) (H : Hp) (L : RLay) (p : Xb15.Program) (s : State) (k : Nat) (i : ILay) (ti : TaskInstance) (o : Xb15.Instruction) (n : Nat) (x : Addr) (N : Nat) : Prop where
  R : RunAt K H L p s
  P : ProgOk p
  I : RInv p N s
  nf : s.failed = false
  hi : L.is[k]? = some i
  ht : s.insts[k]? = some ti
  nx : Xb15.nextInstruction p ti = some (o, n)
  ins : InsAt K (wo H L.M) (wo H L.M) x (o, n)
section
variable {P : Program} {w : World} {K : PySem.W.Frag} {mg : Str → Option Value} {base : Heap} {H H' : Hp} {L : RLay} {p : Xb15.Program} {s : State} {k n N : Nat} {i : ILay} {ti : TaskInstance} {o : Xb15.Instruction} {x : Addr}
theorem Deed.step (D : Deed K H L p s k i ti o n x N) : Xb15.stepInstance p s k = Gc.doForm s k (Gc.formO p ti o) := by
  rw [Gc.step_form, if_neg (by rw [D.nf]; decide), D.ht]
  dsimp only
  unfold Gc.form
  rw [D.nx]
theorem Deed.inst (D : Deed K H L p s k i ti o n x N) : InstAt K H p i ti := D.R.at_ D.hi D.ht
theorem Deed.ok (D : Deed K H L p s k i ti o n x N) : Gc.InstOk p N ti := D.I.insts ti (List.mem_of_getElem? D.ht)
theorem Deed.info (D : Deed K H L p s k i ti o n x N) : Gc.InsOk p p.tasks.length (nv p ti.task) o ∧ nv p ti.task ≤ 6 := by
  obtain ⟨t, h1, h2, h3, h4, _⟩ := Gc.next_ok D.P D.nx
  have : nv p ti.task = t.vars.length := by unfold nv; rw [h1]
  rw [this]
  exact ⟨h3, h4⟩
theorem Deed.rem (D : Deed K H L p s k i ti o n x N) : ∃ (t : Xb15.Task) (c : Nat), t.code[ti.pc]? = some (o, n) ∧ Gc.Rem t.code ti.pc ti.loops c := by
  obtain ⟨t, h1, h2, _⟩ := Gc.next_ok D.P D.nx
  rcases D.I.meas with h | ⟨cs, hl, hc, _⟩
  · rw [D.nf] at h; cases h
  · have hk := (List.getElem?_eq_some_iff.mp D.ht).1
    obtain ⟨t', e, r⟩ := hc k ti _ D.ht (List.getElem?_eq_getElem (by omega : k < cs.length))
    rw [h1] at e
    cases e
    exact ⟨t, _, h2, r⟩
/-- the value of an instruction's expression -/
theorem Tx.v_ev (T : Tx K w mg) (D : Deed K H L p s k i ti o n x N) {σ : L2.St} {oe : Option Xb15.Exp} {fa : Addr} {te : TE} (hf : TermsAt H fa (oterms oe)) (ho : OExpOk (nv p ti.task) oe) (h1 : Val te σ H (.ref fa)) (h2 : σ[1]? = some (some (.ref i.o))) :
    Val (tCall (valSp K) [] E0 (tCons te (tCons (tFld K (tVar 1) "amounts") tNil))) σ H (vO (evO ti oe)) := fun Q q => by
  have hv := D.ok.vals
  obtain ⟨q1, q2⟩ := terms_there ho hv D.ok.vars D.info.2
  refine callS2 h1 (T.v_Instance_amounts (val_var h2) D.inst.1) ⟨_, _, rfl, fa, i.am, oterms oe, ti.vars.take (nv p ti.task), rfl, rfl, hf, D.inst.2.1, q1, q2, ?_⟩
  rw [evT_o ho hv]
  exact q
/-- an instance has made its step -/
theorem Tx.go (T : Tx K w mg) (R : RunAt K H L p s) (hi : L.is[k]? = some i) (ht : s.insts[k]? = some ti) {σ : L2.St} {z : Nat} {tz : TE} {Q : VK} (h1 : σ[1]? = some (some (.ref i.o))) (hz : Val tz σ H (iv z)) (q : ∀ H', Kept H L H' L → RunAt K H' L p (Xb15.setInstance s k { ti with pc := z }) → Q (.bl true) H') :
    tCall (goSp K) [] E0 (tCons (tVar 1) (tCons tz tNil)) σ H Q := by
  have hI := R.at_ hi ht
  obtain ⟨f1, f2⟩ := R.moved hi (t := ti.task) (vars := ti.vars) (loops := ti.loops) (z := z) (fun _ _ => rfl) hI.2.1 hI.2.2
  exact callS2 (val_var h1) hz ⟨_, _, rfl, i.o, i.dx, _, _, _, _, rfl, hI.1, q _ f2 f1⟩
theorem Tx.next1 (T : Tx K w mg) {σ : L2.St} (h1 : σ[1]? = some (some (.ref i.o))) (hI : atInstance K H i.o i.dx (iv ti.task) (iv ti.pc) (.ref i.am) (.ref i.ro)) : Val (tOp (rI0 fun i j => .int (i + j)) (tFld K (tVar 1) "place") (tC (.int 1))) σ H (iv (ti.pc + 1)) :=
  val_is (val_add (T.v_Instance_place (val_var h1) hI) val_c) (by simp [iv])
theorem Tx.go1 (T : Tx K w mg) (R : RunAt K H L p s) (hi : L.is[k]? = some i) (ht : s.insts[k]? = some ti) {σ : L2.St} {Q : VK} (h1 : σ[1]? = some (some (.ref i.o))) (q : ∀ H', Kept H L H' L → RunAt K H' L p (Xb15.setInstance s k { ti with pc := ti.pc + 1 }) → Q (.bl true) H') :
    tCall (goSp K) [] E0 (tCons (tVar 1) (tCons (tOp (rI0 fun i j => .int (i + j)) (tFld K (tVar 1) "place") (tC (.int 1))) tNil)) σ H Q := T.go R hi ht h1 (T.next1 h1 (R.at_ hi ht).1) q
def deedSp (K : PySem.W.Frag) (wd : String) : Sp := sp3 fun a b c H Q E => ∃ L p s k i ti o n x N, a = .ref L.r ∧ b = .ref i.o ∧ c = .ref x ∧ Deed K H L p s k i ti o n x N ∧ wdS o = wd ∧ StepOut K H L p (Xb15.stepInstance p s k) Q
theorem failed_out {s : State} {H : Hp} {L : RLay} {Q : VK} (h : StepOut K H L p (some (Xb15.markFailed s)) Q) : ∀ H', Kept H L H' L → RunAt K H' L p (Xb15.markFailed s) → Q (.bl false) H' := fun H' k R => h H' L k R
theorem on_out {s' : State} {H : Hp} {L : RLay} {Q : VK} (h : StepOut K H L p (some s') Q) (hf : s'.failed = false) : ∀ H' L', Kept H L H' L' → RunAt K H' L' p s' → Q (.bl true) H' := fun H' L' k R => by
  have := h H' L' k R
  rw [hf] at this
  exact this
theorem word_put (h : wdS o = "put") : ∃ c e, o = .put c e := by
  cases o <;> simp_all [wdS]
theorem word_narrow (h : wdS o = "narrow") : ∃ c e f, o = .narrow c e f := by
  cases o <;> simp_all [wdS]
theorem word_wait (h : wdS o = "wait") : ∃ t, o = .wait t := by
  cases o <;> simp_all [wdS]
theorem word_read (h : wdS o = "read") : ∃ v c, o = .load v c := by
  cases o <;> simp_all [wdS]
theorem word_let (h : wdS o = "let") : ∃ v e, o = .assign v e := by
  cases o <;> simp_all [wdS]
theorem word_if (h : wdS o = "if") : ∃ e g, o = .skipIfZero e g := by
  cases o <;> simp_all [wdS]
theorem word_times (h : wdS o = "times") : ∃ m, o = .times m := by
  cases o <;> simp_all [wdS]
theorem word_again (h : wdS o = "again") : ∃ g, o = .again g := by
  cases o <;> simp_all [wdS]
theorem word_start (h : wdS o = "start") : ∃ t, o = .start t := by
  cases o <;> simp_all [wdS]
theorem callS4 {sp : Sp} {E : XK} {ta tb tc td : TE} {x y z u : V} {σ : L2.St} {H : Hp} {Q : VK} (h1 : Val ta σ H x) (h2 : Val tb σ H y) (h3 : Val tc σ H z) (h4 : Val td σ H u) (q : sp [x, y, z, u] H Q E) : tCall sp [] E (tCons ta (tCons tb (tCons tc (tCons td tNil)))) σ H Q := h1 _ (h2 _ (h3 _ (h4 _ q)))
theorem st_ifNotH {te : TE} {t1 t2 : TS} {D : Ends} {σ : L2.St} {H : Hp} (h : te σ H fun x H1 => ∃ k, x = V.bl k ∧ if (!k) = true then t1 D σ H1 else t2 D σ H1) : tIfS (tNot (tTest te)) t1 t2 D σ H := h
theorem sc_do_put : FnScope ["run", "instance", "instruction", "value"] ["run", "instance", "instruction"] (defScope s_do_put) := ⟨rfl, rfl, rfl, by decide +kernel, rfl, by decide +kernel, by decide +kernel⟩
theorem ok_do_put (T : Tx K w mg) : Df P w K mg base CX0 4 "do_put" ["run", "instance", "instruction"] (deedSp K "put") := by
  obtain ⟨fd, F⟩ := T.d_do_put
  refine ⟨fd, T.g_do_put, F.kp, (F.bindsN (ps := ["run", "instance", "instruction"]) fun _ _ _ _ _ _ us hl => match us, hl with | [_, _, _], _ => rfl), F.ok sc_do_put sp3_len (fun cdv A outer s H vs Q E hr h => ⟨_, PSs.nox ((pss_cons (ps_set (i := 3) sc_do_put.nd rfl (.inl rfl) (pe_df (ok_value_of T) (hr.mono (by decide)) pass0 (pa_cons (pe_fld (pv 2) rfl) (pa_cons (pe_fld (pv 1) rfl) pa_nil))))
    (pss_cons (ps_if (pt_cmpR op_isN (pv 3) pe_non (nomark _))
      (pss_one (ps_ret (pe_df (ok_fail T) (hr.mono (by decide)) pass0 (pa_cons (pv 0) pa_nil))))
      pss_nil)
    (pss_one (ps_ret (pe_and (pe_df (ok_put_in T) (hr.mono (by decide)) pass0 (pa_cons (pv 0) (pa_cons (pe_fld (pv 2) rfl) (pa_cons (pv 3) pa_nil)))) (pe_one (pe_df (ok_go_to T) (hr.mono (by decide)) pass0 (pa_cons (pv 1) (pa_cons (pe_op op_add (pe_fld (pv 1) rfl) pe_int) pa_nil)))))))))), ?_⟩)⟩
  obtain ⟨_, _, _, rfl, L, p, s', k, i, ti, o, n, x, N, rfl, rfl, rfl, D, hw, h⟩ := h
  obtain ⟨c, e, rfl⟩ := word_put hw
  obtain ⟨dx, fa, sa, g, hI, hf, hs, hg⟩ := D.ins
  have hW : Same (wo H L.M) H := wo_same _ _
  obtain ⟨⟨⟨hc, hk⟩, hO⟩, hv6⟩ := D.info
  have hI' := hW _ _ hI
  refine st_set (T.v_ev D (oe := some e) (hf.mono hW) hO (T.v_Instruction_first (val_var rfl) hI') rfl) ?_
  dsimp only
  cases hz : Xb15.evalExp ti e with
  | none =>
    have hst : Xb15.stepInstance p s' k = some (Xb15.markFailed s') := by rw [D.step]; simp only [Gc.formO, hz, Gc.doForm]
    rw [hst] at h
    refine st_if (b := true) (ans_is (ans_of (val_isN (val_var rfl))) (by simp [evO, hz, vO])) (fun _ => ?_) (fun e => by cases e)
    exact st_retH (callS1 (val_var rfl) ⟨_, rfl, L, p, s', rfl, D.R, failed_out h⟩)
  | some z =>
    have ez : vO (evO ti (some e)) = .int z := by simp [evO, hz, vO]
    refine st_if (b := false) (ans_is (ans_of (val_isN (val_var rfl))) (by rw [ez]; rfl)) (fun e => by cases e) (fun _ => st_next ?_)
    dsimp only
    rw [ez]
    refine st_retH (andH (callS3 (val_var rfl) (T.v_Instruction_cell (val_var rfl) hI') (val_var rfl) ⟨_, _, _, rfl, L, p, s', c, z, N, rfl, rfl, rfl, D.R, D.I, hc, hk, ?_⟩))
    unfold CellOut
    cases hj : Xb15.joinValue (Xb15.cellKind p c) (Xb15.cellValue s' c) z with
    | none =>
      have hst : Xb15.stepInstance p s' k = some (Xb15.markFailed s') := by rw [D.step]; simp only [Gc.formO, hz, Gc.doForm, hj]
      rw [hst] at h
      exact fun H1 k1 R1 => ⟨false, rfl, failed_out h H1 k1 R1⟩
    | some v =>
      have hst : Xb15.stepInstance p s' k = some (Xb15.setInstance { s' with cells := s'.cells.set c v } k { ti with pc := ti.pc + 1 }) := by rw [D.step]; simp only [Gc.formO, hz, Gc.doForm, hj]
      rw [hst] at h
      exact fun H1 L1 k1 is1 R1 => ⟨true, rfl, T.go1 R1 (by rw [is1]; exact D.hi) D.ht rfl fun H2 k2 R2 => on_out h D.nf H2 L1 (k1.trans k2) R2⟩
def wayS : Xb15.Condition → String
  | .atleast _ _ => "atleast"
  | .atmost _ _ => "atmost"
  | .has _ _ => "has"
  | .size _ _ => "size"
  | .within _ _ _ => "within"
  | .known _ => "known"
theorem way_is (t : Xb15.Condition) : (ivOf (.wait t)).way = Str.ofString (wayS t) := by
  cases t <;> rfl
theorem cell_is (t : Xb15.Condition) : (ivOf (.wait t)).cell = (Gc.condCell t : Int) := by
  cases t <;> rfl
theorem cond_is (ti : TaskInstance) (t : Xb15.Condition) : Gc.condTest ti t = match evO ti (ivOf (.wait t)).first, evO ti (ivOf (.wait t)).second with
    | some x, some y => some fun v => reach (wayS t) v x y
    | _, _ => none := by
  cases t with
  | atleast c e =>
    show (Xb15.evalExp ti e).map _ = match Xb15.evalExp ti e, some 0 with
      | some x, some y => some fun v => reach "atleast" v x y
      | _, _ => none
    cases Xb15.evalExp ti e <;> rfl
  | atmost c e =>
    show (Xb15.evalExp ti e).map _ = match Xb15.evalExp ti e, some 0 with
      | some x, some y => some fun v => reach "atmost" v x y
      | _, _ => none
    cases Xb15.evalExp ti e <;> rfl
  | has c e =>
    show (Xb15.evalExp ti e).map _ = match Xb15.evalExp ti e, some 0 with
      | some x, some y => some fun v => reach "has" v x y
      | _, _ => none
    cases Xb15.evalExp ti e <;> rfl
  | size c e =>
    show (Xb15.evalExp ti e).map _ = match Xb15.evalExp ti e, some 0 with
      | some x, some y => some fun v => reach "size" v x y
      | _, _ => none
    cases Xb15.evalExp ti e <;> rfl
  | within c a b =>
    show ((Xb15.evalExp ti a).bind fun x => (Xb15.evalExp ti b).map _) = match Xb15.evalExp ti a, Xb15.evalExp ti b with
      | some x, some y => some fun v => reach "within" v x y
      | _, _ => none
    cases Xb15.evalExp ti a <;> cases Xb15.evalExp ti b <;> rfl
  | known c => rfl
theorem reach_ok {p : Xb15.Program} {N : Nat} {s : State} {m : Nat} (I : RInv p N s) : ∀ {t : Xb15.Condition}, Gc.CondOk p m t → Gc.condCell t < p.cells.length ∧ ReachOk (wayS t) (Xb15.cellValue s (Gc.condCell t)) ∧ OExpOk m (ivOf (.wait t)).first ∧ OExpOk m (ivOf (.wait t)).second := by
  intro t h
  have sing : ∀ {c : Nat}, c < p.cells.length → (Xb15.cellKind p c = .max ∨ Xb15.cellKind p c = .min ∨ Xb15.cellKind p c = .one ∨ Xb15.cellKind p c = .flag) → single (Xb15.cellValue s c) := fun {c} hc hk => by
    have hok := (Gc.cell_get I hc).1
    generalize Xb15.cellValue s c = v at hok
    rcases hk with hk | hk | hk | hk <;> (rw [hk] at hok; cases v with
      | empty => exact .inl rfl
      | num z => exact .inr ⟨z, rfl⟩
      | set l => exact hok.elim
      | range a b => exact hok.elim)
  have sets : ∀ {c : Nat}, c < p.cells.length → Xb15.cellKind p c = .set → ∃ l, Xb15.cellValue s c = .set l := fun {c} hc hk => by
    have hok := (Gc.cell_get I hc).1
    generalize Xb15.cellValue s c = v at hok
    rw [hk] at hok
    cases v with
    | set l => exact ⟨l, rfl⟩
    | empty => exact hok.elim
    | num z => exact hok.elim
    | range a b => exact hok.elim
  cases t with
  | atleast c e => exact ⟨h.1.1, .inl ⟨.inl rfl, sing h.1.1 (.inl h.1.2)⟩, h.2, trivial⟩
  | atmost c e => exact ⟨h.1.1, .inl ⟨.inr (.inl rfl), sing h.1.1 (.inr (.inl h.1.2))⟩, h.2, trivial⟩
  | has c e => exact ⟨h.1.1, .inr (.inl ⟨.inl rfl, sets h.1.1 h.1.2⟩), h.2, trivial⟩
  | size c e => exact ⟨h.1.1, .inr (.inl ⟨.inr rfl, sets h.1.1 h.1.2⟩), h.2, trivial⟩
  | within c a b => exact ⟨h.1.1, .inr (.inr ⟨rfl, range_val (Gc.cell_get I h.1.1).1 h.1.2⟩), h.2.1, h.2.2⟩
  | known c => exact ⟨h.1, .inl ⟨.inr (.inr rfl), sing h.1 (h.2.elim (fun z => .inr (.inr (.inl z))) fun z => .inr (.inr (.inr z)))⟩, trivial, trivial⟩
theorem sc_do_narrow : FnScope ["run", "instance", "instruction", "low", "high"] ["run", "instance", "instruction"] (defScope s_do_narrow) := ⟨rfl, rfl, rfl, by decide +kernel, rfl, by decide +kernel, by decide +kernel⟩
theorem ok_do_narrow (T : Tx K w mg) : Df P w K mg base CX0 4 "do_narrow" ["run", "instance", "instruction"] (deedSp K "narrow") := by
  obtain ⟨fd, F⟩ := T.d_do_narrow
  refine ⟨fd, T.g_do_narrow, F.kp, (F.bindsN (ps := ["run", "instance", "instruction"]) fun _ _ _ _ _ _ us hl => match us, hl with | [_, _, _], _ => rfl), F.ok sc_do_narrow sp3_len (fun cdv A outer s H vs Q E hr h => ⟨_, PSs.nox ((pss_cons (ps_par (i := 3) (j := 4) rfl sc_do_narrow.nd rfl rfl (by decide) rfl rfl (pa_cons (pe_df (ok_value_of T) (hr.mono (by decide)) pass0 (pa_cons (pe_fld (pv 2) rfl) (pa_cons (pe_fld (pv 1) rfl) pa_nil))) (pa_cons (pe_df (ok_value_of T) (hr.mono (by decide)) pass0 (pa_cons (pe_fld (pv 2) rfl) (pa_cons (pe_fld (pv 1) rfl) pa_nil))) pa_nil)) rfl)
    (pss_cons (ps_if (PW.pt (pw_or (pt_cmpR op_isN (pv 3) pe_non (nomark _)) (pw_or1 (pt_cmpR op_isN (pv 4) pe_non (nomark _)))))
      (pss_one (ps_ret (pe_df (ok_fail T) (hr.mono (by decide)) pass0 (pa_cons (pv 0) pa_nil))))
      pss_nil)
    (pss_one (ps_ret (pe_and (pe_df (ok_narrow T) (hr.mono (by decide)) pass0 (pa_cons (pv 0) (pa_cons (pe_fld (pv 2) rfl) (pa_cons (pv 3) (pa_cons (pv 4) pa_nil))))) (pe_one (pe_df (ok_go_to T) (hr.mono (by decide)) pass0 (pa_cons (pv 1) (pa_cons (pe_op op_add (pe_fld (pv 1) rfl) pe_int) pa_nil)))))))))), ?_⟩)⟩
  obtain ⟨_, _, _, rfl, L, p, s', k, i, ti, o, n, x, N, rfl, rfl, rfl, D, hw, h⟩ := h
  obtain ⟨c, ea, eb, rfl⟩ := word_narrow hw
  obtain ⟨dx, fa, sa, g, hI, hf, hs, hg⟩ := D.ins
  have hW : Same (wo H L.M) H := wo_same _ _
  obtain ⟨⟨⟨hc, hk⟩, hOa, hOb⟩, hv6⟩ := D.info
  have hI' := hW _ _ hI
  refine st_par (T.v_ev D (oe := some ea) (hf.mono hW) hOa (T.v_Instruction_first (val_var rfl) hI') rfl) (T.v_ev D (oe := some eb) (hs.mono hW) hOb (T.v_Instruction_second (val_var rfl) hI') rfl) ?_
  dsimp only
  cases hx : Xb15.evalExp ti ea with
  | none =>
    have hst : Xb15.stepInstance p s' k = some (Xb15.markFailed s') := by rw [D.step]; simp only [Gc.formO, hx, Gc.doForm]
    rw [hst] at h
    refine st_if (b := true) (ans_is (ans_orB (ans_of (val_isN (val_var rfl))) (ans_of (val_isN (val_var rfl)))) (by simp [evO, hx, vO])) (fun _ => ?_) (fun e => by cases e)
    exact st_retH (callS1 (val_var rfl) ⟨_, rfl, L, p, s', rfl, D.R, failed_out h⟩)
  | some zx =>
    have ezx : vO (evO ti (some ea)) = .int zx := by simp [evO, hx, vO]
    cases hy : Xb15.evalExp ti eb with
    | none =>
      have hst : Xb15.stepInstance p s' k = some (Xb15.markFailed s') := by rw [D.step]; simp only [Gc.formO, hx, hy, Gc.doForm]
      rw [hst] at h
      refine st_if (b := true) (ans_is (ans_orB (ans_of (val_isN (val_var rfl))) (ans_of (val_isN (val_var rfl)))) (by simp [evO, hy, vO])) (fun _ => ?_) (fun e => by cases e)
      exact st_retH (callS1 (val_var rfl) ⟨_, rfl, L, p, s', rfl, D.R, failed_out h⟩)
    | some zy =>
      have ezy : vO (evO ti (some eb)) = .int zy := by simp [evO, hy, vO]
      refine st_if (b := false) (ans_is (ans_orB (ans_of (val_isN (val_var rfl))) (ans_of (val_isN (val_var rfl)))) (by rw [ezx, ezy]; rfl)) (fun e => by cases e) (fun _ => st_next ?_)
      dsimp only
      rw [ezx, ezy]
      refine st_retH (andH (callS4 (val_var rfl) (T.v_Instruction_cell (val_var rfl) hI') (val_var rfl) (val_var rfl) ⟨_, _, _, _, rfl, L, p, s', c, zx, zy, N, rfl, rfl, rfl, rfl, D.R, D.I, hc, hk, ?_⟩))
      unfold CellOut
      cases hj : Xb15.narrowValue (Xb15.cellValue s' c) zx zy with
      | none =>
        have hst : Xb15.stepInstance p s' k = some (Xb15.markFailed s') := by rw [D.step]; simp only [Gc.formO, hx, hy, Gc.doForm, hj]
        rw [hst] at h
        exact fun H1 k1 R1 => ⟨false, rfl, failed_out h H1 k1 R1⟩
      | some v =>
        have hst : Xb15.stepInstance p s' k = some (Xb15.setInstance { s' with cells := s'.cells.set c v } k { ti with pc := ti.pc + 1 }) := by rw [D.step]; simp only [Gc.formO, hx, hy, Gc.doForm, hj]
        rw [hst] at h
        exact fun H1 L1 k1 is1 R1 => ⟨true, rfl, T.go1 R1 (by rw [is1]; exact D.hi) D.ht rfl fun H2 k2 R2 => on_out h D.nf H2 L1 (k1.trans k2) R2⟩
theorem sc_do_wait : FnScope ["run", "instance", "instruction", "first", "second"] ["run", "instance", "instruction"] (defScope s_do_wait) := ⟨rfl, rfl, rfl, by decide +kernel, rfl, by decide +kernel, by decide +kernel⟩
theorem ok_do_wait (T : Tx K w mg) : Df P w K mg base CX0 3 "do_wait" ["run", "instance", "instruction"] (deedSp K "wait") := by
  obtain ⟨fd, F⟩ := T.d_do_wait
  refine ⟨fd, T.g_do_wait, F.kp, (F.bindsN (ps := ["run", "instance", "instruction"]) fun _ _ _ _ _ _ us hl => match us, hl with | [_, _, _], _ => rfl), F.ok sc_do_wait sp3_len (fun cdv A outer s H vs Q E hr h => ⟨_, PSs.nox ((pss_cons (ps_par (i := 3) (j := 4) rfl sc_do_wait.nd rfl rfl (by decide) rfl rfl (pa_cons (pe_df (ok_value_of T) (hr.mono (by decide)) pass0 (pa_cons (pe_fld (pv 2) rfl) (pa_cons (pe_fld (pv 1) rfl) pa_nil))) (pa_cons (pe_df (ok_value_of T) (hr.mono (by decide)) pass0 (pa_cons (pe_fld (pv 2) rfl) (pa_cons (pe_fld (pv 1) rfl) pa_nil))) pa_nil)) rfl)
    (pss_cons (ps_if (PW.pt (pw_or (pt_cmpR op_isN (pv 3) pe_non (nomark _)) (pw_or1 (pt_cmpR op_isN (pv 4) pe_non (nomark _)))))
      (pss_one (ps_ret (pe_df (ok_fail T) (hr.mono (by decide)) pass0 (pa_cons (pv 0) pa_nil))))
      pss_nil)
    (pss_cons (ps_if (pt_not (pt_val (pe_df (ok_is_reached T) (hr.mono (by decide)) pass0 (pa_cons (pe_fld (pv 2) rfl) (pa_cons (pe_ix ix_list (pe_fld (pv 0) rfl) (pe_fld (pv 2) rfl) (fun _ _ => rfl)) (pa_cons (pv 3) (pa_cons (pv 4) pa_nil)))))))
      (pss_one (ps_ret pe_bl))
      pss_nil)
    (pss_one (ps_ret (pe_df (ok_go_to T) (hr.mono (by decide)) pass0 (pa_cons (pv 1) (pa_cons (pe_op op_add (pe_fld (pv 1) rfl) pe_int) pa_nil))))))))), ?_⟩)⟩
  obtain ⟨_, _, _, rfl, L, p, s', k, i, ti, o, n, x, N, rfl, rfl, rfl, D, hw, h⟩ := h
  obtain ⟨t, rfl⟩ := word_wait hw
  obtain ⟨dx, fa, sa, g, hI, hf, hs, hg⟩ := D.ins
  have hW : Same (wo H L.M) H := wo_same _ _
  obtain ⟨hO, hv6⟩ := D.info
  obtain ⟨hc, hr0, hOa, hOb⟩ := reach_ok D.I (t := t) hO
  have hI' := hW _ _ hI
  refine st_par (T.v_ev D (oe := (ivOf (.wait t)).first) (hf.mono hW) hOa (T.v_Instruction_first (val_var rfl) hI') rfl) (T.v_ev D (oe := (ivOf (.wait t)).second) (hs.mono hW) hOb (T.v_Instruction_second (val_var rfl) hI') rfl) ?_
  dsimp only
  have hco := cond_is ti t
  have hst0 := D.step
  simp only [Gc.formO] at hst0
  cases hx : evO ti (ivOf (.wait t)).first with
  | none =>
    rw [hx] at hco
    have hst : Xb15.stepInstance p s' k = some (Xb15.markFailed s') := by rw [hst0, hco]; rfl
    rw [hst] at h
    refine st_if (b := true) (ans_is (ans_orB (ans_of (val_isN (val_var rfl))) (ans_of (val_isN (val_var rfl)))) (by simp [vO])) (fun _ => ?_) (fun e => by cases e)
    exact st_retH (callS1 (val_var rfl) ⟨_, rfl, L, p, s', rfl, D.R, failed_out h⟩)
  | some zx =>
    cases hy : evO ti (ivOf (.wait t)).second with
    | none =>
      rw [hx, hy] at hco
      have hst : Xb15.stepInstance p s' k = some (Xb15.markFailed s') := by rw [hst0, hco]; rfl
      rw [hst] at h
      refine st_if (b := true) (ans_is (ans_orB (ans_of (val_isN (val_var rfl))) (ans_of (val_isN (val_var rfl)))) (by simp [vO])) (fun _ => ?_) (fun e => by cases e)
      exact st_retH (callS1 (val_var rfl) ⟨_, rfl, L, p, s', rfl, D.R, failed_out h⟩)
    | some zy =>
      rw [hx, hy] at hco
      refine st_if (b := false) (ans_is (ans_orB (ans_of (val_isN (val_var rfl))) (ans_of (val_isN (val_var rfl)))) rfl) (fun e => by cases e) (fun _ => st_next ?_)
      dsimp only
      obtain ⟨a, ha, hv⟩ := D.R.cellAt D.I hc
      have hcl : Val (tFld K (tVar 2) "cell") [some (.ref L.r), some (.ref i.o), some (.ref x), some (vO (some zx)), some (vO (some zy))] H (iv (Gc.condCell t)) := val_is (T.v_Instruction_cell (val_var rfl) hI') (by rw [cell_is]; rfl)
      have hwy : Val (tFld K (tVar 2) "way") [some (.ref L.r), some (.ref i.o), some (.ref x), some (vO (some zx)), some (vO (some zy))] H (.str (Str.ofString (wayS t))) := val_is (T.v_Instruction_way (val_var rfl) hI') (by rw [way_is])
      refine st_ifNotH (callS4 hwy (T.v_state (N := N) D.R ha (val_var rfl) hcl) (val_var rfl) (val_var rfl) ⟨_, _, _, _, rfl, wayS t, _, zx, zy, a, rfl, rfl, rfl, rfl, hW _ _ hv, hr0, fun H1 s1 => ⟨_, rfl, ?_⟩⟩)
      cases hb : reach (wayS t) (Xb15.cellValue s' (Gc.condCell t)) zx zy with
      | false =>
        rw [if_pos (by rfl)]
        have hst : Xb15.stepInstance p s' k = none := by rw [hst0, hco]; simp only [Gc.doForm, hb]; rfl
        rw [hst] at h
        exact st_ret val_c (h H1 s1)
      | true =>
        rw [if_neg (by decide)]
        have hst : Xb15.stepInstance p s' k = some (Xb15.setInstance s' k { ti with pc := ti.pc + 1 }) := by rw [hst0, hco]; simp only [Gc.doForm, hb]; rfl
        rw [hst] at h
        exact st_next (st_retH (T.go1 (D.R.mono s1) D.hi D.ht rfl fun H2 k2 R2 => on_out h D.nf H2 L ((D.R.same s1).trans k2) R2))
theorem ixN_nat {n j : Nat} (h : j < n) : ixN n (j : Int) = some j := by
  unfold ixN
  rw [if_pos (by omega), if_pos (by omega)]
  rfl
/-- xs[j] = e, xs a field's list -/
theorem st_put {te to ti' : TE} {σ : L2.St} {H : Hp} {D : Ends} {y : V} {a : Addr} {xs : List V} {j : Nat} (he : Val te σ H y) (ho : Val to σ H (.ref a)) (hi : Val ti' σ H (.int (j : Int))) (ha : H a = some (.lst xs)) (hj : j < xs.length) (q : D.nx σ (upd H a (.lst (xs.set j y)))) : tAsg te (gSub to ti' rSetL) D σ H :=
  he _ (ho _ (hi _ ⟨a, xs, j, j, rfl, rfl, ha, ixN_nat hj, q⟩))
theorem vars_take {l : List Int} {n v : Nat} {z : Int} : ((l.take n).map V.int).set v (.int z) = ((l.set v z).take n).map V.int := by
  rw [List.take_set, List.map_set]
/-- an instance has a variable assigned and made its step -/
theorem Tx.goVar (T : Tx K w mg) (R : RunAt K H L p s) (hi : L.is[k]? = some i) (ht : s.insts[k]? = some ti) {σ : L2.St} {Q : VK} (h1 : σ[1]? = some (some (.ref i.o))) {v : Nat} {z : Int} (q : ∀ H', Kept H L H' L → RunAt K H' L p (Xb15.setInstance s k { ti with pc := ti.pc + 1, vars := ti.vars.set v z }) → Q (.bl true) H') :
    tCall (goSp K) [] E0 (tCons (tVar 1) (tCons (tOp (rI0 fun i j => .int (i + j)) (tFld K (tVar 1) "place") (tC (.int 1))) tNil)) σ (upd H i.am (.lst (((ti.vars.take (nv p ti.task)).map V.int).set v (.int z)))) Q := by
  have hI := R.at_ hi ht
  obtain ⟨n1, n2, n3⟩ := R.in3 (List.mem_of_getElem? hi)
  have h2 := hI.1
  have h2' : atInstance K (upd H i.am (.lst (((ti.vars.take (nv p ti.task)).map V.int).set v (.int z)))) i.o i.dx (iv ti.task) (iv ti.pc) (.ref i.am) (.ref i.ro) := by
    show upd H i.am _ i.o = _
    rw [upd_ne n1]; exact h2
  obtain ⟨f1, f2⟩ := R.moved hi (H2 := upd H i.am (.lst (((ti.vars.take (nv p ti.task)).map V.int).set v (.int z)))) (t := ti.task) (vars := ti.vars.set v z) (loops := ti.loops) (z := ti.pc + 1) (fun b hb => upd_ne fun e => hb (by rw [e]; simp [ILay.three])) (by rw [upd_same, vars_take]) (by rw [upd_ne (Ne.symm n3)]; exact hI.2.2)
  exact callS2 (val_var h1) (T.next1 h1 h2') ⟨_, _, rfl, i.o, i.dx, _, _, _, _, rfl, h2', q _ f2 f1⟩
theorem sc_do_read : FnScope ["run", "instance", "instruction", "state"] ["run", "instance", "instruction"] (defScope s_do_read) := ⟨rfl, rfl, rfl, by decide +kernel, rfl, by decide +kernel, by decide +kernel⟩
theorem ok_do_read (T : Tx K w mg) : Df P w K mg base CX0 2 "do_read" ["run", "instance", "instruction"] (deedSp K "read") := by
  obtain ⟨fd, F⟩ := T.d_do_read
  refine ⟨fd, T.g_do_read, F.kp, (F.bindsN (ps := ["run", "instance", "instruction"]) fun _ _ _ _ _ _ us hl => match us, hl with | [_, _, _], _ => rfl), F.ok sc_do_read sp3_len (fun cdv A outer s H vs Q E hr h => ⟨_, PSs.nox ((pss_cons (ps_set (i := 3) sc_do_read.nd rfl (.inl rfl) (pe_ix ix_list (pe_fld (pv 0) rfl) (pe_fld (pv 2) rfl) (fun _ _ => rfl)))
    (pss_cons (ps_if (pt_cmpR (op_eqD (by exact hr.units)) (pv 3) (pe_lst pa_nil) (nomark _))
      (pss_one (ps_ret pe_bl))
      pss_nil)
    (pss_cons (ps_asg (pe_ix ix_list (pv 3) pe_int (fun _ _ => rfl)) (pg_sub (pe_fld (pv 1) rfl) (pe_fld (pv 2) rfl) set_list))
    (pss_one (ps_ret (pe_df (ok_go_to T) (hr.mono (by decide)) pass0 (pa_cons (pv 1) (pa_cons (pe_op op_add (pe_fld (pv 1) rfl) pe_int) pa_nil))))))))), ?_⟩)⟩
  obtain ⟨_, _, _, rfl, L, p, s', k, i, ti, o, n, x, N, rfl, rfl, rfl, D, hw, h⟩ := h
  obtain ⟨v, c, rfl⟩ := word_read hw
  obtain ⟨dx, fa, sa, g, hI, hf, hs, hg⟩ := D.ins
  have hW : Same (wo H L.M) H := wo_same _ _
  obtain ⟨⟨⟨hc, hk⟩, hv⟩, hv6⟩ := D.info
  have hI' := hW _ _ hI
  obtain ⟨a, ha, hva⟩ := D.R.cellAt D.I hc
  refine st_set (T.v_state (N := N) D.R ha (val_var rfl) (T.v_Instruction_cell (val_var rfl) hI')) ?_
  dsimp only
  have hok := (Gc.cell_get D.I hc).1
  rw [hk] at hok
  refine st_ifH (eq_nilH (val_var rfl) (SqL.of (hW _ _ hva)) (fun _ _ => dp_ints' _) fun H1 s1 => ⟨_, rfl, ?_⟩)
  have hst0 := D.step
  simp only [Gc.formO, Gc.doForm] at hst0
  cases hval : Xb15.cellValue s' c with
  | empty =>
    have hst : Xb15.stepInstance p s' k = none := by rw [hst0, hval]
    rw [hst] at h
    rw [if_pos (show ((vL .empty).map V.int).isEmpty = true from rfl)]
    exact st_ret val_c (h H1 s1)
  | num z =>
    have hst : Xb15.stepInstance p s' k = some (Xb15.setInstance s' k { ti with pc := ti.pc + 1, vars := ti.vars.set v z }) := by rw [hst0, hval]
    rw [hst] at h
    rw [if_neg (show ¬ (((vL (.num z)).map V.int).isEmpty = true) from Bool.false_ne_true)]
    refine st_next ?_
    dsimp only
    have R1 := D.R.mono s1
    have hI1 := R1.at_ D.hi D.ht
    have hva1 : H1 a = some (.lst [.int z]) := by
      have := s1 _ _ (hW _ _ hva)
      rw [hval] at this
      exact this
    have hvl : v < ((ti.vars.take (nv p ti.task)).map V.int).length := by
      rw [List.length_map, List.length_take, D.ok.vars]
      omega
    refine st_put (val_ixL (val_var rfl) val_c (SqL.of hva1) (atI_nat (j := 0) rfl)) (T.v_Instance_amounts (val_var rfl) hI1.1) (T.v_Instruction_slot (val_var rfl) (s1 _ _ hI')) hI1.2.1 hvl ?_
    dsimp only
    exact st_retH (T.goVar R1 D.hi D.ht rfl fun H2 k2 R2 => on_out h D.nf H2 L ((D.R.same s1).trans k2) R2)
  | set l => rw [hval] at hok; exact hok.elim
  | range a b => rw [hval] at hok; exact hok.elim
theorem sc_do_let : FnScope ["run", "instance", "instruction", "value"] ["run", "instance", "instruction"] (defScope s_do_let) := ⟨rfl, rfl, rfl, by decide +kernel, rfl, by decide +kernel, by decide +kernel⟩
theorem ok_do_let (T : Tx K w mg) : Df P w K mg base CX0 3 "do_let" ["run", "instance", "instruction"] (deedSp K "let") := by
  obtain ⟨fd, F⟩ := T.d_do_let
  refine ⟨fd, T.g_do_let, F.kp, (F.bindsN (ps := ["run", "instance", "instruction"]) fun _ _ _ _ _ _ us hl => match us, hl with | [_, _, _], _ => rfl), F.ok sc_do_let sp3_len (fun cdv A outer s H vs Q E hr h => ⟨_, PSs.nox ((pss_cons (ps_set (i := 3) sc_do_let.nd rfl (.inl rfl) (pe_df (ok_value_of T) (hr.mono (by decide)) pass0 (pa_cons (pe_fld (pv 2) rfl) (pa_cons (pe_fld (pv 1) rfl) pa_nil))))
    (pss_cons (ps_if (pt_cmpR op_isN (pv 3) pe_non (nomark _))
      (pss_one (ps_ret (pe_df (ok_fail T) (hr.mono (by decide)) pass0 (pa_cons (pv 0) pa_nil))))
      pss_nil)
    (pss_cons (ps_asg (pv 3) (pg_sub (pe_fld (pv 1) rfl) (pe_fld (pv 2) rfl) set_list))
    (pss_one (ps_ret (pe_df (ok_go_to T) (hr.mono (by decide)) pass0 (pa_cons (pv 1) (pa_cons (pe_op op_add (pe_fld (pv 1) rfl) pe_int) pa_nil))))))))), ?_⟩)⟩
  obtain ⟨_, _, _, rfl, L, p, s', k, i, ti, o, n, x, N, rfl, rfl, rfl, D, hw, h⟩ := h
  obtain ⟨v, e, rfl⟩ := word_let hw
  obtain ⟨dx, fa, sa, g, hI, hf, hs, hg⟩ := D.ins
  have hW : Same (wo H L.M) H := wo_same _ _
  obtain ⟨⟨hv, hO⟩, hv6⟩ := D.info
  have hI' := hW _ _ hI
  refine st_set (T.v_ev D (oe := some e) (hf.mono hW) hO (T.v_Instruction_first (val_var rfl) hI') rfl) ?_
  dsimp only
  cases hz : Xb15.evalExp ti e with
  | none =>
    have hst : Xb15.stepInstance p s' k = some (Xb15.markFailed s') := by rw [D.step]; simp only [Gc.formO, hz, Gc.doForm]
    rw [hst] at h
    refine st_if (b := true) (ans_is (ans_of (val_isN (val_var rfl))) (by simp [evO, hz, vO])) (fun _ => ?_) (fun e => by cases e)
    exact st_retH (callS1 (val_var rfl) ⟨_, rfl, L, p, s', rfl, D.R, failed_out h⟩)
  | some z =>
    have ez : vO (evO ti (some e)) = .int z := by simp [evO, hz, vO]
    refine st_if (b := false) (ans_is (ans_of (val_isN (val_var rfl))) (by rw [ez]; rfl)) (fun e => by cases e) (fun _ => st_next ?_)
    dsimp only
    rw [ez]
    have hst : Xb15.stepInstance p s' k = some (Xb15.setInstance s' k { ti with pc := ti.pc + 1, vars := ti.vars.set v z }) := by rw [D.step]; simp only [Gc.formO, hz, Gc.doForm]
    rw [hst] at h
    have hI1 := D.inst
    have hvl : v < ((ti.vars.take (nv p ti.task)).map V.int).length := by
      rw [List.length_map, List.length_take, D.ok.vars]
      omega
    refine st_put (val_var rfl) (T.v_Instance_amounts (val_var rfl) hI1.1) (T.v_Instruction_slot (val_var rfl) hI') hI1.2.1 hvl ?_
    dsimp only
    exact st_retH (T.goVar D.R D.hi D.ht rfl fun H2 k2 R2 => on_out h D.nf H2 L k2 R2)
theorem rem_if {code : Gc.Code} {pc c g n : Nat} {l : List Nat} {e : Xb15.Exp} (hcode : code[pc]? = some (.skipIfZero e g, n)) (hrem : Gc.Rem code pc l c) : g ≠ 0 := by
  cases hrem with
  | over h' => rw [hcode] at h'; cases h'
  | plain h' hp r => rw [hcode] at h'; cases h'; cases hp
  | skip h' hlt r1 r2 => rw [hcode] at h'; cases h'; omega
  | times h' r => rw [hcode] at h'; cases h'
  | more h' hm r => rw [hcode] at h'; cases h'
  | last h' r => rw [hcode] at h'; cases h'
theorem sc_do_if : FnScope ["run", "instance", "instruction", "value"] ["run", "instance", "instruction"] (defScope s_do_if) := ⟨rfl, rfl, rfl, by decide +kernel, rfl, by decide +kernel, by decide +kernel⟩
theorem ok_do_if (T : Tx K w mg) : Df P w K mg base CX0 3 "do_if" ["run", "instance", "instruction"] (deedSp K "if") := by
  obtain ⟨fd, F⟩ := T.d_do_if
  refine ⟨fd, T.g_do_if, F.kp, (F.bindsN (ps := ["run", "instance", "instruction"]) fun _ _ _ _ _ _ us hl => match us, hl with | [_, _, _], _ => rfl), F.ok sc_do_if sp3_len (fun cdv A outer s H vs Q E hr h => ⟨_, PSs.nox ((pss_cons (ps_set (i := 3) sc_do_if.nd rfl (.inl rfl) (pe_df (ok_value_of T) (hr.mono (by decide)) pass0 (pa_cons (pe_fld (pv 2) rfl) (pa_cons (pe_fld (pv 1) rfl) pa_nil))))
    (pss_cons (ps_if (pt_cmpR op_isN (pv 3) pe_non (nomark _))
      (pss_one (ps_ret (pe_df (ok_fail T) (hr.mono (by decide)) pass0 (pa_cons (pv 0) pa_nil))))
      pss_nil)
    (pss_one (ps_ret (pe_df (ok_go_to T) (hr.mono (by decide)) pass0 (pa_cons (pv 1) (pa_cons (pe_ifExp (pt_cmpR op_eq (pv 3) pe_int (nomark _)) (pe_fld (pv 2) rfl) (pe_op op_add (pe_fld (pv 1) rfl) pe_int)) pa_nil)))))))), ?_⟩)⟩
  obtain ⟨_, _, _, rfl, L, p, s', k, i, ti, o, n, x, N, rfl, rfl, rfl, D, hw, h⟩ := h
  obtain ⟨e, g0, rfl⟩ := word_if hw
  obtain ⟨dx, fa, sa, g, hI, hf, hs, hg⟩ := D.ins
  have hW : Same (wo H L.M) H := wo_same _ _
  obtain ⟨hO, hv6⟩ := D.info
  have hI' := hW _ _ hI
  refine st_set (T.v_ev D (oe := some e) (hf.mono hW) hO (T.v_Instruction_first (val_var rfl) hI') rfl) ?_
  dsimp only
  cases hz : Xb15.evalExp ti e with
  | none =>
    have hst : Xb15.stepInstance p s' k = some (Xb15.markFailed s') := by rw [D.step]; simp only [Gc.formO, hz, Gc.doForm]
    rw [hst] at h
    refine st_if (b := true) (ans_is (ans_of (val_isN (val_var rfl))) (by simp [evO, hz, vO])) (fun _ => ?_) (fun e => by cases e)
    exact st_retH (callS1 (val_var rfl) ⟨_, rfl, L, p, s', rfl, D.R, failed_out h⟩)
  | some z =>
    have ez : vO (evO ti (some e)) = .int z := by simp [evO, hz, vO]
    refine st_if (b := false) (ans_is (ans_of (val_isN (val_var rfl))) (by rw [ez]; rfl)) (fun e => by cases e) (fun _ => st_next ?_)
    dsimp only
    rw [ez]
    by_cases h0 : z = 0
    · have hst : Xb15.stepInstance p s' k = some (Xb15.setInstance s' k { ti with pc := g0 }) := by rw [D.step]; simp only [Gc.formO, hz, if_pos h0, Gc.doForm]
      rw [hst] at h
      obtain ⟨t, cc, hcode, hrem⟩ := D.rem
      have hg0 : g0 ≠ 0 := rem_if hcode hrem
      have hgg : g = (g0 : Int) := hg hg0
      refine st_retH (T.go D.R D.hi D.ht rfl (z := g0) (val_if (b := true) (ans_is (ans_of (val_eq (val_var rfl) val_c rfl)) (by simp [h0])) (fun _ => val_is (T.v_Instruction_goal (val_var rfl) hI') (by rw [hgg]; rfl)) (fun e => by cases e)) fun H2 k2 R2 => on_out h D.nf H2 L k2 R2)
    · have hst : Xb15.stepInstance p s' k = some (Xb15.setInstance s' k { ti with pc := ti.pc + 1 }) := by rw [D.step]; simp only [Gc.formO, hz, if_neg h0, Gc.doForm]
      rw [hst] at h
      refine st_retH (T.go D.R D.hi D.ht rfl (z := ti.pc + 1) (val_if (b := false) (ans_is (ans_of (val_eq (val_var rfl) val_c rfl)) (by simp [h0])) (fun e => by cases e) (fun _ => T.next1 rfl D.inst.1)) fun H2 k2 R2 => on_out h D.nf H2 L k2 R2)
/-- an instance has other loops and made its step -/
theorem Tx.goLoops (T : Tx K w mg) (R : RunAt K H L p s) (hi : L.is[k]? = some i) (ht : s.insts[k]? = some ti) {σ : L2.St} {Q : VK} {H2 : Hp} {loops : List Nat} {z : Nat} {tz : TE} (h1 : σ[1]? = some (some (.ref i.o))) (e : ∀ b, b ≠ i.ro → H2 b = H b) (h3 : H2 i.ro = some (.lst (loops.reverse.map iv))) (hz : Val tz σ H2 (iv z)) (q : ∀ H', Kept H L H' L → RunAt K H' L p (Xb15.setInstance s k { ti with pc := z, loops := loops }) → Q (.bl true) H') :
    tCall (goSp K) [] E0 (tCons (tVar 1) (tCons tz tNil)) σ H2 Q := by
  have hI := R.at_ hi ht
  obtain ⟨n1, n2, n3⟩ := R.in3 (List.mem_of_getElem? hi)
  have h2' : atInstance K H2 i.o i.dx (iv ti.task) (iv ti.pc) (.ref i.am) (.ref i.ro) := by
    show H2 i.o = _
    rw [e _ n2]; exact hI.1
  obtain ⟨f1, f2⟩ := R.moved hi (H2 := H2) (t := ti.task) (vars := ti.vars) (loops := loops) (z := z) (fun b hb => e b fun e => hb (by rw [e]; simp [ILay.three])) (by rw [e _ n3]; exact hI.2.1) h3
  exact callS2 (val_var h1) hz ⟨_, _, rfl, i.o, i.dx, _, _, _, _, rfl, h2', q _ f2 f1⟩
theorem Deed.near (D : Deed K H L p s k i ti o n x N) {H2 : Hp} (e : ∀ b, b ≠ i.ro → H2 b = H b) : atInstance K H2 i.o i.dx (iv ti.task) (iv ti.pc) (.ref i.am) (.ref i.ro) ∧ ∀ b u, wo H L.M b = some u → H2 b = some u := by
  obtain ⟨n1, n2, n3⟩ := D.R.in3 (List.mem_of_getElem? D.hi)
  refine ⟨by show H2 i.o = _; rw [e _ n2]; exact D.inst.1, fun b u hb => ?_⟩
  obtain ⟨q1, q2⟩ := wo_some.mp hb
  rw [e _ fun z => q1 (by rw [z]; exact RLay.inM (RLay.inI (List.mem_of_getElem? D.hi) (by simp [ILay.three])))]
  exact q2
theorem sc_do_times : FnScope ["run", "instance", "instruction"] ["run", "instance", "instruction"] (defScope s_do_times) := ⟨rfl, rfl, rfl, by decide +kernel, rfl, by decide +kernel, by decide +kernel⟩
theorem ok_do_times (T : Tx K w mg) : Df P w K mg base CX0 2 "do_times" ["run", "instance", "instruction"] (deedSp K "times") := by
  obtain ⟨fd, F⟩ := T.d_do_times
  refine ⟨fd, T.g_do_times, F.kp, (F.bindsN (ps := ["run", "instance", "instruction"]) fun _ _ _ _ _ _ us hl => match us, hl with | [_, _, _], _ => rfl), F.ok sc_do_times sp3_len (fun cdv A outer s H vs Q E hr h => ⟨_, PSs.nox ((pss_cons (ps_expr (pe_bm PySem.F.plainAttrs_list PySem.F.slot_list_append PySem.F.type_list_append mt_append (pe_fld (pv 1) rfl) (pa_cons (pe_fld (pv 2) rfl) pa_nil)))
    (pss_one (ps_ret (pe_df (ok_go_to T) (hr.mono (by decide)) pass0 (pa_cons (pv 1) (pa_cons (pe_op op_add (pe_fld (pv 1) rfl) pe_int) pa_nil))))))), ?_⟩)⟩
  obtain ⟨_, _, _, rfl, L, p, s', k, i, ti, o, n, x, N, rfl, rfl, rfl, D, hw, h⟩ := h
  obtain ⟨m, rfl⟩ := word_times hw
  obtain ⟨dx, fa, sa, g, hI, hf, hs, hg⟩ := D.ins
  have hW : Same (wo H L.M) H := wo_same _ _
  have hI' := hW _ _ hI
  have hst : Xb15.stepInstance p s' k = some (Xb15.setInstance s' k { ti with pc := ti.pc + 1, loops := m :: ti.loops }) := by rw [D.step]; simp only [Gc.formO, Gc.doForm]
  rw [hst] at h
  have hl := D.ok.loops
  refine st_append (T.v_Instance_rounds (val_var rfl) D.inst.1) (T.v_Instruction_number (val_var rfl) hI') D.inst.2.2 (by simp; omega) ?_
  dsimp only
  have e : ∀ b, b ≠ i.ro → upd H i.ro (.lst (ti.loops.reverse.map iv ++ [.int ((m : Nat) : Int)])) b = H b := fun b hb => upd_ne hb
  obtain ⟨hn, _⟩ := D.near e
  exact st_retH (T.goLoops D.R D.hi D.ht rfl (loops := m :: ti.loops) e (by rw [upd_same, List.reverse_cons, List.map_append]; rfl) (T.next1 rfl hn) fun H2 k2 R2 => on_out h D.nf H2 L k2 R2)
theorem st_pop {te : TE} {σ : L2.St} {H : Hp} {D : Ends} {a : Addr} {xs : List V} {j : Nat} {z : Int} (h1 : Val te σ H (.ref a)) (ha : H a = some (.lst (xs ++ [.int z]))) (q : D.nx (σ.set j (some (.int (z - 1)))) (upd H a (.lst xs))) : tAsg (tOp (rI0 fun i j => .int (i - j)) (tBM0 K "list" rPop te) (tC (.int 1))) (gName j) D σ H :=
  h1 _ ⟨.inl ⟨rfl, _, SqL.of ha⟩, a, _, .int z, rfl, rfl, ha, by simp, z, 1, rfl, rfl, by rw [List.dropLast_concat]; exact q⟩
theorem rem_again {code : Gc.Code} {pc c g n : Nat} {l : List Nat} (hcode : code[pc]? = some (.again g, n)) (hrem : Gc.Rem code pc l c) : ∃ m ls, l = m :: ls ∧ 1 ≤ m := by
  cases hrem with
  | over h' => rw [hcode] at h'; cases h'
  | plain h' hp r => rw [hcode] at h'; cases h'; cases hp
  | skip h' hlt r1 r2 => rw [hcode] at h'; cases h'
  | times h' r => rw [hcode] at h'; cases h'
  | more h' hm r => exact ⟨_, _, rfl, by omega⟩
  | last h' r => exact ⟨_, _, rfl, by omega⟩
theorem sc_do_again : FnScope ["run", "instance", "instruction", "left"] ["run", "instance", "instruction"] (defScope s_do_again) := ⟨rfl, rfl, rfl, by decide +kernel, rfl, by decide +kernel, by decide +kernel⟩
theorem ok_do_again (T : Tx K w mg) : Df P w K mg base CX0 2 "do_again" ["run", "instance", "instruction"] (deedSp K "again") := by
  obtain ⟨fd, F⟩ := T.d_do_again
  refine ⟨fd, T.g_do_again, F.kp, (F.bindsN (ps := ["run", "instance", "instruction"]) fun _ _ _ _ _ _ us hl => match us, hl with | [_, _, _], _ => rfl), F.ok sc_do_again sp3_len (fun cdv A outer s H vs Q E hr h => ⟨_, PSs.nox ((pss_cons (ps_set (i := 3) sc_do_again.nd rfl (.inl rfl) (pe_op op_sub (pe_bm0 PySem.F.plainAttrs_list PySem.F.slot_list_pop PySem.F.type_list_pop mt_pop (pe_fld (pv 1) rfl)) pe_int))
    (pss_cons (ps_if (pt_cmpR op_eq (pv 3) pe_int (nomark _))
      (pss_one (ps_ret (pe_df (ok_go_to T) (hr.mono (by decide)) pass0 (pa_cons (pv 1) (pa_cons (pe_op op_add (pe_fld (pv 1) rfl) pe_int) pa_nil)))))
      pss_nil)
    (pss_cons (ps_expr (pe_bm PySem.F.plainAttrs_list PySem.F.slot_list_append PySem.F.type_list_append mt_append (pe_fld (pv 1) rfl) (pa_cons (pv 3) pa_nil)))
    (pss_one (ps_ret (pe_df (ok_go_to T) (hr.mono (by decide)) pass0 (pa_cons (pv 1) (pa_cons (pe_fld (pv 2) rfl) pa_nil))))))))), ?_⟩)⟩
  obtain ⟨_, _, _, rfl, L, p, s', k, i, ti, o, n, x, N, rfl, rfl, rfl, D, hw, h⟩ := h
  obtain ⟨g0, rfl⟩ := word_again hw
  obtain ⟨dx, fa, sa, g, hI, hf, hs, hg⟩ := D.ins
  have hgg : g = (g0 : Int) := hg
  have hW : Same (wo H L.M) H := wo_same _ _
  have hI' := hW _ _ hI
  obtain ⟨t, cc, hcode, hrem⟩ := D.rem
  obtain ⟨m, ls, hls, hm⟩ := rem_again hcode hrem
  have hst0 := D.step
  simp only [Gc.formO, hls] at hst0
  have hl := D.ok.loops
  rw [hls] at hl
  have hro : H i.ro = some (.lst (ls.reverse.map iv ++ [.int (m : Int)])) := by
    rw [D.inst.2.2, hls, List.reverse_cons, List.map_append]
    rfl
  refine st_pop (T.v_Instance_rounds (val_var rfl) D.inst.1) hro ?_
  dsimp only
  have e1 : ∀ b, b ≠ i.ro → upd H i.ro (.lst (ls.reverse.map iv)) b = H b := fun b hb => upd_ne hb
  by_cases h1 : 1 < m
  · have hst : Xb15.stepInstance p s' k = some (Xb15.setInstance s' k { ti with pc := g0, loops := (m - 1) :: ls }) := by rw [hst0, if_pos h1]; rfl
    rw [hst] at h
    refine st_if (b := false) (ans_is (ans_of (val_eq (val_var rfl) val_c rfl)) (by simp; omega)) (fun e => by cases e) (fun _ => st_next ?_)
    dsimp only
    refine st_append (T.v_Instance_rounds (val_var rfl) (D.near e1).1) (val_var rfl) upd_same (by simp at hl ⊢; omega) ?_
    dsimp only
    have e2 : ∀ b, b ≠ i.ro → upd (upd H i.ro (.lst (ls.reverse.map iv))) i.ro (.lst (ls.reverse.map iv ++ [.int ((m : Int) - 1)])) b = H b := fun b hb => by rw [upd_ne hb, upd_ne hb]
    refine st_retH (T.goLoops D.R D.hi D.ht rfl (z := g0) (loops := (m - 1) :: ls) e2 ?_ (val_is (T.v_Instruction_goal (val_var rfl) ((D.near e2).2 _ _ hI)) (by rw [hgg]; rfl)) fun H2 k2 R2 => on_out h D.nf H2 L k2 R2)
    rw [upd_same, List.reverse_cons, List.map_append]
    have : ((m - 1 : Nat) : Int) = (m : Int) - 1 := by omega
    show _ = some (HO.lst (_ ++ [.int ((m - 1 : Nat) : Int)]))
    rw [this]
  · have hst : Xb15.stepInstance p s' k = some (Xb15.setInstance s' k { ti with pc := ti.pc + 1, loops := ls }) := by rw [hst0, if_neg h1]; rfl
    rw [hst] at h
    have hm1 : m = 1 := by omega
    refine st_if (b := true) (ans_is (ans_of (val_eq (val_var rfl) val_c rfl)) (by simp; omega)) (fun _ => ?_) (fun e => by cases e)
    exact st_retH (T.goLoops D.R D.hi D.ht rfl (loops := ls) e1 upd_same (T.next1 rfl (D.near e1).1) fun H2 k2 R2 => on_out h D.nf H2 L k2 R2)
theorem sc_do_start : FnScope ["run", "instance", "instruction"] ["run", "instance", "instruction"] (defScope s_do_start) := ⟨rfl, rfl, rfl, by decide +kernel, rfl, by decide +kernel, by decide +kernel⟩
theorem ok_do_start (T : Tx K w mg) : Df P w K mg base CX0 4 "do_start" ["run", "instance", "instruction"] (deedSp K "start") := by
  obtain ⟨fd, F⟩ := T.d_do_start
  refine ⟨fd, T.g_do_start, F.kp, (F.bindsN (ps := ["run", "instance", "instruction"]) fun _ _ _ _ _ _ us hl => match us, hl with | [_, _, _], _ => rfl), F.ok sc_do_start sp3_len (fun cdv A outer s H vs Q E hr h => ⟨_, PSs.nox ((pss_cons (ps_if (pt_cmpR op_eq (pe_callB call_len (by rfl) T.f_len (by decide +kernel) (pa_cons (pe_fld (pv 0) rfl) pa_nil)) (pe_gi T.c_MOST_INSTANCES) (nomark _))
      (pss_one (ps_ret (pe_df (ok_fail T) (hr.mono (by decide)) pass0 (pa_cons (pv 0) pa_nil))))
      pss_nil)
    (pss_cons (ps_expr (pe_bm PySem.F.plainAttrs_list PySem.F.slot_list_append PySem.F.type_list_append mt_append (pe_fld (pv 0) rfl) (pa_cons (pe_df (ok_new_instance T) (hr.mono (by decide)) pass0 (pa_cons (pe_fld (pv 0) rfl) (pa_cons (pe_fld (pv 2) rfl) pa_nil))) pa_nil)))
    (pss_one (ps_ret (pe_df (ok_go_to T) (hr.mono (by decide)) pass0 (pa_cons (pv 1) (pa_cons (pe_op op_add (pe_fld (pv 1) rfl) pe_int) pa_nil)))))))), ?_⟩)⟩
  obtain ⟨_, _, _, rfl, L, p, s', k, i, ti, o, n, x, N, rfl, rfl, rfl, D, hw, h⟩ := h
  obtain ⟨t, rfl⟩ := word_start hw
  obtain ⟨dx, fa, sa, g, hI, hf, hs, hg⟩ := D.ins
  have hW : Same (wo H L.M) H := wo_same _ _
  have hI' := hW _ _ hI
  obtain ⟨hO, _⟩ := D.info
  have hO : t < p.tasks.length := hO
  have hst0 := D.step
  simp only [Gc.formO, Gc.doForm] at hst0
  have hlen : Val (tCB (fun xs H Q => ∃ x n, xs = [x] ∧ LenV K x H n ∧ Q (V.int (n : Int)) H) (tCons (tFld K (tVar 0) "instances") tNil)) [some (.ref L.r), some (.ref i.o), some (.ref x)] H (.int L.is.length) := val_lenM (T.v_Run_instances (val_var rfl) D.R.rn) (SqL.of D.R.il)
  have hll := D.R.inst.len
  have hnum := D.I.num
  by_cases h40 : 40 ≤ s'.insts.length
  · have hst : Xb15.stepInstance p s' k = some (Xb15.markFailed s') := by rw [hst0]; exact congrArg some (if_pos h40)
    rw [hst] at h
    refine st_if (b := true) (ans_is (ans_of (val_eq hlen val_c rfl)) (by simp; omega)) (fun _ => ?_) (fun e => by cases e)
    exact st_retH (callS1 (val_var rfl) ⟨_, rfl, L, p, s', rfl, D.R, failed_out h⟩)
  · have hst : Xb15.stepInstance p s' k = some { s' with insts := s'.insts.set k { ti with pc := ti.pc + 1 } ++ [Xb15.newInstance t] } := by rw [hst0]; exact congrArg some (if_neg h40)
    rw [hst] at h
    refine st_if (b := false) (ans_is (ans_of (val_eq hlen val_c rfl)) (by simp; omega)) (fun e => by cases e) (fun _ => st_next ?_)
    dsimp only
    have ht : p.tasks[t]? = some p.tasks[t] := List.getElem?_eq_getElem hO
    refine st_appendH (T.v_Run_instances (val_var rfl) D.R.rn) (SqL.of D.R.il) (callS2 (T.v_Run_program (val_var rfl) D.R.rn) (T.v_Instruction_number (val_var rfl) hI') ⟨_, _, rfl, L.pa, p, t, _, rfl, rfl, D.R.pr.mono hW, ht, (D.P.task _ (List.getElem_mem hO)).vars, fun H1 j e1 hf1 hn1 hi1 => ?_⟩)
    refine ⟨L.ia, _, _, rfl, rfl, e1 _ _ D.R.il, by rw [List.length_map]; exact lineN (by omega), ?_⟩
    obtain ⟨R1, k1⟩ := D.R.more e1 hf1 hn1 hi1
    have hk := (List.getElem?_eq_some_iff.mp D.ht).1
    have hi2 : ({ L with is := L.is ++ [j] } : RLay).is[k]? = some i := by
      show (L.is ++ [j])[k]? = _
      rw [List.getElem?_append_left (by omega)]
      exact D.hi
    have ht2 : (s'.insts ++ [Xb15.newInstance t])[k]? = some ti := by
      rw [List.getElem?_append_left hk]
      exact D.ht
    dsimp only
    refine st_retH (T.go1 R1 hi2 ht2 rfl fun H2 k2 R2 => ?_)
    refine on_out h D.nf H2 _ (k1.trans k2) ?_
    have : (s'.insts ++ [Xb15.newInstance t]).set k { ti with pc := ti.pc + 1 } = s'.insts.set k { ti with pc := ti.pc + 1 } ++ [Xb15.newInstance t] := List.set_append_left _ _ hk
    rw [← this]
    exact R2
end
end GW
/-! The walk 14: steps, runs -/
namespace GW
open PySem PySem.Spec PyProof.Rows L2
open Gc (vL ShapeOk RInv ProgOk big In ExpOk AtomOk)
open Xb15 (State TaskInstance)
def deedWords : List String := ["put", "narrow", "wait", "read", "let", "if", "times", "again", "start"]
def deedR (K : PySem.W.Frag) (f : Addr) (sp : Sp) : Prop := ∃ z ∈ deedWords, f = He.ga K (Str.ofString ("do_" ++ z)) ∧ sp = deedSp K z
theorem wdS_in (o : Xb15.Instruction) : wdS o ∈ deedWords := by
  cases o <;> simp [wdS, deedWords]
/-- all runs on from s' are runs on from s -/
def Went (p : Xb15.Program) (s s' : State) : Prop := ∀ g, Gc.Ends p s' g → Gc.Ends p s g
theorem Went.refl (p : Xb15.Program) (s : State) : Went p s s := fun _ h => h
theorem Went.step {p : Xb15.Program} {s a b : State} {k : Nat} (h : Went p s a) (e : Xb15.stepInstance p a k = some b) : Went p s b := fun g r => h g (.step k e r)
theorem Went.trans {p : Xb15.Program} {s a b : State} (h : Went p s a) (h' : Went p a b) : Went p s b := fun g r => h g (h' g r)
theorem failed_stuck {p : Xb15.Program} {s : State} (h : s.failed = true) (k : Nat) : Xb15.stepInstance p s k = none := by
  rw [Gc.step_form, if_pos h]
section
variable {P : Program} {w : World} {K : PySem.W.Frag} {mg : Str → Option Value} {base : Heap}
theorem deedA (T : Tx K w mg) : ∀ f sp, deedR K f sp → ∃ y ps, f = He.ga K y ∧ Df P w K mg base CX0 4 y ps sp := by
  rintro f sp ⟨z, hz, rfl, rfl⟩
  unfold deedWords at hz
  simp only [List.mem_cons, List.not_mem_nil, or_false] at hz
  rcases hz with rfl | rfl | rfl | rfl | rfl | rfl | rfl | rfl | rfl
  · exact ⟨_, _, rfl, (ok_do_put T).up (by decide)⟩
  · exact ⟨_, _, rfl, (ok_do_narrow T).up (by decide)⟩
  · exact ⟨_, _, rfl, (ok_do_wait T).up (by decide)⟩
  · exact ⟨_, _, rfl, (ok_do_read T).up (by decide)⟩
  · exact ⟨_, _, rfl, (ok_do_let T).up (by decide)⟩
  · exact ⟨_, _, rfl, (ok_do_if T).up (by decide)⟩
  · exact ⟨_, _, rfl, (ok_do_times T).up (by decide)⟩
  · exact ⟨_, _, rfl, (ok_do_again T).up (by decide)⟩
  · exact ⟨_, _, rfl, (ok_do_start T).up (by decide)⟩
def nextSp (K : PySem.W.Frag) : Sp := sp2 fun a b H Q E => ∃ (L : RLay) (p : Xb15.Program) (s : State) (k : Nat) (i : ILay) (ti : TaskInstance), a = .ref L.r ∧ b = .ref i.o ∧ RunAt K H L p s ∧ L.is[k]? = some i ∧ s.insts[k]? = some ti ∧ ti.task < p.tasks.length ∧ (match Xb15.nextInstruction p ti with
  | none => Q .non H
  | some o => ∀ x, InsAt K (wo H L.M) (wo H L.M) x o → Q (.ref x) H)
theorem sc_next_instruction : FnScope ["run", "instance", "instructions"] ["run", "instance"] (defScope s_next_instruction) := ⟨rfl, rfl, rfl, by decide +kernel, rfl, by decide +kernel, by decide +kernel⟩
theorem ok_next_instruction (T : Tx K w mg) : Df P w K mg base CX0 1 "next_instruction" ["run", "instance"] (nextSp K) := by
  obtain ⟨fd, F⟩ := T.d_next_instruction
  refine ⟨fd, T.g_next_instruction, F.kp, (F.bindsN (ps := ["run", "instance"]) fun _ _ _ _ _ _ us hl => match us, hl with | [_, _], _ => rfl), F.ok sc_next_instruction sp2_len (fun cdv A outer s H vs Q E hr h => ⟨_, PSs.nox ((pss_cons (ps_set (i := 2) sc_next_instruction.nd rfl (.inl rfl) (pe_fld (pe_ix ix_list (pe_fld (pe_fld (pv 0) rfl) rfl) (pe_fld (pv 1) rfl) (fun _ _ => rfl)) rfl))
    (pss_one (ps_ret (pe_ifExp (pt_cmpR op_lt (pe_fld (pv 1) rfl) (pe_callB call_len (by rfl) T.f_len (by decide +kernel) (pa_cons (pv 2) pa_nil)) (nomark _)) (pe_ix ix_list (pv 2) (pe_fld (pv 1) rfl) (fun _ _ => rfl)) pe_non))))), ?_⟩)⟩
  obtain ⟨_, _, rfl, L, p, s', k, i, ti, rfl, rfl, R, hi, ht, htk, h⟩ := h
  have hI := R.at_ hi ht
  have hW : Same (wo H L.M) H := wo_same _ _
  obtain ⟨dxp, ca, ta, ga, cs, ts, hp, hca, hcs, hta, hts, hga⟩ := R.pr
  have htt : p.tasks[ti.task]? = some p.tasks[ti.task] := List.getElem?_eq_getElem htk
  obtain ⟨a, ha, dxt, sa, ia, is, h1, h2, h3, h4⟩ := hts.get htt
  refine st_set (T.v_Task_instructions (val_ixL (K := K) (T.v_Program_tasks (T.v_Run_program (val_var rfl) R.rn) (hW _ _ hp)) (T.v_Instance_task (val_var rfl) hI.1) (SqL.of (hW _ _ hta)) (atI_nat (by rw [List.getElem?_map, ha]; rfl))) (hW _ _ h1)) ?_
  dsimp only
  have hl := h4.len
  have hlt : Ans (tTest (tOp (rI0 fun i j => .bl (decide (i < j))) (tFld K (tVar 1) "place") (tCB (fun xs H Q => ∃ x n, xs = [x] ∧ LenV K x H n ∧ Q (.int (n : Int)) H) (tCons (tVar 2) tNil)))) [some (.ref L.r), some (.ref i.o), some (.ref ia)] H (decide ((ti.pc : Int) < (is.length : Int))) := ans_of (val_lt (T.v_Instance_place (val_var rfl) hI.1) (val_lenM (val_var rfl) (SqL.of (hW _ _ h3))))
  have hnx : Xb15.nextInstruction p ti = p.tasks[ti.task].code[ti.pc]? := by
    unfold Xb15.nextInstruction
    rw [htt]
    rfl
  rw [hnx] at h
  cases hc : p.tasks[ti.task].code[ti.pc]? with
  | none =>
    rw [hc] at h
    have := List.getElem?_eq_none_iff.mp hc
    exact st_ret (val_if (b := false) (ans_is hlt (by simp; omega)) (fun e => by cases e) (fun _ => val_c)) h
  | some o =>
    rw [hc] at h
    have := (List.getElem?_eq_some_iff.mp hc).1
    obtain ⟨x, hx, hins⟩ := h4.get hc
    exact st_ret (val_if (b := true) (ans_is hlt (by simp; omega)) (fun _ => val_ixL (val_var rfl) (T.v_Instance_place (val_var rfl) hI.1) (SqL.of (hW _ _ h3)) (atI_nat (by rw [List.getElem?_map, hx]; rfl))) (fun e => by cases e)) (h x hins)
def stepSp (K : PySem.W.Frag) : Sp := sp2 fun a b H Q E => ∃ (L : RLay) (p : Xb15.Program) (s : State) (k : Nat) (i : ILay) (ti : TaskInstance) (N : Nat), a = .ref L.r ∧ b = .ref i.o ∧ RunAt K H L p s ∧ ProgOk p ∧ RInv p N s ∧ L.is[k]? = some i ∧ s.insts[k]? = some ti ∧ StepOut K H L p (Xb15.stepInstance p s k) Q
theorem sc_step : FnScope ["run", "instance", "instruction", "deed"] ["run", "instance"] (defScope s_step) := ⟨rfl, rfl, rfl, by decide +kernel, rfl, by decide +kernel, by decide +kernel⟩
theorem ok_step (T : Tx K w mg) : Df P w K mg base CX0 5 "step" ["run", "instance"] (stepSp K) := by
  obtain ⟨fd, F⟩ := T.d_step
  refine ⟨fd, T.g_step, F.kp, (F.bindsN (ps := ["run", "instance"]) fun _ _ _ _ _ _ us hl => match us, hl with | [_, _], _ => rfl), F.ok sc_step sp2_len (fun cdv A outer s H vs Q E hr h => ⟨_, PSs.nox ((pss_cons (ps_set (i := 2) sc_step.nd rfl (.inl rfl) (pe_df (ok_next_instruction T) (hr.mono (by decide)) pass0 (pa_cons (pv 0) (pa_cons (pv 1) pa_nil))))
    (pss_cons (ps_if (PW.pt (pw_or (pt_val (pe_fld (pv 0) rfl)) (pw_or1 (pt_cmpR op_isN (pv 2) pe_non (nomark _)))))
      (pss_one (ps_ret pe_bl))
      pss_nil)
    (pss_cons (ps_set (i := 3) sc_step.nd rfl (.inl rfl) (pe_ix ix_kdict (pe_gr T.g_DEEDS) (pe_fld (pv 2) rfl) (fun _ _ => rfl)))
    (pss_one (ps_ret (pe_dfR (i := 3) (R := deedR K) (deedA T) (hr.mono (by decide)) rfl (.inl rfl) pass0 (pa_cons (pv 0) (pa_cons (pv 1) (pa_cons (pv 2) pa_nil)))))))))), ?_⟩)⟩
  obtain ⟨_, _, rfl, L, p, s', k, i, ti, N, rfl, rfl, R, PO, I, hi, ht, h⟩ := h
  have htk := (I.insts ti (List.mem_of_getElem? ht)).task
  have hW : Same (wo H L.M) H := wo_same _ _
  refine st_asg (callS2 (val_var rfl) (val_var rfl) ⟨_, _, rfl, L, p, s', k, i, ti, rfl, rfl, R, hi, ht, htk, ?_⟩)
  have hff : Val (tFld K (tVar 0) "has_failed") [some (.ref L.r), some (.ref i.o), none, none] H (.bl s'.failed) := T.v_Run_has_failed (val_var rfl) R.rn
  cases hn : Xb15.nextInstruction p ti with
  | none =>
    dsimp only
    have hst : Xb15.stepInstance p s' k = none := by
      rw [Gc.step_form, ht]
      dsimp only
      unfold Gc.form
      rw [hn]
      split <;> rfl
    rw [hst] at h
    refine st_if (b := true) (ans_is (ans_orB (ans_of (T.v_Run_has_failed (val_var rfl) R.rn)) (ans_of (val_isN (val_var rfl)))) (by simp)) (fun _ => st_ret val_c (h H (Same.refl H))) (fun e => by cases e)
  | some o =>
    dsimp only
    intro x hins
    cases hf : s'.failed with
    | true =>
      rw [failed_stuck hf] at h
      refine st_if (b := true) (ans_is (ans_orB (ans_of (T.v_Run_has_failed (val_var rfl) R.rn)) (ans_of (val_isN (val_var rfl)))) (by simp [hf])) (fun _ => st_ret val_c (h H (Same.refl H))) (fun e => by cases e)
    | false =>
      refine st_if (b := false) (ans_is (ans_orB (ans_of (T.v_Run_has_failed (val_var rfl) R.rn)) (ans_of (val_isN (val_var rfl)))) (by simp [hf])) (fun e => by cases e) (fun _ => st_next ?_)
      dsimp only
      obtain ⟨o, n⟩ := o
      have D : Deed K H L p s' k i ti o n x N := ⟨R, PO, I, hf, hi, ht, hn, hins⟩
      obtain ⟨dx, fa, sa, g, hI, _⟩ := hins
      have hwd : Val (tFld K (tVar 2) "word") [some (.ref L.r), some (.ref i.o), some (.ref x), none] H (.str (Str.ofString (wdS o))) := val_is (T.v_Instruction_word (val_var rfl) (hW _ _ hI)) (by rw [← word_is])
      have hd : KDct K w (He.ga K "DEEDS") (Str.ofString (wdS o)) (.ref (He.ga K (Str.ofString ("do_" ++ wdS o)))) := by
        refine kdctV (q := (Str.ofString (wdS o), .glo (Str.ofString ("do_" ++ wdS o)))) T.kd_DEEDS T.va_DEEDS ?_
        cases o with
        | put c e => exact .head _
        | narrow c a b => exact .tail _ (.head _)
        | wait t => exact .tail _ (.tail _ (.head _))
        | load v c => exact .tail _ (.tail _ (.tail _ (.head _)))
        | assign v e => exact .tail _ (.tail _ (.tail _ (.tail _ (.head _))))
        | skipIfZero e t => exact .tail _ (.tail _ (.tail _ (.tail _ (.tail _ (.head _)))))
        | times m => exact .tail _ (.tail _ (.tail _ (.tail _ (.tail _ (.tail _ (.head _))))))
        | again t => exact .tail _ (.tail _ (.tail _ (.tail _ (.tail _ (.tail _ (.tail _ (.head _)))))))
        | start t => exact .tail _ (.tail _ (.tail _ (.tail _ (.tail _ (.tail _ (.tail _ (.tail _ (.head _))))))))
      refine st_set (val_ixD hd hwd) ?_
      dsimp only
      exact st_retH (callT3 (R := deedR K) rfl ⟨wdS o, wdS_in o, rfl, rfl⟩ (val_var rfl) (val_var rfl) (val_var rfl) ⟨_, _, _, rfl, L, p, s', k, i, ti, o, n, x, N, rfl, rfl, rfl, D, rfl, h⟩)
theorem st_whileH {te : TE} {tb : TS} {D : Ends} {σ : L2.St} {H : Hp} (W : Nat → L2.St → Hp → Prop) (m0 : Nat) (h0 : W m0 σ H) (hs : ∀ m σ H, W m σ H → te σ H fun x H1 => ∃ b, x = V.bl b ∧ if b = true then ∃ N : L2.St → Hp → Prop, (∀ σ' H', N σ' H' → ∃ m', m' < m ∧ W m' σ' H') ∧ tb { nx := N, rt := D.rt, bk := D.nx, ct := N } σ H1 else D.nx σ H1) : tWhile (tTest te) tb D σ H := ⟨W, ⟨m0, h0⟩, hs⟩
/-- what the steps of one instance come to -/
def stepsSp (K : PySem.W.Frag) : Sp := sp2 fun a b H Q E => ∃ (L : RLay) (p : Xb15.Program) (s : State) (k : Nat) (i : ILay) (N : Nat), a = .ref L.r ∧ b = .ref i.o ∧ RunAt K H L p s ∧ ProgOk p ∧ RInv p N s ∧ L.is[k]? = some i ∧ ∀ H' L' s' m b, Kept H L H' L' → RunAt K H' L' p s' → RInv p m s' → Went p s s' → m ≤ N → (b = true → m < N) → (b = false → s'.failed = true ∨ (s' = s ∧ Xb15.stepInstance p s k = none)) → Q (.bl b) H'
theorem sc_steps_of : FnScope ["run", "instance", "is_moved"] ["run", "instance"] (defScope s_steps_of) := ⟨rfl, rfl, rfl, by decide +kernel, rfl, by decide +kernel, by decide +kernel⟩
theorem ok_steps_of (T : Tx K w mg) : Df P w K mg base CX0 6 "steps_of" ["run", "instance"] (stepsSp K) := by
  obtain ⟨fd, F⟩ := T.d_steps_of
  refine ⟨fd, T.g_steps_of, F.kp, (F.bindsN (ps := ["run", "instance"]) fun _ _ _ _ _ _ us hl => match us, hl with | [_, _], _ => rfl), F.ok sc_steps_of sp2_len (fun cdv A outer s H vs Q E hr h => ⟨_, PSs.nox ((pss_cons (ps_set (i := 2) sc_steps_of.nd rfl (.inl rfl) pe_bl)
    (pss_cons (ps_while PassesOwn.never (pt_val (pe_df (ok_step T) (hr.mono (by decide)) pass0 (pa_cons (pv 0) (pa_cons (pv 1) pa_nil))))
      (pss_one (ps_set (i := 2) sc_steps_of.nd rfl (.inl rfl) pe_bl)))
    (pss_one (ps_ret (pv 2)))))), ?_⟩)⟩
  obtain ⟨_, _, rfl, L, p, s', k, i, N, rfl, rfl, R, PO, I, hi, h⟩ := h
  refine st_set val_c ?_
  dsimp only
  refine L2.st_seq ?_
  dsimp only
  refine st_whileH (fun m σ H' => ∃ (b : Bool) (L' : RLay) (s2 : State), σ = [some (.ref L.r), some (.ref i.o), some (.bl b)] ∧ Kept H L H' L' ∧ RunAt K H' L' p s2 ∧ RInv p m s2 ∧ Went p s' s2 ∧ m ≤ N ∧ (b = true → m < N) ∧ (b = false → s2 = s')) N ⟨false, L, s', rfl, R.refl, R, I, Went.refl _ _, Nat.le_refl _, (fun e => by cases e), fun _ => rfl⟩ ?_
  rintro m σ H1 ⟨b, L1, s2, rfl, k1, R1, I1, w1, hm, hb1, hb2⟩
  have hi1 := k1.at_ hi
  obtain ⟨ti, ht, _⟩ := R1.inst.get' hi1
  refine callS2 (val_var rfl) (val_var rfl) ⟨_, _, rfl, L1, p, s2, k, i, ti, m, by rw [k1.r], rfl, R1, PO, I1, hi1, ht, ?_⟩
  cases hst : Xb15.stepInstance p s2 k with
  | none =>
    refine fun H2 e2 => ⟨false, rfl, ?_⟩
    rw [if_neg (by decide)]
    refine st_ret (val_var rfl) (h H2 L1 s2 m b (k1.trans (R1.same e2)) (R1.mono e2) I1 w1 hm hb1 fun e => .inr ?_)
    have := hb2 e
    subst this
    exact ⟨rfl, hst⟩
  | some s3 =>
    refine fun H2 L2 k2 R2 => ⟨_, rfl, ?_⟩
    obtain ⟨m2, hm2, I2⟩ := Gc.step_keeps PO I1 hst
    have w2 := w1.step hst
    cases hf : s3.failed with
    | true =>
      rw [if_neg (by decide)]
      exact st_ret (val_var rfl) (h H2 L2 s3 m2 b (k1.trans k2) R2 I2 w2 (by omega) (fun _ => by omega) fun _ => .inl hf)
    | false =>
      rw [if_pos (by decide)]
      refine ⟨fun σ' H' => ∃ m', m' < m ∧ ∃ (b : Bool) (L' : RLay) (s2 : State), σ' = [some (.ref L.r), some (.ref i.o), some (.bl b)] ∧ Kept H L H' L' ∧ RunAt K H' L' p s2 ∧ RInv p m' s2 ∧ Went p s' s2 ∧ m' ≤ N ∧ (b = true → m' < N) ∧ (b = false → s2 = s'), fun _ _ q => q, ?_⟩
      exact st_set val_c ⟨m2, hm2, true, L2, s3, rfl, k1.trans k2, R2, I2, w2, by omega, fun _ => by omega, fun e => by cases e⟩
end
end GW
/-! The walk 15: runs to the end -/
namespace GW
open PySem PySem.Spec PyProof.Rows L2
open Gc (vL ShapeOk RInv ProgOk big In ExpOk AtomOk)
open Xb15 (State TaskInstance)
theorem out_stuck {p : Xb15.Program} {s : State} {k : Nat} (h : s.insts.length ≤ k) : Xb15.stepInstance p s k = none := by
  rw [Gc.step_form, List.getElem?_eq_none h]
  split <;> rfl
section
variable {P : Program} {w : World} {K : PySem.W.Frag} {mg : Str → Option Value} {base : Heap}
def runSp (K : PySem.W.Frag) : Sp := sp1 fun a H Q E => ∃ (L : RLay) (p : Xb15.Program) (s : State) (N : Nat), a = .ref L.r ∧ L.ex = [] ∧ RunAt K H L p s ∧ ProgOk p ∧ RInv p N s ∧ ∀ H' L' s' m, Kept H L H' L' → RunAt K H' L' p s' → RInv p m s' → Gc.Ends p s s' → Q .non H'
theorem sc_run_on : FnScope ["run", "is_moving", "instance"] ["run"] (defScope s_run_on) := ⟨rfl, rfl, rfl, by decide +kernel, rfl, by decide +kernel, by decide +kernel⟩
theorem ok_run_on (T : Tx K w mg) : Df P w K mg base CX0 7 "run_on" ["run"] (runSp K) := by
  obtain ⟨fd, F⟩ := T.d_run_on
  refine ⟨fd, T.g_run_on, F.kp, (F.bindsN (ps := ["run"]) fun _ _ _ _ _ _ us hl => match us, hl with | [_], _ => rfl), F.ok sc_run_on sp1_len (fun cdv A outer s H vs Q E hr h => ⟨_, PSs.nox ((pss_cons (ps_set (i := 1) sc_run_on.nd rfl (.inl rfl) pe_bl)
    (pss_one (ps_while PassesOwn.never (pt_val (pv 1))
      (pss_one (ps_set (i := 1) sc_run_on.nd rfl (.inl rfl) (pe_callB (cr_any rfl) (by rfl) T.f_any (by decide +kernel) (pa_cons (pe_lc (own := [("instance", 2)]) rfl sc_run_on.nd (pi_list (pe_callTy call_list_of (by rfl) T.f_list (by decide +kernel) (pa_cons (pe_fld (pv 0) rfl) pa_nil))) (blkOk_by (N := ["run", "is_moving", "instance"]) (sc := defScope s_run_on) (by decide +kernel)) (fun _ _ _ _ _ => (pg_name (i := 2) sc_run_on.nd rfl (.inl rfl))) (fun _ _ _ _ _ => pts_nil) (fun _ _ _ _ _ => (pe_df (ok_steps_of T) (hr.mono (by decide)) pass0 (pa_cons (pv 0) (pa_cons (pv 2) pa_nil))))) pa_nil)))))))), ?_⟩)⟩
  obtain ⟨_, rfl, L, p, s', N, rfl, hex, R, PO, I, h⟩ := h
  refine st_set val_c ?_
  dsimp only
  refine st_whileH (fun m σ H' => ∃ (b : Bool) (L' : RLay) (s2 : State) (m2 : Nat), σ = [some (.ref L.r), some (.bl b), none] ∧ Kept H L H' L' ∧ RunAt K H' L' p s2 ∧ RInv p m2 s2 ∧ Went p s' s2 ∧ (b = false → ∀ k, Xb15.stepInstance p s2 k = none) ∧ 2 * m2 + (if b = true then 1 else 0) ≤ m) (2 * N + 1) ⟨true, L, s', N, rfl, R.refl, R, I, Went.refl _ _, (fun e => by cases e), Nat.le_refl _⟩ ?_
  rintro m σ H1 ⟨b, L1, s2, m2, rfl, k1, R1, I1, w1, hb, hm⟩
  refine ⟨_, rfl, b, rfl, ?_⟩
  cases b with
  | false =>
    rw [if_neg (by decide)]
    exact h H1 L1 s2 m2 k1 R1 I1 (w1 s2 (.stop s2 (hb rfl)))
  | true =>
    rw [if_pos rfl]
    refine ⟨fun σ' H' => ∃ m', m' < m ∧ ∃ (b : Bool) (L' : RLay) (s2 : State) (m2 : Nat), σ' = [some (.ref L.r), some (.bl b), none] ∧ Kept H L H' L' ∧ RunAt K H' L' p s2 ∧ RInv p m2 s2 ∧ Went p s' s2 ∧ (b = false → ∀ k, Xb15.stepInstance p s2 k = none) ∧ 2 * m2 + (if b = true then 1 else 0) ≤ m', fun _ _ q => q, ?_⟩
    have hr1 : L1.r = L.r := k1.r
    have hex1 : L1.ex = [] := k1.ex.trans hex
    have hnl : L1.is.length ≤ 40 := by rw [R1.inst.len]; exact I1.num
    have hli : Val (tFld K (tVar 0) "instances") [some (.ref L.r), some (.bl true), none] H1 (.ref L1.ia) := by rw [← hr1]; exact T.v_Run_instances (val_var rfl) R1.rn
    refine st_asg (hli _ ⟨_, _, rfl, .inl (SqL.of R1.il), fun l hl => ⟨l, rfl, ⟨_, SqL.of upd_same⟩, fun D hD => ?_⟩⟩)
    have e1 : Same H1 (upd (upd H1 l (.lst (L1.is.map fun i => V.ref i.o))) D (.lst [])) := (same_upd hl).trans (same_upd hD)
    have hDl : D ≠ l := fun e => by rw [e, upd_same] at hD; cases hD
    have hD1 : H1 D = none := by rw [upd_ne hDl] at hD; exact hD
    obtain ⟨Rb, wb⟩ := R1.build e1 hD1 ⟨_, upd_same⟩ hex1
    have hlb : wo (upd (upd H1 l (.lst (L1.is.map fun i => V.ref i.o))) D (.lst [])) ({ L1 with ex := [D] } : RLay).M l = some (.lst (L1.is.map fun i => V.ref i.o)) := by
      refine wo_some.mpr ⟨fun z => ?_, by rw [upd_ne (Ne.symm hDl), upd_same]⟩
      have z : l ∈ L1.B ++ [D] := z
      rcases List.mem_append.mp z with z | z
      · exact R1.fresh hl (RLay.inM z)
      · exact hDl (List.mem_singleton.mp z).symm
    refine lc_it (walk_list (K := K) (a := l) (xs := L1.is.map fun i => V.ref i.o)) (fun i H' => ∃ (L' : RLay) (s3 : State) (m3 : Nat) (bs : List Bool), H' D = some (.lst (bs.map V.bl)) ∧ bs.length = i ∧ L'.r = L1.r ∧ L'.ex = [D] ∧ (∃ more, L'.is = L1.is ++ more) ∧
      Same (wo (upd (upd H1 l (.lst (L1.is.map fun i => V.ref i.o))) D (.lst [])) ({ L1 with ex := [D] } : RLay).M) (wo H' L'.M) ∧ RunAt K H' L' p s3 ∧ RInv p m3 s3 ∧ Went p s2 s3 ∧ m3 ≤ m2 ∧ (bs.any id = true → m3 < m2) ∧ (bs.any id = false → s3.failed = true ∨ (s3 = s2 ∧ ∀ k, k < i → Xb15.stepInstance p s2 k = none))) ?_ ?_ ?_ ?_
    · exact ⟨{ L1 with ex := [D] }, s2, m2, [], upd_same, rfl, rfl, rfl, ⟨[], by simp⟩, Same.refl _, Rb, I1, Went.refl _ _, Nat.le_refl _, (fun e => by cases e), fun _ => .inr ⟨rfl, fun k hk => by omega⟩⟩
    · rintro i H' _ ⟨L', s3, m3, bs, hbs, hbl, hr, hex', hmore, hS, R3, I3, w3, hm3, hb1, hb2⟩
      exact SqL.of (wo_same _ _ _ _ (hS _ _ hlb))
    · rintro i x H' H'' hin ⟨L', s3, m3, bs, hbs, hbl, hr, hex', hmore, hS, R3, I3, w3, hm3, hb1, hb2⟩ ⟨rfl, hy⟩
      obtain ⟨j, hj, rfl⟩ := map_get hy
      obtain ⟨more, hmore⟩ := hmore
      have hj' : L'.is[i]? = some j := by
        rw [hmore, List.getElem?_append_left (List.getElem?_eq_some_iff.mp hj).1]
        exact hj
      have hil : i < 40 := by
        have := (List.getElem?_eq_some_iff.mp hj).1
        omega
      have hD3 : D ∈ L'.ex := by rw [hex']; simp
      refine ⟨rfl, ?_⟩
      unfold tYes
      dsimp only
      rw [if_pos rfl]
      refine callS2 (val_var rfl) (val_var rfl) ⟨_, _, rfl, L', p, s3, i, j, m3, by rw [hr, hr1], rfl, R3, PO, I3, hj', ?_⟩
      intro H4 L4 s4 m4 b4 k4 R4 I4 w4 hm4 hbt hbf
      have hDM : D ∈ L4.M := List.mem_append_right _ (by rw [k4.ex]; exact hD3)
      refine ⟨bs.map V.bl, by rw [k4.old D hD3]; exact hbs, by rw [List.length_map]; exact lineN (by omega), L4, s4, m4, bs ++ [b4], by rw [upd_same, List.map_append]; rfl, by simp [hbl], k4.r.trans hr, k4.ex.trans hex', ?_, ?_, R4.put (by rw [k4.ex]; exact hD3), I4, w3.trans w4, by omega, ?_, ?_⟩
      · obtain ⟨more', hmore'⟩ := k4.more
        exact ⟨more ++ more', by rw [hmore', hmore, List.append_assoc]⟩
      · rw [wo_upd hDM]
        exact hS.trans k4.sm
      · intro e
        rw [List.any_append] at e
        cases hb : bs.any id with
        | true => have := hb1 hb; omega
        | false =>
          rw [hb] at e
          have : b4 = true := by simpa using e
          have := hbt this
          omega
      · intro e
        rw [List.any_append, Bool.or_eq_false_iff] at e
        have e4 : b4 = false := by simpa using e.2
        rcases hb2 e.1 with hf | ⟨rfl, hk⟩
        · rcases hbf e4 with hf4 | ⟨rfl, _⟩
          · exact .inl hf4
          · exact .inl hf
        · rcases hbf e4 with hf4 | ⟨rfl, hk4⟩
          · exact .inl hf4
          · refine .inr ⟨rfl, fun k hk' => ?_⟩
            by_cases e : k = i
            · subst e; exact hk4
            · exact hk k (by omega)
    · rintro H' ⟨L', s3, m3, bs, hbs, hbl, hr, hex', hmore, hS, R3, I3, w3, hm3, hb1, hb2⟩
      refine ⟨D, bs, rfl, SqL.of hbs, ?_⟩
      dsimp only
      obtain ⟨Rf, wf⟩ := R3.built (x := D)
      have hk : Kept H1 L1 H' { L' with ex := [] } := ⟨hr, hex1.symm, wb.trans (hS.trans wf), (fun a ha => by rw [hex1] at ha; cases ha), hmore⟩
      refine ⟨2 * m3 + (if bs.any id = true then 1 else 0), ?_, bs.any id, { L' with ex := [] }, s3, m3, rfl, k1.trans hk, Rf, I3, w1.trans w3, fun e => ?_, Nat.le_refl _⟩
      · rw [if_pos rfl] at hm
        cases hb : bs.any id with
        | true => have := hb1 hb; rw [if_pos rfl]; omega
        | false => rw [if_neg (by decide)]; omega
      · intro k
        rcases hb2 e with hf | ⟨rfl, hk⟩
        · exact failed_stuck hf k
        · by_cases hkl : k < L1.is.length
          · exact hk k (by rw [List.length_map]; exact hkl)
          · exact out_stuck (by have := R1.inst.len; omega)
end
end GW
/-! The walk 16: candidates, runs begun and evaluated -/
namespace GW
open PySem PySem.Spec PyProof.Rows L2
open Gc (vL ShapeOk RInv ProgOk big In ExpOk AtomOk CandOk)
open Xb15 (State TaskInstance)
def candC : Xb16.Candidate → Nat
  | .put c _ => c
  | .narrow c _ _ => c
def candN : Xb16.Candidate → List Int
  | .put _ z => [z]
  | .narrow _ a b => [a, b]
def CandAt (H : Hp) (a : Addr) (g : Xb16.Candidate) : Prop := ∃ n, H a = some (.tup [iv (candC g), .ref n]) ∧ H n = some (.tup ((candN g).map V.int))
theorem CandAt.mono {H H' : Hp} {a : Addr} {g : Xb16.Candidate} (h : CandAt H a g) (e : Same H H') : CandAt H' a g := let ⟨n, h1, h2⟩ := h; ⟨n, e _ _ h1, e _ _ h2⟩
theorem Same.wo_of {F H' : Hp} {M : List Addr} (e : Same F H') (hM : ∀ b ∈ M, F b = none) : Same F (wo H' M) := fun b o hb => wo_some.mpr ⟨(fun z => by rw [hM b z] at hb; cases hb), e _ _ hb⟩
theorem All2.take1 {α β : Type} {R : α → β → Prop} {l : List α} {m : List β} {i : Nat} {a : α} {b : β} (h : All2 R l (m.take i)) (hb : m[i]? = some b) (r : R a b) : All2 R (l ++ [a]) (m.take (i + 1)) := by
  rw [List.take_succ, hb]
  exact h.snoc r
/-- a comprehension over a list, all kept; its element may change the heap -/
theorem lcH {K : PySem.W.Frag} {σ : L2.St} {H : Hp} {ta te : TE} {g : TG} {vs : List Nat} {Q : VK} {a : Addr} {xs : List V} (h1 : Val ta σ H (.ref a)) (hS : SqL K H a xs) (Pv : Addr → Nat → Hp → Prop) (h0 : ∀ D, H D = none → Pv D 0 (upd H D (.lst []))) (hk : ∀ D i H', i ≤ xs.length → Pv D i H' → SqL K H' a xs)
    (hs : ∀ D i x H', xs[i]? = some x → H D = none → Pv D i H' → g x (wipe σ vs) H' fun σ2 H2 => wipe σ2 vs = wipe σ vs ∧ te σ2 H2 fun y H4 => ∃ acc, H4 D = some (.lst acc) ∧ acc.length < sizeLine ∧ Pv D (i + 1) (upd H4 D (.lst (acc ++ [y]))))
    (hd : ∀ D H', H D = none → Pv D xs.length H' → Q (.ref D) H') : tLc (iList K ta) g tYes te vs σ H Q :=
  h1 _ ⟨a, rfl, ⟨_, hS⟩, fun D hD => lc_it (walk_list (K := K) (a := a) (xs := xs)) (Pv D) (h0 D hD) (hk D) (fun i x H1 H2 _ q y => by
    obtain ⟨rfl, hy⟩ := y
    have e : (fun (σ2 : L2.St) (H2 : Hp) => wipe σ2 vs = wipe σ vs ∧ tYes σ2 H2 fun b H3 => if b = true then te σ2 H3 fun y H4 => ∃ acc, H4 D = some (.lst acc) ∧ acc.length < sizeLine ∧ Pv D (i + 1) (upd H4 D (.lst (acc ++ [y]))) else Pv D (i + 1) H3) = fun σ2 H2 => wipe σ2 vs = wipe σ vs ∧ te σ2 H2 fun y H4 => ∃ acc, H4 D = some (.lst acc) ∧ acc.length < sizeLine ∧ Pv D (i + 1) (upd H4 D (.lst (acc ++ [y]))) := by
      funext σ2 H2
      unfold tYes
      dsimp only
      rw [if_pos rfl]
    rw [e]
    exact hs D i x H2 hy hD q) (fun H' q => hd D H' hD q)⟩
section
variable {P : Program} {w : World} {K : PySem.W.Frag} {mg : Str → Option Value} {base : Heap}
def offerSp (K : PySem.W.Frag) : Sp := sp2 fun a b H Q E => ∃ (L : RLay) (p : Xb15.Program) (s : State) (g : Xb16.Candidate) (N : Nat) (ga : Addr), a = .ref L.r ∧ b = .ref ga ∧ RunAt K H L p s ∧ RInv p N s ∧ CandAt H ga g ∧ CandOk p g ∧ ∀ H' L', Kept H L H' L' → RunAt K H' L' p (Xb16.applyCandidate p s g) → Q .non H'
theorem sc_offer_in : FnScope ["run", "offer", "cell", "numbers"] ["run", "offer"] (defScope s_offer_in) := ⟨rfl, rfl, rfl, by decide +kernel, rfl, by decide +kernel, by decide +kernel⟩
theorem ok_offer_in (T : Tx K w mg) : Df P w K mg base CX0 4 "offer_in" ["run", "offer"] (offerSp K) := by
  obtain ⟨fd, F⟩ := T.d_offer_in
  refine ⟨fd, T.g_offer_in, F.kp, (F.bindsN (ps := ["run", "offer"]) fun _ _ _ _ _ _ us hl => match us, hl with | [_, _], _ => rfl), F.ok sc_offer_in sp2_len (fun cdv A outer s H vs Q E hr h => ⟨_, PSs.nox ((pss_cons (ps_asg (pv 1) (pg_tup (n := 2) rfl (pgs_cons (pg_name (i := 2) sc_offer_in.nd rfl (.inl rfl)) (pgs_cons (pg_name (i := 3) sc_offer_in.nd rfl (.inl rfl)) pgs_nil))))
    (pss_one (ps_if (pt_not (pt_val (pe_fld (pv 0) rfl)))
      (pss_one (ps_if (pt_cmpR op_eq (pe_callB call_len (by rfl) T.f_len (by decide +kernel) (pa_cons (pv 3) pa_nil)) pe_int (nomark _))
      (pss_one (ps_expr (pe_df (ok_put_in T) (hr.mono (by decide)) pass0 (pa_cons (pv 0) (pa_cons (pv 2) (pa_cons (pe_ix ix_tup (pv 3) pe_int (fun _ _ => rfl)) pa_nil))))))
      (pss_one (ps_expr (pe_df (ok_narrow T) (hr.mono (by decide)) pass0 (pa_cons (pv 0) (pa_cons (pv 2) (pa_cons (pe_ix ix_tup (pv 3) pe_int (fun _ _ => rfl)) (pa_cons (pe_ix ix_tup (pv 3) pe_int (fun _ _ => rfl)) pa_nil)))))))))
      pss_nil)))), ?_⟩)⟩
  obtain ⟨_, _, rfl, L, p, s', g, N, ga, rfl, rfl, R, I, ⟨nt, hg, hn⟩, hok, h⟩ := h
  refine ⟨_, rfl, ga, _, rfl, .inl (.inl hg), rfl, _, _, rfl, _, _, rfl, rfl, ?_⟩
  dsimp only
  unfold Xb16.applyCandidate at h
  cases hf : s'.failed with
  | true =>
    rw [if_pos hf] at h
    exact st_if (b := false) (ans_is (ans_not (ans_of (T.v_Run_has_failed (val_var rfl) R.rn))) (by rw [hf]; rfl)) (fun e => by cases e) (fun _ => st_next (h H L R.refl R))
  | false =>
    rw [if_neg (by rw [hf]; decide)] at h
    refine st_if (b := true) (ans_is (ans_not (ans_of (T.v_Run_has_failed (val_var rfl) R.rn))) (by rw [hf]; rfl)) (fun _ => ?_) (fun e => by cases e)
    have hlen : Val (tCB (fun xs H Q => ∃ x n, xs = [x] ∧ LenV K x H n ∧ Q (V.int (n : Int)) H) (tCons (tVar 3) tNil)) [some (.ref L.r), some (.ref ga), some (iv (candC g)), some (.ref nt)] H (.int (((candN g).map V.int).length : Int)) := val_lenT (val_var rfl) (.inl (.inl hn))
    have e0 : ∀ {j : Nat} {z : Int}, (candN g)[j]? = some z → Val (tOp (rIxT K) (tVar 3) (tC (.int (j : Int)))) [some (.ref L.r), some (.ref ga), some (iv (candC g)), some (.ref nt)] H (.int z) := fun hz => val_ixT (val_var rfl) val_c (.inl (.inl hn)) (atI_nat (by rw [List.getElem?_map, hz]; rfl))
    cases g with
    | put c z =>
      obtain ⟨hc, hr, hz⟩ := hok
      dsimp only at h
      refine st_if (b := true) (ans_is (ans_of (val_eq hlen val_c rfl)) rfl) (fun _ => ?_) (fun e => by cases e)
      refine st_expr (callS3 (val_var rfl) (val_var rfl) (e0 (j := 0) rfl) ⟨_, _, _, rfl, L, p, s', c, z, N, rfl, rfl, rfl, R, I, hc, hr, ?_⟩)
      unfold CellOut
      cases hj : Xb15.joinValue (Xb15.cellKind p c) (Xb15.cellValue s' c) z with
      | none => rw [hj] at h; exact fun H1 k1 R1 => h H1 L k1 R1
      | some v => rw [hj] at h; exact fun H1 L1 k1 _ R1 => h H1 L1 k1 R1
    | narrow c x y =>
      obtain ⟨hc, hr, hx, hy⟩ := hok
      dsimp only at h
      refine st_if (b := false) (ans_is (ans_of (val_eq hlen val_c rfl)) rfl) (fun e => by cases e) (fun _ => ?_)
      refine st_expr (callS4 (val_var rfl) (val_var rfl) (e0 (j := 0) rfl) (e0 (j := 1) rfl) ⟨_, _, _, _, rfl, L, p, s', c, x, y, N, rfl, rfl, rfl, rfl, R, I, hc, hr, ?_⟩)
      unfold CellOut
      cases hj : Xb15.narrowValue (Xb15.cellValue s' c) x y with
      | none => rw [hj] at h; exact fun H1 k1 R1 => h H1 L k1 R1
      | some v => rw [hj] at h; exact fun H1 L1 k1 _ R1 => h H1 L1 k1 R1
def runISp (K : PySem.W.Frag) : Sp := sp2 fun a b H Q E => ∃ (x dx pa : Addr) (p : Xb15.Program) (F : Hp), a = .ref x ∧ b = .ref pa ∧ H x = some (.ins (He.ga K "Run") dx []) ∧ ProgAt K F pa p ∧ ProgOk p ∧ Same F H ∧ F x = none ∧ ∀ H' L, L.r = x → L.ex = [] → Same F H' → (∀ b ∈ L.M, F b = none) → RunAt K H' L p (Xb15.initialState p) → Q .non H'
theorem sc_Run_init : FnScope ["self", "program", "cell", "task"] ["self", "program"] (defScope s_Run_init) := ⟨rfl, rfl, rfl, by decide +kernel, rfl, by decide +kernel, by decide +kernel⟩
theorem ok_Run_init (T : Tx K w mg) : Dm P w K mg base CX0 4 (He.ma K (He.ga K "Run") "__init__") ["self", "program"] (runISp K) := by
  obtain ⟨fd, F⟩ := T.d_Run_init
  refine ⟨fd, (F.bindsN (ps := ["self", "program"]) fun _ _ _ _ _ _ us hl => match us, hl with | [_, _], _ => rfl), F.ok sc_Run_init sp2_len (fun cdv A outer s H vs Q E hr h => ⟨_, PSs.nox ((pss_cons (ps_fld (pv 0) (pv 1) rfl)
    (pss_cons (ps_fld (pv 0) (pe_lc (own := [("cell", 2)]) rfl sc_Run_init.nd (pi_list (pe_fld (pv 1) rfl)) (blkOk_by (N := ["self", "program", "cell", "task"]) (sc := defScope s_Run_init) (by decide +kernel)) (fun _ _ _ _ _ => (pg_name (i := 2) sc_Run_init.nd rfl (.inl rfl))) (fun _ _ _ _ _ => pts_nil) (fun _ _ _ _ _ => (pe_df (ok_first_state T) (hr.mono (by decide)) pass0 (pa_cons (pv 2) pa_nil)))) rfl)
    (pss_cons (ps_fld (pv 0) (pe_lc (own := [("task", 3)]) rfl sc_Run_init.nd (pi_list (pe_fld (pv 1) rfl)) (blkOk_by (N := ["self", "program", "cell", "task"]) (sc := defScope s_Run_init) (by decide +kernel)) (fun _ _ _ _ _ => (pg_name (i := 3) sc_Run_init.nd rfl (.inl rfl))) (fun _ _ _ _ _ => pts_nil) (fun _ _ _ _ _ => (pe_df (ok_new_instance T) (hr.mono (by decide)) pass0 (pa_cons (pv 1) (pa_cons (pv 3) pa_nil))))) rfl)
    (pss_one (ps_fld (pv 0) pe_bl rfl)))))), ?_⟩)⟩
  obtain ⟨_, _, rfl, x, dx, pa, p, F', rfl, rfl, hx, hpr, PO, hF, hFx, h⟩ := h
  have hpr0 := hpr
  obtain ⟨dxp, ca, ta, ga, cs, ts, hp, hca, hcs, hta, hts, hga⟩ := hpr
  refine fld0 T.k_Run T.n_Run_program rfl (val_var rfl) hx (by show 0 < 1000; decide) in_Run_0 ?_
  dsimp only
  have hFu : Same F' (upd H x (.ins (He.ga K "Run") dx [("program", .ref pa)])) := fun b o hb => by
    rw [upd_ne (ne_of_none hb hFx)]
    exact hF _ _ hb
  generalize hG : upd H x (.ins (He.ga K "Run") dx [("program", .ref pa)]) = G at *
  have hGx : G x = some (.ins (He.ga K "Run") dx [("program", .ref pa)]) := by rw [← hG]; exact upd_same
  have hcl := PO.cells
  have hgl := PO.goes
  have hDxA : ∀ D, G D = none → D ≠ x := fun D hD e => by rw [e, hGx] at hD; cases hD
  refine st_fldH (lcH (T.v_Program_cells (val_var rfl) (hFu _ _ hp)) (SqL.of (hFu _ _ hca)) (fun D i H' => ∃ ss : List Addr, H' D = some (.lst (ss.map V.ref)) ∧ ss.length = i ∧ H' x = some (.ins (He.ga K "Run") dx [("program", .ref pa)]) ∧ Same F' H' ∧ All2 (fun a c => F' a = none ∧ a ≠ x ∧ a ≠ D ∧ H' a = some (.lst ((vL (Xb15.initialValue c.kind)).map V.int))) ss (p.cells.take i)) ?_ ?_ ?_ ?_)
  · exact fun D hD => ⟨[], upd_same, rfl, by rw [upd_ne (Ne.symm (hDxA D hD))]; exact hGx, hFu.trans (same_upd hD), All2.nil⟩
  · rintro D i H' _ ⟨ss, _, _, _, hS, _⟩
    exact SqL.of (hS _ _ hca)
  · rintro D i y H'' hy hD ⟨ss, h1, h2, h3, hS, h5⟩
    have hDx := hDxA D hD
    have hDF : F' D = none := hFu.free hD
    obtain ⟨cx, hcx, rfl⟩ := map_get hy
    obtain ⟨cl, hcl', hcell⟩ := hcs.get' hcx
    have hi10 : i < 10 := by
      have := (List.getElem?_eq_some_iff.mp hcl').1
      omega
    refine ⟨rfl, ?_⟩
    refine callS1 (val_var rfl) ⟨_, rfl, cx, cl, rfl, hcell.mono hS, fun H4 q e4 hq => ?_⟩
    obtain ⟨q1, q2⟩ := nw_some.mp hq
    refine ⟨ss.map V.ref, e4 _ _ h1, by rw [List.length_map]; exact lineN (by omega), ss ++ [q], by rw [upd_same, List.map_append]; rfl, by simp [h2], by rw [upd_ne (Ne.symm hDx)]; exact e4 _ _ h3, ?_, ?_⟩
    · exact fun b o hb => by
        rw [upd_ne (ne_of_none hb hDF)]
        exact e4 _ _ (hS _ _ hb)
    · have hqD : q ≠ D := fun e => by rw [e, h1] at q1; cases q1
      refine All2.take1 (h5.mono fun a c _ z => ⟨z.1, z.2.1, z.2.2.1, by rw [upd_ne z.2.2.1]; exact e4 _ _ z.2.2.2⟩) hcl' ⟨hS.free q1, (fun e => by rw [e, h3] at q1; cases q1), hqD, by rw [upd_ne hqD]; exact q2⟩
  rintro D H1 hD ⟨ss, h1, _, h3, hS, h5⟩
  have hDx := hDxA D hD
  have hDF : F' D = none := hFu.free hD
  rw [List.length_map, hcs.len, List.take_length] at h5
  refine fldTo T.k_Run T.n_Run_states rfl h3 in_Run_1 (by show 1 < 1000; decide) ?_
  dsimp only
  have hS2 : Same F' (upd H1 x (.ins (He.ga K "Run") dx [("program", .ref pa), ("states", .ref D)])) := fun b o hb => by
    rw [upd_ne (ne_of_none hb hFx)]
    exact hS _ _ hb
  have hD2 : upd H1 x (.ins (He.ga K "Run") dx [("program", .ref pa), ("states", .ref D)]) D = some (.lst (ss.map V.ref)) := by rw [upd_ne hDx]; exact h1
  have h52 : All2 (fun a c => F' a = none ∧ a ≠ x ∧ a ≠ D ∧ upd H1 x (.ins (He.ga K "Run") dx [("program", .ref pa), ("states", .ref D)]) a = some (.lst ((vL (Xb15.initialValue c.kind)).map V.int))) ss p.cells := h5.mono fun a c _ z => ⟨z.1, z.2.1, z.2.2.1, by rw [upd_ne z.2.1]; exact z.2.2.2⟩
  have hG2x : upd H1 x (.ins (He.ga K "Run") dx [("program", .ref pa), ("states", .ref D)]) x = some (.ins (He.ga K "Run") dx [("program", .ref pa), ("states", .ref D)]) := upd_same
  generalize upd H1 x (.ins (He.ga K "Run") dx [("program", .ref pa), ("states", .ref D)]) = G2 at hS2 hD2 h52 hG2x ⊢
  refine st_fldH (lcH (T.v_Program_goes (val_var rfl) (hS2 _ _ hp)) (SqL.of (hS2 _ _ hga)) (fun D2 i H' => ∃ is : List ILay, H' D2 = some (.lst (is.map fun j => V.ref j.o)) ∧ is.length = i ∧ Same G2 H' ∧ (is.flatMap ILay.three).Nodup ∧ (∀ b ∈ is.flatMap ILay.three, G2 b = none ∧ b ≠ D2) ∧ All2 (InstAt K H' p) is ((p.goes.take i).map Xb15.newInstance)) ?_ ?_ ?_ ?_)
  · exact fun D2 hD2n => ⟨[], upd_same, rfl, same_upd hD2n, by simp, by simp, All2.nil⟩
  · rintro D2 i H' _ ⟨is, _, _, hSx, _⟩
    exact SqL.of (hSx _ _ (hS2 _ _ hga))
  · rintro D2 i y H'' hy hD2n ⟨is, i1, i2, hSx, i4, i5, i6⟩
    obtain ⟨t, ht, rfl⟩ := map_get hy
    have hi12 : i < 12 := by
      have := (List.getElem?_eq_some_iff.mp ht).1
      omega
    have htk := PO.goOk t (List.mem_of_getElem? ht)
    have htt : p.tasks[t]? = some p.tasks[t] := List.getElem?_eq_getElem htk
    refine ⟨rfl, ?_⟩
    refine callS2 (val_var rfl) (val_var rfl) ⟨_, _, rfl, pa, p, t, _, rfl, rfl, hpr0.mono (hS2.trans hSx), htt, (PO.task _ (List.getElem_mem htk)).vars, fun H4 j e4 hf4 hn4 hi4 => ?_⟩
    have hDj : ∀ b ∈ j.three, b ≠ D2 := fun b hb e => by
      have := hf4 b hb
      rw [e, i1] at this
      cases this
    have hDi : ∀ b ∈ is.flatMap ILay.three, b ≠ D2 := fun b hb => (i5 b hb).2
    refine ⟨_, e4 _ _ i1, by rw [List.length_map]; exact lineN (by omega), is ++ [j], by rw [upd_same, List.map_append]; rfl, by simp [i2], ?_, ?_, ?_, ?_⟩
    · exact fun b o hb => by
        rw [upd_ne (ne_of_none hb hD2n)]
        exact e4 _ _ (hSx _ _ hb)
    · rw [List.flatMap_append, List.nodup_append]
      refine ⟨i4, by simpa using hn4, fun a ha b hb e => ?_⟩
      have hb : b ∈ j.three := by simpa using hb
      subst e
      obtain ⟨k, hk, ha2⟩ := List.mem_flatMap.mp ha
      obtain ⟨m, hm⟩ := List.mem_iff_getElem?.mp hk
      obtain ⟨tm, _, z1, z2, z3⟩ := i6.get' hm
      have hfa := hf4 a hb
      simp only [ILay.three, List.mem_cons, List.not_mem_nil, or_false] at ha2
      rcases ha2 with rfl | rfl | rfl
      · rw [z1] at hfa; cases hfa
      · rw [z2] at hfa; cases hfa
      · rw [z3] at hfa; cases hfa
    · intro b hb
      rw [List.flatMap_append] at hb
      rcases List.mem_append.mp hb with hb | hb
      · exact i5 b hb
      · have hb : b ∈ j.three := by simpa using hb
        exact ⟨hSx.free (hf4 b hb), hDj b hb⟩
    · have : (p.goes.take (i + 1)).map Xb15.newInstance = (p.goes.take i).map Xb15.newInstance ++ [Xb15.newInstance t] := by
        rw [List.take_succ, ht, List.map_append]
        rfl
      rw [this]
      refine All2.snoc (i6.mono fun a b hm z => z.mono fun c hc o ho => ?_) (hi4.mono fun c hc o ho => ?_)
      · rw [upd_ne (hDi c (List.mem_flatMap.mpr ⟨a, hm, hc⟩))]
        exact e4 _ _ ho
      · rw [upd_ne (hDj c hc)]
        exact ho
  rintro D2 H3 hD2n ⟨is, i1, _, hSx, i4, i5, i6⟩
  have hD2F : F' D2 = none := hS2.free hD2n
  have hD2x : D2 ≠ x := fun e => by rw [e, hG2x] at hD2n; cases hD2n
  have hD2D : D2 ≠ D := fun e => by rw [e, hD2] at hD2n; cases hD2n
  rw [List.length_map, List.take_length] at i6
  have hG3x := hSx _ _ hG2x
  refine fldTo T.k_Run T.n_Run_instances rfl hG3x in_Run_2 (by show 2 < 1000; decide) ?_
  dsimp only
  refine fld0 T.k_Run T.n_Run_has_failed rfl val_c upd_same (by show 3 < 1000; decide) in_Run_3 ?_
  dsimp only
  have hfin : ∀ {b : Addr} {o o2 : HO}, b ≠ x → upd (upd H3 x o) x o2 b = H3 b := fun hb => by rw [upd_ne hb, upd_ne hb]
  have hx3 : ∀ b ∈ is.flatMap ILay.three, b ≠ x ∧ b ≠ D ∧ b ≠ D2 := fun b hb => by
    obtain ⟨z1, z2⟩ := i5 b hb
    exact ⟨(fun e => by rw [e, hG2x] at z1; cases z1), (fun e => by rw [e, hD2] at z1; cases z1), z2⟩
  have hS4 : Same F' H3 := hS2.trans hSx
  have hM : ∀ b ∈ ({ r := x, dxr := dx, pa := pa, sa := D, ia := D2, ss := ss, is := is } : RLay).M, F' b = none := fun b hb => by
    have hb : b ∈ ([x, D, D2] ++ is.flatMap ILay.three) ++ [] := hb
    rw [List.append_nil] at hb
    rcases List.mem_append.mp hb with hb | hb
    · simp only [List.mem_cons, List.not_mem_nil, or_false] at hb
      rcases hb with rfl | rfl | rfl
      · exact hFx
      · exact hDF
      · exact hD2F
    · exact hS2.free (i5 b hb).1
  have hSf : ∀ {o o2 : HO}, Same F' (upd (upd H3 x o) x o2) := fun {o o2} b u hb => by
    rw [hfin (ne_of_none hb hFx)]
    exact hS4 _ _ hb
  refine h _ { r := x, dxr := dx, pa := pa, sa := D, ia := D2, ss := ss, is := is } rfl rfl hSf hM ⟨?_, (fun a ha => by cases ha), upd_same, hpr0.mono (Same.wo_of hSf hM), ?_, ?_, ?_, ?_⟩
  · show ([x, D, D2] ++ is.flatMap ILay.three).Nodup
    rw [List.nodup_append]
    refine ⟨by simp [Ne.symm hDx, Ne.symm hD2x, Ne.symm hD2D], i4, fun a ha b hb e => ?_⟩
    obtain ⟨z1, z2, z3⟩ := hx3 b hb
    simp only [List.mem_cons, List.not_mem_nil, or_false] at ha
    rcases ha with rfl | rfl | rfl
    · exact z1 e.symm
    · exact z2 e.symm
    · exact z3 e.symm
  · show upd (upd H3 x _) x _ D = _
    rw [hfin hDx]
    exact hSx _ _ hD2
  · show All2 _ ss (p.cells.map fun c => Xb15.initialValue c.kind)
    refine ⟨by rw [List.length_map]; exact h52.len, fun i a b z1 z2 => ?_⟩
    rw [List.getElem?_map] at z2
    cases hc : p.cells[i]? with
    | none => rw [hc] at z2; cases z2
    | some c =>
      rw [hc] at z2
      cases z2
      obtain ⟨q1, q2, q3, q4⟩ := h52.at_ i a c z1 hc
      refine wo_some.mpr ⟨fun hb => ?_, by rw [hfin q2]; exact hSx _ _ q4⟩
      have hb : a ∈ ([x, D, D2] ++ is.flatMap ILay.three) ++ [] := hb
      rw [List.append_nil] at hb
      rcases List.mem_append.mp hb with hb | hb
      · simp only [List.mem_cons, List.not_mem_nil, or_false] at hb
        rcases hb with rfl | rfl | rfl
        · exact q2 rfl
        · exact q3 rfl
        · rw [hD2n] at q4; cases q4
      · rw [(i5 a hb).1] at q4
        cases q4
  · show upd (upd H3 x _) x _ D2 = _
    rw [hfin hD2x]
    exact i1
  · refine i6.mono fun a b hm z => z.mono fun c hc o ho => ?_
    rw [hfin (hx3 c (List.mem_flatMap.mpr ⟨a, hm, hc⟩)).1]
    exact ho
end
end GW
/-! The walk 17: selections evaluated, outcomes -/
namespace GW
open PySem PySem.Spec PyProof.Rows L2
open Gc (vL ShapeOk RInv ProgOk big In ExpOk AtomOk CandOk)
open Xb15 (State TaskInstance)
section
variable {σ : L2.St} {H : Hp} {ta : TE} {g : TG} {ts : TS} {D : Ends} {K : PySem.W.Frag} {a : Addr} {xs : List V}
theorem st_forT (Pv : Nat → L2.St → Hp → Prop) (h1 : Val ta σ H (.ref a)) (hS : SqT K H a xs) (h0 : Pv 0 σ H) (hk : ∀ (i : Nat) (σ : L2.St) (H : Hp), i ≤ xs.length → Pv i σ H → SqT K H a xs)
    (hs : ∀ (i : Nat) (x : V) (σ : L2.St) (H : Hp), xs[i]? = some x → Pv i σ H → g x σ H fun σ2 H2 => ts { nx := Pv (i + 1), rt := D.rt, bk := D.nx, ct := Pv (i + 1) } σ2 H2)
    (he : ∀ (σ : L2.St) (H : Hp), Pv xs.length σ H → D.nx σ H) : tFor (iTup K ta) g ts D σ H := h1 _ ⟨a, rfl, ⟨xs, hS⟩, for_tup (K := K) (a := a) (xs := xs) Pv h0 hk hs he⟩
end
/-- the state behind some of a selection's candidates -/
def upTo (p : Xb15.Program) (cands : List Xb16.Candidate) (sel : List Nat) : State := (sel.filterMap fun i => cands[i]?).foldl (Xb16.applyCandidate p) (Xb15.initialState p)
theorem upTo_succ {p : Xb15.Program} {cands : List Xb16.Candidate} {sel : List Nat} {i n : Nat} {g : Xb16.Candidate} (h1 : sel[i]? = some n) (h2 : cands[n]? = some g) : upTo p cands (sel.take (i + 1)) = Xb16.applyCandidate p (upTo p cands (sel.take i)) g := by
  unfold upTo
  rw [List.take_succ, h1, List.filterMap_append, List.foldl_append]
  simp [h2]
theorem upTo_ok {p : Xb15.Program} (PO : ProgOk p) {cands : List Xb16.Candidate} (hc : ∀ g ∈ cands, CandOk p g) (sel : List Nat) : RInv p 40041 (upTo p cands sel) := Gc.cands_ok (Gc.init_ok PO) fun g hg => by
  obtain ⟨i, _, hi⟩ := List.mem_filterMap.mp hg
  exact hc g (List.mem_of_getElem? hi)
theorem upTo_sim {p : Xb15.Program} (PO : ProgOk p) {cands : List Xb16.Candidate} (hc : ∀ g ∈ cands, CandOk p g) {sel : List Nat} {s : State} (h : Gc.Ends p (upTo p cands sel) s) : Gc.Sim s (Xb16.finalState ⟨p, cands⟩ sel) := by
  obtain ⟨R, E⟩ := Gc.final_ends PO cands hc sel
  exact Gc.confluent PO.runs.kinds (Gc.meas_falls PO.runs) _ _ _ _ _ R.meas (Gc.Sim.refl _) h E
section
variable {P : Program} {w : World} {K : PySem.W.Frag} {mg : Str → Option Value} {base : Heap}
/-- what an evaluation is asked and gives -/
structure EvAsk (K : PySem.W.Frag) (H : Hp) (pa oa : Addr) (p : Xb15.Program) (as : List Addr) (cands : List Xb16.Candidate) (sel : List Nat) : Prop where
  pr : ProgAt K H pa p
  ok : ProgOk p
  ol : H oa = some (.lst (as.map V.ref))
  cs : All2 (CandAt H) as cands
  cok : ∀ g ∈ cands, CandOk p g
  sel : ∀ n ∈ sel, n < cands.length
def EvOut (K : PySem.W.Frag) (H : Hp) (p : Xb15.Program) (cands : List Xb16.Candidate) (sel : List Nat) (Q : VK) : Prop := ∀ (H' : Hp) (L : RLay) (s' : State) (m : Nat), Same H H' → L.ex = [] → RunAt K H' L p s' → RInv p m s' → Gc.Sim s' (Xb16.finalState ⟨p, cands⟩ sel) → Q (.ref L.r) H'
/-- the invariant of the loop over a selection -/
def EvInv (K : PySem.W.Frag) (H1 : Hp) (L1 : RLay) (pa oa sa : Addr) (p : Xb15.Program) (cands : List Xb16.Candidate) (sel : List Nat) (i : Nat) (σ : L2.St) (H' : Hp) : Prop := ∃ (v : Option V) (L' : RLay), σ = [some (.ref pa), some (.ref oa), some (.ref sa), some (.ref L1.r), v] ∧ Kept H1 L1 H' L' ∧ RunAt K H' L' p (upTo p cands (sel.take i))
theorem EvInv.old {H H1 H' : Hp} {L1 : RLay} {pa oa sa : Addr} {p : Xb15.Program} {cands : List Xb16.Candidate} {sel : List Nat} {i : Nat} {σ : L2.St} (e : EvInv K H1 L1 pa oa sa p cands sel i σ H') (s1 : Same H H1) (hM : ∀ b ∈ L1.M, H b = none) : Same H H' := by
  obtain ⟨v, L', _, k, _⟩ := e
  exact (Same.wo_of s1 hM).trans (k.sm.trans (wo_same _ _))
theorem Tx.ev_turn (T : Tx K w mg) {H H1 : Hp} {L1 : RLay} {pa oa sa : Addr} {p : Xb15.Program} {as : List Addr} {cands : List Xb16.Candidate} {sel : List Nat} (A : EvAsk K H pa oa p as cands sel) (s1 : Same H H1) (hM : ∀ b ∈ L1.M, H b = none) {i : Nat} {x : V} {σ : L2.St} {H' : Hp} (hx : (sel.map iv)[i]? = some x) (e : EvInv K H1 L1 pa oa sa p cands sel i σ H') {D : Ends} (hD : D.nx = EvInv K H1 L1 pa oa sa p cands sel (i + 1)) :
    gName 4 x σ H' fun σ2 H2 => tDrop (tCall (offerSp K) [] E0 (tCons (tVar 3) (tCons (tOp (rIxL K) (tVar 1) (tVar 4)) tNil))) D σ2 H2 := by
  have hS := e.old s1 hM
  obtain ⟨v, L', rfl, k, R⟩ := e
  obtain ⟨n, hn, rfl⟩ := map_get hx
  have hnl := A.sel n (List.mem_of_getElem? hn)
  have hg : cands[n]? = some cands[n] := List.getElem?_eq_getElem hnl
  obtain ⟨ga, hga, hgat⟩ := A.cs.get hg
  show tDrop (tCall (offerSp K) [] E0 (tCons (tVar 3) (tCons (tOp (rIxL K) (tVar 1) (tVar 4)) tNil))) D [some (.ref pa), some (.ref oa), some (.ref sa), some (.ref L1.r), some (iv n)] H'
  refine st_expr (callS2 (val_var rfl) (val_ixL (val_var rfl) (val_var rfl) (SqL.of (hS _ _ A.ol)) (atI_nat (by rw [List.getElem?_map, hga]; rfl))) ⟨_, _, rfl, L', p, _, cands[n], 40041, ga, by rw [k.r], rfl, R, upTo_ok A.ok A.cok _, hgat.mono hS, A.cok _ (List.getElem_mem hnl), fun H3 L3 k3 R3 => ?_⟩)
  rw [hD]
  exact ⟨_, L3, rfl, k.trans k3, by rw [upTo_succ hn hg]; exact R3⟩
theorem Tx.ev_end (T : Tx K w mg) {H H1 : Hp} {L1 : RLay} {pa oa sa : Addr} {p : Xb15.Program} {as : List Addr} {cands : List Xb16.Candidate} {sel : List Nat} {Q : VK} (A : EvAsk K H pa oa p as cands sel) (h : EvOut K H p cands sel Q) (hex : L1.ex = []) (s1 : Same H H1) (hM : ∀ b ∈ L1.M, H b = none) {σ : L2.St} {H' : Hp} (e : EvInv K H1 L1 pa oa sa p cands sel sel.length σ H') {D : Ends} (hD : D.rt = Q) :
    tDrop (tCall (runSp K) [] E0 (tCons (tVar 3) tNil)) { nx := tRet (tVar 3) D, rt := D.rt } σ H' := by
  have hS := e.old s1 hM
  obtain ⟨v, L', rfl, k, R⟩ := e
  rw [List.take_length] at R
  refine st_expr (callS1 (val_var rfl) ⟨_, rfl, L', p, _, 40041, by rw [k.r], k.ex.trans hex, R, A.ok, upTo_ok A.ok A.cok _, fun H3 L3 s3 m k3 R3 I3 E3 => ?_⟩)
  dsimp only
  refine st_ret (val_var rfl) ?_
  rw [hD]
  have := h H3 L3 s3 m ((Same.wo_of s1 hM).trans (k.sm.trans (k3.sm.trans (wo_same _ _)))) (k3.ex.trans (k.ex.trans hex)) R3 I3 (upTo_sim A.ok A.cok E3)
  rw [k3.r, k.r] at this
  exact this
def evLSp (K : PySem.W.Frag) : Sp := sp3 fun a b c H Q E => ∃ (pa oa sa : Addr) (p : Xb15.Program) (as : List Addr) (cands : List Xb16.Candidate) (sel : List Nat), a = .ref pa ∧ b = .ref oa ∧ c = .ref sa ∧ EvAsk K H pa oa p as cands sel ∧ SqL K H sa (sel.map iv) ∧ EvOut K H p cands sel Q
def evTSp (K : PySem.W.Frag) : Sp := sp3 fun a b c H Q E => ∃ (pa oa sa : Addr) (p : Xb15.Program) (as : List Addr) (cands : List Xb16.Candidate) (sel : List Nat), a = .ref pa ∧ b = .ref oa ∧ c = .ref sa ∧ EvAsk K H pa oa p as cands sel ∧ SqT K H sa (sel.map iv) ∧ EvOut K H p cands sel Q
theorem sc_evaluated : FnScope ["program", "offers", "selection", "run", "number"] ["program", "offers", "selection"] (defScope s_evaluated) := ⟨rfl, rfl, rfl, by decide +kernel, rfl, by decide +kernel, by decide +kernel⟩
theorem ok_evaluated (T : Tx K w mg) : Df P w K mg base CX0 8 "evaluated" ["program", "offers", "selection"] (evLSp K) := by
  obtain ⟨fd, F⟩ := T.d_evaluated
  refine ⟨fd, T.g_evaluated, F.kp, (F.bindsN (ps := ["program", "offers", "selection"]) fun _ _ _ _ _ _ us hl => match us, hl with | [_, _, _], _ => rfl), F.ok sc_evaluated sp3_len (fun cdv A outer s H vs Q E hr h => ⟨_, PSs.nox ((pss_cons (ps_set (i := 3) sc_evaluated.nd rfl (.inl rfl) (pe_cl T.m_Run (ok_Run_init T) (hr.mono (by decide)) T.g_Run pass0 (pa_cons (pv 0) pa_nil)))
    (pss_cons (ps_for PassesOwn.never rfl (pi_list (pv 2)) (pg_name (i := 4) sc_evaluated.nd rfl (.inl rfl))
      (pss_one (ps_expr (pe_df (ok_offer_in T) (hr.mono (by decide)) pass0 (pa_cons (pv 3) (pa_cons (pe_ix ix_list (pv 1) (pv 4) (fun _ _ => rfl)) pa_nil))))))
    (pss_cons (ps_expr (pe_df (ok_run_on T) (hr.mono (by decide)) pass0 (pa_cons (pv 3) pa_nil)))
    (pss_one (ps_ret (pv 3))))))), ?_⟩)⟩
  obtain ⟨_, _, _, rfl, pa, oa, sa, p, as, cands, sel, rfl, rfl, rfl, A, hs, h⟩ := h
  refine st_asg (make1 (val_var rfl) fun x dx hx hdx hne => ⟨_, _, rfl, x, dx, pa, p, H, rfl, rfl, upd_same, A.pr, A.ok, same_new (same_upd hdx) hx, hx, fun H1 L1 hr hex s1 hM R1 => ⟨rfl, ?_⟩⟩)
  subst hr
  dsimp only
  refine L2.st_seq ?_
  dsimp only
  refine st_forL (K := K) (xs := sel.map iv) (EvInv K H1 L1 pa oa sa p cands sel) (val_var rfl) (s1.seq hs) ⟨none, L1, rfl, R1.refl, R1⟩ (fun i σ H' _ e => (e.old s1 hM).seq hs) (fun i x σ H' hx e => T.ev_turn A s1 hM hx e rfl) (fun σ H' e => ?_)
  rw [List.length_map] at e
  exact T.ev_end A h hex s1 hM e rfl
theorem ok_evaluatedT (T : Tx K w mg) : Df P w K mg base CX0 8 "evaluated" ["program", "offers", "selection"] (evTSp K) := by
  obtain ⟨fd, F⟩ := T.d_evaluated
  refine ⟨fd, T.g_evaluated, F.kp, (F.bindsN (ps := ["program", "offers", "selection"]) fun _ _ _ _ _ _ us hl => match us, hl with | [_, _, _], _ => rfl), F.ok sc_evaluated sp3_len (fun cdv A outer s H vs Q E hr h => ⟨_, PSs.nox ((pss_cons (ps_set (i := 3) sc_evaluated.nd rfl (.inl rfl) (pe_cl T.m_Run (ok_Run_init T) (hr.mono (by decide)) T.g_Run pass0 (pa_cons (pv 0) pa_nil)))
    (pss_cons (ps_for PassesOwn.never rfl (pi_tup (pv 2)) (pg_name (i := 4) sc_evaluated.nd rfl (.inl rfl))
      (pss_one (ps_expr (pe_df (ok_offer_in T) (hr.mono (by decide)) pass0 (pa_cons (pv 3) (pa_cons (pe_ix ix_list (pv 1) (pv 4) (fun _ _ => rfl)) pa_nil))))))
    (pss_cons (ps_expr (pe_df (ok_run_on T) (hr.mono (by decide)) pass0 (pa_cons (pv 3) pa_nil)))
    (pss_one (ps_ret (pv 3))))))), ?_⟩)⟩
  obtain ⟨_, _, _, rfl, pa, oa, sa, p, as, cands, sel, rfl, rfl, rfl, A, hs, h⟩ := h
  refine st_asg (make1 (val_var rfl) fun x dx hx hdx hne => ⟨_, _, rfl, x, dx, pa, p, H, rfl, rfl, upd_same, A.pr, A.ok, same_new (same_upd hdx) hx, hx, fun H1 L1 hr hex s1 hM R1 => ⟨rfl, ?_⟩⟩)
  subst hr
  dsimp only
  refine L2.st_seq ?_
  dsimp only
  refine st_forT (K := K) (xs := sel.map iv) (EvInv K H1 L1 pa oa sa p cands sel) (val_var rfl) (Same.sqt s1 hs) ⟨none, L1, rfl, R1.refl, R1⟩ (fun i σ H' _ e => Same.sqt (e.old s1 hM) hs) (fun i x σ H' hx e => T.ev_turn A s1 hM hx e rfl) (fun σ H' e => ?_)
  rw [List.length_map] at e
  exact T.ev_end A h hex s1 hM e rfl
end
end GW
/-! The walk 18: what is blocked, outcomes -/
namespace GW
open PySem PySem.Spec PyProof.Rows L2
open Gc (vL ShapeOk RInv ProgOk big In ExpOk AtomOk CandOk)
open Xb15 (State TaskInstance)
/-! ### plain: entries in order -/
def leE (x y : Nat × Nat) : Prop := x.1 < y.1 ∨ (x.1 = y.1 ∧ x.2 ≤ y.2)
theorem insE_perm (x : Nat × Nat) : ∀ l, (Xb15.insertEntry x l).Perm (x :: l)
  | [] => List.Perm.refl _
  | y :: l => by
    unfold Xb15.insertEntry
    split
    · exact List.Perm.refl _
    · exact ((insE_perm x l).cons y).trans (List.Perm.swap x y l)
theorem leE_trans {x y z : Nat × Nat} (h1 : leE x y) (h2 : leE y z) : leE x z := by
  unfold leE at *
  omega
theorem insE_sorted (x : Nat × Nat) : ∀ l, l.Pairwise leE → (Xb15.insertEntry x l).Pairwise leE
  | [], _ => by simp [Xb15.insertEntry]
  | y :: l, h => by
    rw [List.pairwise_cons] at h
    unfold Xb15.insertEntry
    split
    · rename_i hl
      have hxy : leE x y := by
        unfold Xb15.entryLess at hl
        unfold leE
        simp at hl
        omega
      rw [List.pairwise_cons, List.pairwise_cons]
      refine ⟨fun a ha => ?_, h⟩
      rcases List.mem_cons.mp ha with rfl | ha
      · exact hxy
      · exact leE_trans hxy (h.1 a ha)
    · rename_i hl
      have hyx : leE y x := by
        unfold Xb15.entryLess at hl
        unfold leE
        simp at hl
        omega
      rw [List.pairwise_cons]
      refine ⟨fun a ha => ?_, insE_sorted x l h.2⟩
      rcases List.mem_cons.mp ((insE_perm x l).mem_iff.mp ha) with rfl | ha
      · exact hyx
      · exact h.1 a ha
theorem foldE : ∀ (l acc : List (Nat × Nat)), acc.Pairwise leE → (l.foldl (fun l x => Xb15.insertEntry x l) acc).Pairwise leE ∧ (l.foldl (fun l x => Xb15.insertEntry x l) acc).Perm (l ++ acc)
  | [], acc, h => ⟨h, List.Perm.refl _⟩
  | x :: l, acc, h => by
    obtain ⟨h1, h2⟩ := foldE l (Xb15.insertEntry x acc) (insE_sorted x acc h)
    exact ⟨h1, h2.trans ((List.Perm.append_left l (insE_perm x acc)).trans List.perm_middle)⟩
def entry (p : Xb15.Program) (i : TaskInstance) : Option (Nat × Nat) := (Xb15.nextInstruction p i).map fun o => (i.task, o.2)
def entries (p : Xb15.Program) (s : State) : List (Nat × Nat) := s.insts.filterMap (entry p)
theorem blocked_is (p : Xb15.Program) (s : State) : (Xb15.blockedEntries p s).Pairwise leE ∧ (Xb15.blockedEntries p s).Perm (entries p s) := by
  have := foldE (entries p s) [] List.Pairwise.nil
  rw [List.append_nil] at this
  exact this
theorem leE_anti {a b : Nat × Nat} (h1 : leE a b) (h2 : leE b a) : a = b := by
  unfold leE at *
  have : a.1 = b.1 := by omega
  have : a.2 = b.2 := by omega
  exact Prod.ext ‹_› ‹_›
theorem blocked_uniq {p : Xb15.Program} {s : State} {l : List (Nat × Nat)} (h1 : l.Pairwise leE) (h2 : l.Perm (entries p s)) : l = Xb15.blockedEntries p s :=
  List.Perm.eq_of_pairwise (le := leE) (fun a b _ _ => leE_anti) h1 (blocked_is p s).1 (h2.trans (blocked_is p s).2.symm)
theorem blocked_sim {p : Xb15.Program} {s t : State} (h : s.insts.Perm t.insts) : Xb15.blockedEntries p s = Xb15.blockedEntries p t := by
  refine blocked_uniq (blocked_is p s).1 ((blocked_is p s).2.trans ?_)
  exact h.filterMap _
theorem blocked_len {p : Xb15.Program} {s : State} : (Xb15.blockedEntries p s).length ≤ s.insts.length := by
  rw [(blocked_is p s).2.length_eq]
  exact List.length_filterMap_le _ _
theorem callB1 {r : List V → Hp → VK → Prop} {ta : TE} {x : V} {σ : L2.St} {H : Hp} {Q : VK} (h1 : Val ta σ H x) (q : r [x] H Q) : tCB r (tCons ta tNil) σ H Q := h1 _ q
/-! ### the walk -/
def PairAt (H : Hp) (t : Addr) (x : Nat × Nat) : Prop := H t = some (.tup [iv x.1, iv x.2])
/-- the numbers of a pair -/
def keyV (H : Hp) : V → Int × Int
  | .ref t => match H t with
    | some (.tup [.int a, .int b]) => (a, b)
    | _ => (0, 0)
  | _ => (0, 0)
theorem keyV_at {H : Hp} {t : Addr} {x : Nat × Nat} (h : PairAt H t x) : keyV H (.ref t) = ((x.1 : Int), (x.2 : Int)) := by
  have h : H t = some (.tup [.int (x.1 : Int), .int (x.2 : Int)]) := h
  unfold keyV
  dsimp only
  rw [h]
theorem lex_le {x y : Nat × Nat} (h : SrtO.lexB ((y.1 : Int), (y.2 : Int)) ((x.1 : Int), (x.2 : Int)) = false) : leE x y := by
  unfold SrtO.lexB at h
  unfold leE
  dsimp only at h
  split at h
  · simp at h; omega
  · simp at h; omega
theorem dp_pairs {K : PySem.W.Frag} {H : Hp} : ∀ {ts : List Addr} {l : List (Nat × Nat)}, All2 (PairAt H) ts l → ∃ ds, DpAll K H (ts.map V.ref) ds ∧ PyData.canLayAll0 ds = true ∧ PyData.depthAll ds ≤ 10
  | [], [], _ => ⟨[], .nil, rfl, by decide⟩
  | [], _ :: _, h => by have := h.len; simp at this
  | _ :: _, [], h => by have := h.len; simp at this
  | t :: ts, x :: l, h => by
    obtain ⟨h1, h2⟩ := h.inv
    obtain ⟨ds, d1, d2, d3⟩ := dp_pairs (K := K) h2
    have h1 : H t = some (.tup [.int (x.1 : Int), .int (x.2 : Int)]) := h1
    refine ⟨.tuple [.int x.1, .int x.2] :: ds, .cons (.tup (.inl (.inl h1)) (.cons (.int _) (.cons (.int _) .nil))) d1, ?_, ?_⟩
    · simp [PyData.canLayAll0, PyData.canLay0, d2]
    · simp only [PyData.depthAll, PyData.depth]
      omega
section
variable {P : Program} {w : World} {K : PySem.W.Frag} {mg : Str → Option Value} {base : Heap}
def blkdSp (K : PySem.W.Frag) : Sp := sp1 fun a H Q E => ∃ (L : RLay) (p : Xb15.Program) (s : State) (N : Nat), a = .ref L.r ∧ RunAt K H L p s ∧ RInv p N s ∧ ∀ H' q (ts : List Addr), Same H H' → nw H H' q = some (.lst (ts.map V.ref)) → All2 (PairAt H') ts (Xb15.blockedEntries p s) → Q (.ref q) H'
theorem sc_blocked_in : FnScope ["run", "found", "instance", "instruction"] ["run"] (defScope s_blocked_in) := ⟨rfl, rfl, rfl, by decide +kernel, rfl, by decide +kernel, by decide +kernel⟩
theorem ok_blocked_in (T : Tx K w mg) : Df P w K mg base CX0 2 "blocked_in" ["run"] (blkdSp K) := by
  obtain ⟨fd, F⟩ := T.d_blocked_in
  refine ⟨fd, T.g_blocked_in, F.kp, (F.bindsN (ps := ["run"]) fun _ _ _ _ _ _ us hl => match us, hl with | [_], _ => rfl), F.ok sc_blocked_in sp1_len (fun cdv A outer s H vs Q E hr h => ⟨_, PSs.nox ((pss_cons (ps_set (i := 1) sc_blocked_in.nd rfl (.inl rfl) (pe_lst pa_nil))
    (pss_cons (ps_for PassesOwn.never rfl (pi_list (pe_fld (pv 0) rfl)) (pg_name (i := 2) sc_blocked_in.nd rfl (.inl rfl))
      (pss_cons (ps_set (i := 3) sc_blocked_in.nd rfl (.inl rfl) (pe_df (ok_next_instruction T) (hr.mono (by decide)) pass0 (pa_cons (pv 0) (pa_cons (pv 2) pa_nil))))
    (pss_one (ps_if (pt_cmpR op_notN (pv 3) pe_non (nomark _))
      (pss_one (ps_expr (pe_bm PySem.F.plainAttrs_list PySem.F.slot_list_append PySem.F.type_list_append mt_append (pv 1) (pa_cons (pe_tup (pa_cons (pe_fld (pv 2) rfl) (pa_cons (pe_fld (pv 3) rfl) pa_nil))) pa_nil))))
      pss_nil))))
    (pss_one (ps_ret (pe_callB cr_sortedPO (by rfl) T.f_sorted (by decide +kernel) (pa_cons (pv 1) pa_nil))))))), ?_⟩)⟩
  obtain ⟨_, rfl, L, p, s', N, rfl, R, I, h⟩ := h
  refine st_asg (lst0 fun fa hfa => ?_)
  dsimp only
  refine L2.st_seq ?_
  dsimp only
  have e0 : Same H (upd H fa (.lst [])) := same_upd hfa
  have hnum := I.num
  refine st_forL (K := K) (xs := L.is.map fun i => V.ref i.o) (fun i σ H' => ∃ (v3 v4 : Option V) (ts : List Addr), σ = [some (.ref L.r), some (.ref fa), v3, v4] ∧ Same H H' ∧ H' fa = some (.lst (ts.map V.ref)) ∧ ts.length ≤ i ∧ All2 (PairAt H') ts ((s'.insts.take i).filterMap (entry p))) (T.v_Run_instances (val_var rfl) (e0 _ _ R.rn)) (SqL.of (e0 _ _ R.il)) ⟨none, none, [], rfl, e0, upd_same, Nat.le_refl _, All2.nil⟩ ?_ ?_ ?_
  · rintro i σ H' _ ⟨v3, v4, ts, rfl, hS, _⟩
    exact SqL.of (hS _ _ R.il)
  · rintro i y σ H' hy ⟨v3, v4, ts, rfl, hS, hf, hl, hA⟩
    obtain ⟨j, hj, rfl⟩ := map_get hy
    have R' := R.mono hS
    obtain ⟨ti, hti, hI⟩ := R'.inst.get' hj
    have htk := (I.insts ti (List.mem_of_getElem? hti)).task
    have hi40 : i < 40 := by
      have := (List.getElem?_eq_some_iff.mp hti).1
      omega
    refine L2.st_seq (st_asg (callS2 (val_var rfl) (val_var rfl) ⟨_, _, rfl, L, p, s', i, j, ti, rfl, rfl, R', hj, hti, htk, ?_⟩))
    have hen : (s'.insts.take (i + 1)).filterMap (entry p) = (s'.insts.take i).filterMap (entry p) ++ (match entry p ti with
      | none => []
      | some x => [x]) := by
      rw [List.take_succ, hti, List.filterMap_append]
      cases hx : entry p ti <;> simp [hx]
    cases hn : Xb15.nextInstruction p ti with
    | none =>
      have hx : entry p ti = none := by unfold entry; rw [hn]; rfl
      rw [hx, List.append_nil] at hen
      dsimp only
      refine st_if (b := false) (ans_is (ans_of (val_notN (val_var rfl))) rfl) (fun e => by cases e) (fun _ => st_next ?_)
      exact ⟨_, _, ts, rfl, hS, hf, by omega, by rw [hen]; exact hA⟩
    | some o =>
      have hx : entry p ti = some (ti.task, o.2) := by unfold entry; rw [hn]; rfl
      rw [hx] at hen
      dsimp only
      rintro x ⟨dx, xa, xb, g, hins, _⟩
      have hins := wo_same _ _ _ _ hins
      refine st_if (b := true) (ans_is (ans_of (val_notN (val_var rfl))) rfl) (fun _ => ?_) (fun e => by cases e)
      refine st_appendH (val_var rfl) (SqL.of hf) (tup2 (T.v_Instance_task (val_var rfl) hI.1) (T.v_Instruction_line (val_var rfl) hins) fun t ht => ?_)
      have htf : t ≠ fa := fun e => by rw [e, hf] at ht; cases ht
      have eu : Same H' (upd H' t (.tup [iv ti.task, iv o.2])) := same_upd ht
      refine ⟨fa, _, _, rfl, rfl, eu _ _ hf, by rw [List.length_map]; exact lineN (by omega), ?_⟩
      refine ⟨_, _, ts ++ [t], rfl, ?_, ?_, by simp; omega, ?_⟩
      · exact fun b u hb => by
          rw [upd_ne (ne_of_none hb hfa)]
          exact eu _ _ (hS _ _ hb)
      · rw [upd_same, List.map_append]
        rfl
      · rw [hen]
        refine All2.snoc (hA.mono fun a b hm z => ?_) ?_
        · have z : H' a = _ := z
          have hafa : a ≠ fa := fun e => by rw [e, hf] at z; cases z
          show upd _ fa _ a = _
          rw [upd_ne hafa]
          exact eu _ _ z
        · show upd _ fa _ t = _
          rw [upd_ne htf, upd_same]
  · rintro σ H' ⟨v3, v4, ts, rfl, hS, hf, _, hA⟩
    rw [List.length_map, R.inst.len, List.take_length] at hA
    have hA : All2 (PairAt H') ts (entries p s') := hA
    refine st_retH (callB1 (val_var rfl) ⟨fa, ts.map V.ref, keyV H', rfl, SqL.of hf, fun y hy => ?_, fun ys q hs hst hq => ?_⟩)
    · obtain ⟨t, ht, rfl⟩ := List.mem_map.mp hy
      obtain ⟨k, hk⟩ := List.mem_iff_getElem?.mp ht
      obtain ⟨x, _, hx⟩ := hA.get' hk
      exact ⟨t, rfl, by rw [keyV_at hx]; exact hx⟩
    · have hp := hst.perm
      obtain ⟨us, rfl, hus⟩ : ∃ us : List Addr, ys = us.map V.ref ∧ us.Perm ts := by
        have : ∀ y ∈ ys, ∃ t, y = V.ref t := fun y hy => by
          obtain ⟨t, _, rfl⟩ := List.mem_map.mp (hp.mem_iff.mp hy)
          exact ⟨t, rfl⟩
        obtain ⟨us, rfl⟩ : ∃ us : List Addr, ys = us.map V.ref := by
          clear hs hst hp hq h
          induction ys with
          | nil => exact ⟨[], rfl⟩
          | cons y ys ih =>
            obtain ⟨t, rfl⟩ := this y (by simp)
            obtain ⟨us, e⟩ := ih fun z hz => this z (by simp [hz])
            exact ⟨t :: us, by rw [e]; rfl⟩
        refine ⟨us, rfl, ?_⟩
        have := hp.filterMap (fun v : V => match v with
          | .ref t => some t
          | _ => none)
        simpa [List.filterMap_map, Function.comp_def] using this
      -- the numbers in the order of us
      let kv : Addr → Nat × Nat := fun t => ((keyV H' (.ref t)).1.toNat, (keyV H' (.ref t)).2.toNat)
      have hkv : ∀ t x, PairAt H' t x → kv t = x := fun t x hx => by
        show ((keyV H' (.ref t)).1.toNat, (keyV H' (.ref t)).2.toNat) = x
        rw [keyV_at hx]
        rfl
      have hmap : ts.map kv = entries p s' := by
        apply List.ext_getElem?
        intro k
        rw [List.getElem?_map]
        cases hk : ts[k]? with
        | none =>
          have := List.getElem?_eq_none_iff.mp hk
          rw [hA.len] at this
          rw [List.getElem?_eq_none this]
          rfl
        | some t =>
          obtain ⟨x, hx, hxa⟩ := hA.get' hk
          rw [hx]
          show some (kv t) = _
          rw [hkv t x hxa]
      have hin : ∀ t ∈ us, PairAt H' t (kv t) := fun t ht => by
        obtain ⟨k, hk⟩ := List.mem_iff_getElem?.mp (hus.mem_iff.mp ht)
        obtain ⟨x, _, hx⟩ := hA.get' hk
        rw [hkv t x hx]
        exact hx
      have hb : us.map kv = Xb15.blockedEntries p s' := by
        refine blocked_uniq ?_ (by rw [← hmap]; exact hus.map kv)
        rw [List.pairwise_map]
        have hs : List.Pairwise (fun x y => ltP (keyV H') y x = false) (us.map V.ref) := hs
        rw [List.pairwise_map] at hs
        refine hs.imp_of_mem fun {a b} ha hb hab => ?_
        have hab : SrtO.lexB (keyV H' (.ref b)) (keyV H' (.ref a)) = false := hab
        rw [keyV_at (hin a ha), keyV_at (hin b hb)] at hab
        exact lex_le hab
      refine h _ q us (hS.trans (same_upd hq)) (nw_some.mpr ⟨hS.free hq, upd_same⟩) ?_
      rw [← hb]
      refine ⟨by simp, fun k a b h1 h2 => ?_⟩
      rw [List.getElem?_map, h1] at h2
      cases h2
      exact same_upd hq _ _ (hin a (List.mem_of_getElem? h1))
/-- an outcome's number -/
def outc (p : Xb15.Program) (s : State) : Nat := if s.failed = true then 2 else if (Xb15.blockedEntries p s).isEmpty = true then 0 else 1
def outcSp (K : PySem.W.Frag) : Sp := sp1 fun a H Q E => ∃ (L : RLay) (p : Xb15.Program) (s : State) (N : Nat), a = .ref L.r ∧ RunAt K H L p s ∧ RInv p N s ∧ ∀ H', Same H H' → Q (iv (outc p s)) H'
theorem sc_outcome_of : FnScope ["run"] ["run"] (defScope s_outcome_of) := ⟨rfl, rfl, rfl, by decide +kernel, rfl, by decide +kernel, by decide +kernel⟩
theorem ok_outcome_of (T : Tx K w mg) : Df P w K mg base CX0 3 "outcome_of" ["run"] (outcSp K) := by
  obtain ⟨fd, F⟩ := T.d_outcome_of
  refine ⟨fd, T.g_outcome_of, F.kp, (F.bindsN (ps := ["run"]) fun _ _ _ _ _ _ us hl => match us, hl with | [_], _ => rfl), F.ok sc_outcome_of sp1_len (fun cdv A outer s H vs Q E hr h => ⟨_, PSs.nox ((pss_cons (ps_if (pt_val (pe_fld (pv 0) rfl))
      (pss_one (ps_ret (pe_gi T.c_FAILED)))
      pss_nil)
    (pss_one (ps_ret (pe_ifExp (pt_cmpR (op_neD (by exact hr.units)) (pe_df (ok_blocked_in T) (hr.mono (by decide)) pass0 (pa_cons (pv 0) pa_nil)) (pe_lst pa_nil) (nomark _)) (pe_gi T.c_BLOCKED) (pe_gi T.c_FINISHED)))))), ?_⟩)⟩
  obtain ⟨_, rfl, L, p, s', N, rfl, R, I, h⟩ := h
  unfold outc at h
  cases hf : s'.failed with
  | true =>
    rw [if_pos hf] at h
    exact st_if (b := true) (ans_is (ans_of (T.v_Run_has_failed (val_var rfl) R.rn)) hf) (fun _ => st_ret val_c (h H (Same.refl H))) (fun e => by cases e)
  | false =>
    rw [if_neg (by rw [hf]; decide)] at h
    refine st_if (b := false) (ans_is (ans_of (T.v_Run_has_failed (val_var rfl) R.rn)) hf) (fun e => by cases e) (fun _ => st_next ?_)
    dsimp only
    refine st_retH (ifH (callS1 (val_var rfl) ⟨_, rfl, L, p, s', N, rfl, R, I, fun H1 q ts e1 hq hA => ?_⟩))
    have hq2 := (nw_some.mp hq).2
    refine ⟨by show 0 ≤ sizeLine; decide, fun q2 hq2n => ?_⟩
    have e2 : Same H1 (upd H1 q2 (.lst [])) := same_upd hq2n
    obtain ⟨ds, d1, d2, d3⟩ := dp_pairs (K := K) (hA.mono fun a b _ z => (e2 _ _ z : PairAt (upd H1 q2 (.lst [])) a b))
    refine neD_nil (SqL.of (e2 _ _ hq2)) d1 d2 (by omega) upd_same ⟨_, rfl, ?_⟩
    have hemp : (ts.map V.ref).isEmpty = (Xb15.blockedEntries p s').isEmpty := by
      have := hA.len
      cases ts <;> cases hbe : Xb15.blockedEntries p s' <;> simp_all
    rw [hemp]
    cases hbe : (Xb15.blockedEntries p s').isEmpty with
    | true =>
      rw [if_pos hbe] at h
      exact ifF (b := !true) rfl (h _ (e1.trans e2))
    | false =>
      rw [if_neg (by rw [hbe]; decide)] at h
      exact ifT (b := !false) rfl (h _ (e1.trans e2))
end
end GW
/-! The walk 19: the desk; texts loaded, candidates -/
namespace GW
open PySem PySem.Spec PyProof.Rows L2
open Gc (vL ShapeOk RInv ProgOk big In ExpOk AtomOk CandOk)
open Xb15 (State TaskInstance)
structure DLay where
  d : Addr
  dx : Addr
  oa : Addr
  pa : Addr
  as : List Addr
  /-- lists that are locked meanwhile -/
  ex : List Addr := []
def DLay.M (L : DLay) : List Addr := [L.d, L.oa] ++ L.ex
def candsOf (D : Xb16.Desk) : List Xb16.Candidate := match D.session with
  | none => []
  | some h => h.candidates
def progV (L : DLay) (D : Xb16.Desk) : V := match D.session with
  | none => .non
  | some _ => .ref L.pa
structure DeskAt (K : PySem.W.Frag) (H : Hp) (L : DLay) (D : Xb16.Desk) : Prop where
  nd : L.d ≠ L.oa
  exd : ∀ a ∈ L.ex, a ≠ L.d ∧ a ≠ L.oa ∧ ∃ o u, H a = some (.frz o u)
  at_ : atDesk K H L.d L.dx (progV L D) (.ref L.oa)
  ol : H L.oa = some (.lst (L.as.map V.ref))
  cs : All2 (CandAt (wo H L.M)) L.as (candsOf D)
  pr : ∀ h, D.session = some h → ProgAt K (wo H L.M) L.pa h.program
/-- the plain invariant of a desk -/
def DOk (D : Xb16.Desk) : Prop := ∀ h, D.session = some h → ProgOk h.program ∧ (∀ g ∈ h.candidates, CandOk h.program g) ∧ h.candidates.length ≤ 6
structure DKept (H : Hp) (L : DLay) (H' : Hp) (L' : DLay) : Prop where
  d : L'.d = L.d
  ex : L'.ex = L.ex
  sm : Same (wo H L.M) (wo H' L'.M)
  old : ∀ a ∈ L.ex, H' a = H a
section
variable {K : PySem.W.Frag} {H H' : Hp} {L L' : DLay} {D : Xb16.Desk}
theorem DeskAt.there (R : DeskAt K H L D) {a : Addr} (h : a ∈ L.M) : ∃ o, H a = some o := by
  rcases List.mem_append.mp h with h | h
  · simp only [List.mem_cons, List.not_mem_nil, or_false] at h
    rcases h with rfl | rfl
    · exact ⟨_, R.at_⟩
    · exact ⟨_, R.ol⟩
  · obtain ⟨_, _, o, u, e⟩ := R.exd a h
    exact ⟨_, e⟩
theorem DeskAt.fresh (R : DeskAt K H L D) {a : Addr} (h : H a = none) : a ∉ L.M := fun z => by
  obtain ⟨o, ho⟩ := R.there z
  rw [h] at ho
  cases ho
theorem DeskAt.mono (R : DeskAt K H L D) (e : Same H H') : DeskAt K H' L D := by
  have w : Same (wo H L.M) (wo H' L.M) := wo_more e
  refine ⟨R.nd, fun a ha => ?_, e _ _ R.at_, e _ _ R.ol, R.cs.mono fun _ _ _ z => z.mono w, fun h hh => (R.pr h hh).mono w⟩
  obtain ⟨h1, h2, o, u, h3⟩ := R.exd a ha
  exact ⟨h1, h2, o, u, e _ _ h3⟩
theorem DeskAt.same (R : DeskAt K H L D) (e : Same H H') : DKept H L H' L := ⟨rfl, rfl, wo_more e, fun a h => by
  obtain ⟨_, _, o, u, h3⟩ := R.exd a h
  rw [h3, e _ _ h3]⟩
end
/-! ### what a program's objects are not -/
def plainO : HO → Prop
  | .lst _ => True
  | .tup _ => True
  | .ins _ _ fs => fs.length ≠ 2
  | _ => False
section
variable {K : PySem.W.Frag} {F F' : Hp}
theorem CellAt.via (f : ∀ b o, plainO o → F b = some o → F' b = some o) {a : Addr} {c : Xb15.Cell} (h : CellAt K F a c) : CellAt K F' a c := let ⟨dx, q⟩ := h; ⟨dx, f _ _ (by show 4 ≠ 2; decide) q⟩
theorem TermsAt.via (f : ∀ b o, plainO o → F b = some o → F' b = some o) {a : Addr} {l : List (Nat × Xb15.Atom)} (h : TermsAt F a l) : TermsAt F' a l := let ⟨ts, q, r⟩ := h; ⟨ts, f _ _ trivial q, r.mono fun _ _ _ z => f _ _ trivial z⟩
theorem InsAt.via (f : ∀ b o, plainO o → F b = some o → F' b = some o) {a : Addr} {x : Xb15.Instruction × Nat} (h : InsAt K F F a x) : InsAt K F' F' a x :=
  let ⟨dx, fa, sa, g, h1, h2, h3, h4⟩ := h
  ⟨dx, fa, sa, g, f _ _ (by show 9 ≠ 2; decide) h1, h2.via f, h3.via f, h4⟩
theorem TaskAt.via (f : ∀ b o, plainO o → F b = some o → F' b = some o) {a : Addr} {t : Xb15.Task} (h : TaskAt K F a t) : TaskAt K F' a t :=
  let ⟨dx, sa, ia, is, h1, h2, h3, h4⟩ := h
  ⟨dx, sa, ia, is, f _ _ (by show 3 ≠ 2; decide) h1, f _ _ trivial h2, f _ _ trivial h3, h4.mono fun _ _ _ z => z.via f⟩
theorem ProgAt.via (f : ∀ b o, plainO o → F b = some o → F' b = some o) {a : Addr} {p : Xb15.Program} (h : ProgAt K F a p) : ProgAt K F' a p :=
  let ⟨dx, ca, ta, ga, cs, ts, h1, h2, h3, h4, h5, h6⟩ := h
  ⟨dx, ca, ta, ga, cs, ts, f _ _ (by show 3 ≠ 2; decide) h1, f _ _ trivial h2, h3.mono fun _ _ _ z => z.via f, f _ _ trivial h4, h5.mono fun _ _ _ z => z.via f, f _ _ trivial h6⟩
end
/-- an operation as the desk's defs take it -/
inductive CallOf : Int → List Int → Xb16.Call → Prop where
  | load (t : List Int) (h : t.length ≤ 4200) : CallOf 1 t (.load t)
  | put (c z : Int) : CallOf 2 [c, z] (.offerPut c z)
  | cut (c a b : Int) : CallOf 3 [c, a, b] (.offerNarrow c a b)
  | clear : CallOf 4 [] .clearOffers
  | check (l : List Int) (h : l.length ≤ 10) : CallOf 5 l (.check l)
  | cells (l : List Int) (h : l.length ≤ 10) : CallOf 6 l (.cells l)
  | small : CallOf 7 [] .smallest
  | count : CallOf 8 [] .countOutcomes
/-- an operation's end -/
def OpOut (K : PySem.W.Frag) (H : Hp) (L : DLay) (r : Xb16.Desk × Xb16.Answer) (Q : VK) : Prop := ∀ H' L' q, DKept H L H' L' → DeskAt K H' L' r.1 → nw H H' q = some (.lst ((r.2.v :: r.2.l).map V.int)) → Q (.ref q) H'
def opSp (K : PySem.W.Frag) (k : Int) : Sp := sp2 fun a b H Q E => ∃ L D n ns c, a = .ref L.d ∧ b = .ref n ∧ DeskAt K H L D ∧ DOk D ∧ SqL K (wo H L.M) n (ns.map V.int) ∧ CallOf k ns c ∧ (k ≠ 1 → ∃ h, D.session = some h) ∧ OpOut K H L (Xb16.step D c) Q
/-- an answer of one number -/
theorem one_out {K : PySem.W.Frag} {H H1 : Hp} {L L1 : DLay} {D : Xb16.Desk} {z : Int} {Q : VK} {σ : L2.St} {te : TE} (h : OpOut K H L (D, Xb16.single z) Q) (k : DKept H L H1 L1) (R : DeskAt K H1 L1 D) (s : ∀ a, H1 a = none → H a = none) (hv : Val te σ H1 (.int z)) : tLst (tCons te tNil) σ H1 Q :=
  lst1 hv fun p hp => h _ L1 p ⟨k.d, k.ex, k.sm.trans (wo_more (same_upd hp)), fun a ha => by
    obtain ⟨_, _, o, u, e⟩ := R.exd a (by rw [k.ex]; exact ha)
    rw [upd_ne (ne_of_none e hp)]
    exact k.old a ha⟩ (R.mono (same_upd hp)) (nw_some.mpr ⟨s p hp, upd_same⟩)
section
variable {P : Program} {w : World} {K : PySem.W.Frag} {mg : Str → Option Value} {base : Heap}
def deskISp (K : PySem.W.Frag) : Sp := sp1 fun a H Q E => ∃ x dx, a = .ref x ∧ H x = some (.ins (He.ga K "Desk") dx []) ∧ ∀ H' oa, Kp H x H' → atDesk K H' x dx .non (.ref oa) → nw H H' oa = some (.lst []) → Q .non H'
theorem sc_Desk_init : FnScope ["self"] ["self"] (defScope s_Desk_init) := ⟨rfl, rfl, rfl, by decide +kernel, rfl, by decide +kernel, by decide +kernel⟩
theorem ok_Desk_init (T : Tx K w mg) : Dm P w K mg base CX0 1 (He.ma K (He.ga K "Desk") "__init__") ["self"] (deskISp K) := by
  obtain ⟨fd, F⟩ := T.d_Desk_init
  refine ⟨fd, (F.bindsN (ps := ["self"]) fun _ _ _ _ _ _ us hl => match us, hl with | [_], _ => rfl), F.ok sc_Desk_init sp1_len (fun cdv A outer s H vs Q E hr h => ⟨_, PSs.nox ((pss_cons (ps_fld (pv 0) pe_non rfl)
    (pss_one (ps_fld (pv 0) (pe_lst pa_nil) rfl)))), ?_⟩)⟩
  obtain ⟨_, rfl, x, dx, rfl, hx, h⟩ := h
  refine fld0 T.k_Desk T.n_Desk_program rfl val_c hx (by show 0 < 1000; decide) in_Desk_0 ?_
  refine fld0L T.k_Desk T.n_Desk_offers rfl upd_same (by show 1 < 1000; decide) (fun v => in_Desk_1) fun fa hfa => ?_
  have fx : fa ≠ x := fun e => by rw [e, upd_same] at hfa; cases hfa
  have hfa' := hfa
  simp only [upd_ne fx] at hfa
  dsimp only
  refine h _ fa (((Kp.refl H x).upd.new hfa' ⟨_, upd_same⟩).upd) upd_same (nw_some.mpr ⟨hfa, ?_⟩)
  rw [upd_ne fx, upd_same]
theorem valid_is (t : List Int) : Xb15.isValidText t = (decide (t.length ≤ 4000) && t.all fun b => (decide (b = 10) || (decide (32 ≤ b) && decide (b ≤ 126)))) := rfl
theorem bytes_back {t : List Int} (h : (t.all fun b => (decide (b = 10) || (decide (32 ≤ b) && decide (b ≤ 126)))) = true) : t.map V.int = (Xb15.toBytes t).map iv := by
  unfold Xb15.toBytes
  rw [List.map_map]
  refine List.map_congr_left fun b hb => ?_
  have := List.all_eq_true.mp h b hb
  simp at this
  show V.int b = .int ((b.toNat : Nat) : Int)
  rw [show ((b.toNat : Nat) : Int) = b by omega]
theorem st_ifOrNotH {c : TT} {te : TE} {t1 t2 : TS} {D : Ends} {σ : L2.St} {H : Hp} {b : Bool} (h1 : Ans c σ H b) (ht : b = true → t1 D σ H) (hf : b = false → te σ H fun x H1 => ∃ k, x = V.bl k ∧ if (!k) = true then t1 D σ H1 else t2 D σ H1) : tIfS (tOr c (tNot (tTest te))) t1 t2 D σ H := by
  refine h1 _ ?_
  cases b with
  | true => exact ht rfl
  | false => exact hf rfl
/-- all of a comprehension's answers -/
theorem all_lc {α : Type} {zs : List α} {K : PySem.W.Frag} {σ : L2.St} {H : Hp} {ta te : TE} {g : TG} {vs : List Nat} {Q : VK} {a : Addr} {xs : List V} (σ' : α → L2.St) (fv : α → Bool) (h1 : Val ta σ H (.ref a)) (hS : SqL K H a xs) (hx : xs.length = zs.length) (hl : zs.length ≤ 100000)
    (hw : ∀ z, wipe (σ' z) vs = wipe σ vs) (hg : ∀ (i : Nat) (z : α) (x : V) (H1 : Hp) (R : L2.St → Hp → Prop), zs[i]? = some z → xs[i]? = some x → Same H H1 → R (σ' z) H1 → g x (wipe σ vs) H1 R)
    (he : ∀ (z : α) (H1 : Hp), z ∈ zs → Same H H1 → Val te (σ' z) H1 (.bl (fv z)))
    (q : ∀ H', Same H H' → Q (.bl (zs.all fv)) H') : tCB (rAll K) (tCons (tLc (iList K ta) g tYes te vs) tNil) σ H Q := by
  refine lcL (tt := tYes) (Q := fun v H' => rAll K [v] H' Q) (zs := zs) σ' (fun _ => true) (fun z => .bl (fv z)) h1 hS hx hl hw hg (fun z H1 _ _ Q q => q) (fun z H1 hz _ e => he z H1 hz e) fun H' D e hD => ?_
  refine ⟨D, zs.map fv, rfl, SqL.of ?_, ?_⟩
  · rw [hD, List.filter_eq_self.mpr (fun _ _ => rfl), List.map_map]
    rfl
  · rw [List.all_map]
    exact q H' e
/-- desk.program, desk.offers = x, [] -/
theorem Tx.st_two (T : Tx K w mg) {ta : TE} {σ : L2.St} {H : Hp} {D : Ends} {x y0 y1 : V} {d dx : Addr} (h1 : Val ta σ H x) (hs : σ[0]? = some (some (.ref d))) (hd : atDesk K H d dx y0 y1)
    (q : ∀ oa tp, H oa = none → H tp = none → tp ≠ oa → D.nx σ (upd (upd (upd (upd H oa (.lst [])) tp (.tup [x, .ref oa])) d (.ins (He.ga K "Desk") dx (fDesk x y1))) d (.ins (He.ga K "Desk") dx (fDesk x (.ref oa))))) :
    tAsg (tTup (tCons ta (tCons (tLst tNil) tNil))) (gTup K 2 (gCons (gFld K (tVar 0) "program") (gCons (gFld K (tVar 0) "offers") gNil))) D σ H := by
  refine h1 _ ⟨by show 0 ≤ sizeLine; decide, fun oa hoa => ⟨by show 2 ≤ sizeLine; decide, fun tp htp => ?_⟩⟩
  have hto : tp ≠ oa := fun e => by rw [e, upd_same] at htp; cases htp
  rw [upd_ne hto] at htp
  have d1 : d ≠ oa := ne_of_none hd hoa
  have d2 : d ≠ tp := ne_of_none hd htp
  refine ⟨tp, [x, .ref oa], rfl, .inl (.inl upd_same), rfl, x, [.ref oa], rfl, .ref d, hs, d, He.ga K "Desk", dx, fDesk y0 y1, rfl, by rw [upd_ne d2, upd_ne d1]; exact hd, T.k_Desk, T.n_Desk_program, by show 2 < 1000; decide, .ref oa, [], rfl, .ref d, hs, d, He.ga K "Desk", dx, fDesk x y1, rfl, ?_, T.k_Desk, T.n_Desk_offers, by show 2 < 1000; decide, rfl, ?_⟩
  · rw [pt_Desk_program, upd_same]
  · have := q oa tp hoa htp hto
    rw [pt_Desk_program, pt_Desk_offers]
    exact this
theorem lst3 {σ : L2.St} {H : Hp} {ta tb tc : TE} {Q : VK} {x y z : V} (h1 : Val ta σ H x) (h2 : Val tb σ H y) (h3 : Val tc σ H z) (q : ∀ p, H p = none → Q (.ref p) (upd H p (.lst [x, y, z]))) : tLst (tCons ta (tCons tb (tCons tc tNil))) σ H Q := h1 _ (h2 _ (h3 _ ⟨by show 3 ≤ sizeLine; decide, q⟩))
theorem sc_load : FnScope ["desk", "codes", "program", "error", "code"] ["desk", "codes"] (defScope s_load) := ⟨rfl, rfl, rfl, by decide +kernel, rfl, by decide +kernel, by decide +kernel⟩
theorem ok_load (T : Tx K w mg) : Df P w K mg base CX0 12 "load" ["desk", "codes"] (opSp K 1) := by
  obtain ⟨fd, F⟩ := T.d_load
  refine ⟨fd, T.g_load, F.kp, (F.bindsN (ps := ["desk", "codes"]) fun _ _ _ _ _ _ us hl => match us, hl with | [_, _], _ => rfl), F.ok sc_load sp2_len (fun cdv A outer s H vs Q E hr h => ⟨_, PSs.nox ((pss_cons (ps_if (PW.pt (pw_or (pt_cmpR op_gt (pe_callB call_len (by rfl) T.f_len (by decide +kernel) (pa_cons (pv 1) pa_nil)) (pe_gi T.c_MOST_BYTES) (nomark _)) (pw_or1 (pt_not (pt_val (pe_callB (cr_all rfl) (by rfl) T.f_all (by decide +kernel) (pa_cons (pe_lc (own := [("code", 4)]) rfl sc_load.nd (pi_list (pv 1)) (blkOk_by (N := ["desk", "codes", "program", "error", "code"]) (sc := defScope s_load) (by decide +kernel)) (fun _ _ _ _ _ => (pg_name (i := 4) sc_load.nd rfl (.inl rfl))) (fun _ _ _ _ _ => pts_nil) (fun _ _ _ _ _ => (pe_or (pe_cmpR op_eq (pv 4) pe_int (nomark _)) (pe_one (pe_chain op_le op_le pe_int (pv 4) pe_int))))) pa_nil)))))))
      (pss_one (ps_ret (pe_lst (pa_cons (pe_gi T.c_OUT) pa_nil))))
      pss_nil)
    (pss_cons (ps_asg (pe_df (ok_read_text T) (hr.mono (by decide)) pass0 (pa_cons (pv 1) pa_nil)) (pg_tup (n := 2) rfl (pgs_cons (pg_name (i := 2) sc_load.nd rfl (.inl rfl)) (pgs_cons (pg_name (i := 3) sc_load.nd rfl (.inl rfl)) pgs_nil))))
    (pss_cons (ps_if (pt_cmpR op_isN (pv 2) pe_non (nomark _))
      (pss_one (ps_ret (pe_lst (pa_cons (pv 3) pa_nil))))
      pss_nil)
    (pss_cons (ps_asg (pe_tup (pa_cons (pv 2) (pa_cons (pe_lst pa_nil) pa_nil))) (pg_tup (n := 2) rfl (pgs_cons (pg_fld (pv 0)) (pgs_cons (pg_fld (pv 0)) pgs_nil))))
    (pss_one (ps_ret (pe_lst (pa_cons (pe_callB call_len (by rfl) T.f_len (by decide +kernel) (pa_cons (pe_fld (pv 2) rfl) pa_nil)) (pa_cons (pe_callB call_len (by rfl) T.f_len (by decide +kernel) (pa_cons (pe_fld (pv 2) rfl) pa_nil)) (pa_cons (pe_callB call_len (by rfl) T.f_len (by decide +kernel) (pa_cons (pe_fld (pv 2) rfl) pa_nil)) pa_nil))))))))))), ?_⟩)⟩
  obtain ⟨_, _, rfl, L, D, n, ns, c, rfl, rfl, R, DO, hn, hc, _, h⟩ := h
  cases hc with
  | load _ hlen =>
  have hW : Same (wo H L.M) H := wo_same _ _
  have hS := hW.seq hn
  have hgt : Ans (tTest (tOp (rI0 fun i j => .bl (decide (j < i))) (tCB (fun xs H Q => ∃ x n, xs = [x] ∧ LenV K x H n ∧ Q (.int (n : Int)) H) (tCons (tVar 1) tNil)) (tC (.int 4000)))) [some (.ref L.d), some (.ref n), none, none, none] H (decide ((4000 : Int) < (ns.length : Int))) := ans_of (val_gt (val_lenM (f := V.int) (l := ns) (val_var rfl) hS) val_c)
  have bad : Xb15.isValidText ns = false → ∀ H1, Same H H1 → tRet (tLst (tCons (tC (.int (-2))) tNil)) { nx := fun _ H' => Q V.non H', rt := Q } [some (.ref L.d), some (.ref n), none, none, none] H1 := fun hv H1 e1 => by
    have h' : OpOut K H L (D, Xb16.single (-2)) Q := by
      have : Xb16.step D (.load ns) = (D, Xb16.single (-2)) := by
        show (if (!Xb15.isValidText ns) = true then _ else _) = _
        rw [hv]
        rfl
      rw [this] at h
      exact h
    exact st_retH (one_out h' (R.same e1) (R.mono e1) (fun a ha => e1.free ha) val_c)
  refine st_ifOrNotH hgt (fun e => bad ?_ H (Same.refl H)) (fun e => ?_)
  · rw [valid_is]
    have : ¬ ns.length ≤ 4000 := by
      have := of_decide_eq_true e
      omega
    rw [decide_eq_false this]
    rfl
  have h4 : ns.length ≤ 4000 := by
    have := of_decide_eq_false e
    omega
  refine all_lc (K := K) (zs := ns) (fun z => [some (.ref L.d), some (.ref n), none, none, some (.int z)]) (fun b => decide (b = 10) || (decide (32 ≤ b) && decide (b ≤ 126))) (val_var rfl) hS (by rw [List.length_map]) (by omega) (fun z => rfl) (fun i z x H1 R hz hx e q => ?_) (fun z H1 hz e => val_orV (val_is (val_eq (val_var rfl) val_c rfl) (by simp)) fun _ => val_chain_le val_c (val_var rfl) val_c) (fun H1 e1 => ⟨_, rfl, ?_⟩)
  · rw [List.getElem?_map, hz] at hx
    cases hx
    exact q
  cases hall : ns.all fun b => (decide (b = 10) || (decide (32 ≤ b) && decide (b ≤ 126))) with
  | false => exact ifT (b := !false) rfl (bad (by rw [valid_is, hall, Bool.and_false]) H1 e1)
  | true =>
    refine ifF (b := !true) rfl (st_next ?_)
    have hv : Xb15.isValidText ns = true := by rw [valid_is, hall, decide_eq_true h4]; rfl
    have hS1 : SqL K H1 n ((Xb15.toBytes ns).map iv) := by
      rw [← bytes_back hall]
      exact e1.seq hS
    have R1 := R.mono e1
    refine L2.st_seq (callS1 (val_var rfl) ⟨_, rfl, n, Xb15.toBytes ns, rfl, hS1, by unfold Xb15.toBytes; rw [List.length_map]; exact h4, ?_⟩)
    unfold TextRes
    have hst : Xb16.step D (.load ns) = (match Xb15.parseText (Xb15.toBytes ns) with
      | .error e => (D, Xb16.single (-(100 * Xb16.natInt e.2 + Xb16.natInt e.1 + 10)))
      | .ok p => (⟨some ⟨p, []⟩⟩, ⟨Xb16.natInt p.cells.length, [Xb16.natInt p.tasks.length, Xb16.natInt p.goes.length]⟩)) := by
      show (if (!Xb15.isValidText ns) = true then _ else _) = _
      rw [hv]
      rfl
    rw [hst] at h
    cases hp : Xb15.parseText (Xb15.toBytes ns) with
    | error c =>
      rw [hp] at h
      intro H2 q e2 hq
      refine ⟨q, _, rfl, .inl (.inl hq), rfl, _, _, rfl, _, _, rfl, rfl, ?_⟩
      dsimp only
      refine L2.st_seq (st_if (b := true) (ans_is (ans_of (val_isN (val_var rfl))) rfl) (fun _ => ?_) (fun e => by cases e))
      have e12 := e1.trans e2
      exact st_retH (one_out (z := -(100 * (c.2 : Int) + (c.1 : Int) + 10)) h (R.same e12) (R.mono e12) (fun a ha => e12.free ha) (val_var rfl))
    | ok p =>
      rw [hp] at h
      intro H2 q pa e2 hq hpr
      refine ⟨q, _, rfl, .inl (.inl hq), rfl, _, _, rfl, _, _, rfl, rfl, ?_⟩
      dsimp only
      refine L2.st_seq (st_if (b := false) (ans_is (ans_of (val_isN (val_var rfl))) rfl) (fun e => by cases e) (fun _ => st_next ?_))
      dsimp only
      have e12 := e1.trans e2
      have R2 := R.mono e12
      refine L2.st_seq (T.st_two (val_var rfl) rfl R2.at_ fun oa tp hoa htp hto => ?_)
      dsimp only
      obtain ⟨dxp, ca, ta, ga, cs, ts, hp1, hca, hcs, hta, hts, hga⟩ := hpr
      have hpr : ProgAt K H2 pa p := ⟨dxp, ca, ta, ga, cs, ts, hp1, hca, hcs, hta, hts, hga⟩
      generalize hG : upd (upd (upd (upd H2 oa (.lst [])) tp (.tup [.ref pa, .ref oa])) L.d (.ins (He.ga K "Desk") L.dx (fDesk (.ref pa) (.ref L.oa)))) L.d (.ins (He.ga K "Desk") L.dx (fDesk (.ref pa) (.ref oa))) = G
      have hd : H2 L.d = some _ := R2.at_
      have hp1' : H2 pa = some _ := hp1
      have hpd : pa ≠ L.d := fun e => by
        rw [e, hd] at hp1'
        have := congrArg List.length (HO.ins.inj (Option.some.inj hp1')).2.2
        exact absurd this (by show ¬ (2 = 3); decide)
      have hdo : L.d ≠ oa := ne_of_none hd hoa
      have hdt : L.d ≠ tp := ne_of_none hd htp
      have g1 : ∀ b u, b ≠ L.d → H2 b = some u → G b = some u := fun b u hb hu => by
        rw [← hG, upd_ne hb, upd_ne hb, upd_ne (ne_of_none hu htp), upd_ne (ne_of_none hu hoa)]
        exact hu
      have g2 : G oa = some (.lst []) := by
        rw [← hG, upd_ne (Ne.symm hdo), upd_ne (Ne.symm hdo), upd_ne (Ne.symm hto), upd_same]
      have g3 : G L.d = some (.ins (He.ga K "Desk") L.dx (fDesk (.ref pa) (.ref oa))) := by rw [← hG, upd_same]
      have g4 : ∀ b, G b = none → H2 b = none := fun b hb => by
        cases e : H2 b with
        | none => rfl
        | some u =>
          by_cases hbd : b = L.d
          · rw [hbd, g3] at hb; cases hb
          · rw [g1 b u hbd e] at hb; cases hb
      refine st_retH (lst3 (val_lenM (T.v_Program_cells (val_var rfl) (g1 _ _ hpd hp1)) (SqL.of (g1 _ _ (fun e => by rw [e, hd] at hca; cases hca) hca))) (val_lenM (T.v_Program_tasks (val_var rfl) (g1 _ _ hpd hp1)) (SqL.of (g1 _ _ (fun e => by rw [e, hd] at hta; cases hta) hta))) (val_lenM (T.v_Program_goes (val_var rfl) (g1 _ _ hpd hp1)) (SqL.of (g1 _ _ (fun e => by rw [e, hd] at hga; cases hga) hga))) fun r hr => ?_)
      have hrH := e12.free (g4 r hr)
      have u1 : ∀ b u, b ≠ L.d → H2 b = some u → upd G r (.lst [.int cs.length, .int ts.length, .int p.goes.length]) b = some u := fun b u hb hu => by
        rw [upd_ne (ne_of_none (g1 b u hb hu) hr)]
        exact g1 b u hb hu
      refine h _ { L with oa := oa, pa := pa, as := [] } r ⟨rfl, rfl, ?_, fun a ha => ?_⟩ ⟨hdo, fun a ha => ?_, ?_, ?_, All2.nil, fun h0 hh => ?_⟩ (nw_some.mpr ⟨hrH, ?_⟩)
      · refine wo_to fun b u hb hu => ?_
        have hbd : b ≠ L.d := fun e => hb (by rw [e]; simp [DLay.M])
        have hu2 := e12 _ _ hu
        refine ⟨fun z => ?_, u1 b u hbd hu2⟩
        have z : b ∈ [L.d, oa] ++ L.ex := z
        rcases List.mem_append.mp z with z | z
        · simp only [List.mem_cons, List.not_mem_nil, or_false] at z
          rcases z with z | z
          · exact hbd z
          · rw [z, hoa] at hu2; cases hu2
        · exact hb (List.mem_append_right _ z)
      · obtain ⟨q1, q2, o, u, q3⟩ := R.exd a ha
        rw [q3]
        exact u1 a _ q1 (e12 _ _ q3)
      · obtain ⟨q1, q2, o, u, q3⟩ := R2.exd a ha
        exact ⟨q1, ne_of_none q3 hoa, o, u, u1 a _ q1 q3⟩
      · show upd G r _ L.d = _
        rw [upd_ne (ne_of_none g3 hr)]
        exact g3
      · show upd G r _ oa = _
        rw [upd_ne (ne_of_none g2 hr)]
        exact g2
      · cases hh
        refine hpr.via fun b u hpl hu => ?_
        have hbd : b ≠ L.d := fun e => by
          rw [e, hd] at hu
          cases hu
          exact hpl rfl
        refine wo_some.mpr ⟨fun z => ?_, u1 b u hbd hu⟩
        have z : b ∈ [L.d, oa] ++ L.ex := z
        rcases List.mem_append.mp z with z | z
        · simp only [List.mem_cons, List.not_mem_nil, or_false] at z
          rcases z with z | z
          · exact hbd z
          · rw [z, hoa] at hu; cases hu
        · obtain ⟨_, _, o, v, q3⟩ := R2.exd b z
          rw [q3] at hu
          cases hu
          exact hpl
      · rw [upd_same]
        show _ = some (HO.lst [.int p.cells.length, .int p.tasks.length, .int p.goes.length])
        rw [hcs.len, hts.len]
end
end GW
/-! The walk 20: candidates offered, selections checked -/
namespace GW
open PySem PySem.Spec PyProof.Rows L2
open Gc (vL ShapeOk RInv ProgOk big In ExpOk AtomOk CandOk)
open Xb15 (State TaskInstance)
/-- a comprehension over a tuple, its parts without effect -/
theorem lcT {α : Type} {zs : List α} {K : PySem.W.Frag} {σ : L2.St} {H : Hp} {ta te : TE} {g : TG} {tt : TT} {vs : List Nat} {Q : VK} {a : Addr} {xs : List V} (σ' : α → L2.St) (p : α → Bool) (fv : α → V) (h1 : Val ta σ H (.ref a)) (hS : SqT K H a xs) (hx : xs.length = zs.length) (hl : zs.length ≤ 100000)
    (hw : ∀ z, wipe (σ' z) vs = wipe σ vs) (hg : ∀ (i : Nat) (z : α) (x : V) (H1 : Hp) (R : L2.St → Hp → Prop), zs[i]? = some z → xs[i]? = some x → Same H H1 → R (σ' z) H1 → g x (wipe σ vs) H1 R)
    (ht : ∀ (z : α) (H1 : Hp), z ∈ zs → Same H H1 → Ans tt (σ' z) H1 (p z)) (he : ∀ (z : α) (H1 : Hp), z ∈ zs → p z = true → Same H H1 → Val te (σ' z) H1 (fv z))
    (hd : ∀ H' D, Same H H' → H' D = some (.lst ((zs.filter p).map fv)) → Q (.ref D) H') : tLc (iTup K ta) g tt te vs σ H Q :=
  h1 _ ⟨a, rfl, ⟨_, hS⟩, fun D hD => lc_gen (walk_tup (K := K) (a := a) (xs := xs)) (zs := zs) σ' p fv hx hl hD (fun H' s' => Same.sqt s' hS) hw
    (fun i z H1 y H2 R hz s1 yy q => by
      obtain ⟨rfl, hy⟩ := yy
      exact hg i z y _ R hz hy s1 (q _ (Same.refl _)))
    (fun z H1 R hm s1 q => ht z H1 hm s1 _ (q H1 (Same.refl H1))) (fun z H1 R hm hp s1 q => he z H1 hm hp s1 _ (q H1 (Same.refl H1))) (fun H' s1 hD' => hd H' D s1 hD')⟩
theorem all_lcT {α : Type} {zs : List α} {K : PySem.W.Frag} {σ : L2.St} {H : Hp} {ta te : TE} {g : TG} {vs : List Nat} {Q : VK} {a : Addr} {xs : List V} (σ' : α → L2.St) (fv : α → Bool) (h1 : Val ta σ H (.ref a)) (hS : SqT K H a xs) (hx : xs.length = zs.length) (hl : zs.length ≤ 100000)
    (hw : ∀ z, wipe (σ' z) vs = wipe σ vs) (hg : ∀ (i : Nat) (z : α) (x : V) (H1 : Hp) (R : L2.St → Hp → Prop), zs[i]? = some z → xs[i]? = some x → Same H H1 → R (σ' z) H1 → g x (wipe σ vs) H1 R)
    (he : ∀ (z : α) (H1 : Hp), z ∈ zs → Same H H1 → Val te (σ' z) H1 (.bl (fv z)))
    (q : ∀ H', Same H H' → Q (.bl (zs.all fv)) H') : tCB (rAll K) (tCons (tLc (iTup K ta) g tYes te vs) tNil) σ H Q := by
  refine lcT (tt := tYes) (Q := fun v H' => rAll K [v] H' Q) (zs := zs) σ' (fun _ => true) (fun z => .bl (fv z)) h1 hS hx hl hw hg (fun z H1 _ _ Q q => q) (fun z H1 hz _ e => he z H1 hz e) fun H' D e hD => ?_
  refine ⟨D, zs.map fv, rfl, SqL.of ?_, ?_⟩
  · rw [hD, List.filter_eq_self.mpr (fun _ _ => rfl), List.map_map]
    rfl
  · rw [List.all_map]
    exact q H' e
def addR (h : Xb16.Session) (ci : Int) (ns : List Int) (r : Bool) (g : Nat → Xb16.Candidate) : Xb16.Desk × Xb16.Answer := if ns.all Xb15.isInputValue = false then (⟨some h⟩, Xb16.single (-2)) else match Xb15.checkCell h.program ci (fun k => Xb15.isRange k == r) with
  | .error e => (⟨some h⟩, Xb16.single e)
  | .ok c => if 6 ≤ h.candidates.length then (⟨some h⟩, Xb16.single (-5)) else (⟨some { h with candidates := h.candidates ++ [g c] }⟩, Xb16.single (Xb16.natInt h.candidates.length))
theorem kind_range (kd : Xb15.Kind) : decide (V.str (kindS kd) = V.str "range") = Xb15.isRange kd := by
  cases kd with
  | range a b => exact decide_eq_true rfl
  | _ => exact decide_eq_false (by decide +kernel)
theorem callS4K {sp : Sp} {E : XK} {ta tb tc : TE} {x y u : V} {σ : L2.St} {H : Hp} {Q : VK} (h1 : Val ta σ H x) (h2 : Val tb σ H y) (h : tc σ H fun z H1 => sp [x, y, z, u] H1 Q E) : tCall sp [] E (tCons ta (tCons tb (tCons tc (tCons (tC u) tNil)))) σ H Q := h1 _ (h2 _ h)
section
variable {P : Program} {w : World} {K : PySem.W.Frag} {mg : Str → Option Value} {base : Heap}
def adOSp (K : PySem.W.Frag) : Sp := sp4 fun a b c d H Q E => ∃ (L : DLay) (h : Xb16.Session) (ci : Int) (nt : Addr) (ns : List Int) (r : Bool) (g : Nat → Xb16.Candidate), a = .ref L.d ∧ b = .int ci ∧ c = .ref nt ∧ d = .bl r ∧ DeskAt K H L ⟨some h⟩ ∧ DOk ⟨some h⟩ ∧ wo H L.M nt = some (.tup (ns.map V.int)) ∧ (∀ c, candC (g c) = c ∧ candN (g c) = ns) ∧ ns.length ≤ 2 ∧ OpOut K H L (addR h ci ns r g) Q
theorem sc_add_offer : FnScope ["desk", "cell", "numbers", "is_range", "number"] ["desk", "cell", "numbers", "is_range"] (defScope s_add_offer) := ⟨rfl, rfl, rfl, by decide +kernel, rfl, by decide +kernel, by decide +kernel⟩
theorem ok_add_offer (T : Tx K w mg) : Df P w K mg base CX0 1 "add_offer" ["desk", "cell", "numbers", "is_range"] (adOSp K) := by
  obtain ⟨fd, F⟩ := T.d_add_offer
  refine ⟨fd, T.g_add_offer, F.kp, (F.bindsN (ps := ["desk", "cell", "numbers", "is_range"]) fun _ _ _ _ _ _ us hl => match us, hl with | [_, _, _, _], _ => rfl), F.ok sc_add_offer sp4_len (fun cdv A outer s H vs Q E hr h => ⟨_, PSs.nox ((pss_cons (ps_if (pt_not (pt_val (pe_callB (cr_all rfl) (by rfl) T.f_all (by decide +kernel) (pa_cons (pe_lc (own := [("number", 4)]) rfl sc_add_offer.nd (pi_tup (pv 2)) (blkOk_by (N := ["desk", "cell", "numbers", "is_range", "number"]) (sc := defScope s_add_offer) (by decide +kernel)) (fun _ _ _ _ _ => (pg_name (i := 4) sc_add_offer.nd rfl (.inl rfl))) (fun _ _ _ _ _ => pts_nil) (fun _ _ _ _ _ => (pe_chain op_le op_le (pe_un un_neg (pe_gi T.c_MOST_VALUE)) (pv 4) (pe_gi T.c_MOST_VALUE)))) pa_nil))))
      (pss_one (ps_ret (pe_lst (pa_cons (pe_gi T.c_OUT) pa_nil))))
      pss_nil)
    (pss_cons (ps_if (pt_not (pt_chain op_le op_lt pe_int (pv 1) (pe_callB call_len (by rfl) T.f_len (by decide +kernel) (pa_cons (pe_fld (pe_fld (pv 0) rfl) rfl) pa_nil))))
      (pss_one (ps_ret (pe_lst (pa_cons (pe_gi T.c_NO_CELL) pa_nil))))
      pss_nil)
    (pss_cons (ps_if (pt_cmpR op_ne (pe_cmpR op_eq (pe_fld (pe_ix ix_list (pe_fld (pe_fld (pv 0) rfl) rfl) (pv 1) (fun _ _ => rfl)) rfl) pe_str (nomark _)) (pv 3) (nomark _))
      (pss_one (ps_ret (pe_lst (pa_cons (pe_gi T.c_WRONG_KIND) pa_nil))))
      pss_nil)
    (pss_cons (ps_if (pt_cmpR op_eq (pe_callB call_len (by rfl) T.f_len (by decide +kernel) (pa_cons (pe_fld (pv 0) rfl) pa_nil)) (pe_gi T.c_MOST_OFFERS) (nomark _))
      (pss_one (ps_ret (pe_lst (pa_cons (pe_gi T.c_FULL) pa_nil))))
      pss_nil)
    (pss_cons (ps_expr (pe_bm PySem.F.plainAttrs_list PySem.F.slot_list_append PySem.F.type_list_append mt_append (pe_fld (pv 0) rfl) (pa_cons (pe_tup (pa_cons (pv 1) (pa_cons (pv 2) pa_nil))) pa_nil)))
    (pss_one (ps_ret (pe_lst (pa_cons (pe_op op_sub (pe_callB call_len (by rfl) T.f_len (by decide +kernel) (pa_cons (pe_fld (pv 0) rfl) pa_nil)) pe_int) pa_nil)))))))))), ?_⟩)⟩
  obtain ⟨_, _, _, _, rfl, L, h0, ci, nt, ns, r, g, rfl, rfl, rfl, rfl, R, DO, hn, hg, hl, h⟩ := h
  have hW : Same (wo H L.M) H := wo_same _ _
  obtain ⟨PO, CO, h6⟩ := DO h0 rfl
  have hpr := R.pr h0 rfl
  unfold addR at h
  refine st_ifNotH (all_lcT (K := K) (zs := ns) (fun z => [some (.ref L.d), some (.int ci), some (.ref nt), some (.bl r), some (.int z)]) (fun z => decide (-1000000000 ≤ z) && decide (z ≤ 1000000000)) (val_var rfl) (.inl (.inl (hW _ _ hn))) (by rw [List.length_map]) (by omega) (fun z => rfl) (fun i z x H1 R hz hx e q => ?_) (fun z H1 hz e => val_chain_le (val_neg val_c) (val_var rfl) val_c) (fun H1 e1 => ⟨_, rfl, ?_⟩))
  · rw [List.getElem?_map, hz] at hx
    cases hx
    exact q
  have hin : (ns.all fun z => decide (-1000000000 ≤ z) && decide (z ≤ 1000000000)) = ns.all Xb15.isInputValue := rfl
  rw [hin]
  have R1 := R.mono e1
  have back : ∀ a, H1 a = none → H a = none := fun a ha => e1.free ha
  cases hall : ns.all Xb15.isInputValue with
  | false =>
    rw [if_pos hall] at h
    exact ifT (b := !false) rfl (st_retH (one_out h (R.same e1) R1 back val_c))
  | true =>
    rw [if_neg (by rw [hall]; decide)] at h
    refine ifF (b := !true) rfl (st_next ?_)
    dsimp only
    have hpr1 := hpr.mono (hW.trans e1)
    obtain ⟨dxp, ca, ta, ga, cs, ts, hp1, hca, hcs, hta, hts, hga⟩ := hpr1
    have hpv : ∀ {σ : L2.St}, σ[0]? = some (some (.ref L.d)) → Val (tFld K (tVar 0) "program") σ H1 (.ref L.pa) := fun hs => T.v_Desk_program (val_var hs) R1.at_
    have hch := ans_not (ans_of (val_chain_lelt (σ := [some (.ref L.d), some (.int ci), some (.ref nt), some (.bl r), none]) (H := H1) (val_c (v := .int 0)) (val_var (i := 1) rfl) (val_lenM (K := K) (f := V.ref) (l := cs) (T.v_Program_cells (hpv rfl) hp1) (SqL.of hca))))
    by_cases hc : 0 ≤ ci ∧ ci < (cs.length : Int)
    · have hcl : ci.toNat < h0.program.cells.length := by have := hcs.len; omega
      have hcell : h0.program.cells[ci.toNat]? = some h0.program.cells[ci.toNat] := List.getElem?_eq_getElem hcl
      have hci : V.int ci = iv ci.toNat := by show _ = V.int ((ci.toNat : Nat) : Int); rw [Int.toNat_of_nonneg hc.1]
      have hck : Xb15.checkCell h0.program ci (fun k => Xb15.isRange k == r) = if (Xb15.isRange (Xb15.cellKind h0.program ci.toNat) == r) = true then .ok ci.toNat else .error (-4) := by
        unfold Xb15.checkCell
        rw [if_neg (by omega), hcell]
        dsimp only
        rw [kind_of hcell]
      rw [hck] at h
      refine st_if (b := false) (ans_is hch (by simp; omega)) (fun e => by cases e) (fun _ => st_next ?_)
      dsimp only
      have hkd := val_ne (val_eq (T.v_kind (σ := [some (.ref L.d), some (.int ci), some (.ref nt), some (.bl r), none]) (hpr.mono (hW.trans e1)) (Same.refl H1) hcl (hpv rfl) (val_is (val_var (i := 1) rfl) hci)) (val_c (v := .str "range")) rfl) (val_var (i := 3) rfl) rfl
      rw [kind_range] at hkd
      cases hkr : (Xb15.isRange (Xb15.cellKind h0.program ci.toNat) == r) with
      | false =>
        rw [if_neg (by rw [hkr]; decide)] at h
        refine st_if (b := true) (ans_is (ans_of hkd) ?_) (fun _ => ?_) (fun e => by cases e)
        · simp only [Bool.not_eq_true', decide_eq_false_iff_not]
          intro z
          have := V.bl.inj z
          rw [this] at hkr
          simp at hkr
        · exact st_retH (one_out h (R.same e1) R1 back val_c)
      | true =>
        rw [if_pos hkr] at h
        dsimp only at h
        have hkr' : Xb15.isRange (Xb15.cellKind h0.program ci.toNat) = r := by simpa using hkr
        refine st_if (b := false) (ans_is (ans_of hkd) (by rw [hkr']; simp)) (fun e => by cases e) (fun _ => st_next ?_)
        dsimp only
        have hcl2 : L.as.length = h0.candidates.length := R.cs.len
        have hlen : Val (tCB (fun xs H Q => ∃ x n, xs = [x] ∧ LenV K x H n ∧ Q (V.int (n : Int)) H) (tCons (tFld K (tVar 0) "offers") tNil)) [some (.ref L.d), some (.int ci), some (.ref nt), some (.bl r), none] H1 (.int L.as.length) := val_lenM (T.v_Desk_offers (val_var rfl) R1.at_) (SqL.of R1.ol)
        by_cases hfull : 6 ≤ h0.candidates.length
        · rw [if_pos hfull] at h
          refine st_if (b := true) (ans_is (ans_of (val_eq hlen val_c rfl)) (by simp; omega)) (fun _ => ?_) (fun e => by cases e)
          exact st_retH (one_out h (R.same e1) R1 back val_c)
        · rw [if_neg hfull] at h
          refine st_if (b := false) (ans_is (ans_of (val_eq hlen val_c rfl)) (by simp; omega)) (fun e => by cases e) (fun _ => st_next ?_)
          dsimp only
          refine st_appendH (T.v_Desk_offers (val_var rfl) R1.at_) (SqL.of R1.ol) (tup2 (val_var rfl) (val_var rfl) fun t ht => ?_)
          have e2 : Same H1 (upd H1 t (.tup [.int ci, .ref nt])) := same_upd ht
          refine ⟨L.oa, _, _, rfl, rfl, e2 _ _ R1.ol, by rw [List.length_map]; exact lineN (by omega), ?_⟩
          dsimp only
          have R2 := R1.mono e2
          have hoaM : L.oa ∈ L.M := by simp [DLay.M]
          have htM : t ∉ L.M := R1.fresh ht
          generalize hH2 : upd H1 t (.tup [.int ci, .ref nt]) = H2 at *
          have ht2 : H2 t = some (.tup [.int ci, .ref nt]) := by rw [← hH2]; exact upd_same
          have hw : wo (upd H2 L.oa (.lst (L.as.map V.ref ++ [.ref t]))) L.M = wo H2 L.M := wo_upd hoaM
          have R3 : DeskAt K (upd H2 L.oa (.lst (L.as.map V.ref ++ [.ref t]))) { L with as := L.as ++ [t] } ⟨some { h0 with candidates := h0.candidates ++ [g ci.toNat] }⟩ := by
            refine ⟨R.nd, fun a ha => ?_, ?_, ?_, ?_, fun h1 hh => ?_⟩
            · obtain ⟨q1, q2, o, u, q3⟩ := R2.exd a ha
              exact ⟨q1, q2, o, u, by rw [upd_ne q2]; exact q3⟩
            · show upd H2 L.oa _ L.d = _
              rw [upd_ne R.nd]
              exact R2.at_
            · show upd H2 L.oa _ L.oa = _
              rw [upd_same, List.map_append]
              rfl
            · show All2 (CandAt (wo (upd H2 L.oa _) L.M)) (L.as ++ [t]) (h0.candidates ++ [g ci.toNat])
              rw [hw]
              refine R2.cs.snoc ⟨nt, ?_, ?_⟩
              · rw [(hg _).1, ← hci]
                exact wo_some.mpr ⟨htM, ht2⟩
              · rw [(hg _).2]
                exact wo_more (e1.trans e2) _ _ hn
            · cases hh
              show ProgAt K (wo (upd H2 L.oa _) L.M) _ _
              rw [hw]
              exact R2.pr h0 rfl
          have k3 : DKept H L (upd H2 L.oa (.lst (L.as.map V.ref ++ [.ref t]))) { L with as := L.as ++ [t] } := ⟨rfl, rfl, by
            show Same _ (wo (upd H2 L.oa _) L.M)
            rw [hw]
            exact wo_more (e1.trans e2), fun a ha => by
            obtain ⟨q1, q2, o, u, q3⟩ := R.exd a ha
            rw [upd_ne q2, q3, (e1.trans e2) _ _ q3]⟩
          refine st_retH (one_out h k3 R3 (fun a ha => ?_) (val_is (val_sub (val_lenM (f := V.ref) (l := L.as ++ [t]) (T.v_Desk_offers (val_var rfl) R3.at_) (SqL.of R3.ol)) val_c) ?_))
          · by_cases ea : a = L.oa
            · rw [ea, upd_same] at ha; cases ha
            · rw [upd_ne ea] at ha
              exact (e1.trans e2).free ha
          · show V.int (((L.as ++ [t]).length : Int) - 1) = V.int (h0.candidates.length : Int)
            rw [List.length_append, hcl2]
            simp
    · have hck : Xb15.checkCell h0.program ci (fun k => Xb15.isRange k == r) = .error (-3) := by
        unfold Xb15.checkCell
        by_cases h1 : ci < 0
        · rw [if_pos h1]
        · rw [if_neg h1, List.getElem?_eq_none (by have := hcs.len; omega)]
      rw [hck] at h
      refine st_if (b := true) (ans_is hch (by simp; omega)) (fun _ => ?_) (fun e => by cases e)
      exact st_retH (one_out h (R.same e1) R1 back val_c)
theorem sc_offer_put : FnScope ["desk", "numbers"] ["desk", "numbers"] (defScope s_offer_put) := ⟨rfl, rfl, rfl, by decide +kernel, rfl, by decide +kernel, by decide +kernel⟩
theorem ok_offer_put (T : Tx K w mg) : Df P w K mg base CX0 2 "offer_put" ["desk", "numbers"] (opSp K 2) := by
  obtain ⟨fd, F⟩ := T.d_offer_put
  refine ⟨fd, T.g_offer_put, F.kp, (F.bindsN (ps := ["desk", "numbers"]) fun _ _ _ _ _ _ us hl => match us, hl with | [_, _], _ => rfl), F.ok sc_offer_put sp2_len (fun cdv A outer s H vs Q E hr h => ⟨_, PSs.nox ((pss_one (ps_ret (pe_df (ok_add_offer T) (hr.mono (by decide)) pass0 (pa_cons (pv 0) (pa_cons (pe_ix ix_list (pv 1) pe_int (fun _ _ => rfl)) (pa_cons (pe_tup (pa_cons (pe_ix ix_list (pv 1) pe_int (fun _ _ => rfl)) pa_nil)) (pa_cons pe_bl pa_nil)))))))), ?_⟩)⟩
  obtain ⟨_, _, rfl, L, D, n, ns, c, rfl, rfl, R, DO, hn, hc, hs, h⟩ := h
  obtain ⟨h0, hs⟩ := hs (by decide)
  obtain ⟨ses⟩ := D
  dsimp only at hs
  subst hs
  cases hc with
  | put c z =>
  have hW : Same (wo H L.M) H := wo_same _ _
  have e0 : Val (tOp (rIxL K) (tVar 1) (tC (.int 0))) [some (.ref L.d), some (.ref n)] H (.int c) := val_ixL (val_var rfl) val_c (hW.seq hn) (atI_nat (j := 0) rfl)
  have e1 : Val (tOp (rIxL K) (tVar 1) (tC (.int 1))) [some (.ref L.d), some (.ref n)] H (.int z) := val_ixL (val_var rfl) val_c (hW.seq hn) (atI_nat (j := 1) rfl)
  refine st_retH (callS4K (val_var rfl) e0 (tup1 e1 fun t ht => ?_))
  have R1 := R.mono (same_upd (o := .tup [.int z]) ht)
  refine ⟨_, _, _, _, rfl, L, h0, c, t, [z], false, fun k => .put k z, rfl, rfl, rfl, rfl, R1, DO, wo_some.mpr ⟨R.fresh ht, upd_same⟩, fun k => ⟨rfl, rfl⟩, by simp, ?_⟩
  have hr : Xb16.step ⟨some h0⟩ (.offerPut c z) = addR h0 c [z] false (fun k => .put k z) := by
    show ((⟨some (Xb16.runCall h0 (.offerPut c z)).1⟩ : Xb16.Desk), (Xb16.runCall h0 (.offerPut c z)).2) = _
    unfold Xb16.runCall addR
    dsimp only
    have hk : (fun k => Xb15.isRange k == false) = fun k => !Xb15.isRange k := by
      funext k
      cases Xb15.isRange k <;> rfl
    rw [hk]
    have : [z].all Xb15.isInputValue = Xb15.isInputValue z := by simp
    rw [this]
    cases Xb15.isInputValue z with
    | false => rfl
    | true =>
      rw [if_neg (by decide), if_neg (by decide)]
      cases Xb15.checkCell h0.program c fun k => !Xb15.isRange k with
      | error e => rfl
      | ok c' =>
        dsimp only
        show _ = if 6 ≤ h0.candidates.length then _ else _
        by_cases h6 : 6 ≤ h0.candidates.length
        · rw [if_pos h6]
          exact congrArg (fun x : Xb16.Session × Xb16.Answer => ((⟨some x.1⟩ : Xb16.Desk), x.2)) (if_pos h6)
        · rw [if_neg h6]
          exact congrArg (fun x : Xb16.Session × Xb16.Answer => ((⟨some x.1⟩ : Xb16.Desk), x.2)) (if_neg h6)
  rw [hr] at h
  intro H' L' q k2 R2 hq
  exact h H' L' q ⟨k2.d, k2.ex, (wo_more (same_upd ht)).trans k2.sm, fun a ha => by
    rw [k2.old a ha]
    obtain ⟨_, _, o, u, e⟩ := R.exd a ha
    rw [upd_ne (ne_of_none e ht)]⟩ R2 (nw_some.mpr ⟨(same_upd ht).free (nw_some.mp hq).1, (nw_some.mp hq).2⟩)
end
end GW
/-! The walk 21: candidates offered and cleared, selections checked -/
namespace GW
open PySem PySem.Spec PyProof.Rows L2 RZ
open Gc (vL ShapeOk RInv ProgOk big In ExpOk AtomOk CandOk)
open Xb15 (State TaskInstance)
theorem OpOut.after {K : PySem.W.Frag} {H H1 : Hp} {L : DLay} {D : Xb16.Desk} {r : Xb16.Desk × Xb16.Answer} {Q : VK} (h : OpOut K H L r Q) (R : DeskAt K H L D) (e : Same H H1) : OpOut K H1 L r Q := fun H' L' q k2 R2 hq => h H' L' q ⟨k2.d, k2.ex, (wo_more e).trans k2.sm, fun a ha => by
    rw [k2.old a ha]
    obtain ⟨_, _, o, u, e'⟩ := R.exd a ha
    rw [e', e _ _ e']⟩ R2 (nw_some.mpr ⟨e.free (nw_some.mp hq).1, (nw_some.mp hq).2⟩)
theorem step_cut (h0 : Xb16.Session) (c a b : Int) : Xb16.step ⟨some h0⟩ (.offerNarrow c a b) = addR h0 c [a, b] true (fun k => .narrow k a b) := by
  show ((⟨some (Xb16.runCall h0 (.offerNarrow c a b)).1⟩ : Xb16.Desk), (Xb16.runCall h0 (.offerNarrow c a b)).2) = _
  unfold Xb16.runCall addR
  dsimp only
  have hk : (fun k => Xb15.isRange k == true) = Xb15.isRange := by
    funext k
    cases Xb15.isRange k <;> rfl
  rw [hk]
  have : [a, b].all Xb15.isInputValue = (Xb15.isInputValue a && Xb15.isInputValue b) := by simp
  rw [this]
  cases Xb15.isInputValue a with
  | false => rfl
  | true =>
    cases Xb15.isInputValue b with
    | false => rfl
    | true =>
      rw [if_neg (by decide), if_neg (by decide)]
      cases Xb15.checkCell h0.program c Xb15.isRange with
      | error e => rfl
      | ok c' =>
        dsimp only
        show _ = if 6 ≤ h0.candidates.length then _ else _
        by_cases h6 : 6 ≤ h0.candidates.length
        · rw [if_pos h6]
          exact congrArg (fun x : Xb16.Session × Xb16.Answer => ((⟨some x.1⟩ : Xb16.Desk), x.2)) (if_pos h6)
        · rw [if_neg h6]
          exact congrArg (fun x : Xb16.Session × Xb16.Answer => ((⟨some x.1⟩ : Xb16.Desk), x.2)) (if_neg h6)
/-! ### plain: what a selection is -/
def adj (l : List Int) : Bool := (l.zip (l.drop 1)).all fun x => decide (x.1 < x.2)
theorem adj_cons (x y : Int) (r : List Int) : adj (x :: y :: r) = (decide (x < y) && adj (y :: r)) := rfl
theorem rising_is (m : Int) : ∀ (l : List Int) (p : Int), Xb16.rising m p l = ((match l with
    | [] => true
    | x :: _ => decide (p < x)) && ((l.all fun x => decide (x < m)) && adj l))
  | [], p => rfl
  | [x], p => by
    unfold Xb16.rising
    simp [Xb16.rising, adj]
  | x :: y :: r, p => by
    have ih := rising_is m (y :: r) x
    unfold Xb16.rising
    rw [ih, adj_cons]
    simp only [List.all_cons]
    cases decide (p < x) <;> cases decide (x < m) <;> cases decide (x < y) <;> simp
theorem adj_up : ∀ {l : List Int} {p : Int}, adj l = true → (match l with
    | [] => true
    | x :: _ => decide (p < x)) = true → ∀ z ∈ l, p < z
  | [], _, _, _, z, hz => by cases hz
  | [x], p, _, h, z, hz => by
    simp at hz h
    omega
  | x :: y :: r, p, ha, h, z, hz => by
    rw [adj_cons, Bool.and_eq_true] at ha
    have h : p < x := of_decide_eq_true h
    rcases List.mem_cons.mp hz with rfl | hz
    · exact h
    · have := adj_up (l := y :: r) (p := x) ha.2 ha.1 z hz
      omega
theorem selection_is (m : Int) (l : List Int) : Xb16.rising m (-1) l = ((l.all fun n => decide (0 ≤ n) && decide (n < m)) && adj l) := by
  rw [rising_is, Bool.eq_iff_iff]
  simp only [Bool.and_eq_true, List.all_eq_true, decide_eq_true_eq]
  refine ⟨fun ⟨h1, h2, h3⟩ => ⟨fun z hz => ⟨?_, h2 z hz⟩, h3⟩, fun ⟨h1, h2⟩ => ⟨?_, fun z hz => (h1 z hz).2, h2⟩⟩
  · have := adj_up h3 h1 z hz
    omega
  · cases l with
    | nil => rfl
    | cons x r =>
      have := (h1 x (by simp)).1
      simp
      omega
theorem call_lenK {X : Cx} {K : PySem.W.Frag} (hK : X.K = K) : CallR X (Value.builtin "len") (fun xs H Q => ∃ x n, xs = [x] ∧ LenV K x H n ∧ Q (.int (n : Int)) H) := by
  subst hK
  exact call_len
/-- what a comprehension over J is to show -/
def LcR (g : TG) (tt : TT) (te : TE) (vs : List Nat) (σ : L2.St) (Q : VK) (J : It) (H1 : Hp) : Prop := ∀ D, H1 D = none → ∃ W : Nat → Nat → Hp → Prop, (∃ m, W 0 m (upd H1 D (.lst []))) ∧ ∀ i m H, W i m H → (J.stop i H ∧ Q (.ref D) H) ∨ (J.go i H ∧ ∃ Nx : Hp → Prop, (∀ H', Nx H' → ∃ m', m' < m ∧ W (i + 1) m' H') ∧
  ∀ x H', J.yld i H x H' → g x (wipe σ vs) H' fun σ2 H2 => wipe σ2 vs = wipe σ vs ∧ tt σ2 H2 fun b H3 => if b = true then te σ2 H3 fun y H4 => ∃ acc, H4 D = some (.lst acc) ∧ acc.length < sizeLine ∧ Nx (upd H4 D (.lst (acc ++ [y]))) else Nx H3)
theorem zipLc {K : PySem.W.Frag} {σ : L2.St} {H : Hp} {ta tb te : TE} {g : TG} {tt : TT} {vs : List Nat} {Q : VK} {a : Addr} (h1 : Val ta σ H (.ref a)) (h2 : tb σ H fun y H1 => ∃ a' b xs ys, [V.ref a, y] = [V.ref a', V.ref b] ∧ ((SqL K H1 a' xs ∧ SqL K H1 b ys ∧ LcR g tt te vs σ Q (Itz K a' b) H1) ∨ (SqT K H1 a' xs ∧ SqT K H1 b ys ∧ LcR g tt te vs σ Q (ItzT K a' b) H1))) :
    tLc (iZipA K (tCons ta (tCons tb tNil))) g tt te vs σ H Q := h1 _ h2
theorem callB1H {r : List V → Hp → VK → Prop} {ta : TE} {σ : L2.St} {H : Hp} {Q : VK} (h : ta σ H fun v H' => r [v] H' Q) : tCB r (tCons ta tNil) σ H Q := h
section
variable {P : Program} {w : World} {K : PySem.W.Frag} {mg : Str → Option Value} {base : Heap}
theorem sc_offer_narrow : FnScope ["desk", "numbers"] ["desk", "numbers"] (defScope s_offer_narrow) := ⟨rfl, rfl, rfl, by decide +kernel, rfl, by decide +kernel, by decide +kernel⟩
theorem ok_offer_narrow (T : Tx K w mg) : Df P w K mg base CX0 2 "offer_narrow" ["desk", "numbers"] (opSp K 3) := by
  obtain ⟨fd, F⟩ := T.d_offer_narrow
  refine ⟨fd, T.g_offer_narrow, F.kp, (F.bindsN (ps := ["desk", "numbers"]) fun _ _ _ _ _ _ us hl => match us, hl with | [_, _], _ => rfl), F.ok sc_offer_narrow sp2_len (fun cdv A outer s H vs Q E hr h => ⟨_, PSs.nox ((pss_one (ps_ret (pe_df (ok_add_offer T) (hr.mono (by decide)) pass0 (pa_cons (pv 0) (pa_cons (pe_ix ix_list (pv 1) pe_int (fun _ _ => rfl)) (pa_cons (pe_tup (pa_cons (pe_ix ix_list (pv 1) pe_int (fun _ _ => rfl)) (pa_cons (pe_ix ix_list (pv 1) pe_int (fun _ _ => rfl)) pa_nil))) (pa_cons pe_bl pa_nil)))))))), ?_⟩)⟩
  obtain ⟨_, _, rfl, L, D, n, ns, c, rfl, rfl, R, DO, hn, hc, hs, h⟩ := h
  obtain ⟨h0, hs⟩ := hs (by decide)
  obtain ⟨ses⟩ := D
  dsimp only at hs
  subst hs
  cases hc with
  | cut c a b =>
  have hW : Same (wo H L.M) H := wo_same _ _
  have e0 : Val (tOp (rIxL K) (tVar 1) (tC (.int 0))) [some (.ref L.d), some (.ref n)] H (.int c) := val_ixL (val_var rfl) val_c (hW.seq hn) (atI_nat (j := 0) rfl)
  have e1 : Val (tOp (rIxL K) (tVar 1) (tC (.int 1))) [some (.ref L.d), some (.ref n)] H (.int a) := val_ixL (val_var rfl) val_c (hW.seq hn) (atI_nat (j := 1) rfl)
  have e2 : Val (tOp (rIxL K) (tVar 1) (tC (.int 2))) [some (.ref L.d), some (.ref n)] H (.int b) := val_ixL (val_var rfl) val_c (hW.seq hn) (atI_nat (j := 2) rfl)
  rw [step_cut] at h
  refine st_retH (callS4K (val_var rfl) e0 (tup2 e1 e2 fun t ht => ?_))
  have R1 := R.mono (same_upd (o := .tup [.int a, .int b]) ht)
  exact ⟨_, _, _, _, rfl, L, h0, c, t, [a, b], true, fun k => .narrow k a b, rfl, rfl, rfl, rfl, R1, DO, wo_some.mpr ⟨R.fresh ht, upd_same⟩, fun k => ⟨rfl, rfl⟩, by simp, h.after R (same_upd ht)⟩
theorem sc_clear_offers : FnScope ["desk", "numbers", "many"] ["desk", "numbers"] (defScope s_clear_offers) := ⟨rfl, rfl, rfl, by decide +kernel, rfl, by decide +kernel, by decide +kernel⟩
theorem ok_clear_offers (T : Tx K w mg) : Df P w K mg base CX0 1 "clear_offers" ["desk", "numbers"] (opSp K 4) := by
  obtain ⟨fd, F⟩ := T.d_clear_offers
  refine ⟨fd, T.g_clear_offers, F.kp, (F.bindsN (ps := ["desk", "numbers"]) fun _ _ _ _ _ _ us hl => match us, hl with | [_, _], _ => rfl), F.ok sc_clear_offers sp2_len (fun cdv A outer s H vs Q E hr h => ⟨_, PSs.nox ((pss_cons (ps_set (i := 2) sc_clear_offers.nd rfl (.inl rfl) (pe_callB call_len (by rfl) T.f_len (by decide +kernel) (pa_cons (pe_fld (pv 0) rfl) pa_nil)))
    (pss_cons (ps_fld (pv 0) (pe_lst pa_nil) rfl)
    (pss_one (ps_ret (pe_lst (pa_cons (pv 2) pa_nil))))))), ?_⟩)⟩
  obtain ⟨_, _, rfl, L, D, n, ns, c, rfl, rfl, R, DO, hn, hc, hs, h⟩ := h
  obtain ⟨h0, hs⟩ := hs (by decide)
  obtain ⟨ses⟩ := D
  dsimp only at hs
  subst hs
  cases hc with
  | clear =>
  have hlen : L.as.length = h0.candidates.length := R.cs.len
  refine st_set (val_lenM (K := K) (f := V.ref) (l := L.as) (T.v_Desk_offers (val_var rfl) R.at_) (SqL.of R.ol)) ?_
  dsimp only
  refine L2.st_seq (fld0L T.k_Desk T.n_Desk_offers rfl R.at_ (by show 2 < 1000; decide) (fun v => pt_Desk_offers) fun oa hoa => ?_)
  dsimp only
  have hd : H L.d = some _ := R.at_
  have hdo : L.d ≠ oa := ne_of_none hd hoa
  have h' : OpOut K H L (⟨some { h0 with candidates := [] }⟩, Xb16.single (L.as.length : Int)) Q := by
    rw [hlen]
    exact h
  have g1 : ∀ b u, b ≠ L.d → H b = some u → upd (upd H oa (.lst [])) L.d (.ins (He.ga K "Desk") L.dx (fDesk (progV L ⟨some h0⟩) (.ref oa))) b = some u := fun b u hb hu => by
    rw [upd_ne hb, upd_ne (ne_of_none hu hoa)]
    exact hu
  have hw : Same (wo H L.M) (wo (upd (upd H oa (.lst [])) L.d (.ins (He.ga K "Desk") L.dx (fDesk (progV L ⟨some h0⟩) (.ref oa)))) ({ L with oa := oa, as := [] } : DLay).M) := wo_to fun b u hb hu => by
    have hbd : b ≠ L.d := fun e => hb (by rw [e]; simp [DLay.M])
    refine ⟨fun z => ?_, g1 b u hbd hu⟩
    have z : b ∈ [L.d, oa] ++ L.ex := z
    rcases List.mem_append.mp z with z | z
    · simp only [List.mem_cons, List.not_mem_nil, or_false] at z
      rcases z with z | z
      · exact hbd z
      · rw [z, hoa] at hu; cases hu
    · exact hb (List.mem_append_right _ z)
  have R2 : DeskAt K (upd (upd H oa (.lst [])) L.d (.ins (He.ga K "Desk") L.dx (fDesk (progV L ⟨some h0⟩) (.ref oa)))) { L with oa := oa, as := [] } ⟨some { h0 with candidates := [] }⟩ := by
    refine ⟨hdo, fun a ha => ?_, upd_same, ?_, All2.nil, fun h1 hh => ?_⟩
    · obtain ⟨q1, q2, o, u, q3⟩ := R.exd a ha
      exact ⟨q1, ne_of_none q3 hoa, o, u, g1 a _ q1 q3⟩
    · show upd _ L.d _ oa = _
      rw [upd_ne (Ne.symm hdo), upd_same]
      rfl
    · cases hh
      exact (R.pr h0 rfl).mono hw
  have k2 : DKept H L (upd (upd H oa (.lst [])) L.d (.ins (He.ga K "Desk") L.dx (fDesk (progV L ⟨some h0⟩) (.ref oa)))) { L with oa := oa, as := [] } := ⟨rfl, rfl, hw, fun a ha => by
    obtain ⟨q1, q2, o, u, q3⟩ := R.exd a ha
    rw [q3]
    exact g1 a _ q1 q3⟩
  refine st_retH (one_out h' k2 R2 (fun a ha => ?_) (val_var rfl))
  · cases e : H a with
    | none => rfl
    | some u =>
      by_cases had : a = L.d
      · rw [had, upd_same] at ha; cases ha
      · rw [g1 a u had e] at ha; cases ha
def selSp (K : PySem.W.Frag) : Sp := sp2 fun a b H Q E => ∃ (L : DLay) (h : Xb16.Session) (n : Addr) (ns : List Int), a = .ref L.d ∧ b = .ref n ∧ DeskAt K H L ⟨some h⟩ ∧ SqL K H n (ns.map V.int) ∧ ns.length ≤ 10 ∧ ∀ H', Same H H' → Q (.bl (Xb16.isSelection h ns)) H'
theorem sc_is_selection : FnScope ["desk", "numbers", "number", "one", "other"] ["desk", "numbers"] (defScope s_is_selection) := ⟨rfl, rfl, rfl, by decide +kernel, rfl, by decide +kernel, by decide +kernel⟩
theorem ok_is_selection (T : Tx K w mg) : Df P w K mg base CX0 1 "is_selection" ["desk", "numbers"] (selSp K) := by
  obtain ⟨fd, F⟩ := T.d_is_selection
  refine ⟨fd, T.g_is_selection, F.kp, (F.bindsN (ps := ["desk", "numbers"]) fun _ _ _ _ _ _ us hl => match us, hl with | [_, _], _ => rfl), F.ok sc_is_selection sp2_len (fun cdv A outer s H vs Q E hr h => ⟨_, PSs.nox ((pss_cons (ps_if (pt_not (pt_val (pe_callB (cr_all rfl) (by rfl) T.f_all (by decide +kernel) (pa_cons (pe_lc (own := [("number", 2)]) rfl sc_is_selection.nd (pi_list (pv 1)) (blkOk_by (N := ["desk", "numbers", "number", "one", "other"]) (sc := defScope s_is_selection) (by decide +kernel)) (fun _ _ _ _ _ => (pg_name (i := 2) sc_is_selection.nd rfl (.inl rfl))) (fun _ _ _ _ _ => pts_nil) (fun _ _ _ _ _ => (pe_chain op_le op_lt pe_int (pv 2) (pe_callB (call_lenK (K := K) rfl) (by rfl) T.f_len (by decide +kernel) (pa_cons (pe_fldK (K := K) rfl (pv 0) rfl) pa_nil))))) pa_nil))))
      (pss_one (ps_ret pe_bl))
      pss_nil)
    (pss_one (ps_ret (pe_callB (cr_all rfl) (by rfl) T.f_all (by decide +kernel) (pa_cons (pe_lc (own := [("one", 3), ("other", 4)]) rfl sc_is_selection.nd (pi_zipA (by rfl) T.f_zip (pa_cons (pv 1) (pa_cons (pe_slice sl_list (pv 1) (po_some pe_int) po_none) pa_nil))) (blkOk_by (N := ["desk", "numbers", "number", "one", "other"]) (sc := defScope s_is_selection) (by decide +kernel)) (fun _ _ _ _ _ => (pg_tupK (K := K) (n := 2) rfl rfl (pgs_cons (pg_name (i := 3) sc_is_selection.nd rfl (.inl rfl)) (pgs_cons (pg_name (i := 4) sc_is_selection.nd rfl (.inl rfl)) pgs_nil)))) (fun _ _ _ _ _ => pts_nil) (fun _ _ _ _ _ => (pe_cmpR op_lt (pv 3) (pv 4) (nomark _)))) pa_nil)))))), ?_⟩)⟩
  obtain ⟨_, _, rfl, L, h0, n, ns, rfl, rfl, R, hn, hl, h⟩ := h
  have hlen : L.as.length = h0.candidates.length := R.cs.len
  have hsel : Xb16.isSelection h0 ns = ((ns.all fun n => decide (0 ≤ n) && decide (n < (L.as.length : Int))) && adj ns) := by
    rw [hlen]
    exact selection_is _ _
  rw [hsel] at h
  refine st_ifNotH (all_lc (K := K) (zs := ns) (fun z => [some (.ref L.d), some (.ref n), some (.int z), none, none]) (fun z => decide (0 ≤ z) && decide (z < (L.as.length : Int))) (val_var rfl) hn (by rw [List.length_map]) (by omega) (fun z => rfl) (fun i z x H1 R hz hx e q => ?_) (fun z H1 hz e => val_chain_lelt val_c (val_var rfl) (val_lenM (T.v_Desk_offers (val_var rfl) (R.mono e).at_) (SqL.of (R.mono e).ol))) (fun H1 e1 => ⟨_, rfl, ?_⟩))
  · rw [List.getElem?_map, hz] at hx
    cases hx
    exact q
  cases hall : ns.all fun n => decide (0 ≤ n) && decide (n < (L.as.length : Int)) with
  | false =>
    rw [hall] at h
    exact ifT (b := !false) rfl (st_ret val_c (h H1 e1))
  | true =>
    rw [hall] at h
    refine ifF (b := !true) rfl (st_next ?_)
    dsimp only
    refine st_retH (callB1H (zipLc (val_var rfl) (slc_from (k := 1) (l := ns) (f := V.int) (val_var rfl) val_c (e1.seq hn) fun p hp => ⟨n, p, _, _, rfl, .inl ⟨(same_upd hp).seq (e1.seq hn), SqL.of upd_same, fun D hD => ?_⟩⟩)))
    have e2 : Same H1 (upd H1 p (.lst ((ns.drop 1).map V.int))) := same_upd hp
    have hz2 : (ns.drop 1).length = ns.length - 1 := by rw [List.length_drop]
    refine lc_gen (walk_zip (K := K) (a := n) (b := p) (xs := ns.map V.int) (ys := (ns.drop 1).map V.int) (n := ns.length - 1) (by rw [List.length_map, List.length_map, hz2]; omega)) (zs := ns.zip (ns.drop 1)) (fun z => [some (.ref L.d), some (.ref n), none, some (.int z.1), some (.int z.2)]) (fun _ => true) (fun z => .bl (decide (z.1 < z.2))) (by rw [List.length_zip, hz2]; omega) (by rw [List.length_zip]; omega) hD (fun H' s' => ⟨(e2.trans s').seq (e1.seq hn), s'.seq (SqL.of upd_same)⟩) (fun z => rfl) (fun i z H2 x H3 R' hz s2 yy q => ?_) (fun z H2 R' _ _ q => q H2 (Same.refl H2)) (fun z H2 R' _ _ _ q => val_lt (val_var rfl) (val_var rfl) _ (q H2 (Same.refl H2))) (fun H2 s2 hD2 => ?_)
    · obtain ⟨t, x', y', rfl, ht, rfl, hx, hy⟩ := yy
      obtain ⟨z1, z2⟩ := List.getElem?_zip_eq_some.mp hz
      dsimp only at hx hy
      rw [List.getElem?_map, z1] at hx
      rw [List.getElem?_map, z2] at hy
      cases hx
      cases hy
      exact ⟨t, _, rfl, .inl (.inl upd_same), rfl, _, _, rfl, _, _, rfl, rfl, q _ (same_upd ht)⟩
    · refine ⟨D, (ns.zip (ns.drop 1)).map fun z => decide (z.1 < z.2), rfl, SqL.of ?_, ?_⟩
      · rw [hD2, List.filter_eq_self.mpr (fun _ _ => rfl), List.map_map]
        rfl
      · rw [List.all_map]
        exact h H2 (e1.trans (e2.trans s2))
end
end GW
/-! The walk 22: check, cells -/
namespace GW
open PySem PySem.Spec PyProof.Rows L2 RZ
open Gc (vL ShapeOk RInv ProgOk big In ExpOk AtomOk CandOk)
open Xb15 (State TaskInstance)
theorem sim_failed {s t : State} (h : Gc.Sim s t) : s.failed = t.failed := by
  rcases h with ⟨h1, h2⟩ | ⟨h1, h2, _⟩ <;> rw [h1, h2]
theorem sim_blocked {p : Xb15.Program} {s t : State} (h : Gc.Sim s t) (hf : s.failed = false) : Xb15.blockedEntries p s = Xb15.blockedEntries p t ∧ s.cells = t.cells := by
  rcases h with ⟨h1, h2⟩ | ⟨h1, h2, h3, h4⟩
  · rw [h1] at hf; cases hf
  · exact ⟨blocked_sim h4, h3⟩
theorem sim_outc {p : Xb15.Program} {s t : State} (h : Gc.Sim s t) : outc p s = outc p t := by
  unfold outc
  rw [← sim_failed h]
  cases hf : s.failed with
  | true => rfl
  | false => rw [(sim_blocked (p := p) h hf).1]
theorem sel_back {h0 : Xb16.Session} {ns : List Int} (h : Xb16.isSelection h0 ns = true) : ns.map V.int = (ns.map Int.toNat).map iv ∧ ∀ n ∈ ns.map Int.toNat, n < h0.candidates.length := by
  have h : Xb16.rising (h0.candidates.length : Int) (-1) ns = true := h
  rw [selection_is, Bool.and_eq_true, List.all_eq_true] at h
  constructor
  · rw [List.map_map]
    refine List.map_congr_left fun z hz => ?_
    have := h.1 z hz
    simp at this
    show V.int z = .int ((z.toNat : Nat) : Int)
    rw [Int.toNat_of_nonneg this.1]
  · intro n hn
    obtain ⟨z, hz, rfl⟩ := List.mem_map.mp hn
    have := h.1 z hz
    simp at this
    omega
theorem DeskAt.ask {K : PySem.W.Frag} {H : Hp} {L : DLay} {h0 : Xb16.Session} (R : DeskAt K H L ⟨some h0⟩) (DO : DOk ⟨some h0⟩) {sel : List Nat} (hs : ∀ n ∈ sel, n < h0.candidates.length) : EvAsk K H L.pa L.oa h0.program L.as h0.candidates sel :=
  ⟨(R.pr h0 rfl).mono (wo_same _ _), (DO h0 rfl).1, R.ol, R.cs.mono fun _ _ _ z => z.mono (wo_same _ _), (DO h0 rfl).2.1, hs⟩
theorem ro_out {K : PySem.W.Frag} {H H' : Hp} {L : DLay} {h0 : Xb16.Session} {a : Xb16.Answer} {Q : VK} (h : OpOut K H L (⟨some h0⟩, a) Q) (R : DeskAt K H L ⟨some h0⟩) (e : Same H H') {q : Addr} (hq : nw H H' q = some (.lst ((a.v :: a.l).map V.int))) : Q (.ref q) H' := h H' L q (R.same e) (R.mono e) hq
section
variable {σ : L2.St} {H : Hp} {ta tb : TE} {K : PySem.W.Frag} {D : Ends} {Q : VK}
theorem st_extendH {p : Addr} {xs : List V} (h1 : Val ta σ H (.ref p)) (hp : SqL K H p xs) (h : tb σ H fun y H1 => rExtend (.ref p) [y] H1 fun _ H2 => D.nx σ H2) : tDrop (tBM K "list" rExtend ta (tCons tb tNil)) D σ H := h1 _ ⟨.inl ⟨rfl, _, hp⟩, h⟩
theorem lst2H (h : ta σ H fun x H1 => tb σ H1 fun y H2 => ∀ p, H2 p = none → Q (.ref p) (upd H2 p (.lst [x, y]))) : tLst (tCons ta (tCons tb tNil)) σ H Q := by
  have z : (fun (x : V) (H1 : Hp) => tb σ H1 fun y H2 => ∀ p, H2 p = none → Q (.ref p) (upd H2 p (.lst [x, y]))) = fun x H1 => tb σ H1 fun y H2 => [x, y].length ≤ sizeLine ∧ ∀ p, H2 p = none → Q (.ref p) (upd H2 p (.lst [x, y])) := by
    funext x H1
    congr 1
    funext y H2
    exact propext ⟨fun h => ⟨by show 2 ≤ sizeLine; decide, h⟩, fun h => h.2⟩
  rw [z] at h
  exact h
end
section
variable {P : Program} {w : World} {K : PySem.W.Frag} {mg : Str → Option Value} {base : Heap}
/-- the numbers told of pairs -/
def pairNs (l : List (Nat × Nat)) : List Int := l.flatMap fun x => [(x.1 : Int), (x.2 : Int)]
theorem pairNs_len (l : List (Nat × Nat)) : (pairNs l).length = 2 * l.length := by
  unfold pairNs
  induction l with
  | nil => rfl
  | cons x l ih => rw [List.flatMap_cons, List.length_append, ih]; simp; omega
theorem sc_check : FnScope ["desk", "numbers", "run", "blocked", "found", "task", "line"] ["desk", "numbers"] (defScope s_check) := ⟨rfl, rfl, rfl, by decide +kernel, rfl, by decide +kernel, by decide +kernel⟩
theorem ok_check (T : Tx K w mg) : Df P w K mg base CX0 9 "check" ["desk", "numbers"] (opSp K 5) := by
  obtain ⟨fd, F⟩ := T.d_check
  refine ⟨fd, T.g_check, F.kp, (F.bindsN (ps := ["desk", "numbers"]) fun _ _ _ _ _ _ us hl => match us, hl with | [_, _], _ => rfl), F.ok sc_check sp2_len (fun cdv A outer s H vs Q E hr h => ⟨_, PSs.nox ((pss_cons (ps_if (pt_not (pt_val (pe_df (ok_is_selection T) (hr.mono (by decide)) pass0 (pa_cons (pv 0) (pa_cons (pv 1) pa_nil)))))
      (pss_one (ps_ret (pe_lst (pa_cons (pe_gi T.c_OUT) pa_nil))))
      pss_nil)
    (pss_cons (ps_set (i := 2) sc_check.nd rfl (.inl rfl) (pe_df (ok_evaluated T) (hr.mono (by decide)) pass0 (pa_cons (pe_fld (pv 0) rfl) (pa_cons (pe_fld (pv 0) rfl) (pa_cons (pv 1) pa_nil)))))
    (pss_cons (ps_if (pt_val (pe_fld (pv 2) rfl))
      (pss_one (ps_ret (pe_lst (pa_cons (pe_gi T.c_FAILED) pa_nil))))
      pss_nil)
    (pss_cons (ps_set (i := 3) sc_check.nd rfl (.inl rfl) (pe_df (ok_blocked_in T) (hr.mono (by decide)) pass0 (pa_cons (pv 2) pa_nil)))
    (pss_cons (ps_set (i := 4) sc_check.nd rfl (.inl rfl) (pe_lst (pa_cons (pe_df (ok_outcome_of T) (hr.mono (by decide)) pass0 (pa_cons (pv 2) pa_nil)) (pa_cons (pe_callB call_len (by rfl) T.f_len (by decide +kernel) (pa_cons (pv 3) pa_nil)) pa_nil))))
    (pss_cons (ps_for PassesOwn.never rfl (pi_list (pv 3)) (pg_tup (n := 2) rfl (pgs_cons (pg_name (i := 5) sc_check.nd rfl (.inl rfl)) (pgs_cons (pg_name (i := 6) sc_check.nd rfl (.inl rfl)) pgs_nil)))
      (pss_one (ps_expr (pe_bm PySem.F.plainAttrs_list PySem.F.slot_list_extend PySem.F.type_list_extend mt_extend (pv 4) (pa_cons (pe_lst (pa_cons (pv 5) (pa_cons (pv 6) pa_nil))) pa_nil)))))
    (pss_one (ps_ret (pv 4)))))))))), ?_⟩)⟩
  obtain ⟨_, _, rfl, L, D, n, ns, c, rfl, rfl, R, DO, hn, hc, hs, h⟩ := h
  obtain ⟨h0, hs⟩ := hs (by decide)
  obtain ⟨ses⟩ := D
  dsimp only at hs
  subst hs
  cases hc with
  | check _ hl =>
  have hW : Same (wo H L.M) H := wo_same _ _
  have hst : Xb16.step ⟨some h0⟩ (.check ns) = (⟨some h0⟩, if Xb16.isSelection h0 ns = false then Xb16.single (-2) else if (Xb16.finalState h0 (ns.map Int.toNat)).failed then Xb16.single 2 else ⟨if (Xb15.blockedEntries h0.program (Xb16.finalState h0 (ns.map Int.toNat))).isEmpty then 0 else 1, Xb16.natInt (Xb15.blockedEntries h0.program (Xb16.finalState h0 (ns.map Int.toNat))).length :: (Xb15.blockedEntries h0.program (Xb16.finalState h0 (ns.map Int.toNat))).flatMap fun x => [Xb16.natInt x.1, Xb16.natInt x.2]⟩) := by
    show ((⟨some (Xb16.runCall h0 (.check ns)).1⟩ : Xb16.Desk), (Xb16.runCall h0 (.check ns)).2) = _
    unfold Xb16.runCall
    dsimp only
    cases Xb16.isSelection h0 ns <;> rfl
  rw [hst] at h
  refine st_ifNotH (callS2 (val_var rfl) (val_var rfl) ⟨_, _, rfl, L, h0, n, ns, rfl, rfl, R, hW.seq hn, hl, fun H1 e1 => ⟨_, rfl, ?_⟩⟩)
  cases hsel : Xb16.isSelection h0 ns with
  | false =>
    rw [if_pos hsel] at h
    exact ifT (b := !false) rfl (st_retH (one_out h (R.same e1) (R.mono e1) (fun a ha => e1.free ha) val_c))
  | true =>
    rw [if_neg (by rw [hsel]; decide)] at h
    refine ifF (b := !true) rfl (st_next ?_)
    dsimp only
    obtain ⟨hns, hsl⟩ := sel_back hsel
    have R1 := R.mono e1
    refine L2.st_seq (st_asg (callS3 (T.v_Desk_program (val_var rfl) R1.at_) (T.v_Desk_offers (val_var rfl) R1.at_) (val_var rfl) ⟨_, _, _, rfl, L.pa, L.oa, n, h0.program, L.as, h0.candidates, ns.map Int.toNat, rfl, rfl, rfl, R1.ask DO hsl, by rw [← hns]; exact e1.seq (hW.seq hn), fun H2 RL s2 m e2 hex RR I2 hsim => ?_⟩))
    dsimp only
    have hfail : s2.failed = (Xb16.finalState h0 (ns.map Int.toNat)).failed := sim_failed hsim
    cases hf : s2.failed with
    | true =>
      rw [← hfail, hf] at h
      have e12 := e1.trans e2
      exact L2.st_seq (st_if (b := true) (ans_is (ans_of (T.v_Run_has_failed (val_var rfl) RR.rn)) hf) (fun _ => st_retH (one_out h (R.same e12) (R.mono e12) (fun a ha => e12.free ha) val_c)) (fun e => by cases e))
    | false =>
      rw [← hfail, hf] at h
      have h : OpOut K H L (⟨some h0⟩, ⟨if (Xb15.blockedEntries h0.program (Xb16.finalState h0 (ns.map Int.toNat))).isEmpty then 0 else 1, Xb16.natInt (Xb15.blockedEntries h0.program (Xb16.finalState h0 (ns.map Int.toNat))).length :: (Xb15.blockedEntries h0.program (Xb16.finalState h0 (ns.map Int.toNat))).flatMap fun x => [Xb16.natInt x.1, Xb16.natInt x.2]⟩) Q := h
      have hbl : Xb15.blockedEntries h0.program s2 = Xb15.blockedEntries h0.program (Xb16.finalState h0 (ns.map Int.toNat)) := (sim_blocked hsim hf).1
      rw [← hbl] at h
      refine L2.st_seq (st_if (b := false) (ans_is (ans_of (T.v_Run_has_failed (val_var rfl) RR.rn)) hf) (fun e => by cases e) (fun _ => st_next ?_))
      dsimp only
      refine L2.st_seq (st_asg (callS1 (val_var rfl) ⟨_, rfl, RL, _, s2, m, rfl, RR, I2, fun H3 qb ts e3 hqb hA => ?_⟩))
      dsimp only
      have hqb3 := (nw_some.mp hqb).2
      have RR3 := RR.mono e3
      refine L2.st_seq (st_asg (lst2H (callS1 (val_var rfl) ⟨_, rfl, RL, _, s2, m, rfl, RR3, I2, fun H4 e4 => val_lenM (K := K) (f := V.ref) (l := ts) (val_var rfl) (SqL.of (e4 _ _ hqb3)) _ fun fa hfa => ?_⟩)))
      dsimp only
      have hlen := hA.len
      have hbnd : (Xb15.blockedEntries h0.program s2).length ≤ 40 := Nat.le_trans blocked_len I2.num
      have e14 : Same H H4 := e1.trans (e2.trans (e3.trans e4))
      have e5 : Same H4 (upd H4 fa (.lst [iv (outc h0.program s2), .int (ts.length : Int)])) := same_upd hfa
      refine L2.st_seq (st_forL (K := K) (xs := ts.map V.ref) (fun i σ H' => ∃ v5 v6 : Option V, σ = [some (.ref L.d), some (.ref n), some (.ref RL.r), some (.ref qb), some (.ref fa), v5, v6] ∧ Same H4 H' ∧ H' fa = some (.lst ([iv (outc h0.program s2), .int (ts.length : Int)] ++ (pairNs ((Xb15.blockedEntries h0.program s2).take i)).map V.int))) (val_var rfl) (SqL.of (e5 _ _ (e4 _ _ hqb3))) ⟨none, none, rfl, e5, by rw [upd_same]; rfl⟩ ?_ ?_ ?_)
      · rintro i σ H' _ ⟨v5, v6, rfl, eH, _⟩
        exact SqL.of (eH _ _ (e4 _ _ hqb3))
      · rintro i y σ H' hy ⟨v5, v6, rfl, eH, hfa'⟩
        obtain ⟨t, ht, rfl⟩ := map_get hy
        obtain ⟨x, hx, hpa⟩ := hA.get' ht
        have hpa : H3 t = some (.tup [iv x.1, iv x.2]) := hpa
        have hi40 : i < 40 := by
          have := (List.getElem?_eq_some_iff.mp hx).1
          omega
        refine ⟨t, _, rfl, .inl (.inl (eH _ _ (e4 _ _ hpa))), rfl, _, _, rfl, _, _, rfl, rfl, ?_⟩
        dsimp only
        refine st_extendH (val_var rfl) (SqL.of hfa') (lst2 (val_var rfl) (val_var rfl) fun p hp => ?_)
        have hpf : p ≠ fa := fun e => by rw [e, hfa'] at hp; cases hp
        refine ⟨fa, p, _, _, rfl, rfl, by rw [upd_ne (Ne.symm hpf)]; exact hfa', upd_same, ?_, ?_⟩
        · show ([_, _] ++ List.map V.int _).length + 2 ≤ sizeLine
          rw [List.length_append, List.length_map, pairNs_len, List.length_take]
          refine lineL ?_
          show 2 + _ + 2 ≤ _
          omega
        · refine ⟨_, _, rfl, ?_, ?_⟩
          · exact fun b u hb => by
              rw [upd_ne (ne_of_none hb hfa)]
              exact (same_upd hp) _ _ (eH _ _ hb)
          · rw [upd_same]
            have : pairNs ((Xb15.blockedEntries h0.program s2).take (i + 1)) = pairNs ((Xb15.blockedEntries h0.program s2).take i) ++ [(x.1 : Int), (x.2 : Int)] := by
              unfold pairNs
              rw [List.take_succ, hx, List.flatMap_append]
              simp
            rw [this, List.map_append, ← List.append_assoc]
            rfl
      · rintro σ H' ⟨v5, v6, rfl, eH, hfa'⟩
        rw [List.length_map, hlen, List.take_length] at hfa'
        refine st_ret (val_var rfl) (ro_out h R (e14.trans eH) (nw_some.mpr ⟨e14.free hfa, ?_⟩))
        rw [hfa']
        have ho : outc h0.program s2 = if (Xb15.blockedEntries h0.program s2).isEmpty = true then 0 else 1 := by
          unfold outc
          rw [hf, if_neg (by decide)]
        have ho2 : iv (outc h0.program s2) = V.int (if (Xb15.blockedEntries h0.program s2).isEmpty = true then 0 else 1) := by
          rw [ho]
          cases (Xb15.blockedEntries h0.program s2).isEmpty <;> rfl
        rw [ho2]
        rfl
/-- the numbers told of cells -/
def cellNs (l : List Xb15.Val) : List Int := l.flatMap Xb15.valueFields
theorem fields_len {k : Xb15.Kind} {v : Xb15.Val} (h : ShapeOk k v) : (Xb15.valueFields v).length ≤ 66 := by
  have := vL_len h
  cases v <;> simp [Xb15.valueFields, vL] at this ⊢
  omega
theorem zipFor {ta tb : TE} {g : TG} {ts : TS} {D : Ends} {σ : L2.St} {H : Hp} {a b : Addr} {xs ys : List V} (h1 : Val ta σ H (.ref a)) (h2 : Val tb σ H (.ref b)) (ha : SqL K H a xs) (hb : SqL K H b ys) (hl : xs.length = ys.length) (Pv : Nat → L2.St → Hp → Prop) (h0 : Pv 0 σ H) (hq : ∀ (i : Nat) (σ : L2.St) (H : Hp), Pv i σ H → SqL K H a xs ∧ SqL K H b ys)
    (hs : ∀ (i : Nat) (x y : V) (T : Addr) (σ : L2.St) (H : Hp), xs[i]? = some x → ys[i]? = some y → Pv i σ H → H T = none → g (.ref T) σ (upd H T (.tup [x, y])) fun σ2 H2 => ts { nx := Pv (i + 1), rt := D.rt, bk := D.nx, ct := Pv (i + 1) } σ2 H2)
    (he : ∀ (σ : L2.St) (H : Hp), Pv xs.length σ H → D.nx σ H) : tFor (iZipA K (tCons ta (tCons tb tNil))) g ts D σ H :=
  h1 _ (h2 _ ⟨a, b, xs, ys, rfl, .inl ⟨ha, hb, for_zipL hl Pv h0 hq hs he⟩⟩)
theorem sc_tell_cells : FnScope ["desk", "numbers", "run", "found", "cell", "state"] ["desk", "numbers"] (defScope s_tell_cells) := ⟨rfl, rfl, rfl, by decide +kernel, rfl, by decide +kernel, by decide +kernel⟩
theorem ok_tell_cells (T : Tx K w mg) : Df P w K mg base CX0 9 "tell_cells" ["desk", "numbers"] (opSp K 6) := by
  obtain ⟨fd, F⟩ := T.d_tell_cells
  refine ⟨fd, T.g_tell_cells, F.kp, (F.bindsN (ps := ["desk", "numbers"]) fun _ _ _ _ _ _ us hl => match us, hl with | [_, _], _ => rfl), F.ok sc_tell_cells sp2_len (fun cdv A outer s H vs Q E hr h => ⟨_, PSs.nox ((pss_cons (ps_if (pt_not (pt_val (pe_df (ok_is_selection T) (hr.mono (by decide)) pass0 (pa_cons (pv 0) (pa_cons (pv 1) pa_nil)))))
      (pss_one (ps_ret (pe_lst (pa_cons (pe_gi T.c_OUT) pa_nil))))
      pss_nil)
    (pss_cons (ps_set (i := 2) sc_tell_cells.nd rfl (.inl rfl) (pe_df (ok_evaluated T) (hr.mono (by decide)) pass0 (pa_cons (pe_fld (pv 0) rfl) (pa_cons (pe_fld (pv 0) rfl) (pa_cons (pv 1) pa_nil)))))
    (pss_cons (ps_if (pt_val (pe_fld (pv 2) rfl))
      (pss_one (ps_ret (pe_lst (pa_cons pe_int pa_nil))))
      pss_nil)
    (pss_cons (ps_set (i := 3) sc_tell_cells.nd rfl (.inl rfl) (pe_lst (pa_cons pe_int pa_nil)))
    (pss_cons (ps_for PassesOwn.never rfl (pi_zipA (by rfl) T.f_zip (pa_cons (pe_fld (pe_fld (pv 0) rfl) rfl) (pa_cons (pe_fld (pv 2) rfl) pa_nil))) (pg_tup (n := 2) rfl (pgs_cons (pg_name (i := 4) sc_tell_cells.nd rfl (.inl rfl)) (pgs_cons (pg_name (i := 5) sc_tell_cells.nd rfl (.inl rfl)) pgs_nil)))
      (pss_one (ps_expr (pe_bm PySem.F.plainAttrs_list PySem.F.slot_list_extend PySem.F.type_list_extend mt_extend (pv 3) (pa_cons (pe_df (ok_told_state T) (hr.mono (by decide)) pass0 (pa_cons (pe_fld (pv 4) rfl) (pa_cons (pv 5) pa_nil))) pa_nil)))))
    (pss_one (ps_ret (pv 3))))))))), ?_⟩)⟩
  obtain ⟨_, _, rfl, L, D, n, ns, c, rfl, rfl, R, DO, hn, hc, hs, h⟩ := h
  obtain ⟨h0, hs⟩ := hs (by decide)
  obtain ⟨ses⟩ := D
  dsimp only at hs
  subst hs
  cases hc with
  | cells _ hl =>
  have hW : Same (wo H L.M) H := wo_same _ _
  have hst : Xb16.step ⟨some h0⟩ (.cells ns) = (⟨some h0⟩, if Xb16.isSelection h0 ns = false then Xb16.single (-2) else if (Xb16.finalState h0 (ns.map Int.toNat)).failed then Xb16.single 1 else ⟨0, cellNs (Xb16.finalState h0 (ns.map Int.toNat)).cells⟩) := by
    show ((⟨some (Xb16.runCall h0 (.cells ns)).1⟩ : Xb16.Desk), (Xb16.runCall h0 (.cells ns)).2) = _
    unfold Xb16.runCall
    dsimp only
    cases Xb16.isSelection h0 ns <;> rfl
  rw [hst] at h
  refine st_ifNotH (callS2 (val_var rfl) (val_var rfl) ⟨_, _, rfl, L, h0, n, ns, rfl, rfl, R, hW.seq hn, hl, fun H1 e1 => ⟨_, rfl, ?_⟩⟩)
  cases hsel : Xb16.isSelection h0 ns with
  | false =>
    rw [if_pos hsel] at h
    exact ifT (b := !false) rfl (st_retH (one_out h (R.same e1) (R.mono e1) (fun a ha => e1.free ha) val_c))
  | true =>
    rw [if_neg (by rw [hsel]; decide)] at h
    refine ifF (b := !true) rfl (st_next ?_)
    dsimp only
    obtain ⟨hns, hsl⟩ := sel_back hsel
    have R1 := R.mono e1
    refine L2.st_seq (st_asg (callS3 (T.v_Desk_program (val_var rfl) R1.at_) (T.v_Desk_offers (val_var rfl) R1.at_) (val_var rfl) ⟨_, _, _, rfl, L.pa, L.oa, n, h0.program, L.as, h0.candidates, ns.map Int.toNat, rfl, rfl, rfl, R1.ask DO hsl, by rw [← hns]; exact e1.seq (hW.seq hn), fun H2 RL s2 m e2 hex RR I2 hsim => ?_⟩))
    dsimp only
    have hfail : s2.failed = (Xb16.finalState h0 (ns.map Int.toNat)).failed := sim_failed hsim
    cases hf : s2.failed with
    | true =>
      rw [← hfail, hf] at h
      have e12 := e1.trans e2
      exact L2.st_seq (st_if (b := true) (ans_is (ans_of (T.v_Run_has_failed (val_var rfl) RR.rn)) hf) (fun _ => st_retH (one_out h (R.same e12) (R.mono e12) (fun a ha => e12.free ha) val_c)) (fun e => by cases e))
    | false =>
      rw [← hfail, hf] at h
      have h : OpOut K H L (⟨some h0⟩, ⟨0, cellNs (Xb16.finalState h0 (ns.map Int.toNat)).cells⟩) Q := h
      rw [← (sim_blocked (p := h0.program) hsim hf).2] at h
      refine L2.st_seq (st_if (b := false) (ans_is (ans_of (T.v_Run_has_failed (val_var rfl) RR.rn)) hf) (fun e => by cases e) (fun _ => st_next ?_))
      dsimp only
      refine L2.st_seq (st_asg (lst1 val_c fun fa hfa => ?_))
      dsimp only
      have e12 := e1.trans e2
      have e3 : Same H2 (upd H2 fa (.lst [.int 0])) := same_upd hfa
      have R2 := R.mono e12
      have hpr : ProgAt K (wo H2 L.M) L.pa h0.program := R2.pr h0 rfl
      obtain ⟨dxp, ca, ta, ga, cs, ts, hp, hca, hcs, hta, hts, hga⟩ := hpr
      have hW2 : Same (wo H2 L.M) H2 := wo_same _ _
      have hcl : cs.length = RL.ss.length := by rw [hcs.len, RR.st.len, I2.cl]
      have hc10 := (DO h0 rfl).1.cells
      have hcb : cs.length ≤ 10 := by rw [hcs.len]; exact hc10
      refine L2.st_seq (zipFor (K := K) (xs := cs.map V.ref) (ys := RL.ss.map V.ref) (T.v_Program_cells (T.v_Desk_program (val_var rfl) (e3 _ _ R2.at_)) (e3 _ _ (hW2 _ _ hp))) (T.v_Run_states (val_var rfl) (e3 _ _ RR.rn)) (SqL.of (e3 _ _ (hW2 _ _ hca))) (SqL.of (e3 _ _ RR.sl)) (by rw [List.length_map, List.length_map, hcl])
        (fun i σ H' => ∃ v4 v5 : Option V, σ = [some (.ref L.d), some (.ref n), some (.ref RL.r), some (.ref fa), v4, v5] ∧ Same H2 H' ∧ H' fa = some (.lst ((0 :: cellNs (s2.cells.take i)).map V.int)) ∧ (cellNs (s2.cells.take i)).length ≤ 66 * i) ⟨none, none, rfl, e3, upd_same, by simp [cellNs]⟩ ?_ ?_ ?_)
      · rintro i σ H' ⟨v4, v5, rfl, eH, _⟩
        exact ⟨SqL.of (eH _ _ (hW2 _ _ hca)), SqL.of (eH _ _ RR.sl)⟩
      · rintro i x y t σ H' hx hy ⟨v4, v5, rfl, eH, hfa', hbd⟩ ht
        obtain ⟨cx, hcx, rfl⟩ := map_get hx
        obtain ⟨sx, hsx, rfl⟩ := map_get hy
        obtain ⟨cl, hcl', dx, hcell⟩ := hcs.get' hcx
        obtain ⟨v, hv, hva⟩ := RR.st.get' hsx
        have hi10 : i < 10 := by
          have := (List.getElem?_eq_some_iff.mp hcx).1
          omega
        have hci : i < h0.program.cells.length := (List.getElem?_eq_some_iff.mp hcl').1
        have hsh := (I2.cells i v hv).1
        rw [kind_of hcl'] at hsh
        have et : Same H' (upd H' t (.tup [.ref cx, .ref sx])) := same_upd ht
        have e2t := eH.trans et
        have htf : t ≠ fa := fun e => by rw [e, hfa'] at ht; cases ht
        refine ⟨t, _, rfl, .inl (.inl upd_same), rfl, _, _, rfl, _, _, rfl, rfl, ?_⟩
        dsimp only
        have hva2 : H2 sx = some (.lst ((vL v).map V.int)) := wo_same _ _ _ _ hva
        refine st_extendH (val_var rfl) (SqL.of (et _ _ hfa')) (callS2 (T.v_Cell_kind (val_var rfl) (e2t _ _ (hW2 _ _ hcell))) (val_var rfl) ⟨_, _, rfl, cl.kind, v, sx, rfl, rfl, e2t _ _ hva2, hsh, fun H4 p e4 hp4 => ?_⟩)
        obtain ⟨hp1, hp2⟩ := nw_some.mp hp4
        refine ⟨fa, p, _, _, rfl, rfl, e4 _ _ (et _ _ hfa'), hp2, ?_, ?_⟩
        · have := fields_len hsh
          simp only [List.length_map, List.length_cons]
          exact lineL (by omega)
        · have hcn : cellNs (s2.cells.take (i + 1)) = cellNs (s2.cells.take i) ++ Xb15.valueFields v := by
            unfold cellNs
            rw [List.take_succ, hv, List.flatMap_append]
            simp
          refine ⟨_, _, rfl, ?_, ?_, ?_⟩
          · exact fun b u hb => by
              rw [upd_ne (ne_of_none hb hfa)]
              exact e4 _ _ (e2t _ _ hb)
          · rw [upd_same, hcn, ← List.map_append]
            rfl
          · have := fields_len hsh
            rw [hcn, List.length_append]
            omega
      · rintro σ H' ⟨v4, v5, rfl, eH, hfa', _⟩
        rw [List.length_map, hcl, RR.st.len, List.take_length] at hfa'
        exact st_ret (val_var rfl) (ro_out h R (e12.trans eH) (nw_some.mpr ⟨e12.free hfa, hfa'⟩))
end
end GW
/-! The walk 23: all selections -/
namespace GW
open PySem PySem.Spec PyProof.Rows L2 RZ
open Gc (vL ShapeOk RInv ProgOk big In ExpOk AtomOk CandOk from_ nextRows rowsOf allUpTo)
open Xb15 (State TaskInstance)
/-- a selection as a tuple -/
def RowAt (H : Hp) (t : Addr) (r : List Nat) : Prop := H t = some (.tup (r.map iv))
theorem All2.app {α β : Type} {R : α → β → Prop} {l l' : List α} {m m' : List β} (h : All2 R l m) (h' : All2 R l' m') : All2 R (l ++ l') (m ++ m') := ⟨by simp [h.len, h'.len], fun i a b h1 h2 => by
  have hl := h.len
  by_cases hi : i < l.length
  · rw [List.getElem?_append_left hi] at h1
    rw [List.getElem?_append_left (by omega)] at h2
    exact h.at_ i a b h1 h2
  · rw [List.getElem?_append_right (by omega)] at h1
    rw [List.getElem?_append_right (by omega)] at h2
    rw [hl] at h1
    exact h'.at_ _ a b h1 h2⟩
theorem op_catAK {X : Cx} {K : PySem.W.Frag} (hK : X.K = K) : OpR X (binaryOp .Add) (rCatA K) := by
  subst hK
  exact op_catA
theorem dp_ivs {K : PySem.W.Frag} {H : Hp} (r : List Nat) : DpAll K H (r.map iv) (r.map fun (n : Nat) => PyData.int (n : Int)) := by
  induction r with
  | nil => exact .nil
  | cons n r ih => exact .cons (.int _) ih
theorem lay_ivs : ∀ r : List Nat, PyData.canLayAll0 (r.map fun (n : Nat) => PyData.int (n : Int)) = true ∧ PyData.depthAll (r.map fun (n : Nat) => PyData.int (n : Int)) ≤ 10
  | [] => by decide +kernel
  | n :: r => by
    obtain ⟨h1, h2⟩ := lay_ivs r
    simp only [List.map_cons, PyData.canLayAll0, PyData.canLay0, PyData.depthAll, PyData.depth, Bool.true_and]
    exact ⟨h1, by omega⟩
/-- row != () -/
theorem ne_tupH {K : PySem.W.Frag} {σ : L2.St} {H : Hp} {ta : TE} {a : Addr} {r : List Nat} {Q : VK} (h1 : Val ta σ H (.ref a)) (hS : RowAt H a r) (q : ∀ H', Same H H' → Q (.bl (!r.isEmpty)) H') : tOp (rNeD K) ta (tTup tNil) σ H Q :=
  h1 _ ⟨by show 0 ≤ sizeLine; decide, fun p hp => by
    have e := same_upd (o := .tup []) hp
    obtain ⟨l1, l2⟩ := lay_ivs r
    refine ⟨.tuple (r.map fun (n : Nat) => PyData.int (n : Int)), .tuple [], .tup (.inl (.inl (e _ _ hS))) (dp_ivs r), .tup (.inl (.inl upd_same)) .nil, ?_, by decide +kernel, ?_⟩
    · unfold SeqAt.shaped
      rw [Bool.and_eq_true, decide_eq_true_eq]
      exact ⟨by unfold PyData.canLay0; exact l1, by unfold PyData.depth; omega⟩
    · have e2 : PyData.eqv (.tuple (r.map fun (n : Nat) => PyData.int (n : Int))) (.tuple []) = r.isEmpty := by
        show PyData.eqvAll _ [] = _
        rw [eqvAll_nil]
        cases r <;> rfl
      rw [e2]
      exact q _ e⟩
theorem getLast_at {r : List Nat} {x : Nat} (h : r.getLast? = some x) : atI (r.map iv) (-1) = some (iv x) := by
  obtain ⟨ys, rfl⟩ := List.getLast?_eq_some_iff.mp h
  rw [List.map_append]
  exact atI_last _ _
theorem val_ifH {c : TT} {ta tb : TE} {σ : L2.St} {H : Hp} {Q : VK} (h : c σ H fun b H' => if b = true then ta σ H' Q else tb σ H' Q) : tIf c ta tb σ H Q := h
theorem from_le {m : Nat} {r : List Nat} (h : ∀ x ∈ r, x < m) : from_ 0 r ≤ m := by
  unfold Gc.from_
  cases e : r.getLast? with
  | none => exact Nat.zero_le _
  | some x =>
    have := h x (List.mem_of_getLast? e)
    show x + 1 ≤ m
    omega
theorem next_take {m : Nat} {r : List Nat} {i : Nat} (hi : i < m - from_ 0 r) : (nextRows m 0 r).take (i + 1) = (nextRows m 0 r).take i ++ [r ++ [from_ 0 r + i]] := by
  unfold Gc.nextRows
  rw [← List.map_take, ← List.map_take, List.take_succ, List.getElem?_range' ]
  · simp
  · exact hi
theorem lcRange {σ : L2.St} {H : Hp} {ta tb te : TE} {g : TG} {tt : TT} {vs : List Nat} {Q : VK} {lo hi : Int} (h1 : Val ta σ H (.int lo)) (h2 : Val tb σ H (.int hi)) (hb : -2 ^ 62 ≤ lo ∧ lo < 2 ^ 62 ∧ -2 ^ 62 ≤ hi ∧ hi < 2 ^ 62) (h : LcR g tt te vs σ Q (Itr lo (hi - lo).toNat) H) : tLc (iRng2 (tCons ta (tCons tb tNil))) g tt te vs σ H Q := h1 _ (h2 _ ⟨lo, hi, rfl, hb, h⟩)
theorem opH {r : R2} {ta tb : TE} {x : V} {σ : L2.St} {H : Hp} {Q : VK} (h1 : Val ta σ H x) (h2 : tb σ H fun y H1 => r x y H1 Q) : tOp r ta tb σ H Q := h1 _ h2
section
variable {P : Program} {w : World} {K : PySem.W.Frag} {mg : Str → Option Value} {base : Heap}
def longSp (K : PySem.W.Frag) : Sp := sp2 fun a b H Q E => ∃ (la : Addr) (ts : List Addr) (rs : List (List Nat)) (m : Nat), a = .ref la ∧ b = iv m ∧ H la = some (.lst (ts.map V.ref)) ∧ All2 (RowAt H) ts rs ∧ (∀ r ∈ rs, (∀ x ∈ r, x < m) ∧ r.length ≤ 100) ∧ m ≤ 6 ∧ rs.length ≤ 100 ∧ ∀ H' q (us : List Addr), Same H H' → nw H H' q = some (.lst (us.map V.ref)) → All2 (RowAt H') us (rs.flatMap (nextRows m 0)) → Q (.ref q) H'
theorem sc_longer : FnScope ["level", "many", "found", "row", "first", "number"] ["level", "many"] (defScope s_longer) := ⟨rfl, rfl, rfl, by decide +kernel, rfl, by decide +kernel, by decide +kernel⟩
theorem ok_longer (T : Tx K w mg) : Df P w K mg base CX0 1 "longer" ["level", "many"] (longSp K) := by
  obtain ⟨fd, F⟩ := T.d_longer
  refine ⟨fd, T.g_longer, F.kp, (F.bindsN (ps := ["level", "many"]) fun _ _ _ _ _ _ us hl => match us, hl with | [_, _], _ => rfl), F.ok sc_longer sp2_len (fun cdv A outer s H vs Q E hr h => ⟨_, PSs.nox ((pss_cons (ps_set (i := 2) sc_longer.nd rfl (.inl rfl) (pe_lst pa_nil))
    (pss_cons (ps_for PassesOwn.never rfl (pi_list (pv 0)) (pg_name (i := 3) sc_longer.nd rfl (.inr rfl))
      (pss_cons (ps_set (i := 4) sc_longer.nd rfl (.inl rfl) (pe_ifExp (pt_cmpR (op_neD (by exact hr.units)) (pv 3) (pe_tup pa_nil) (nomark _)) (pe_op op_add (pe_ix ix_tup (pv 3) (pe_un un_neg pe_int) (fun _ _ => rfl)) pe_int) pe_int))
    (pss_one (ps_expr (pe_bm PySem.F.plainAttrs_list PySem.F.slot_list_extend PySem.F.type_list_extend mt_extend (pv 2) (pa_cons (pe_lc (own := [("number", 5)]) rfl sc_longer.nd (pi_range2 (by rfl) T.f_range (pa_cons (pv 4) (pa_cons (pv 1) pa_nil))) (blkOk_by (N := ["level", "many", "found", "row", "first", "number"]) (sc := defScope s_longer) (by decide +kernel)) (fun _ _ _ _ _ => (pg_name (i := 5) sc_longer.nd rfl (.inl rfl))) (fun _ _ _ _ _ => pts_nil) (fun _ _ _ _ _ => (pe_op (op_catAK (K := K) rfl) (pv 3) (pe_tup (pa_cons (pv 5) pa_nil))))) pa_nil))))))
    (pss_one (ps_ret (pv 2)))))), ?_⟩)⟩
  obtain ⟨_, _, rfl, la, ts, rs, m, rfl, rfl, hla, hA, hr0, hm, hrl, h⟩ := h
  refine st_asg (lst0 fun fa hfa => ?_)
  dsimp only
  refine L2.st_seq ?_
  dsimp only
  have e0 : Same H (upd H fa (.lst [])) := same_upd hfa
  refine st_forL (K := K) (xs := ts.map V.ref) (fun i σ H' => ∃ (v3 v4 : Option V) (us : List Addr), σ = [some (.ref la), some (iv m), some (.ref fa), v3, v4, none] ∧ Same H H' ∧ H' fa = some (.lst (us.map V.ref)) ∧ us.length ≤ 6 * i ∧ All2 (RowAt H') us ((rs.take i).flatMap (nextRows m 0))) (val_var rfl) (SqL.of (e0 _ _ hla)) ⟨none, none, [], rfl, e0, upd_same, Nat.le_refl _, All2.nil⟩ ?_ ?_ ?_
  · rintro i σ H' _ ⟨v3, v4, us, rfl, eH, _⟩
    exact SqL.of (eH _ _ hla)
  · rintro i y σ H' hy ⟨v3, v4, us, rfl, eH, hf, hl, hU⟩
    obtain ⟨t, ht, rfl⟩ := map_get hy
    obtain ⟨r, hr, hrow⟩ := hA.get' ht
    obtain ⟨hrm, hrl2⟩ := hr0 r (List.mem_of_getElem? hr)
    have hil : i < 100 := by
      have := (List.getElem?_eq_some_iff.mp hr).1
      omega
    have hrow' : RowAt H' t r := eH _ _ hrow
    have hle := from_le hrm
    refine L2.st_seq (st_asg (val_ifH (ne_tupH (r := r) (val_var rfl) hrow' fun H1 e1 => ⟨_, rfl, ?_⟩)))
    have hrow1 : RowAt H1 t r := e1 _ _ hrow'
    suffices hgoal : ∀ H1, Same H' H1 → tDrop (tBM K "list" rExtend (tVar 2) (tCons (tLc (iRng2 (tCons (tVar 4) (tCons (tVar 1) tNil))) (gName 5) tYes (tOp (rCatA K) (tVar 3) (tTup (tCons (tVar 5) tNil))) [5]) tNil)) { nx := fun σ H' => ∃ (v3 v4 : Option V) (us : List Addr), σ = [some (.ref la), some (iv m), some (.ref fa), v3, v4, none] ∧ Same H H' ∧ H' fa = some (.lst (us.map V.ref)) ∧ us.length ≤ 6 * (i + 1) ∧ All2 (RowAt H') us ((rs.take (i + 1)).flatMap (nextRows m 0)), rt := Q } [some (.ref la), some (iv m), some (.ref fa), some (.ref t), some (iv (from_ 0 r)), none] H1 by
      unfold Gc.from_ at hgoal
      cases hlast : r.getLast? with
      | none =>
        rw [List.getLast?_eq_none_iff] at hlast
        subst hlast
        exact ifF (b := false) rfl (hgoal H1 e1)
      | some x =>
        rw [hlast] at hgoal
        have hne : r.isEmpty = false := by
          cases r with
          | nil => simp at hlast
          | cons => rfl
        rw [hne]
        refine ifT (b := !false) rfl (val_add (i := (x : Int)) (j := 1) (val_ixT (val_var rfl) (val_neg val_c) (.inl (.inl hrow1)) (getLast_at hlast)) val_c _ ?_)
        exact hgoal H1 e1
    clear h hrow1 e1 H1
    intro H1 e1
    have hrow1 : RowAt H1 t r := e1 _ _ hrow'
    have hn : ((m : Int) - (from_ 0 r : Int)).toNat = m - from_ 0 r := by omega
    refine st_extendH (val_var rfl) (SqL.of (e1 _ _ hf)) (lcRange (lo := (from_ 0 r : Int)) (hi := (m : Int)) (val_var rfl) (val_var rfl) (by omega) fun D hD => ?_)
    rw [hn]
    refine lc_range (lo := (from_ 0 r : Int)) (n := m - from_ 0 r) (fun j H2 => ∃ vs : List Addr, H2 D = some (.lst (vs.map V.ref)) ∧ vs.length = j ∧ Same H1 H2 ∧ All2 (fun a q => H1 a = none ∧ a ≠ D ∧ RowAt H2 a q) vs ((nextRows m 0 r).take j)) ⟨[], upd_same, rfl, same_upd hD, All2.nil⟩ ?_ ?_
    · rintro j H2 hj ⟨vs, hvs, hvl, e2, hV⟩
      have fin : ∀ H4 u, Same H2 H4 → H2 u = none → RowAt H4 u (r ++ [from_ 0 r + j]) → ∃ acc, H4 D = some (.lst acc) ∧ acc.length < sizeLine ∧ ∃ vs : List Addr, upd H4 D (.lst (acc ++ [.ref u])) D = some (.lst (vs.map V.ref)) ∧ vs.length = j + 1 ∧ Same H1 (upd H4 D (.lst (acc ++ [.ref u]))) ∧ All2 (fun a q => H1 a = none ∧ a ≠ D ∧ RowAt (upd H4 D (.lst (acc ++ [.ref u]))) a q) vs ((nextRows m 0 r).take (j + 1)) := fun H4 u e4 hu hrw => by
        have huD : u ≠ D := fun e => by rw [e, hvs] at hu; cases hu
        refine ⟨_, e4 _ _ hvs, by rw [List.length_map]; exact lineN (by omega), vs ++ [u], by rw [upd_same, List.map_append]; rfl, by simp [hvl], ?_, ?_⟩
        · exact fun b o hb => by
            rw [upd_ne (ne_of_none hb hD)]
            exact e4 _ _ (e2 _ _ hb)
        · rw [next_take hj]
          refine All2.snoc (hV.mono fun a q _ z => ⟨z.1, z.2.1, ?_⟩) ⟨e2.free hu, huD, ?_⟩
          · show upd H4 D _ a = _
            rw [upd_ne z.2.1]
            exact e4 _ _ z.2.2
          · show upd H4 D _ u = _
            rw [upd_ne huD]
            exact hrw
      have hx : ((from_ 0 r : Int) + (j : Int)) = ((from_ 0 r + j : Nat) : Int) := by omega
      refine ⟨rfl, ?_⟩
      unfold tYes
      dsimp only
      rw [if_pos rfl, hx]
      refine opH (val_var rfl) (tup1 (val_var rfl) fun p hp => ?_)
      have ep : Same H2 (upd H2 p (.tup [iv (from_ 0 r + j)])) := same_upd hp
      refine ⟨t, p, r.map iv, [iv (from_ 0 r + j)], rfl, rfl, .inl (.inl (ep _ _ (e2 _ _ hrow1))), .inl (.inl upd_same), ?_, fun hr0' => ?_, fun _ hn' => (by cases hn'), fun _ _ u hu => ?_⟩
      · rw [List.length_map]
        exact lineL (by simp; omega)
      · have hre : r = [] := by simpa using hr0'
        refine fin _ p ep hp ?_
        show upd H2 p _ p = _
        rw [upd_same, hre]
        rfl
      · have hup : u ≠ p := fun e => by rw [e, upd_same] at hu; cases hu
        refine fin _ u (ep.trans (same_upd hu)) (ep.free hu) ?_
        show upd _ u _ u = _
        rw [upd_same, List.map_append]
        rfl
    · rintro H2 ⟨vs, hvs, hvl, e2, hV⟩
      have htk : (nextRows m 0 r).take (m - from_ 0 r) = nextRows m 0 r := by
        refine List.take_of_length_le ?_
        unfold Gc.nextRows
        rw [List.length_map, List.length_range']
        exact Nat.le_refl _
      rw [htk] at hV
      have hfD : fa ≠ D := fun e => by rw [← e, e1 _ _ hf] at hD; cases hD
      have hm' : m - from_ 0 r ≤ 6 := by omega
      refine ⟨fa, D, _, _, rfl, rfl, e2 _ _ (e1 _ _ hf), hvs, by simp only [List.length_map]; exact lineL (by omega), ?_⟩
      have eall := e1.trans e2
      refine ⟨_, _, us ++ vs, rfl, ?_, by rw [upd_same, List.map_append], by rw [List.length_append]; omega, ?_⟩
      · exact fun b o hb => by
          rw [upd_ne (ne_of_none hb hfa)]
          exact eall _ _ (eH _ _ hb)
      · have : (rs.take (i + 1)).flatMap (nextRows m 0) = (rs.take i).flatMap (nextRows m 0) ++ nextRows m 0 r := by
          rw [List.take_succ, hr, List.flatMap_append]
          simp
        rw [this]
        refine (hU.mono fun a q _ z => ?_).app (hV.mono fun a q _ z => ?_)
        · have z : H' a = some (.tup (q.map iv)) := z
          have hafa : a ≠ fa := fun e => by rw [e, hf] at z; cases z
          show upd H2 fa _ a = _
          rw [upd_ne hafa]
          exact eall _ _ z
        · have z2 : H2 a = some (.tup (q.map iv)) := z.2.2
          have hafa : a ≠ fa := fun e => by rw [e, eall _ _ hf] at z2; cases z2
          show upd H2 fa _ a = _
          rw [upd_ne hafa]
          exact z2
  · rintro σ H' ⟨v3, v4, us, rfl, eH, hf, _, hU⟩
    rw [List.length_map, hA.len, List.take_length] at hU
    exact st_ret (val_var rfl) (h H' fa us eH (nw_some.mpr ⟨hfa, hf⟩) hU)
end
end GW
/-! The walk 24: all selections, the smallest, the counts -/
namespace GW
open PySem PySem.Spec PyProof.Rows L2 RZ
open Gc (vL ShapeOk RInv ProgOk big In ExpOk AtomOk CandOk from_ nextRows rowsOf allUpTo)
open Xb15 (State TaskInstance)
section
variable {σ : L2.St} {H : Hp} {ta tb : TE} {K : PySem.W.Frag} {D : Ends} {Q : VK}
theorem parH {i j : Nat} (h : ta σ H fun x H1 => tb σ H1 fun y H2 => D.nx ((σ.set i (some x)).set j (some y)) H2) : tPar i j (tCons ta (tCons tb tNil)) D σ H := by
  have z : (fun (x : V) (H1 : Hp) => tb σ H1 fun y H2 => D.nx ((σ.set i (some x)).set j (some y)) H2) = fun x H1 => tb σ H1 fun y H2 => ∃ v w, [x, y] = [v, w] ∧ D.nx ((List.set σ i (some v)).set j (some w)) H2 := by
    funext x H1
    congr 1
    funext y H2
    exact propext ⟨fun h => ⟨x, y, rfl, h⟩, fun ⟨_, _, e, h⟩ => by cases e; exact h⟩
  rw [z] at h
  exact h
theorem call1S {sp : Sp} {E : XK} (h : ta σ H fun x H1 => sp [x] H1 Q E) : tCall sp [] E (tCons ta tNil) σ H Q := h
theorem tup0 (q : ∀ p, H p = none → Q (.ref p) (upd H p (.tup []))) : tTup tNil σ H Q := ⟨by show 0 ≤ sizeLine; decide, q⟩
theorem eqH {y : V} (h : ta σ H fun x H1 => scal x y = true ∧ Q (.bl (decide (x = y))) H1) : tOp rEq ta (tC y) σ H Q := h
theorem catLH {z : V} (h1 : Val ta σ H z) (h : ∀ p, H p = none → tb σ (upd H p (.lst [z])) fun y H2 => rCat (.ref p) y H2 Q) : tOp rCat (tLst (tCons ta tNil)) tb σ H Q := h1 _ ⟨by show 1 ≤ sizeLine; decide, h⟩
theorem val_count {p : Addr} {ns : List Int} {k : Int} (h1 : Val ta σ H (.ref p)) (hS : SqL K H p (ns.map V.int)) : Val (tBM K "list" (rCntI K) ta (tCons (tC (.int k)) tNil)) σ H (.int (ns.count k : Nat)) := fun Q q => h1 _ ⟨.inl ⟨rfl, _, hS⟩, p, ns, k, rfl, rfl, hS, q⟩
end
section
variable {P : Program} {w : World} {K : PySem.W.Frag} {mg : Str → Option Value} {base : Heap}
def allSp (K : PySem.W.Frag) : Sp := sp1 fun a H Q E => ∃ m : Nat, a = iv m ∧ m ≤ 6 ∧ ∀ H' q (us : List Addr), Same H H' → nw H H' q = some (.lst (us.map V.ref)) → All2 (RowAt H') us (allUpTo m m) → Q (.ref q) H'
theorem sc_all_selections : FnScope ["many", "found", "level", "size"] ["many"] (defScope s_all_selections) := ⟨rfl, rfl, rfl, by decide +kernel, rfl, by decide +kernel, by decide +kernel⟩
theorem ok_all_selections (T : Tx K w mg) : Df P w K mg base CX0 2 "all_selections" ["many"] (allSp K) := by
  obtain ⟨fd, F⟩ := T.d_all_selections
  refine ⟨fd, T.g_all_selections, F.kp, (F.bindsN (ps := ["many"]) fun _ _ _ _ _ _ us hl => match us, hl with | [_], _ => rfl), F.ok sc_all_selections sp1_len (fun cdv A outer s H vs Q E hr h => ⟨_, PSs.nox ((pss_cons (ps_par (i := 1) (j := 2) rfl sc_all_selections.nd rfl rfl (by decide) rfl rfl (pa_cons (pe_lst (pa_cons (pe_tup pa_nil) pa_nil)) (pa_cons (pe_lst (pa_cons (pe_tup pa_nil) pa_nil)) pa_nil)) rfl)
    (pss_cons (ps_for PassesOwn.never rfl (pi_range1 (by rfl) T.f_range (pa_cons (pv 0) pa_nil)) (pg_name (i := 3) sc_all_selections.nd rfl (.inl rfl))
      (pss_cons (ps_set (i := 2) sc_all_selections.nd rfl (.inl rfl) (pe_df (ok_longer T) (hr.mono (by decide)) pass0 (pa_cons (pv 2) (pa_cons (pv 0) pa_nil))))
    (pss_one (ps_expr (pe_bm PySem.F.plainAttrs_list PySem.F.slot_list_extend PySem.F.type_list_extend mt_extend (pv 1) (pa_cons (pv 2) pa_nil))))))
    (pss_one (ps_ret (pv 1)))))), ?_⟩)⟩
  obtain ⟨_, rfl, m, rfl, hm, h⟩ := h
  refine parH (lst1H (tup0 fun t1 ht1 fa hfa => lst1H (tup0 fun t2 ht2 la hla => ?_)))
  dsimp only
  have e1 : Same H (upd H t1 (.tup [])) := same_upd ht1
  have e2 : Same (upd H t1 (.tup [])) (upd (upd H t1 (.tup [])) fa (.lst [.ref t1])) := same_upd hfa
  generalize hG1 : upd (upd H t1 (.tup [])) fa (.lst [.ref t1]) = G1 at *
  have e3 : Same G1 (upd G1 t2 (.tup [])) := same_upd ht2
  have e4 : Same (upd G1 t2 (.tup [])) (upd (upd G1 t2 (.tup [])) la (.lst [.ref t2])) := same_upd hla
  generalize hG2 : upd (upd G1 t2 (.tup [])) la (.lst [.ref t2]) = G2 at *
  have g1 : G1 fa = some (.lst [.ref t1]) := by rw [← hG1, upd_same]
  have g2 : G1 t1 = some (.tup []) := e2 _ _ upd_same
  have g3 : G2 la = some (.lst [.ref t2]) := by rw [← hG2, upd_same]
  have g4 : G2 t2 = some (.tup []) := e4 _ _ upd_same
  have hfaH : H fa = none := e1.free hfa
  have e12 : Same H G2 := (e1.trans e2).trans (e3.trans e4)
  have hlf : la ≠ fa := fun e => by rw [e, e3 _ _ g1] at hla; cases hla
  refine L2.st_seq (st_forR1 (n := m) (fun i σ H' => ∃ (v3 : Option V) (la : Addr) (us ts : List Addr), σ = [some (iv m), some (.ref fa), some (.ref la), v3] ∧ Same H H' ∧ H' fa = some (.lst (us.map V.ref)) ∧ All2 (RowAt H') us (allUpTo m i) ∧ H' la = some (.lst (ts.map V.ref)) ∧ All2 (RowAt H') ts (rowsOf m i) ∧ la ≠ fa) (val_var rfl) (by omega) ⟨none, la, [t1], [t2], rfl, e12, (e3.trans e4) _ _ g1, ?_, g3, ?_, hlf⟩ ?_ ?_)
  · rw [Gc.all_zero]
    exact All2.cons ((e3.trans e4) _ _ g2) All2.nil
  · rw [Gc.rows_zero]
    exact All2.cons g4 All2.nil
  · rintro i σ H' hi ⟨v3, lb, us, ts, rfl, eH, hf, hU, hl, hT, hne⟩
    refine L2.st_seq (st_asg (callS2 (val_var rfl) (val_var rfl) ⟨_, _, rfl, lb, ts, rowsOf m i, m, rfl, rfl, hl, hT, fun r hr => ⟨Gc.rows_in hr, ?_⟩, hm, by have := Gc.rows_len hm i; omega, fun H2 q vs e5 hq hV => ?_⟩))
    · have := Gc.sel_size i _ r hr
      omega
    · rw [Gc.rows_next] at hV
      obtain ⟨hq1, hq2⟩ := nw_some.mp hq
      have hqf : q ≠ fa := fun e => by rw [e, hf] at hq1; cases hq1
      have hl1 := Gc.all_len hm i
      have hl2 := Gc.rows_len hm (i + 1)
      have hul := hU.len
      have hvl := hV.len
      dsimp only
      refine st_extendH (val_var rfl) (SqL.of (e5 _ _ hf)) (val_var rfl _ ⟨fa, q, _, _, rfl, rfl, e5 _ _ hf, hq2, by simp only [List.length_map]; exact lineL (by omega), ?_⟩)
      have nf : ∀ {t : Addr} {r : List Nat}, RowAt H2 t r → RowAt (upd H2 fa (.lst (us.map V.ref ++ vs.map V.ref))) t r := fun {t} {r} z => by
        have z : H2 t = some (.tup (r.map iv)) := z
        show upd H2 fa _ t = _
        rw [upd_ne (fun e => by rw [e, e5 _ _ hf] at z; cases z)]
        exact z
      refine ⟨_, q, us ++ vs, vs, rfl, ?_, by rw [upd_same, List.map_append], ?_, by rw [upd_ne hqf]; exact hq2, hV.mono fun _ _ _ z => nf z, hqf⟩
      · exact fun b o hb => by
          rw [upd_ne (ne_of_none hb hfaH)]
          exact e5 _ _ (eH _ _ hb)
      · rw [Gc.all_succ]
        exact (hU.mono fun a q _ z => nf (e5 _ _ z : RowAt H2 a q)).app (hV.mono fun _ _ _ z => nf z)
  · rintro σ H' ⟨v3, lb, us, ts, rfl, eH, hf, hU, _⟩
    exact st_ret (val_var rfl) (h H' fa us eH (nw_some.mpr ⟨hfaH, hf⟩) hU)
theorem outc_is (h0 : Xb16.Session) (l : List Nat) : Xb16.outcomeOf h0 l = outc h0.program (Xb16.finalState h0 l) := rfl
/-- an evaluated selection's outcome -/
theorem Tx.ev_out (T : Tx K w mg) {H : Hp} {L : DLay} {h0 : Xb16.Session} (R : DeskAt K H L ⟨some h0⟩) (DO : DOk ⟨some h0⟩) {σ : L2.St} {j : Nat} {t : Addr} {sel : List Nat} {Q : VK} (hs : ∀ n ∈ sel, n < h0.candidates.length) (h1 : σ[0]? = some (some (.ref L.d))) (h2 : σ[j]? = some (some (.ref t))) (ht : RowAt H t sel) (q : ∀ H', Same H H' → Q (iv (Xb16.outcomeOf h0 sel)) H') :
    tCall (outcSp K) [] E0 (tCons (tCall (evTSp K) [] E0 (tCons (tFld K (tVar 0) "program") (tCons (tFld K (tVar 0) "offers") (tCons (tVar j) tNil)))) tNil) σ H Q := by
  refine call1S (callS3 (T.v_Desk_program (val_var h1) R.at_) (T.v_Desk_offers (val_var h1) R.at_) (val_var h2) ⟨_, _, _, rfl, L.pa, L.oa, t, h0.program, L.as, h0.candidates, sel, rfl, rfl, rfl, R.ask DO hs, .inl (.inl ht), fun H2 RL s2 m e2 hex RR I2 hsim => ?_⟩)
  refine ⟨_, rfl, RL, h0.program, s2, m, rfl, RR, I2, fun H3 e3 => ?_⟩
  rw [sim_outc hsim]
  exact q H3 (e2.trans e3)
theorem sc_smallest : FnScope ["desk", "numbers", "selection"] ["desk", "numbers"] (defScope s_smallest) := ⟨rfl, rfl, rfl, by decide +kernel, rfl, by decide +kernel, by decide +kernel⟩
theorem ok_smallest (T : Tx K w mg) : Df P w K mg base CX0 9 "smallest" ["desk", "numbers"] (opSp K 7) := by
  obtain ⟨fd, F⟩ := T.d_smallest
  refine ⟨fd, T.g_smallest, F.kp, (F.bindsN (ps := ["desk", "numbers"]) fun _ _ _ _ _ _ us hl => match us, hl with | [_, _], _ => rfl), F.ok sc_smallest sp2_len (fun cdv A outer s H vs Q E hr h => ⟨_, PSs.nox ((pss_cons (ps_for PassesOwn.never rfl (pi_list (pe_df (ok_all_selections T) (hr.mono (by decide)) pass0 (pa_cons (pe_callB call_len (by rfl) T.f_len (by decide +kernel) (pa_cons (pe_fld (pv 0) rfl) pa_nil)) pa_nil))) (pg_name (i := 2) sc_smallest.nd rfl (.inl rfl))
      (pss_one (ps_if (pt_cmpR op_eq (pe_df (ok_outcome_of T) (hr.mono (by decide)) pass0 (pa_cons (pe_df (ok_evaluatedT T) (hr.mono (by decide)) pass0 (pa_cons (pe_fld (pv 0) rfl) (pa_cons (pe_fld (pv 0) rfl) (pa_cons (pv 2) pa_nil)))) pa_nil)) (pe_gi T.c_FINISHED) (nomark _))
      (pss_one (ps_ret (pe_op op_cat (pe_lst (pa_cons (pe_callB call_len (by rfl) T.f_len (by decide +kernel) (pa_cons (pv 2) pa_nil)) pa_nil)) (pe_callTy call_list_of (by rfl) T.f_list (by decide +kernel) (pa_cons (pv 2) pa_nil)))))
      pss_nil)))
    (pss_one (ps_ret (pe_lst (pa_cons (pe_gi T.c_NO_SELECTION) pa_nil)))))), ?_⟩)⟩
  obtain ⟨_, _, rfl, L, D, n, ns, c, rfl, rfl, R, DO, hn, hc, hs, h⟩ := h
  obtain ⟨h0, hs⟩ := hs (by decide)
  obtain ⟨ses⟩ := D
  dsimp only at hs
  subst hs
  cases hc with
  | small =>
  obtain ⟨PO, CO, h6⟩ := DO h0 rfl
  have hcl : L.as.length = h0.candidates.length := R.cs.len
  have hst : Xb16.step ⟨some h0⟩ .smallest = (⟨some h0⟩, match (Xb16.selections h0).find? (fun l => Xb16.outcomeOf h0 l == 0) with
    | none => Xb16.single (-6)
    | some l => ⟨Xb16.natInt l.length, l.map Xb16.natInt⟩) := rfl
  rw [hst, Gc.all_is] at h
  refine st_forLH (callS1 (val_lenM (K := K) (f := V.ref) (l := L.as) (T.v_Desk_offers (val_var rfl) R.at_) (SqL.of R.ol)) ⟨_, rfl, L.as.length, rfl, by omega, fun H1 q us e1 hq hU => ⟨q, rfl, ⟨_, SqL.of (nw_some.mp hq).2⟩, ?_⟩⟩)
  have hq2 := (nw_some.mp hq).2
  rw [hcl] at hU
  refine forIn (xs := us.map V.ref) (fun i σ H' => ∃ v2 : Option V, σ = [some (.ref L.d), some (.ref n), v2] ∧ Same H1 H' ∧ ((allUpTo h0.candidates.length h0.candidates.length).take i).find? (fun l => Xb16.outcomeOf h0 l == 0) = none) ⟨none, rfl, Same.refl _, rfl⟩ ?_ ?_ ?_
  · rintro i σ H' _ ⟨v2, rfl, eH, _⟩
    exact SqL.of (eH _ _ hq2)
  · rintro i y σ H' hy ⟨v2, rfl, eH, hnone⟩
    obtain ⟨t, ht, rfl⟩ := map_get hy
    obtain ⟨sel, hsel, hrow⟩ := hU.get' ht
    obtain ⟨hin, hsl⟩ := Gc.all_in (List.mem_of_getElem? hsel)
    have e1H := e1.trans eH
    have hrow' : RowAt H' t sel := eH _ _ hrow
    refine st_ifH (eqH (T.ev_out (R.mono e1H) DO hin rfl rfl hrow' fun H2 e2 => ⟨rfl, _, rfl, ?_⟩))
    have htk : (allUpTo h0.candidates.length h0.candidates.length).take (i + 1) = (allUpTo h0.candidates.length h0.candidates.length).take i ++ [sel] := by
      rw [List.take_succ, hsel]
      rfl
    by_cases h0' : Xb16.outcomeOf h0 sel = 0
    · rw [if_pos (by rw [h0']; rfl)]
      have hrow2 : RowAt H2 t sel := e2 _ _ hrow'
      refine st_retH (catLH (val_is (val_lenT (K := K) (val_var rfl) (.inl (.inl hrow2))) rfl) fun p hp => ?_)
      have ep : Same H2 (upd H2 p (.lst [.int ((sel.map iv).length : Int)])) := same_upd hp
      refine val_var rfl _ ⟨_, _, rfl, .inr (.inl (.inl (ep _ _ hrow2))), fun l hl => ?_⟩
      have el := same_upd (o := .lst (sel.map iv)) hl
      refine ⟨p, l, _, _, rfl, rfl, el _ _ upd_same, upd_same, by simp only [List.length_map]; exact lineL (by show 1 + _ ≤ _; omega), fun r hr => ?_⟩
      have er := same_upd (o := .lst ([.int ((sel.map iv).length : Int)] ++ sel.map iv)) hr
      have eall := e1H.trans (e2.trans (ep.trans el))
      have hf : (allUpTo h0.candidates.length h0.candidates.length).find? (fun l => Xb16.outcomeOf h0 l == 0) = some sel := by
        have hdr : (allUpTo h0.candidates.length h0.candidates.length) = (allUpTo h0.candidates.length h0.candidates.length).take i ++ (sel :: (allUpTo h0.candidates.length h0.candidates.length).drop (i + 1)) := by
          have hil := (List.getElem?_eq_some_iff.mp hsel)
          rw [← hil.2, ← List.drop_eq_getElem_cons hil.1, List.take_append_drop]
        rw [hdr, List.find?_append, hnone]
        simp [h0']
      rw [hf] at h
      refine ro_out h R (eall.trans er) (nw_some.mpr ⟨eall.free hr, ?_⟩)
      rw [upd_same]
      show some (HO.lst (.int ((sel.map iv).length : Int) :: sel.map iv)) = some (HO.lst (.int (sel.length : Int) :: (sel.map Xb16.natInt).map V.int))
      rw [List.length_map, List.map_map]
      rfl
    · have hne : decide (iv (Xb16.outcomeOf h0 sel) = V.int 0) = false := decide_eq_false fun e => h0' (by have := V.int.inj e; omega)
      rw [hne, if_neg (by decide)]
      refine st_next ⟨_, rfl, eH.trans e2, ?_⟩
      rw [htk, List.find?_append, hnone]
      simp [h0']
  · rintro σ H' ⟨v2, rfl, eH, hnone⟩
    rw [List.length_map, hU.len, List.take_length] at hnone
    rw [hnone] at h
    have e1H := e1.trans eH
    dsimp only
    exact st_retH (one_out h (R.same e1H) (R.mono e1H) (fun a ha => e1H.free ha) val_c)
theorem sc_count_outcomes : FnScope ["desk", "numbers", "found", "selection"] ["desk", "numbers"] (defScope s_count_outcomes) := ⟨rfl, rfl, rfl, by decide +kernel, rfl, by decide +kernel, by decide +kernel⟩
theorem ok_count_outcomes (T : Tx K w mg) : Df P w K mg base CX0 9 "count_outcomes" ["desk", "numbers"] (opSp K 8) := by
  obtain ⟨fd, F⟩ := T.d_count_outcomes
  refine ⟨fd, T.g_count_outcomes, F.kp, (F.bindsN (ps := ["desk", "numbers"]) fun _ _ _ _ _ _ us hl => match us, hl with | [_, _], _ => rfl), F.ok sc_count_outcomes sp2_len (fun cdv A outer s H vs Q E hr h => ⟨_, PSs.nox ((pss_cons (ps_set (i := 2) sc_count_outcomes.nd rfl (.inl rfl) (pe_lst pa_nil))
    (pss_cons (ps_for PassesOwn.never rfl (pi_list (pe_df (ok_all_selections T) (hr.mono (by decide)) pass0 (pa_cons (pe_callB call_len (by rfl) T.f_len (by decide +kernel) (pa_cons (pe_fld (pv 0) rfl) pa_nil)) pa_nil))) (pg_name (i := 3) sc_count_outcomes.nd rfl (.inl rfl))
      (pss_one (ps_expr (pe_bm PySem.F.plainAttrs_list PySem.F.slot_list_append PySem.F.type_list_append mt_append (pv 2) (pa_cons (pe_df (ok_outcome_of T) (hr.mono (by decide)) pass0 (pa_cons (pe_df (ok_evaluatedT T) (hr.mono (by decide)) pass0 (pa_cons (pe_fld (pv 0) rfl) (pa_cons (pe_fld (pv 0) rfl) (pa_cons (pv 3) pa_nil)))) pa_nil)) pa_nil)))))
    (pss_one (ps_ret (pe_lst (pa_cons (pe_bm PySem.F.plainAttrs_list PySem.F.slot_list_count PySem.F.type_list_count mt_lcount (pv 2) (pa_cons (pe_gi T.c_FINISHED) pa_nil)) (pa_cons (pe_bm PySem.F.plainAttrs_list PySem.F.slot_list_count PySem.F.type_list_count mt_lcount (pv 2) (pa_cons (pe_gi T.c_BLOCKED) pa_nil)) (pa_cons (pe_bm PySem.F.plainAttrs_list PySem.F.slot_list_count PySem.F.type_list_count mt_lcount (pv 2) (pa_cons (pe_gi T.c_FAILED) pa_nil)) pa_nil))))))))), ?_⟩)⟩
  obtain ⟨_, _, rfl, L, D, n, ns, c, rfl, rfl, R, DO, hn, hc, hs, h⟩ := h
  obtain ⟨h0, hs⟩ := hs (by decide)
  obtain ⟨ses⟩ := D
  dsimp only at hs
  subst hs
  cases hc with
  | count =>
  obtain ⟨PO, CO, h6⟩ := DO h0 rfl
  have hcl : L.as.length = h0.candidates.length := R.cs.len
  refine st_asg (lst0 fun fa hfa => ?_)
  dsimp only
  have e0 : Same H (upd H fa (.lst [])) := same_upd hfa
  generalize hG : upd H fa (.lst []) = G at *
  have gf : G fa = some (.lst []) := by rw [← hG, upd_same]
  have RG := R.mono e0
  refine L2.st_seq (st_forLH (callS1 (val_lenM (K := K) (f := V.ref) (l := L.as) (T.v_Desk_offers (val_var rfl) RG.at_) (SqL.of RG.ol)) ⟨_, rfl, L.as.length, rfl, by omega, fun H1 q us e1 hq hU => ⟨q, rfl, ⟨_, SqL.of (nw_some.mp hq).2⟩, ?_⟩⟩))
  have hq2 := (nw_some.mp hq).2
  rw [hcl] at hU
  have hqf : q ≠ fa := fun e => by have := (nw_some.mp hq).1; rw [e, gf] at this; cases this
  have hal := Gc.all_len h6 h0.candidates.length
  refine forIn (xs := us.map V.ref) (fun i σ H' => ∃ v3 : Option V, σ = [some (.ref L.d), some (.ref n), some (.ref fa), v3] ∧ Same H H' ∧ (∀ b u, b ≠ fa → H1 b = some u → H' b = some u) ∧ H' fa = some (.lst ((((allUpTo h0.candidates.length h0.candidates.length).take i).map fun l => (Xb16.outcomeOf h0 l : Int)).map V.int))) ⟨none, rfl, e0.trans e1, fun b u _ hu => hu, e1 _ _ gf⟩ ?_ ?_ ?_
  · rintro i σ H' _ ⟨v3, rfl, eH, eK, _⟩
    exact SqL.of (eK _ _ hqf hq2)
  · rintro i y σ H' hy ⟨v3, rfl, eH, eK, hf⟩
    obtain ⟨t, ht, rfl⟩ := map_get hy
    obtain ⟨sel, hsel, hrow⟩ := hU.get' ht
    obtain ⟨hin, hsl⟩ := Gc.all_in (List.mem_of_getElem? hsel)
    have hil := (List.getElem?_eq_some_iff.mp hsel).1
    have hrow0 : H1 t = some (.tup (sel.map iv)) := hrow
    have htf : t ≠ fa := fun e => by rw [e, e1 _ _ gf] at hrow0; cases hrow0
    have hrow' : RowAt H' t sel := eK _ _ htf hrow0
    refine st_appendH (val_var rfl) (SqL.of hf) (T.ev_out (R.mono eH) DO hin rfl rfl hrow' fun H2 e2 => ⟨fa, _, _, rfl, rfl, e2 _ _ hf, ?_, ?_⟩)
    · simp only [List.length_map, List.length_take]
      exact lineN (by omega)
    · refine ⟨_, rfl, ?_, ?_, ?_⟩
      · exact fun b o hb => by
          rw [upd_ne (ne_of_none hb hfa)]
          exact e2 _ _ (eH _ _ hb)
      · exact fun b u hb hu => by
          rw [upd_ne hb]
          exact e2 _ _ (eK b u hb hu)
      · rw [upd_same, List.take_succ, hsel]
        simp only [Option.toList, List.map_append, List.map_cons, List.map_nil]
        rfl
  · rintro σ H' ⟨v3, rfl, eH, eK, hf⟩
    rw [List.length_map, hU.len, List.take_length] at hf
    have hcnt : ∀ k : Nat, ((((allUpTo h0.candidates.length h0.candidates.length).map fun l => (Xb16.outcomeOf h0 l : Int)).count (k : Int) : Nat) : Int) = ((((allUpTo h0.candidates.length h0.candidates.length).filter fun l => Xb16.outcomeOf h0 l == k).length : Nat) : Int) := fun k => by
      congr 1
      rw [List.count_eq_countP, List.countP_map, List.countP_eq_length_filter]
      congr 1
      refine List.filter_congr fun l _ => ?_
      show ((Xb16.outcomeOf h0 l : Int) == (k : Int)) = (Xb16.outcomeOf h0 l == k)
      rw [Bool.eq_iff_iff, beq_iff_eq, beq_iff_eq]
      omega
    refine st_retH (lst3 (val_count (val_var rfl) (SqL.of hf)) (val_count (val_var rfl) (SqL.of hf)) (val_count (val_var rfl) (SqL.of hf)) fun r hr => ?_)
    have er := same_upd (o := .lst [.int ((((allUpTo h0.candidates.length h0.candidates.length).map fun l => (Xb16.outcomeOf h0 l : Int)).count 0 : Nat) : Int), .int ((((allUpTo h0.candidates.length h0.candidates.length).map fun l => (Xb16.outcomeOf h0 l : Int)).count 1 : Nat) : Int), .int ((((allUpTo h0.candidates.length h0.candidates.length).map fun l => (Xb16.outcomeOf h0 l : Int)).count 2 : Nat) : Int)]) hr
    refine ro_out (a := ⟨Xb16.natInt ((Xb16.selections h0).filter fun l => Xb16.outcomeOf h0 l == 0).length, [Xb16.natInt ((Xb16.selections h0).filter fun l => Xb16.outcomeOf h0 l == 1).length, Xb16.natInt ((Xb16.selections h0).filter fun l => Xb16.outcomeOf h0 l == 2).length]⟩) h R (eH.trans er) (nw_some.mpr ⟨eH.free hr, ?_⟩)
    rw [upd_same]
    have c0 := hcnt 0
    have c1 := hcnt 1
    have c2 := hcnt 2
    rw [Gc.all_is]
    show some (HO.lst [.int _, .int _, .int _]) = some (HO.lst [.int _, .int _, .int _])
    refine congrArg some (congrArg HO.lst ?_)
    refine congr (congrArg List.cons (congrArg V.int c0)) (congr (congrArg List.cons (congrArg V.int c1)) (congr (congrArg List.cons (congrArg V.int c2)) rfl))
end
end GW
/-! The walk 25: answer, answers -/
namespace GW
open PySem PySem.Spec PyProof.Rows L2 RZ
open Gc (vL ShapeOk RInv ProgOk big In ExpOk AtomOk CandOk from_ nextRows rowsOf allUpTo ansOf manyOf Left Head1)
open Xb15 (State TaskInstance)
theorem callOf {k : Int} {ns : List Int} {c : Xb16.Call} (h : Gc.CallOf k ns c) : CallOf k ns c := by
  cases h with
  | load _ h => exact .load _ h
  | put c z => exact .put c z
  | cut c a b => exact .cut c a b
  | clear => exact .clear
  | check _ h => exact .check _ h
  | cells _ h => exact .cells _ h
  | small => exact .small
  | count => exact .count
def opTable : List (Int × String) := [(1, "load"), (2, "offer_put"), (3, "offer_narrow"), (4, "clear_offers"), (5, "check"), (6, "tell_cells"), (7, "smallest"), (8, "count_outcomes")]
def opR (K : PySem.W.Frag) (f : Addr) (sp : Sp) : Prop := ∃ k z, (k, z) ∈ opTable ∧ f = He.ga K (Str.ofString z) ∧ sp = opSp K k
theorem op_of {k : Int} {ns : List Int} {c : Xb16.Call} (h : CallOf k ns c) : ∃ z, (k, z) ∈ opTable ∧ List.lookup k [(1, He.Dv.glo "load"), (2, .glo "offer_put"), (3, .glo "offer_narrow"), (4, .glo "clear_offers"), (5, .glo "check"), (6, .glo "tell_cells"), (7, .glo "smallest"), (8, .glo "count_outcomes")] = some (.glo (Str.ofString z)) := by
  cases h with
  | load => exact ⟨"load", by simp [opTable], rfl⟩
  | put => exact ⟨"offer_put", by simp [opTable], rfl⟩
  | cut => exact ⟨"offer_narrow", by simp [opTable], rfl⟩
  | clear => exact ⟨"clear_offers", by simp [opTable], rfl⟩
  | check => exact ⟨"check", by simp [opTable], rfl⟩
  | cells => exact ⟨"tell_cells", by simp [opTable], rfl⟩
  | small => exact ⟨"smallest", by simp [opTable], rfl⟩
  | count => exact ⟨"count_outcomes", by simp [opTable], rfl⟩
theorem step_none {q : Xb16.Call} {k : Int} {ns : List Int} (h : CallOf k ns q) (hk : k ≠ 1) : Xb16.step ⟨none⟩ q = (⟨none⟩, Xb16.single (-7)) := by
  cases h with
  | load => exact (hk rfl).elim
  | _ => rfl
section
variable {P : Program} {w : World} {K : PySem.W.Frag} {mg : Str → Option Value} {base : Heap}
theorem opA (T : Tx K w mg) : ∀ f sp, opR K f sp → ∃ y ps, f = He.ga K y ∧ Df P w K mg base CX0 12 y ps sp := by
  rintro f sp ⟨k, z, hz, rfl, rfl⟩
  unfold opTable at hz
  simp only [List.mem_cons, List.not_mem_nil, or_false, Prod.mk.injEq] at hz
  rcases hz with ⟨rfl, rfl⟩ | ⟨rfl, rfl⟩ | ⟨rfl, rfl⟩ | ⟨rfl, rfl⟩ | ⟨rfl, rfl⟩ | ⟨rfl, rfl⟩ | ⟨rfl, rfl⟩ | ⟨rfl, rfl⟩
  · exact ⟨_, _, rfl, (ok_load T).up (by decide)⟩
  · exact ⟨_, _, rfl, (ok_offer_put T).up (by decide)⟩
  · exact ⟨_, _, rfl, (ok_offer_narrow T).up (by decide)⟩
  · exact ⟨_, _, rfl, (ok_clear_offers T).up (by decide)⟩
  · exact ⟨_, _, rfl, (ok_check T).up (by decide)⟩
  · exact ⟨_, _, rfl, (ok_tell_cells T).up (by decide)⟩
  · exact ⟨_, _, rfl, (ok_smallest T).up (by decide)⟩
  · exact ⟨_, _, rfl, (ok_count_outcomes T).up (by decide)⟩
theorem val_ixId {σ : L2.St} {H : Hp} {ta tb : TE} {a : Addr} {kvs : List (Int × He.Dv)} {i : Int} {v : He.Dv} (h1 : Val ta σ H (.ref a)) (h2 : Val tb σ H (.int i)) (h : kvs.lookup i = some v) : Val (tOp (rIxId K a kvs) ta tb) σ H (v.v K) := fun Q q => h1 _ (h2 _ ⟨i, v, rfl, rfl, h, q⟩)
theorem val_inId {σ : L2.St} {H : Hp} {ta tb : TE} {a : Addr} {kvs : List (Int × He.Dv)} {i : Int} (h1 : Val ta σ H (.int i)) (h2 : Val tb σ H (.ref a)) : Val (tOp (rInId a kvs) ta tb) σ H (.bl (kvs.lookup i).isSome) := fun Q q => h1 _ (h2 _ ⟨i, rfl, rfl, q⟩)
def answSp (K : PySem.W.Frag) : Sp := sp3 fun a b d H Q E => ∃ (L : DLay) (D : Xb16.Desk) (n : Addr) (ns : List Int) (k : Int) (c : Xb16.Call), a = .ref L.d ∧ b = .int k ∧ d = .ref n ∧ DeskAt K H L D ∧ DOk D ∧ SqL K (wo H L.M) n (ns.map V.int) ∧ CallOf k ns c ∧ OpOut K H L (Xb16.step D c) Q
theorem sc_answer : FnScope ["desk", "call", "numbers", "deed"] ["desk", "call", "numbers"] (defScope s_answer) := ⟨rfl, rfl, rfl, by decide +kernel, rfl, by decide +kernel, by decide +kernel⟩
theorem ok_answer (T : Tx K w mg) : Df P w K mg base CX0 13 "answer" ["desk", "call", "numbers"] (answSp K) := by
  obtain ⟨fd, F⟩ := T.d_answer
  refine ⟨fd, T.g_answer, F.kp, (F.bindsN (ps := ["desk", "call", "numbers"]) fun _ _ _ _ _ _ us hl => match us, hl with | [_, _, _], _ => rfl), F.ok sc_answer sp3_len (fun cdv A outer s H vs Q E hr h => ⟨_, PSs.nox ((pss_cons (ps_if (PW.pt (pw_and (pt_cmpR op_ne (pv 1) (pe_gi T.c_LOAD) (nomark _)) (pw_and1 (pt_cmpR op_isN (pe_fld (pv 0) rfl) pe_non (nomark _)))))
      (pss_one (ps_ret (pe_lst (pa_cons (pe_gi T.c_NO_PROGRAM) pa_nil))))
      pss_nil)
    (pss_cons (ps_set (i := 3) sc_answer.nd rfl (.inl rfl) (pe_ix (ix_id T.id_CALLS (by decide)) (pe_gr T.g_CALLS) (pv 1) (fun _ _ => rfl)))
    (pss_one (ps_ret (pe_dfR (i := 3) (R := opR K) (opA T) (hr.mono (by decide)) rfl (.inl rfl) pass0 (pa_cons (pv 0) (pa_cons (pv 2) pa_nil)))))))), ?_⟩)⟩
  obtain ⟨_, _, _, rfl, L, D, n, ns, k, c, rfl, rfl, rfl, R, DO, hn, hc, h⟩ := h
  have hpv : Val (tFld K (tVar 0) "program") [some (.ref L.d), some (.int k), some (.ref n), none] H (progV L D) := T.v_Desk_program (val_var rfl) R.at_
  have go : (k ≠ 1 → ∃ h, D.session = some h) → tSeq (tAsg (tOp (rIxId K (He.ga K "CALLS") [(1, He.Dv.glo "load"), (2, .glo "offer_put"), (3, .glo "offer_narrow"), (4, .glo "clear_offers"), (5, .glo "check"), (6, .glo "tell_cells"), (7, .glo "smallest"), (8, .glo "count_outcomes")]) (tC (.ref (He.ga K "CALLS"))) (tVar 1)) (gName 3)) (tRet (tCallR 3 (opR K) E0 (tCons (tVar 0) (tCons (tVar 2) tNil)))) { nx := fun _ H' => Q V.non H', rt := Q } [some (.ref L.d), some (.int k), some (.ref n), none] H := fun hs => by
    obtain ⟨z, hz, hl⟩ := op_of hc
    refine L2.st_seq (st_asg (val_ixId val_c (val_var rfl) hl _ ?_))
    dsimp only
    exact st_retH (callT2 (R := opR K) rfl ⟨k, z, hz, rfl, rfl⟩ (val_var rfl) (val_var rfl) ⟨_, _, rfl, L, D, n, ns, c, rfl, rfl, R, DO, hn, hc, hs, h⟩)
  by_cases hk : k = 1
  · refine st_if (b := false) (L2.ans_and0 (ans_is (ans_of (val_ne (val_var rfl) val_c rfl)) (by simp [hk]))) (fun e => by cases e) (fun _ => st_next ?_)
    exact go fun z => (z hk).elim
  · have h1 : Ans (tTest (tOp rNe (tVar 1) (tC (.int 1)))) [some (.ref L.d), some (.int k), some (.ref n), none] H true := ans_is (ans_of (val_ne (val_var rfl) val_c rfl)) (by simp [hk])
    obtain ⟨ses⟩ := D
    cases ses with
    | none =>
      rw [step_none hc hk] at h
      refine st_if (b := true) (L2.ans_and h1 (ans_is (ans_of (val_isN hpv)) rfl)) (fun _ => ?_) (fun e => by cases e)
      exact st_retH (one_out h (R.same (Same.refl H)) R (fun _ z => z) val_c)
    | some h0 =>
      refine st_if (b := false) (L2.ans_and h1 (ans_is (ans_of (val_isN hpv)) rfl)) (fun e => by cases e) (fun _ => st_next ?_)
      exact go fun _ => ⟨h0, rfl⟩
end
end GW
/-! The walk 26: answers -/
namespace GW
open PySem PySem.Spec PyProof.Rows L2 RZ
open Gc (vL ShapeOk RInv ProgOk big In ExpOk AtomOk CandOk from_ nextRows rowsOf allUpTo ansOf manyOf Left Head1)
open Xb15 (State TaskInstance)
theorem many_lookup (p : Int) : List.lookup p [(2, He.Dv.int 2), (3, .int 3), (4, .int 0), (7, .int 0), (8, .int 0)] = (manyOf p).map fun n => He.Dv.int (n : Int) := by
  unfold Gc.manyOf
  by_cases h2 : p = 2
  · subst h2; rfl
  by_cases h3 : p = 3
  · subst h3; rfl
  by_cases h4 : p = 4
  · subst h4; rfl
  by_cases h7 : p = 7
  · subst h7; rfl
  by_cases h8 : p = 8
  · subst h8; rfl
  have b2 : (p == 2) = false := beq_eq_false_iff_ne.mpr h2
  have b3 : (p == 3) = false := beq_eq_false_iff_ne.mpr h3
  have b4 : (p == 4) = false := beq_eq_false_iff_ne.mpr h4
  have b7 : (p == 7) = false := beq_eq_false_iff_ne.mpr h7
  have b8 : (p == 8) = false := beq_eq_false_iff_ne.mpr h8
  rw [if_neg h2, if_neg h3, if_neg h4, if_neg h7, if_neg h8]
  simp only [List.lookup, b2, b3, b4, b7, b8]
  rfl
/-- the head of what is left, by its places -/
theorem head_at {ns : List Int} {k : Nat} {p : Int} {xs t : List Int} (h : Head1 (ns.drop k) p xs t) : ns[k]? = some p ∧ ∃ b n, xs = (ns.drop b).take n ∧ t = ns.drop (b + n) ∧ b + n ≤ ns.length ∧ k < b ∧ ((manyOf p = some n ∧ b = k + 1) ∨ (manyOf p = none ∧ b = k + 2 ∧ ns[k + 1]? = some (n : Int))) := by
  generalize hr : ns.drop k = rest at h
  have at0 : ∀ (i : Nat) (z : Int), rest[i]? = some z → ns[k + i]? = some z := fun i z hz => by
    rw [← hr, List.getElem?_drop] at hz
    exact hz
  have hlen : rest.length = ns.length - k := by rw [← hr, List.length_drop]
  cases h with
  | @many _ r n h hl =>
    have e : r = ns.drop (k + 1) := by
      have := congrArg (List.drop 1) hr
      rw [List.drop_drop] at this
      exact this.symm
    have h0 := at0 0 p rfl
    simp only [List.length_cons] at hlen
    refine ⟨h0, k + 1, n, by rw [e], by rw [e, List.drop_drop], by omega, by omega, .inl ⟨h, rfl⟩⟩
  | @row _ r n h hp hl =>
    have e : r = ns.drop (k + 2) := by
      have := congrArg (List.drop 2) hr
      rw [List.drop_drop] at this
      exact this.symm
    have h0 := at0 0 p rfl
    have h1 := at0 1 _ rfl
    simp only [List.length_cons] at hlen
    exact ⟨h0, k + 2, n, by rw [e], by rw [e, List.drop_drop], by omega, by omega, .inr ⟨h, rfl, h1⟩⟩
theorem cutV_mid (xs : List V) (b n : Nat) (h : b + n ≤ xs.length) : cutV xs (some (b : Int)) (some ((b + n : Nat) : Int)) = (xs.drop b).take n := by
  unfold cutV
  rw [HT.sIx_nat, HT.sIx_nat, Nat.min_eq_left h, Nat.min_eq_left (by omega)]
  congr 1
  omega
theorem DeskAt.relock {K : PySem.W.Frag} {H : Hp} {L : DLay} {D : Xb16.Desk} {fa : Addr} {od : Obj} {u : HO} (R : DeskAt K H L D) (h : fa ∈ L.ex) : DeskAt K (upd H fa (.frz od u)) L D := by
  have hw : wo (upd H fa (.frz od u)) L.M = wo H L.M := wo_upd (List.mem_append_right _ h)
  obtain ⟨n1, n2, _⟩ := R.exd fa h
  refine ⟨R.nd, fun a ha => ?_, ?_, ?_, hw.symm ▸ R.cs, fun h0 hh => hw.symm ▸ R.pr h0 hh⟩
  · obtain ⟨q1, q2, o, v, q3⟩ := R.exd a ha
    by_cases e : a = fa
    · exact ⟨q1, q2, od, u, by rw [e, upd_same]⟩
    · exact ⟨q1, q2, o, v, by rw [upd_ne e]; exact q3⟩
  · show upd H fa _ L.d = _
    rw [upd_ne (Ne.symm n1)]
    exact R.at_
  · rw [upd_ne (Ne.symm n2)]
    exact R.ol
structure AInv (K : PySem.W.Frag) (H' : Hp) (l fa : Addr) (ns : List Int) (L : DLay) (D : Xb16.Desk) (k : Nat) (acc : List Int) : Prop where
  dk : ∀ od u, DeskAt K (upd H' fa (.frz od u)) L D
  ex : L.ex = [fa]
  ls : SqL K (wo H' L.M) l (ns.map V.int)
  fl : H' fa = some (.lst (acc.map V.int))
  ok : DOk D
  left : Left ns D (ns.drop k) acc
  le : k ≤ ns.length
section
variable {σ : L2.St} {H : Hp} {ta tb tc : TE} {K : PySem.W.Frag} {D : Ends} {Q : VK}
theorem par3H {i j l : Nat} (h : ta σ H fun x H1 => tb σ H1 fun y H2 => tc σ H2 fun z H3 => D.nx (((σ.set i (some x)).set j (some y)).set l (some z)) H3) : tPar3 i j l (tCons ta (tCons tb (tCons tc tNil))) D σ H := by
  have e : (fun (x : V) (H1 : Hp) => tb σ H1 fun y H2 => tc σ H2 fun z H3 => D.nx (((σ.set i (some x)).set j (some y)).set l (some z)) H3) = fun x H1 => tb σ H1 fun y H2 => tc σ H2 fun z H3 => ∃ u v w, [x, y, z] = [u, v, w] ∧ D.nx (((List.set σ i (some u)).set j (some v)).set l (some w)) H3 := by
    funext x H1
    congr 1
    funext y H2
    congr 1
    funext z H3
    exact propext ⟨fun h => ⟨x, y, z, rfl, h⟩, fun ⟨_, _, _, e, h⟩ => by cases e; exact h⟩
  rw [e] at h
  exact h
theorem slc_mid {p : Addr} {ns : List Int} {b n : Nat} (ha : Val ta σ H (.ref p)) (hb : Val tb σ H (iv b)) (hc : Val tc σ H (iv (b + n))) (hS : SqL K H p (ns.map V.int)) (hl : b + n ≤ ns.length) (q : ∀ q, H q = none → Q (.ref q) (upd H q (.lst (((ns.drop b).take n).map V.int)))) : tSl (rSlL K) ta (tPart tb) (tPart tc) σ H Q :=
  ha _ (hb _ ⟨_, rfl, hc _ ⟨_, rfl, p, _, rfl, hS, fun r hr => by rw [cutV_mid _ _ _ (by rw [List.length_map]; exact hl), ← List.map_drop, ← List.map_take]; exact q r hr⟩⟩)
end
section
variable {P : Program} {w : World} {K : PySem.W.Frag} {mg : Str → Option Value} {base : Heap}
def answersSp (K : PySem.W.Frag) : Sp := sp1 fun a H Q E => ∃ (l : Addr) (ns : List Int), a = .ref l ∧ SqL K H l (ns.map V.int) ∧ PyXb16.answers_asked ns = true ∧ ns.length ≤ 19000 ∧ ∀ H' p, H' p = some (.lst ((PyXb16.answers ns).map V.int)) → Q (.ref p) H'
theorem sc_answers : FnScope ["calls", "desk", "found", "at", "begin", "end", "told"] ["calls"] (defScope s_answers) := ⟨rfl, rfl, rfl, by decide +kernel, rfl, by decide +kernel, by decide +kernel⟩
theorem okf_answers (T : Tx K w mg) {fd : FuncData} (F : FunD K "answers" "answers" (defArgs s_answers) (defBody s_answers) (defScope s_answers) [] [] (He.ga K "answers") fd) : FnOk P w K mg base CX0 14 (He.ga K "answers") fd ["calls"] (answersSp K) := by
  refine F.ok sc_answers sp1_len (fun cdv A outer s H vs Q E hr h => ⟨_, PSs.nox ((pss_cons (ps_par3 (i := 1) (j := 2) (l := 3) rfl sc_answers.nd rfl rfl rfl (by decide) (by decide) (by decide) rfl rfl rfl (pa_cons (pe_cl0 T.m_Desk (ok_Desk_init T) (hr.mono (by decide)) T.g_Desk pass0) (pa_cons (pe_lst pa_nil) (pa_cons pe_int pa_nil))) rfl)
    (pss_cons (ps_while PassesOwn.never (pt_cmpR op_lt (pv 3) (pe_callB call_len (by rfl) T.f_len (by decide +kernel) (pa_cons (pv 0) pa_nil)) (nomark _))
      (pss_cons (ps_set (i := 4) sc_answers.nd rfl (.inl rfl) (pe_ifExp (pt_cmpR (op_in_id T.id_MANY (by decide)) (pe_ix ix_list (pv 0) (pv 3) (fun _ _ => rfl)) (pe_gr T.g_MANY) (by rfl)) (pe_op op_add (pv 3) pe_int) (pe_op op_add (pv 3) pe_int)))
    (pss_cons (ps_set (i := 5) sc_answers.nd rfl (.inl rfl) (pe_op op_add (pv 4) (pe_ifExp (pt_cmpR (op_in_id T.id_MANY (by decide)) (pe_ix ix_list (pv 0) (pv 3) (fun _ _ => rfl)) (pe_gr T.g_MANY) (by rfl)) (pe_ix (ix_id T.id_MANY (by decide)) (pe_gr T.g_MANY) (pe_ix ix_list (pv 0) (pv 3) (fun _ _ => rfl)) (fun _ _ => rfl)) (pe_ix ix_list (pv 0) (pe_op op_add (pv 3) pe_int) (fun _ _ => rfl)))))
    (pss_cons (ps_lock (ps_set (i := 6) sc_answers.nd rfl (.inl rfl) (pe_df (ok_answer T) (hr.mono (by decide)) pass0 (pa_cons (pv 1) (pa_cons (pe_ix ix_list (pv 0) (pv 3) (fun _ _ => rfl)) (pa_cons (pe_slice sl_list (pv 0) (po_some (pv 4)) (po_some (pv 5))) pa_nil))))))
    (pss_cons (ps_expr (pe_bm PySem.F.plainAttrs_list PySem.F.slot_list_extend PySem.F.type_list_extend mt_extend (pv 2) (pa_cons (pe_op op_cat (pe_lst (pa_cons (pe_callB call_len (by rfl) T.f_len (by decide +kernel) (pa_cons (pv 6) pa_nil)) pa_nil)) (pv 6)) pa_nil)))
    (pss_one (ps_set (i := 3) sc_answers.nd rfl (.inl rfl) (pv 5))))))))
    (pss_one (ps_ret (pv 2)))))), ?_⟩)
  obtain ⟨_, rfl, l, ns, rfl, hS, hask, hlen, h⟩ := h
  obtain ⟨L0, hbig⟩ := Gc.left_start hask
  refine par3H (make0 fun x dx hx hdx hne => ⟨_, rfl, x, dx, rfl, upd_same, fun H1 oa k hd ho => ⟨rfl, lst0 fun fa hfa => val_c _ ?_⟩⟩)
  dsimp only
  have e1 : Same H H1 := k.same hx hdx
  obtain ⟨ho1, ho2⟩ := nw_some.mp ho
  obtain ⟨ho3, ho4, ho5⟩ := fresh2 ho1
  have hd' : H1 x = some _ := hd
  have hfx : fa ≠ x := fun e => by rw [e, hd'] at hfa; cases hfa
  have hfo : fa ≠ oa := fun e => by rw [e, ho2] at hfa; cases hfa
  have hfH : H fa = none := e1.free hfa
  have e2 : Same H (upd H1 fa (.lst [])) := e1.trans (same_upd hfa)
  refine L2.st_seq (st_whileH (fun m σ H' => ∃ (v4 v5 v6 : Option V) (L : DLay) (D : Xb16.Desk) (at' : Nat) (acc : List Int), σ = [some (.ref l), some (.ref L.d), some (.ref fa), some (iv at'), v4, v5, v6] ∧ AInv K H' l fa ns L D at' acc ∧ ns.length - at' ≤ m) ns.length ⟨none, none, none, { d := x, dx := dx, oa := oa, pa := 0, as := [], ex := [fa] }, Xb16.init, 0, [], rfl, ?_, by omega⟩ ?_)
  · refine ⟨fun od u => ⟨Ne.symm ho4, fun a ha => ?_, ?_, ?_, All2.nil, fun h0 hh => by cases hh⟩, rfl, ?_, upd_same, fun h0 hh => (by cases hh), L0, Nat.zero_le _⟩
    · have ha : a ∈ [fa] := ha
      rw [List.mem_singleton.mp ha]
      exact ⟨hfx, hfo, od, u, upd_same⟩
    · show upd _ fa _ x = _
      rw [upd_ne (Ne.symm hfx), upd_ne (Ne.symm hfx)]
      exact hd
    · show upd _ fa _ oa = _
      rw [upd_ne (Ne.symm hfo), upd_ne (Ne.symm hfo)]
      exact ho2
    · refine (Same.wo_of e2 fun b hb => ?_).seq hS
      have hb : b ∈ [x, oa] ++ [fa] := hb
      simp only [List.cons_append, List.nil_append, List.mem_cons, List.not_mem_nil, or_false] at hb
      rcases hb with rfl | rfl | rfl
      · exact hx
      · exact ho3
      · exact hfH
  rintro m σ H2 ⟨v4, v5, v6, L, D, at', acc, rfl, A, hm⟩
  have hls : SqL K H2 l (ns.map V.int) := (wo_same _ _).seq A.ls
  refine val_lt (val_var rfl) (val_lenM (K := K) (f := V.int) (l := ns) (val_var rfl) hls) _ ⟨_, rfl, ?_⟩
  refine ifd (fun hlt => ?_) (fun hlt => ?_)
  rotate_left
  · have hat : ns.drop at' = [] := List.drop_eq_nil_of_le (by omega)
    have hl := A.left
    rw [hat] at hl
    refine st_ret (val_var rfl) (h H2 fa ?_)
    rw [Gc.left_end hl]
    exact A.fl
  have hlt' : at' < ns.length := by omega
  have hne' : ns.drop at' ≠ [] := fun e => by
    have := congrArg List.length e
    rw [List.length_drop] at this
    simp at this
    omega
  obtain ⟨p, xs, t, q, hh, hco, hleft, hbnd⟩ := Gc.left_next A.left hne'
  obtain ⟨hp, b, n, hxs, ht, hbn, hab, hcase⟩ := head_at hh
  refine ⟨fun σ' H' => ∃ m', m' < m ∧ ∃ (v4 v5 v6 : Option V) (L : DLay) (D : Xb16.Desk) (at' : Nat) (acc : List Int), σ' = [some (.ref l), some (.ref L.d), some (.ref fa), some (iv at'), v4, v5, v6] ∧ AInv K H' l fa ns L D at' acc ∧ ns.length - at' ≤ m', fun _ _ z => z, ?_⟩
  have hcat : ∀ {σ : L2.St}, σ[0]? = some (some (.ref l)) → σ[3]? = some (some (iv at')) → Val (tOp (rIxL K) (tVar 0) (tVar 3)) σ H2 (.int p) := fun h0 h3 => val_ixL (val_var h0) (val_var h3) hls (atI_nat (by rw [List.getElem?_map, hp]; rfl))
  have hin : ∀ {σ : L2.St}, σ[0]? = some (some (.ref l)) → σ[3]? = some (some (iv at')) → Ans (tTest (tOp (rInId (He.ga K "MANY") [(2, He.Dv.int 2), (3, .int 3), (4, .int 0), (7, .int 0), (8, .int 0)]) (tOp (rIxL K) (tVar 0) (tVar 3)) (tC (.ref (He.ga K "MANY"))))) σ H2 (manyOf p).isSome := fun h0 h3 => ans_is (ans_of (val_inId (hcat h0 h3) val_c)) (by rw [many_lookup]; cases manyOf p <;> rfl)
  refine L2.st_seq (st_set (val_if (v := iv b) (hin rfl rfl) (fun e => val_is (val_add (val_var rfl) val_c) ?_) (fun e => val_is (val_add (val_var rfl) val_c) ?_)) ?_)
  · rcases hcase with ⟨c1, c2⟩ | ⟨c1, c2, c3⟩
    · rw [c2]; simp [iv]
    · rw [c1] at e; cases e
  · rcases hcase with ⟨c1, c2⟩ | ⟨c1, c2, c3⟩
    · rw [c1] at e; cases e
    · rw [c2]; simp [iv]
  dsimp only
  refine L2.st_seq (st_set (v := iv (b + n)) (val_is (val_add (j := (n : Int)) (val_var rfl) (val_if (v := .int (n : Int)) (hin rfl rfl) (fun e => ?_) (fun e => ?_))) (by simp [iv])) ?_)
  · rcases hcase with ⟨c1, c2⟩ | ⟨c1, c2, c3⟩
    · exact val_ixId (v := He.Dv.int (n : Int)) val_c (hcat rfl rfl) (by rw [many_lookup, c1]; rfl)
    · rw [c1] at e; cases e
  · rcases hcase with ⟨c1, c2⟩ | ⟨c1, c2, c3⟩
    · rw [c1] at e; cases e
    · exact val_ixL (val_var rfl) (val_is (val_add (val_var rfl) val_c) (show V.int ((at' : Int) + 1) = V.int ((at' + 1 : Nat) : Int) by simp)) hls (atI_nat (by rw [List.getElem?_map, c3]; rfl))
  dsimp only
  have hfM : fa ∈ L.ex := by rw [A.ex]; simp
  have hfMM : fa ∈ L.M := List.mem_append_right _ hfM
  refine L2.st_seq ⟨fa, .lst (acc.map V.int), A.fl, trivial, fun od => ?_⟩
  have Rl := A.dk od (.lst (acc.map V.int))
  have hwl : wo (upd H2 fa (.frz od (.lst (acc.map V.int)))) L.M = wo H2 L.M := wo_upd hfMM
  have hlsl : SqL K (upd H2 fa (.frz od (.lst (acc.map V.int)))) l (ns.map V.int) := (wo_same _ L.M).seq (by rw [hwl]; exact A.ls)
  refine st_asg (callS3C (val_var rfl) (val_ixL (val_var rfl) (val_var rfl) hlsl (atI_nat (by rw [List.getElem?_map, hp]; rfl))) (slc_mid (val_var rfl) (val_var rfl) (val_var rfl) hlsl hbn fun sl hsl => ?_))
  rw [← hxs]
  have e3 : Same (upd H2 fa (.frz od (.lst (acc.map V.int)))) (upd (upd H2 fa (.frz od (.lst (acc.map V.int)))) sl (.lst (xs.map V.int))) := same_upd hsl
  refine ⟨_, _, _, rfl, L, D, sl, xs, p, q, rfl, rfl, rfl, Rl.mono e3, A.ok, SqL.of (wo_some.mpr ⟨Rl.fresh hsl, upd_same⟩), callOf hco, fun H3 L3 r k3 R3 hr => ?_⟩
  have hslf : sl ≠ fa := fun e => by rw [e, upd_same] at hsl; cases hsl
  have h3f : H3 fa = some (.frz od (.lst (acc.map V.int))) := by
    rw [k3.old fa hfM, upd_ne (Ne.symm hslf), upd_same]
  refine ⟨h3f, ?_⟩
  dsimp only
  obtain ⟨hr1, hr2⟩ := nw_some.mp hr
  have hrf : r ≠ fa := fun e => by rw [e, h3f] at hr2; cases hr2
  have hans : H3 r = some (.lst ((ansOf (Xb16.step D q).2).map V.int)) := hr2
  have g0 : upd H3 fa (.lst (acc.map V.int)) fa = some (.lst (acc.map V.int)) := upd_same
  have g1 : upd H3 fa (.lst (acc.map V.int)) r = some (.lst ((ansOf (Xb16.step D q).2).map V.int)) := by rw [upd_ne hrf]; exact hans
  have hsz : acc.length + 1 + (ansOf (Xb16.step D q).2).length ≤ 16777216 := by omega
  refine L2.st_seq (st_extendH (val_var rfl) (SqL.of g0) (catLH (val_lenM (K := K) (f := V.int) (l := ansOf (Xb16.step D q).2) (val_var rfl) (SqL.of g1)) fun q1 hq1 => ?_))
  have hq1f : q1 ≠ fa := fun e => by rw [e, g0] at hq1; cases hq1
  have hq1r : q1 ≠ r := fun e => by rw [e, g1] at hq1; cases hq1
  have e4 := same_upd (o := .lst [V.int ((ansOf (Xb16.step D q).2).length : Int)]) hq1
  refine val_var rfl _ ⟨q1, r, _, _, rfl, rfl, upd_same, e4 _ _ g1, ?_, fun q2 hq2 => ?_⟩
  · show 1 + List.length (List.map V.int _) ≤ sizeLine
    rw [List.length_map]
    show _ ≤ 16777216
    omega
  have e5 := same_upd (o := .lst ([V.int ((ansOf (Xb16.step D q).2).length : Int)] ++ (ansOf (Xb16.step D q).2).map V.int)) hq2
  have hq2f : q2 ≠ fa := fun e => by rw [e, e4 _ _ g0] at hq2; cases hq2
  refine ⟨fa, q2, acc.map V.int, _, rfl, rfl, e5 _ _ (e4 _ _ g0), upd_same, ?_, ?_⟩
  · rw [List.length_append, List.length_map]
    show _ + (1 + List.length (List.map V.int _)) ≤ sizeLine
    rw [List.length_map]
    show _ ≤ 16777216
    omega
  refine st_set (val_var rfl) ?_
  have hacc : acc.map V.int ++ ([V.int ((ansOf (Xb16.step D q).2).length : Int)] ++ (ansOf (Xb16.step D q).2).map V.int) = (acc ++ (((ansOf (Xb16.step D q).2).length : Int) :: ansOf (Xb16.step D q).2)).map V.int := by
    rw [List.map_append, List.map_cons]
    rfl
  rw [hacc]
  rw [ht] at hleft
  have g7 : ∀ bb o, bb ≠ fa → H3 bb = some o → upd (upd (upd (upd H3 fa (.lst (acc.map V.int))) q1 (.lst [V.int ((ansOf (Xb16.step D q).2).length : Int)])) q2 (.lst ([V.int ((ansOf (Xb16.step D q).2).length : Int)] ++ (ansOf (Xb16.step D q).2).map V.int))) fa (.lst ((acc ++ (((ansOf (Xb16.step D q).2).length : Int) :: ansOf (Xb16.step D q).2)).map V.int)) bb = some o := fun bb o hb ho => by
    rw [upd_ne hb]
    refine e5 _ _ (e4 _ _ ?_)
    rw [upd_ne hb]
    exact ho
  have h3ex : L3.ex = [fa] := k3.ex.trans A.ex
  have h3fM : fa ∈ L3.M := List.mem_append_right _ (by rw [h3ex]; simp)
  have k3d := k3.d
  refine ⟨ns.length - (b + n), by omega, _, _, _, L3, (Xb16.step D q).1, b + n, _, by rw [k3d]; rfl, ⟨fun od' u' => ?_, h3ex, ?_, upd_same, Gc.step_dok A.ok q, hleft, hbn⟩, Nat.le_refl _⟩
  · refine (R3.relock (fa := fa) (od := od') (u := u') (by rw [h3ex]; simp)).mono fun bb o hb => ?_
    by_cases e : bb = fa
    · rw [e, upd_same] at hb ⊢
      exact hb
    · rw [upd_ne e] at hb ⊢
      exact g7 bb o e hb
  · have w1 : Same (wo H2 L.M) (wo H3 L3.M) := by
      rw [← hwl]
      exact (wo_more e3).trans k3.sm
    refine (w1.trans (wo_to fun bb o hb ho => ⟨hb, g7 bb o (fun e => hb (by rw [e]; exact h3fM)) ho⟩)).seq A.ls
end
end GW
namespace GW
open PySem PySem.Spec PyProof.Rows L2
theorem facts {P : Program} {w : World} {K : PySem.W.Frag} {h : Heap} {mg : Str → Option Value} {f : Addr} (X : K.In h) (G : h.Ns mainGlobals mg) (hfa : mg ("answers" : Str) = some (.ref f)) (c : He.SaysT fa fn ts w K) (hx : ex K = true) :
    ∃ fd : FuncData, (∀ (s : Shared) (us : List Value), us.length = (["calls"] : List Str).length → BindsTo s fd ⟨us, []⟩ ((["calls"] : List Str).zip us)) ∧ ∀ base : Heap, K.In base → base.Ns mainGlobals mg → FnOk P w K mg base CX0 14 f fd ["calls"] (answersSp K) := by
  have T : Tx K w mg := ⟨⟨h, X, G⟩, c, hx⟩
  obtain ⟨fd, F⟩ := T.d_answers
  have e := hfa.symm.trans T.g_answers
  cases e
  exact ⟨fd, fun s us hu => FunD.bindsA (ps := ["calls"]) F (fun _ _ _ _ _ _ us hl => match us, hl with | [_], _ => rfl) s us hu, fun base _ _ => okf_answers T F⟩
end GW
open PySem PySem.W PySem.Calls PyProof.Rows
set_option maxRecDepth 100000 in
set_option maxHeartbeats 8000000 in
theorem PySem.Challenge.cw_growcells_s01_answers_holds : PySem.Challenge.rw_growcells_s01_answers.Holds := by
  refine HeadRun.head_spec (r := PySem.Challenge.rw_growcells_s01_answers) (q := GW.qv) (H := GW.hk) (ob := GW.ob) (M := 7000) (loose := GW.nms) (d := GW.dA) (kwd := []) GW.ob_eq GW.opens GW.fences GW.run GW.defs GW.the_def (by kernel_rfl) os_shapes GW.said GW.chains GW.is_bare GW.one_asked ?hc
  case hc =>
    intro w s0 s1 mg mb hG Y
    obtain ⟨K, KX, c, hx⟩ := Y
    refine L2.walk_specK (r := PySem.Challenge.rw_growcells_s01_answers) (k := 14) (K := fun _ => K) (YP := fun w' h => w' = w ∧ K.In h) (CX := L2.CX0) (ps := ["calls"]) (sp := GW.answersSp) GW.said GW.da_plain rfl ⟨rfl, by decide, by decide⟩ (fun w' h Y => Y.2) ?F ?S (fun _ _ _ _ z => z) w s0 s1 mg mb hG ⟨rfl, KX⟩
    case F =>
      intro w' mg' fa h Y KX' G hmg0
      obtain ⟨rfl, _⟩ := Y
      have hmg : mg' ("answers" : PySem.Str) = some (.ref fa) := by
        rw [← GW.da_name]
        exact hmg0
      exact GW.facts KX' G hmg c hx
    case S =>
      intro K' H xs a hO hwi hask hx'
      cases hx' with
      | cons h1 h2 =>
        cases h2
        cases h1 with
        | lst hs ha =>
          have e := L2.ints_dw a.1 _ ha
          subst e
          have q : ((Codec.inLen 0 19000 a.1 && a.1.all (Codec.inInt (-9007199254740992) 9007199254740992)) && true) = true := hwi
          rw [Bool.and_eq_true, Bool.and_eq_true] at q
          exact ⟨_, rfl, _, a.1, rfl, hs, hask, (Codec.inNat_iff.mp q.1.1).2, fun H' p hp => .lst (L2.SqL.of hp) (L2.dw_ints _)⟩
#print axioms PySem.Challenge.cw_growcells_s01_answers_holds
