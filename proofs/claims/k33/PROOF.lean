import PyProof.Rows.All
import Wide.All
import OpenK.AllK
import Wide.FinOn
import HandS.ForMost
import KE.KStateDown
import Lean
import HandS.Base
import HandS.Call
import HandS.Ends
import HandS.More
import HandS.Words
import HandS.WordsExc
import HandS.Defaults
import HandS.Property
import HandS.Star
import HandS.Head0
import HandS.Head1
import HandS.Head2
import HandS.HeadEnd
import HandS.HeadHook1
import HandS.HeadHook2
import HandS.HeadHook3
import HandS.HeadHook4
import HandS.MakeKwOnly
import HandS.DictComp
import HandS.SetKeys
import HandS.IsInst
import HandS.DeepEq
import HandS.FStr
import HandS.Strs
import HandS.Flow
import HandS.Wide
import KE.KDictKeyed
import HandS.TupAny
import HandS.Conv
import HandS.Style
import KE.GoesEnum
import HandS.Iter
import HandS.SortKw
import PyProof.WalkInts
import HandS.ListItems
import HandS.Zip
import KE.KDictZip
import HandS.TupLen
import KE.KDictDisplayH
import HandS.SortOrd
import KE.SortData
import KE.KItemsList
import HandS.DictTup
import KE.KDictPairs
import HandS.SetFor
import PySem.Challenge.RW_orderlymoves_k33_whole_orderly_programs
section
set_option Elab.async false
set_option linter.all false
set_option maxRecDepth 100000
/-! Pt: the defs of the text by their places, their names by slot. Printed by gen_text.py. -/
namespace Pt
open PySem PySem.Spec PyProof.Rows L2
abbrev PRG : Program := PySem.Challenge.pw_orderlymoves_k33_whole_orderly_programs
def topS (i : Nat) : Stmt := PRG.main.body.getD i (.Pass ⟨0, 0, 0, 0⟩)
abbrev s_wall : Stmt := topS 0
abbrev n_wall : List Str := ["k"]
abbrev p_wall : List Str := ["k"]
theorem c_wall : FnScope n_wall p_wall (defScope s_wall) := ⟨rfl, rfl, rfl, by decide +kernel, rfl, by decide +kernel, by decide +kernel⟩
abbrev s_is_letters : Stmt := topS 13
abbrev n_is_letters : List Str := ["value", "letter"]
abbrev p_is_letters : List Str := ["value"]
theorem c_is_letters : FnScope n_is_letters p_is_letters (defScope s_is_letters) := ⟨rfl, rfl, rfl, by decide +kernel, rfl, by decide +kernel, by decide +kernel⟩
abbrev s_is_name : Stmt := topS 14
abbrev n_is_name : List Str := ["value"]
abbrev p_is_name : List Str := ["value"]
theorem c_is_name : FnScope n_is_name p_is_name (defScope s_is_name) := ⟨rfl, rfl, rfl, by decide +kernel, rfl, by decide +kernel, by decide +kernel⟩
abbrev s_is_index : Stmt := topS 15
abbrev n_is_index : List Str := ["value", "total"]
abbrev p_is_index : List Str := ["value", "total"]
theorem c_is_index : FnScope n_is_index p_is_index (defScope s_is_index) := ⟨rfl, rfl, rfl, by decide +kernel, rfl, by decide +kernel, by decide +kernel⟩
abbrev s_is_number_text : Stmt := topS 16
abbrev n_is_number_text : List Str := ["text", "figure"]
abbrev p_is_number_text : List Str := ["text"]
theorem c_is_number_text : FnScope n_is_number_text p_is_number_text (defScope s_is_number_text) := ⟨rfl, rfl, rfl, by decide +kernel, rfl, by decide +kernel, by decide +kernel⟩
abbrev s_is_unknown : Stmt := topS 17
abbrev n_is_unknown : List Str := ["text", "name", "dot", "number"]
abbrev p_is_unknown : List Str := ["text"]
theorem c_is_unknown : FnScope n_is_unknown p_is_unknown (defScope s_is_unknown) := ⟨rfl, rfl, rfl, by decide +kernel, rfl, by decide +kernel, by decide +kernel⟩
abbrev s_arguments_in : Stmt := topS 18
abbrev n_arguments_in : List Str := ["inner", "found", "start", "deep", "at", "sign"]
abbrev p_arguments_in : List Str := ["inner"]
theorem c_arguments_in : FnScope n_arguments_in p_arguments_in (defScope s_arguments_in) := ⟨rfl, rfl, rfl, by decide +kernel, rfl, by decide +kernel, by decide +kernel⟩
abbrev s_application : Stmt := topS 19
abbrev n_application : List Str := ["text", "function", "opening", "rest", "arguments"]
abbrev p_application : List Str := ["text"]
theorem c_application : FnScope n_application p_application (defScope s_application) := ⟨rfl, rfl, rfl, by decide +kernel, rfl, by decide +kernel, by decide +kernel⟩
abbrev s_is_text : Stmt := topS 20
abbrev n_is_text : List Str := ["text", "found", "argument"]
abbrev p_is_text : List Str := ["text"]
theorem c_is_text : FnScope n_is_text p_is_text (defScope s_is_text) := ⟨rfl, rfl, rfl, by decide +kernel, rfl, by decide +kernel, by decide +kernel⟩
abbrev s_is_value : Stmt := topS 21
abbrev n_is_value : List Str := ["value"]
abbrev p_is_value : List Str := ["value"]
theorem c_is_value : FnScope n_is_value p_is_value (defScope s_is_value) := ⟨rfl, rfl, rfl, by decide +kernel, rfl, by decide +kernel, by decide +kernel⟩
abbrev s_value_of : Stmt := topS 22
abbrev n_value_of : List Str := ["function", "values"]
abbrev p_value_of : List Str := ["function", "values"]
theorem c_value_of : FnScope n_value_of p_value_of (defScope s_value_of) := ⟨rfl, rfl, rfl, by decide +kernel, rfl, by decide +kernel, by decide +kernel⟩
abbrev s_are_names : Stmt := topS 35
abbrev n_are_names : List Str := ["value", "least", "most", "name"]
abbrev p_are_names : List Str := ["value", "least", "most"]
theorem c_are_names : FnScope n_are_names p_are_names (defScope s_are_names) := ⟨rfl, rfl, rfl, by decide +kernel, rfl, by decide +kernel, by decide +kernel⟩
abbrev s_is_plain : Stmt := topS 36
abbrev n_is_plain : List Str := ["value", "can_show", "word", "rest"]
abbrev p_is_plain : List Str := ["value", "can_show"]
theorem c_is_plain : FnScope n_is_plain p_is_plain (defScope s_is_plain) := ⟨rfl, rfl, rfl, by decide +kernel, rfl, by decide +kernel, by decide +kernel⟩
abbrev s_is_statement : Stmt := topS 37
abbrev n_is_statement : List Str := ["value", "can_show", "deep"]
abbrev p_is_statement : List Str := ["value", "can_show", "deep"]
theorem c_is_statement : FnScope n_is_statement p_is_statement (defScope s_is_statement) := ⟨rfl, rfl, rfl, by decide +kernel, rfl, by decide +kernel, by decide +kernel⟩
abbrev s_is_level : Stmt := topS 38
abbrev n_is_level : List Str := ["value", "can_show", "deep", "row"]
abbrev p_is_level : List Str := ["value", "can_show", "deep"]
theorem c_is_level : FnScope n_is_level p_is_level (defScope s_is_level) := ⟨rfl, rfl, rfl, by decide +kernel, rfl, by decide +kernel, by decide +kernel⟩
abbrev s_is_body : Stmt := topS 39
abbrev n_is_body : List Str := ["value", "can_show"]
abbrev p_is_body : List Str := ["value", "can_show"]
theorem c_is_body : FnScope n_is_body p_is_body (defScope s_is_body) := ⟨rfl, rfl, rfl, by decide +kernel, rfl, by decide +kernel, by decide +kernel⟩
abbrev s_branches : Stmt := topS 40
abbrev n_branches : List Str := ["row"]
abbrev p_branches : List Str := ["row"]
theorem c_branches : FnScope n_branches p_branches (defScope s_branches) := ⟨rfl, rfl, rfl, by decide +kernel, rfl, by decide +kernel, by decide +kernel⟩
abbrev s_size_of : Stmt := topS 41
abbrev n_size_of : List Str := ["code", "row", "branch"]
abbrev p_size_of : List Str := ["code"]
theorem c_size_of : FnScope n_size_of p_size_of (defScope s_size_of) := ⟨rfl, rfl, rfl, by decide +kernel, rfl, by decide +kernel, by decide +kernel⟩
abbrev s_does_count : Stmt := topS 42
abbrev n_does_count : List Str := ["row", "words"]
abbrev p_does_count : List Str := ["row", "words"]
theorem c_does_count : FnScope n_does_count p_does_count (defScope s_does_count) := ⟨rfl, rfl, rfl, by decide +kernel, rfl, by decide +kernel, by decide +kernel⟩
abbrev s_most_on_path : Stmt := topS 43
abbrev n_most_on_path : List Str := ["code", "words", "total", "row", "inner", "branch"]
abbrev p_most_on_path : List Str := ["code", "words"]
theorem c_most_on_path : FnScope n_most_on_path p_most_on_path (defScope s_most_on_path) := ⟨rfl, rfl, rfl, by decide +kernel, rfl, by decide +kernel, by decide +kernel⟩
abbrev s_paths_fit : Stmt := topS 44
abbrev n_paths_fit : List Str := ["code", "letters", "tests", "sets", "bound", "words"]
abbrev p_paths_fit : List Str := ["code", "letters", "tests", "sets"]
theorem c_paths_fit : FnScope n_paths_fit p_paths_fit (defScope s_paths_fit) := ⟨rfl, rfl, rfl, by decide +kernel, rfl, by decide +kernel, by decide +kernel⟩
abbrev s_rows_from : Stmt := topS 45
abbrev n_rows_from : List Str := ["code", "start", "behind", "found", "at", "spot", "row", "later", "after", "other"]
abbrev p_rows_from : List Str := ["code", "start", "behind"]
theorem c_rows_from : FnScope n_rows_from p_rows_from (defScope s_rows_from) := ⟨rfl, rfl, rfl, by decide +kernel, rfl, by decide +kernel, by decide +kernel⟩
abbrev s_rows_of : Stmt := topS 46
abbrev n_rows_of : List Str := ["code"]
abbrev p_rows_of : List Str := ["code"]
theorem c_rows_of : FnScope n_rows_of p_rows_of (defScope s_rows_of) := ⟨rfl, rfl, rfl, by decide +kernel, rfl, by decide +kernel, by decide +kernel⟩
abbrev s_is_thread_code : Stmt := topS 54
abbrev n_is_thread_code : List Str := ["value"]
abbrev p_is_thread_code : List Str := ["value"]
theorem c_is_thread_code : FnScope n_is_thread_code p_is_thread_code (defScope s_is_thread_code) := ⟨rfl, rfl, rfl, by decide +kernel, rfl, by decide +kernel, by decide +kernel⟩
abbrev s_are_contents : Stmt := topS 55
abbrev n_are_contents : List Str := ["value", "cell"]
abbrev p_are_contents : List Str := ["value"]
theorem c_are_contents : FnScope n_are_contents p_are_contents (defScope s_are_contents) := ⟨rfl, rfl, rfl, by decide +kernel, rfl, by decide +kernel, by decide +kernel⟩
abbrev s_is_asked : Stmt := topS 56
abbrev n_is_asked : List Str := ["value"]
abbrev p_is_asked : List Str := ["value"]
theorem c_is_asked : FnScope n_is_asked p_is_asked (defScope s_is_asked) := ⟨rfl, rfl, rfl, by decide +kernel, rfl, by decide +kernel, by decide +kernel⟩
abbrev s_are_answers : Stmt := topS 57
abbrev n_are_answers : List Str := ["value", "asked"]
abbrev p_are_answers : List Str := ["value"]
theorem c_are_answers : FnScope n_are_answers p_are_answers (defScope s_are_answers) := ⟨rfl, rfl, rfl, by decide +kernel, rfl, by decide +kernel, by decide +kernel⟩
abbrev s_require_threads : Stmt := topS 58
abbrev n_require_threads : List Str := ["threads", "code"]
abbrev p_require_threads : List Str := ["threads"]
theorem c_require_threads : FnScope n_require_threads p_require_threads (defScope s_require_threads) := ⟨rfl, rfl, rfl, by decide +kernel, rfl, by decide +kernel, by decide +kernel⟩
abbrev s_cell_of : Stmt := topS 59
abbrev n_cell_of : List Str := ["statement"]
abbrev p_cell_of : List Str := ["statement"]
theorem c_cell_of : FnScope n_cell_of p_cell_of (defScope s_cell_of) := ⟨rfl, rfl, rfl, by decide +kernel, rfl, by decide +kernel, by decide +kernel⟩
abbrev s_cells_in : Stmt := topS 60
abbrev n_cells_in : List Str := ["rows", "row"]
abbrev p_cells_in : List Str := ["rows"]
theorem c_cells_in : FnScope n_cells_in p_cells_in (defScope s_cells_in) := ⟨rfl, rfl, rfl, by decide +kernel, rfl, by decide +kernel, by decide +kernel⟩
abbrev s_registers_of : Stmt := topS 61
abbrev n_registers_of : List Str := ["statement"]
abbrev p_registers_of : List Str := ["statement"]
theorem c_registers_of : FnScope n_registers_of p_registers_of (defScope s_registers_of) := ⟨rfl, rfl, rfl, by decide +kernel, rfl, by decide +kernel, by decide +kernel⟩
abbrev s_registers_in : Stmt := topS 62
abbrev n_registers_in : List Str := ["rows", "found", "row", "name"]
abbrev p_registers_in : List Str := ["rows"]
theorem c_registers_in : FnScope n_registers_in p_registers_in (defScope s_registers_in) := ⟨rfl, rfl, rfl, by decide +kernel, rfl, by decide +kernel, by decide +kernel⟩
abbrev s_Program_init : Stmt := inClass (topS 63) 0
abbrev n_Program_init : List Str := ["self", "threads", "cells", "answers", "told", "asked", "rows", "used", "code", "some", "cell", "pair"]
abbrev p_Program_init : List Str := ["self", "threads", "cells", "answers"]
theorem c_Program_init : FnScope n_Program_init p_Program_init (defScope s_Program_init) := ⟨rfl, rfl, rfl, by decide +kernel, rfl, by decide +kernel, by decide +kernel⟩
abbrev s_Program_threads : Stmt := inClass (topS 63) 1
abbrev n_Program_threads : List Str := ["self"]
abbrev p_Program_threads : List Str := ["self"]
theorem c_Program_threads : FnScope n_Program_threads p_Program_threads (defScope s_Program_threads) := ⟨rfl, rfl, rfl, by decide +kernel, rfl, by decide +kernel, by decide +kernel⟩
abbrev s_Program_cells : Stmt := inClass (topS 63) 2
abbrev n_Program_cells : List Str := ["self"]
abbrev p_Program_cells : List Str := ["self"]
theorem c_Program_cells : FnScope n_Program_cells p_Program_cells (defScope s_Program_cells) := ⟨rfl, rfl, rfl, by decide +kernel, rfl, by decide +kernel, by decide +kernel⟩
abbrev s_Program_answers : Stmt := inClass (topS 63) 3
abbrev n_Program_answers : List Str := ["self"]
abbrev p_Program_answers : List Str := ["self"]
theorem c_Program_answers : FnScope n_Program_answers p_Program_answers (defScope s_Program_answers) := ⟨rfl, rfl, rfl, by decide +kernel, rfl, by decide +kernel, by decide +kernel⟩
abbrev s_Program_names : Stmt := inClass (topS 63) 4
abbrev n_Program_names : List Str := ["self"]
abbrev p_Program_names : List Str := ["self"]
theorem c_Program_names : FnScope n_Program_names p_Program_names (defScope s_Program_names) := ⟨rfl, rfl, rfl, by decide +kernel, rfl, by decide +kernel, by decide +kernel⟩
abbrev s_Program_call : Stmt := inClass (topS 63) 5
abbrev n_Program_call : List Str := ["self", "order", "state"]
abbrev p_Program_call : List Str := ["self", "order"]
theorem c_Program_call : FnScope n_Program_call p_Program_call (defScope s_Program_call) := ⟨rfl, rfl, rfl, by decide +kernel, rfl, by decide +kernel, by decide +kernel⟩
abbrev s_Program_with_code : Stmt := inClass (topS 63) 6
abbrev n_Program_with_code : List Str := ["self", "thread", "code"]
abbrev p_Program_with_code : List Str := ["self", "thread", "code"]
theorem c_Program_with_code : FnScope n_Program_with_code p_Program_with_code (defScope s_Program_with_code) := ⟨rfl, rfl, rfl, by decide +kernel, rfl, by decide +kernel, by decide +kernel⟩
abbrev s_Program_len : Stmt := inClass (topS 63) 7
abbrev n_Program_len : List Str := ["self"]
abbrev p_Program_len : List Str := ["self"]
theorem c_Program_len : FnScope n_Program_len p_Program_len (defScope s_Program_len) := ⟨rfl, rfl, rfl, by decide +kernel, rfl, by decide +kernel, by decide +kernel⟩
abbrev s_Program_eq : Stmt := inClass (topS 63) 8
abbrev n_Program_eq : List Str := ["self", "value"]
abbrev p_Program_eq : List Str := ["self", "value"]
theorem c_Program_eq : FnScope n_Program_eq p_Program_eq (defScope s_Program_eq) := ⟨rfl, rfl, rfl, by decide +kernel, rfl, by decide +kernel, by decide +kernel⟩
abbrev s_Program_str : Stmt := inClass (topS 63) 9
abbrev n_Program_str : List Str := ["self", "sizes", "rows"]
abbrev p_Program_str : List Str := ["self"]
theorem c_Program_str : FnScope n_Program_str p_Program_str (defScope s_Program_str) := ⟨rfl, rfl, rfl, by decide +kernel, rfl, by decide +kernel, by decide +kernel⟩
abbrev s_Run_init : Stmt := inClass (topS 64) 0
abbrev n_Run_init : List Str := ["self", "program", "order", "state"]
abbrev p_Run_init : List Str := ["self", "program", "order", "state"]
theorem c_Run_init : FnScope n_Run_init p_Run_init (defScope s_Run_init) := ⟨rfl, rfl, rfl, by decide +kernel, rfl, by decide +kernel, by decide +kernel⟩
abbrev s_Run_program : Stmt := inClass (topS 64) 1
abbrev n_Run_program : List Str := ["self"]
abbrev p_Run_program : List Str := ["self"]
theorem c_Run_program : FnScope n_Run_program p_Run_program (defScope s_Run_program) := ⟨rfl, rfl, rfl, by decide +kernel, rfl, by decide +kernel, by decide +kernel⟩
abbrev s_Run_order : Stmt := inClass (topS 64) 2
abbrev n_Run_order : List Str := ["self"]
abbrev p_Run_order : List Str := ["self"]
theorem c_Run_order : FnScope n_Run_order p_Run_order (defScope s_Run_order) := ⟨rfl, rfl, rfl, by decide +kernel, rfl, by decide +kernel, by decide +kernel⟩
abbrev s_Run_shown : Stmt := inClass (topS 64) 3
abbrev n_Run_shown : List Str := ["self"]
abbrev p_Run_shown : List Str := ["self"]
theorem c_Run_shown : FnScope n_Run_shown p_Run_shown (defScope s_Run_shown) := ⟨rfl, rfl, rfl, by decide +kernel, rfl, by decide +kernel, by decide +kernel⟩
abbrev s_Run_cells : Stmt := inClass (topS 64) 4
abbrev n_Run_cells : List Str := ["self"]
abbrev p_Run_cells : List Str := ["self"]
theorem c_Run_cells : FnScope n_Run_cells p_Run_cells (defScope s_Run_cells) := ⟨rfl, rfl, rfl, by decide +kernel, rfl, by decide +kernel, by decide +kernel⟩
abbrev s_Run_lines : Stmt := inClass (topS 64) 5
abbrev n_Run_lines : List Str := ["self"]
abbrev p_Run_lines : List Str := ["self"]
theorem c_Run_lines : FnScope n_Run_lines p_Run_lines (defScope s_Run_lines) := ⟨rfl, rfl, rfl, by decide +kernel, rfl, by decide +kernel, by decide +kernel⟩
abbrev s_Run_next_steps : Stmt := inClass (topS 64) 6
abbrev n_Run_next_steps : List Str := ["self"]
abbrev p_Run_next_steps : List Str := ["self"]
theorem c_Run_next_steps : FnScope n_Run_next_steps p_Run_next_steps (defScope s_Run_next_steps) := ⟨rfl, rfl, rfl, by decide +kernel, rfl, by decide +kernel, by decide +kernel⟩
abbrev s_Run_ready : Stmt := inClass (topS 64) 7
abbrev n_Run_ready : List Str := ["self"]
abbrev p_Run_ready : List Str := ["self"]
theorem c_Run_ready : FnScope n_Run_ready p_Run_ready (defScope s_Run_ready) := ⟨rfl, rfl, rfl, by decide +kernel, rfl, by decide +kernel, by decide +kernel⟩
abbrev s_Run_is_end : Stmt := inClass (topS 64) 8
abbrev n_Run_is_end : List Str := ["self"]
abbrev p_Run_is_end : List Str := ["self"]
theorem c_Run_is_end : FnScope n_Run_is_end p_Run_is_end (defScope s_Run_is_end) := ⟨rfl, rfl, rfl, by decide +kernel, rfl, by decide +kernel, by decide +kernel⟩
abbrev s_Run_clashing : Stmt := inClass (topS 64) 9
abbrev n_Run_clashing : List Str := ["self"]
abbrev p_Run_clashing : List Str := ["self"]
theorem c_Run_clashing : FnScope n_Run_clashing p_Run_clashing (defScope s_Run_clashing) := ⟨rfl, rfl, rfl, by decide +kernel, rfl, by decide +kernel, by decide +kernel⟩
abbrev s_Run_held : Stmt := inClass (topS 64) 10
abbrev n_Run_held : List Str := ["self", "thread", "name"]
abbrev p_Run_held : List Str := ["self", "thread", "name"]
theorem c_Run_held : FnScope n_Run_held p_Run_held (defScope s_Run_held) := ⟨rfl, rfl, rfl, by decide +kernel, rfl, by decide +kernel, by decide +kernel⟩
abbrev s_Run_after : Stmt := inClass (topS 64) 11
abbrev n_Run_after : List Str := ["self", "thread"]
abbrev p_Run_after : List Str := ["self", "thread"]
theorem c_Run_after : FnScope n_Run_after p_Run_after (defScope s_Run_after) := ⟨rfl, rfl, rfl, by decide +kernel, rfl, by decide +kernel, by decide +kernel⟩
abbrev s_Run_len : Stmt := inClass (topS 64) 12
abbrev n_Run_len : List Str := ["self"]
abbrev p_Run_len : List Str := ["self"]
theorem c_Run_len : FnScope n_Run_len p_Run_len (defScope s_Run_len) := ⟨rfl, rfl, rfl, by decide +kernel, rfl, by decide +kernel, by decide +kernel⟩
abbrev s_Run_eq : Stmt := inClass (topS 64) 13
abbrev n_Run_eq : List Str := ["self", "value"]
abbrev p_Run_eq : List Str := ["self", "value"]
theorem c_Run_eq : FnScope n_Run_eq p_Run_eq (defScope s_Run_eq) := ⟨rfl, rfl, rfl, by decide +kernel, rfl, by decide +kernel, by decide +kernel⟩
abbrev s_Run_str : Stmt := inClass (topS 64) 14
abbrev n_Run_str : List Str := ["self"]
abbrev p_Run_str : List Str := ["self"]
theorem c_Run_str : FnScope n_Run_str p_Run_str (defScope s_Run_str) := ⟨rfl, rfl, rfl, by decide +kernel, rfl, by decide +kernel, by decide +kernel⟩
abbrev s_require_program : Stmt := topS 65
abbrev n_require_program : List Str := ["value"]
abbrev p_require_program : List Str := ["value"]
theorem c_require_program : FnScope n_require_program p_require_program (defScope s_require_program) := ⟨rfl, rfl, rfl, by decide +kernel, rfl, by decide +kernel, by decide +kernel⟩
abbrev s_require_thread : Stmt := topS 66
abbrev n_require_thread : List Str := ["program", "thread"]
abbrev p_require_thread : List Str := ["program", "thread"]
theorem c_require_thread : FnScope n_require_thread p_require_thread (defScope s_require_thread) := ⟨rfl, rfl, rfl, by decide +kernel, rfl, by decide +kernel, by decide +kernel⟩
abbrev s_is_order : Stmt := topS 67
abbrev n_is_order : List Str := ["program", "value", "thread"]
abbrev p_is_order : List Str := ["program", "value"]
theorem c_is_order : FnScope n_is_order p_is_order (defScope s_is_order) := ⟨rfl, rfl, rfl, by decide +kernel, rfl, by decide +kernel, by decide +kernel⟩
abbrev s_settled : Stmt := topS 68
abbrev n_settled : List Str := ["program", "thread", "row", "registers", "rows", "values", "at", "statement", "later", "other", "asked"]
abbrev p_settled : List Str := ["program", "thread", "row", "registers"]
theorem c_settled : FnScope n_settled p_settled (defScope s_settled) := ⟨rfl, rfl, rfl, by decide +kernel, rfl, by decide +kernel, by decide +kernel⟩
abbrev s_made_value : Stmt := topS 69
abbrev n_made_value : List Str := ["statement", "values", "name"]
abbrev p_made_value : List Str := ["statement", "values"]
theorem c_made_value : FnScope n_made_value p_made_value (defScope s_made_value) := ⟨rfl, rfl, rfl, by decide +kernel, rfl, by decide +kernel, by decide +kernel⟩
abbrev s_packed : Stmt := topS 70
abbrev n_packed : List Str := ["program", "thread", "values", "name"]
abbrev p_packed : List Str := ["program", "thread", "values"]
theorem c_packed : FnScope n_packed p_packed (defScope s_packed) := ⟨rfl, rfl, rfl, by decide +kernel, rfl, by decide +kernel, by decide +kernel⟩
abbrev s_registers_at : Stmt := topS 71
abbrev n_registers_at : List Str := ["program", "state", "thread"]
abbrev p_registers_at : List Str := ["program", "state", "thread"]
theorem c_registers_at : FnScope n_registers_at p_registers_at (defScope s_registers_at) := ⟨rfl, rfl, rfl, by decide +kernel, rfl, by decide +kernel, by decide +kernel⟩
abbrev s_first_state : Stmt := topS 72
abbrev n_first_state : List Str := ["program", "positions", "registers", "thread", "at", "values", "contents", "none", "name", "cell", "code"]
abbrev p_first_state : List Str := ["program"]
theorem c_first_state : FnScope n_first_state p_first_state (defScope s_first_state) := ⟨rfl, rfl, rfl, by decide +kernel, rfl, by decide +kernel, by decide +kernel⟩
abbrev s_next_statement : Stmt := topS 73
abbrev n_next_statement : List Str := ["program", "state", "thread", "rows", "at"]
abbrev p_next_statement : List Str := ["program", "state", "thread"]
theorem c_next_statement : FnScope n_next_statement p_next_statement (defScope s_next_statement) := ⟨rfl, rfl, rfl, by decide +kernel, rfl, by decide +kernel, by decide +kernel⟩
abbrev s_step_of : Stmt := topS 74
abbrev n_step_of : List Str := ["statement"]
abbrev p_step_of : List Str := ["statement"]
theorem c_step_of : FnScope n_step_of p_step_of (defScope s_step_of) := ⟨rfl, rfl, rfl, by decide +kernel, rfl, by decide +kernel, by decide +kernel⟩
abbrev s_steps_in : Stmt := topS 75
abbrev n_steps_in : List Str := ["program", "state", "at"]
abbrev p_steps_in : List Str := ["program", "state"]
theorem c_steps_in : FnScope n_steps_in p_steps_in (defScope s_steps_in) := ⟨rfl, rfl, rfl, by decide +kernel, rfl, by decide +kernel, by decide +kernel⟩
abbrev s_is_possible : Stmt := topS 76
abbrev n_is_possible : List Str := ["program", "state", "thread", "statement"]
abbrev p_is_possible : List Str := ["program", "state", "thread"]
theorem c_is_possible : FnScope n_is_possible p_is_possible (defScope s_is_possible) := ⟨rfl, rfl, rfl, by decide +kernel, rfl, by decide +kernel, by decide +kernel⟩
abbrev s_ready_in : Stmt := topS 77
abbrev n_ready_in : List Str := ["program", "state", "at"]
abbrev p_ready_in : List Str := ["program", "state"]
theorem c_ready_in : FnScope n_ready_in p_ready_in (defScope s_ready_in) := ⟨rfl, rfl, rfl, by decide +kernel, rfl, by decide +kernel, by decide +kernel⟩
abbrev s_clashes_in : Stmt := topS 78
abbrev n_clashes_in : List Str := ["program", "state", "steps", "found", "one", "left", "other"]
abbrev p_clashes_in : List Str := ["program", "state"]
theorem c_clashes_in : FnScope n_clashes_in p_clashes_in (defScope s_clashes_in) := ⟨rfl, rfl, rfl, by decide +kernel, rfl, by decide +kernel, by decide +kernel⟩
abbrev s_is_clashing : Stmt := topS 79
abbrev n_is_clashing : List Str := ["left", "right"]
abbrev p_is_clashing : List Str := ["left", "right"]
theorem c_is_clashing : FnScope n_is_clashing p_is_clashing (defScope s_is_clashing) := ⟨rfl, rfl, rfl, by decide +kernel, rfl, by decide +kernel, by decide +kernel⟩
abbrev s_replaced : Stmt := topS 80
abbrev n_replaced : List Str := ["items", "at", "item"]
abbrev p_replaced : List Str := ["items", "at", "item"]
theorem c_replaced : FnScope n_replaced p_replaced (defScope s_replaced) := ⟨rfl, rfl, rfl, by decide +kernel, rfl, by decide +kernel, by decide +kernel⟩
abbrev s_stepped : Stmt := topS 81
abbrev n_stepped : List Str := ["program", "state", "thread", "positions", "registers", "contents", "lines", "shown", "values", "statement", "later", "other", "taker", "at"]
abbrev p_stepped : List Str := ["program", "state", "thread"]
theorem c_stepped : FnScope n_stepped p_stepped (defScope s_stepped) := ⟨rfl, rfl, rfl, by decide +kernel, rfl, by decide +kernel, by decide +kernel⟩
abbrev s_led : Stmt := topS 82
abbrev n_led : List Str := ["program", "order", "state", "thread"]
abbrev p_led : List Str := ["program", "order"]
theorem c_led : FnScope n_led p_led (defScope s_led) := ⟨rfl, rfl, rfl, by decide +kernel, rfl, by decide +kernel, by decide +kernel⟩
abbrev s_reached : Stmt := topS 85
abbrev n_reached : List Str := ["program", "first", "found", "waiting", "at", "state", "thread", "later"]
abbrev p_reached : List Str := ["program"]
theorem c_reached : FnScope n_reached p_reached (defScope s_reached) := ⟨rfl, rfl, rfl, by decide +kernel, rfl, by decide +kernel, by decide +kernel⟩
abbrev s_order_to : Stmt := topS 86
abbrev n_order_to : List Str := ["found", "state", "order", "here", "link", "thread"]
abbrev p_order_to : List Str := ["found", "state"]
theorem c_order_to : FnScope n_order_to p_order_to (defScope s_order_to) := ⟨rfl, rfl, rfl, by decide +kernel, rfl, by decide +kernel, by decide +kernel⟩
abbrev s_first_clash : Stmt := topS 87
abbrev n_first_clash : List Str := ["program", "found", "state"]
abbrev p_first_clash : List Str := ["program", "found"]
theorem c_first_clash : FnScope n_first_clash p_first_clash (defScope s_first_clash) := ⟨rfl, rfl, rfl, by decide +kernel, rfl, by decide +kernel, by decide +kernel⟩
abbrev s_ends_in : Stmt := topS 88
abbrev n_ends_in : List Str := ["program", "found", "state"]
abbrev p_ends_in : List Str := ["program", "found"]
theorem c_ends_in : FnScope n_ends_in p_ends_in (defScope s_ends_in) := ⟨rfl, rfl, rfl, by decide +kernel, rfl, by decide +kernel, by decide +kernel⟩
abbrev s_clash : Stmt := topS 89
abbrev n_clash : List Str := ["program"]
abbrev p_clash : List Str := ["program"]
theorem c_clash : FnScope n_clash p_clash (defScope s_clash) := ⟨rfl, rfl, rfl, by decide +kernel, rfl, by decide +kernel, by decide +kernel⟩
abbrev s_is_orderly : Stmt := topS 90
abbrev n_is_orderly : List Str := ["program"]
abbrev p_is_orderly : List Str := ["program"]
theorem c_is_orderly : FnScope n_is_orderly p_is_orderly (defScope s_is_orderly) := ⟨rfl, rfl, rfl, by decide +kernel, rfl, by decide +kernel, by decide +kernel⟩
abbrev s_ends : Stmt := topS 91
abbrev n_ends : List Str := ["program", "shown", "state"]
abbrev p_ends : List Str := ["program"]
theorem c_ends : FnScope n_ends p_ends (defScope s_ends) := ⟨rfl, rfl, rfl, by decide +kernel, rfl, by decide +kernel, by decide +kernel⟩
abbrev s_outcome : Stmt := topS 92
abbrev n_outcome : List Str := ["program", "found"]
abbrev p_outcome : List Str := ["program"]
theorem c_outcome : FnScope n_outcome p_outcome (defScope s_outcome) := ⟨rfl, rfl, rfl, by decide +kernel, rfl, by decide +kernel, by decide +kernel⟩
abbrev s_law_dice : Stmt := topS 94
abbrev n_law_dice : List Str := ["_law_script", "_law_at", "_law_cell", "_law_great", "_law_left", "_law_mixed"]
abbrev p_law_dice : List Str := ["_law_script", "_law_at"]
theorem c_law_dice : FnScope n_law_dice p_law_dice (defScope s_law_dice) := ⟨rfl, rfl, rfl, by decide +kernel, rfl, by decide +kernel, by decide +kernel⟩
abbrev s_law_roll : Stmt := topS 95
abbrev n_law_roll : List Str := ["_law_dice_here", "_law_total", "_law_number", "_law_drawn", "_law_one", "_law_two"]
abbrev p_law_roll : List Str := ["_law_dice_here", "_law_total"]
theorem c_law_roll : FnScope n_law_roll p_law_roll (defScope s_law_roll) := ⟨rfl, rfl, rfl, by decide +kernel, rfl, by decide +kernel, by decide +kernel⟩
abbrev s_law_one_of : Stmt := topS 96
abbrev n_law_one_of : List Str := ["_law_dice_here", "_law_items"]
abbrev p_law_one_of : List Str := ["_law_dice_here", "_law_items"]
theorem c_law_one_of : FnScope n_law_one_of p_law_one_of (defScope s_law_one_of) := ⟨rfl, rfl, rfl, by decide +kernel, rfl, by decide +kernel, by decide +kernel⟩
abbrev s_law_quiet : Stmt := topS 97
abbrev n_law_quiet : List Str := ["_law_regs", "_law_row", "_law_one"]
abbrev p_law_quiet : List Str := ["_law_regs", "_law_row"]
theorem c_law_quiet : FnScope n_law_quiet p_law_quiet (defScope s_law_quiet) := ⟨rfl, rfl, rfl, by decide +kernel, rfl, by decide +kernel, by decide +kernel⟩
abbrev s_law_size : Stmt := topS 98
abbrev n_law_size : List Str := ["_law_code", "_law_row"]
abbrev p_law_size : List Str := ["_law_code"]
theorem c_law_size : FnScope n_law_size p_law_size (defScope s_law_size) := ⟨rfl, rfl, rfl, by decide +kernel, rfl, by decide +kernel, by decide +kernel⟩
abbrev s_law_table : Stmt := topS 99
abbrev n_law_table : List Str := ["_law_code", "_law_start", "_law_table_here", "_law_found", "_law_at", "_law_row", "_law_yes"]
abbrev p_law_table : List Str := ["_law_code", "_law_start", "_law_table_here"]
theorem c_law_table : FnScope n_law_table p_law_table (defScope s_law_table) := ⟨rfl, rfl, rfl, by decide +kernel, rfl, by decide +kernel, by decide +kernel⟩
abbrev s_law_program : Stmt := topS 100
abbrev n_law_program : List Str := ["_law_codes", "_law_contents", "_law_told", "_law_tables", "_law_starts", "_law_code", "_law_at"]
abbrev p_law_program : List Str := ["_law_codes", "_law_contents", "_law_told"]
theorem c_law_program : FnScope n_law_program p_law_program (defScope s_law_program) := ⟨rfl, rfl, rfl, by decide +kernel, rfl, by decide +kernel, by decide +kernel⟩
abbrev s_law_ahead : Stmt := topS 101
abbrev n_law_ahead : List Str := ["_law_program_here", "_law_thread", "_law_numbers", "_law_regs", "_law_left", "_law_found", "_law_table_here", "_law_row", "_law_key", "_law_one"]
abbrev p_law_ahead : List Str := ["_law_program_here", "_law_thread", "_law_numbers", "_law_regs"]
theorem c_law_ahead : FnScope n_law_ahead p_law_ahead (defScope s_law_ahead) := ⟨rfl, rfl, rfl, by decide +kernel, rfl, by decide +kernel, by decide +kernel⟩
abbrev s_law_begin : Stmt := topS 102
abbrev n_law_begin : List Str := ["_law_program_here", "_law_first", "_law_total", "_law_threads", "_law_empty", "_law_at"]
abbrev p_law_begin : List Str := ["_law_program_here"]
theorem c_law_begin : FnScope n_law_begin p_law_begin (defScope s_law_begin) := ⟨rfl, rfl, rfl, by decide +kernel, rfl, by decide +kernel, by decide +kernel⟩
abbrev s_law_next : Stmt := topS 103
abbrev n_law_next : List Str := ["_law_program_here", "_law_state", "_law_thread", "_law_numbers"]
abbrev p_law_next : List Str := ["_law_program_here", "_law_state", "_law_thread"]
theorem c_law_next : FnScope n_law_next p_law_next (defScope s_law_next) := ⟨rfl, rfl, rfl, by decide +kernel, rfl, by decide +kernel, by decide +kernel⟩
abbrev s_law_can : Stmt := topS 104
abbrev n_law_can : List Str := ["_law_program_here", "_law_state", "_law_thread", "_law_row"]
abbrev p_law_can : List Str := ["_law_program_here", "_law_state", "_law_thread"]
theorem c_law_can : FnScope n_law_can p_law_can (defScope s_law_can) := ⟨rfl, rfl, rfl, by decide +kernel, rfl, by decide +kernel, by decide +kernel⟩
abbrev s_law_after : Stmt := topS 105
abbrev n_law_after : List Str := ["_law_program_here", "_law_state", "_law_thread", "_law_threads", "_law_contents", "_law_lines", "_law_shown", "_law_row", "_law_found", "_law_there", "_law_later", "_law_kept", "_law_rows", "_law_part", "_law_one"]
abbrev p_law_after : List Str := ["_law_program_here", "_law_state", "_law_thread"]
theorem c_law_after : FnScope n_law_after p_law_after (defScope s_law_after) := ⟨rfl, rfl, rfl, by decide +kernel, rfl, by decide +kernel, by decide +kernel⟩
abbrev s_law_clashes : Stmt := topS 106
abbrev n_law_clashes : List Str := ["_law_program_here", "_law_state", "_law_found", "_law_steps", "_law_thread", "_law_row", "_law_one", "_law_other"]
abbrev p_law_clashes : List Str := ["_law_program_here", "_law_state"]
theorem c_law_clashes : FnScope n_law_clashes p_law_clashes (defScope s_law_clashes) := ⟨rfl, rfl, rfl, by decide +kernel, rfl, by decide +kernel, by decide +kernel⟩
abbrev s_law_states : Stmt := topS 107
abbrev n_law_states : List Str := ["_law_program_here", "_law_limit", "_law_first", "_law_known", "_law_waiting", "_law_at", "_law_state", "_law_thread", "_law_later"]
abbrev p_law_states : List Str := ["_law_program_here", "_law_limit"]
theorem c_law_states : FnScope n_law_states p_law_states (defScope s_law_states) := ⟨rfl, rfl, rfl, by decide +kernel, rfl, by decide +kernel, by decide +kernel⟩
abbrev s_law_is_orderly : Stmt := topS 108
abbrev n_law_is_orderly : List Str := ["_law_program_here", "_law_known", "_law_state"]
abbrev p_law_is_orderly : List Str := ["_law_program_here", "_law_known"]
theorem c_law_is_orderly : FnScope n_law_is_orderly p_law_is_orderly (defScope s_law_is_orderly) := ⟨rfl, rfl, rfl, by decide +kernel, rfl, by decide +kernel, by decide +kernel⟩
abbrev s_law_ends : Stmt := topS 109
abbrev n_law_ends : List Str := ["_law_program_here", "_law_known", "_law_found", "_law_state", "_law_ready", "_law_thread"]
abbrev p_law_ends : List Str := ["_law_program_here", "_law_known"]
theorem c_law_ends : FnScope n_law_ends p_law_ends (defScope s_law_ends) := ⟨rfl, rfl, rfl, by decide +kernel, rfl, by decide +kernel, by decide +kernel⟩
abbrev s_law_built : Stmt := topS 110
abbrev n_law_built : List Str := ["_law_program_here"]
abbrev p_law_built : List Str := ["_law_program_here"]
theorem c_law_built : FnScope n_law_built p_law_built (defScope s_law_built) := ⟨rfl, rfl, rfl, by decide +kernel, rfl, by decide +kernel, by decide +kernel⟩
abbrev s_law_calm : Stmt := topS 111
abbrev n_law_calm : List Str := ["_law_dice_here", "_law_total", "_law_codes", "_law_thread", "_law_own", "_law_code", "_law_turn", "_law_one", "_law_ahead_here"]
abbrev p_law_calm : List Str := ["_law_dice_here", "_law_total"]
theorem c_law_calm : FnScope n_law_calm p_law_calm (defScope s_law_calm) := ⟨rfl, rfl, rfl, by decide +kernel, rfl, by decide +kernel, by decide +kernel⟩
abbrev s_law_same : Stmt := topS 112
abbrev n_law_same : List Str := ["_law_one", "_law_other", "_law_total", "_law_thread", "_law_name"]
abbrev p_law_same : List Str := ["_law_one", "_law_other", "_law_total"]
theorem c_law_same : FnScope n_law_same p_law_same (defScope s_law_same) := ⟨rfl, rfl, rfl, by decide +kernel, rfl, by decide +kernel, by decide +kernel⟩
abbrev s_law_led : Stmt := topS 113
abbrev n_law_led : List Str := ["_law_dice_here", "_law_made", "_law_total", "_law_met", "_law_run", "_law_counts", "_law_thread", "_law_key"]
abbrev p_law_led : List Str := ["_law_dice_here", "_law_made", "_law_total", "_law_met"]
theorem c_law_led : FnScope n_law_led p_law_led (defScope s_law_led) := ⟨rfl, rfl, rfl, by decide +kernel, rfl, by decide +kernel, by decide +kernel⟩
abbrev s_law_right : Stmt := topS 114
abbrev n_law_right : List Str := ["_law_dice_here", "_law_total", "_law_plain", "_law_known", "_law_made", "_law_met", "_law_due", "_law_turn", "_law_run"]
abbrev p_law_right : List Str := ["_law_dice_here"]
theorem c_law_right : FnScope n_law_right p_law_right (defScope s_law_right) := ⟨rfl, rfl, rfl, by decide +kernel, rfl, by decide +kernel, by decide +kernel⟩
abbrev s_law : Stmt := topS 115
abbrev n_law : List Str := ["_law_script", "_law_at", "_law_dice_here", "_law_turn", "_law_stuck"]
abbrev p_law : List Str := ["_law_script"]
theorem c_law : FnScope n_law p_law (defScope s_law) := ⟨rfl, rfl, rfl, by decide +kernel, rfl, by decide +kernel, by decide +kernel⟩
end Pt
end
section
set_option Elab.async false
set_option linter.all false
set_option maxRecDepth 100000
set_option maxHeartbeats 0
/-! Hd1: what the run of the top is looked at for (printed by gen_head.py). -/
namespace Hd
open PySem PySem.Spec PyProof.Rows L2 Pt
def fn0 : List He.DefD := [⟨("_wall", none), "_wall", "_wall", defArgs s_wall, defBody s_wall, defScope s_wall, [], []⟩,
  ⟨("is_letters", none), "is_letters", "is_letters", defArgs s_is_letters, defBody s_is_letters, defScope s_is_letters, [], []⟩,
  ⟨("is_name", none), "is_name", "is_name", defArgs s_is_name, defBody s_is_name, defScope s_is_name, [], []⟩,
  ⟨("is_index", none), "is_index", "is_index", defArgs s_is_index, defBody s_is_index, defScope s_is_index, [], []⟩,
  ⟨("is_number_text", none), "is_number_text", "is_number_text", defArgs s_is_number_text, defBody s_is_number_text, defScope s_is_number_text, [], []⟩,
  ⟨("is_unknown", none), "is_unknown", "is_unknown", defArgs s_is_unknown, defBody s_is_unknown, defScope s_is_unknown, [], []⟩,
  ⟨("arguments_in", none), "arguments_in", "arguments_in", defArgs s_arguments_in, defBody s_arguments_in, defScope s_arguments_in, [], []⟩,
  ⟨("application", none), "application", "application", defArgs s_application, defBody s_application, defScope s_application, [], []⟩,
  ⟨("is_text", none), "is_text", "is_text", defArgs s_is_text, defBody s_is_text, defScope s_is_text, [], []⟩,
  ⟨("is_value", none), "is_value", "is_value", defArgs s_is_value, defBody s_is_value, defScope s_is_value, [], []⟩,
  ⟨("value_of", none), "value_of", "value_of", defArgs s_value_of, defBody s_value_of, defScope s_value_of, [], []⟩,
  ⟨("are_names", none), "are_names", "are_names", defArgs s_are_names, defBody s_are_names, defScope s_are_names, [], []⟩,
  ⟨("is_plain", none), "is_plain", "is_plain", defArgs s_is_plain, defBody s_is_plain, defScope s_is_plain, [], []⟩,
  ⟨("is_statement", none), "is_statement", "is_statement", defArgs s_is_statement, defBody s_is_statement, defScope s_is_statement, [], []⟩,
  ⟨("is_level", none), "is_level", "is_level", defArgs s_is_level, defBody s_is_level, defScope s_is_level, [], []⟩,
  ⟨("is_body", none), "is_body", "is_body", defArgs s_is_body, defBody s_is_body, defScope s_is_body, [], []⟩,
  ⟨("branches", none), "branches", "branches", defArgs s_branches, defBody s_branches, defScope s_branches, [], []⟩,
  ⟨("size_of", none), "size_of", "size_of", defArgs s_size_of, defBody s_size_of, defScope s_size_of, [], []⟩,
  ⟨("does_count", none), "does_count", "does_count", defArgs s_does_count, defBody s_does_count, defScope s_does_count, [], []⟩,
  ⟨("most_on_path", none), "most_on_path", "most_on_path", defArgs s_most_on_path, defBody s_most_on_path, defScope s_most_on_path, [], []⟩]
def fn1 : List He.DefD := [⟨("paths_fit", none), "paths_fit", "paths_fit", defArgs s_paths_fit, defBody s_paths_fit, defScope s_paths_fit, [], []⟩,
  ⟨("rows_from", none), "rows_from", "rows_from", defArgs s_rows_from, defBody s_rows_from, defScope s_rows_from, [], []⟩,
  ⟨("rows_of", none), "rows_of", "rows_of", defArgs s_rows_of, defBody s_rows_of, defScope s_rows_of, [], []⟩,
  ⟨("is_thread_code", none), "is_thread_code", "is_thread_code", defArgs s_is_thread_code, defBody s_is_thread_code, defScope s_is_thread_code, [], []⟩,
  ⟨("are_contents", none), "are_contents", "are_contents", defArgs s_are_contents, defBody s_are_contents, defScope s_are_contents, [], []⟩,
  ⟨("is_asked", none), "is_asked", "is_asked", defArgs s_is_asked, defBody s_is_asked, defScope s_is_asked, [], []⟩,
  ⟨("are_answers", none), "are_answers", "are_answers", defArgs s_are_answers, defBody s_are_answers, defScope s_are_answers, [], []⟩,
  ⟨("require_threads", none), "require_threads", "require_threads", defArgs s_require_threads, defBody s_require_threads, defScope s_require_threads, [], []⟩,
  ⟨("cell_of", none), "cell_of", "cell_of", defArgs s_cell_of, defBody s_cell_of, defScope s_cell_of, [], []⟩,
  ⟨("cells_in", none), "cells_in", "cells_in", defArgs s_cells_in, defBody s_cells_in, defScope s_cells_in, [], []⟩,
  ⟨("registers_of", none), "registers_of", "registers_of", defArgs s_registers_of, defBody s_registers_of, defScope s_registers_of, [], []⟩,
  ⟨("registers_in", none), "registers_in", "registers_in", defArgs s_registers_in, defBody s_registers_in, defScope s_registers_in, [], []⟩,
  ⟨("require_program", none), "require_program", "require_program", defArgs s_require_program, defBody s_require_program, defScope s_require_program, [], []⟩,
  ⟨("require_thread", none), "require_thread", "require_thread", defArgs s_require_thread, defBody s_require_thread, defScope s_require_thread, [], []⟩,
  ⟨("is_order", none), "is_order", "is_order", defArgs s_is_order, defBody s_is_order, defScope s_is_order, [], []⟩,
  ⟨("settled", none), "settled", "settled", defArgs s_settled, defBody s_settled, defScope s_settled, [], []⟩,
  ⟨("made_value", none), "made_value", "made_value", defArgs s_made_value, defBody s_made_value, defScope s_made_value, [], []⟩,
  ⟨("packed", none), "packed", "packed", defArgs s_packed, defBody s_packed, defScope s_packed, [], []⟩,
  ⟨("registers_at", none), "registers_at", "registers_at", defArgs s_registers_at, defBody s_registers_at, defScope s_registers_at, [], []⟩,
  ⟨("first_state", none), "first_state", "first_state", defArgs s_first_state, defBody s_first_state, defScope s_first_state, [], []⟩]
def fn2 : List He.DefD := [⟨("next_statement", none), "next_statement", "next_statement", defArgs s_next_statement, defBody s_next_statement, defScope s_next_statement, [], []⟩,
  ⟨("step_of", none), "step_of", "step_of", defArgs s_step_of, defBody s_step_of, defScope s_step_of, [], []⟩,
  ⟨("steps_in", none), "steps_in", "steps_in", defArgs s_steps_in, defBody s_steps_in, defScope s_steps_in, [], []⟩,
  ⟨("is_possible", none), "is_possible", "is_possible", defArgs s_is_possible, defBody s_is_possible, defScope s_is_possible, [], []⟩,
  ⟨("ready_in", none), "ready_in", "ready_in", defArgs s_ready_in, defBody s_ready_in, defScope s_ready_in, [], []⟩,
  ⟨("clashes_in", none), "clashes_in", "clashes_in", defArgs s_clashes_in, defBody s_clashes_in, defScope s_clashes_in, [], []⟩,
  ⟨("is_clashing", none), "is_clashing", "is_clashing", defArgs s_is_clashing, defBody s_is_clashing, defScope s_is_clashing, [], []⟩,
  ⟨("replaced", none), "replaced", "replaced", defArgs s_replaced, defBody s_replaced, defScope s_replaced, [], []⟩,
  ⟨("stepped", none), "stepped", "stepped", defArgs s_stepped, defBody s_stepped, defScope s_stepped, [], []⟩,
  ⟨("led", none), "led", "led", defArgs s_led, defBody s_led, defScope s_led, [], []⟩,
  ⟨("reached", none), "reached", "reached", defArgs s_reached, defBody s_reached, defScope s_reached, [], []⟩,
  ⟨("order_to", none), "order_to", "order_to", defArgs s_order_to, defBody s_order_to, defScope s_order_to, [], []⟩,
  ⟨("first_clash", none), "first_clash", "first_clash", defArgs s_first_clash, defBody s_first_clash, defScope s_first_clash, [], []⟩,
  ⟨("ends_in", none), "ends_in", "ends_in", defArgs s_ends_in, defBody s_ends_in, defScope s_ends_in, [], []⟩,
  ⟨("clash", none), "clash", "clash", defArgs s_clash, defBody s_clash, defScope s_clash, [], []⟩,
  ⟨("is_orderly", none), "is_orderly", "is_orderly", defArgs s_is_orderly, defBody s_is_orderly, defScope s_is_orderly, [], []⟩,
  ⟨("ends", none), "ends", "ends", defArgs s_ends, defBody s_ends, defScope s_ends, [], []⟩,
  ⟨("outcome", none), "outcome", "outcome", defArgs s_outcome, defBody s_outcome, defScope s_outcome, [], []⟩,
  ⟨("_law_dice", none), "_law_dice", "_law_dice", defArgs s_law_dice, defBody s_law_dice, defScope s_law_dice, [], []⟩,
  ⟨("_law_roll", none), "_law_roll", "_law_roll", defArgs s_law_roll, defBody s_law_roll, defScope s_law_roll, [], []⟩]
def fn3 : List He.DefD := [⟨("_law_one_of", none), "_law_one_of", "_law_one_of", defArgs s_law_one_of, defBody s_law_one_of, defScope s_law_one_of, [], []⟩,
  ⟨("_law_quiet", none), "_law_quiet", "_law_quiet", defArgs s_law_quiet, defBody s_law_quiet, defScope s_law_quiet, [], []⟩,
  ⟨("_law_size", none), "_law_size", "_law_size", defArgs s_law_size, defBody s_law_size, defScope s_law_size, [], []⟩,
  ⟨("_law_table", none), "_law_table", "_law_table", defArgs s_law_table, defBody s_law_table, defScope s_law_table, [], []⟩,
  ⟨("_law_program", none), "_law_program", "_law_program", defArgs s_law_program, defBody s_law_program, defScope s_law_program, [], []⟩,
  ⟨("_law_ahead", none), "_law_ahead", "_law_ahead", defArgs s_law_ahead, defBody s_law_ahead, defScope s_law_ahead, [], []⟩,
  ⟨("_law_begin", none), "_law_begin", "_law_begin", defArgs s_law_begin, defBody s_law_begin, defScope s_law_begin, [], []⟩,
  ⟨("_law_next", none), "_law_next", "_law_next", defArgs s_law_next, defBody s_law_next, defScope s_law_next, [], []⟩,
  ⟨("_law_can", none), "_law_can", "_law_can", defArgs s_law_can, defBody s_law_can, defScope s_law_can, [], []⟩,
  ⟨("_law_after", none), "_law_after", "_law_after", defArgs s_law_after, defBody s_law_after, defScope s_law_after, [], []⟩,
  ⟨("_law_clashes", none), "_law_clashes", "_law_clashes", defArgs s_law_clashes, defBody s_law_clashes, defScope s_law_clashes, [], []⟩,
  ⟨("_law_states", none), "_law_states", "_law_states", defArgs s_law_states, defBody s_law_states, defScope s_law_states, [], []⟩,
  ⟨("_law_is_orderly", none), "_law_is_orderly", "_law_is_orderly", defArgs s_law_is_orderly, defBody s_law_is_orderly, defScope s_law_is_orderly, [], []⟩,
  ⟨("_law_ends", none), "_law_ends", "_law_ends", defArgs s_law_ends, defBody s_law_ends, defScope s_law_ends, [], []⟩,
  ⟨("_law_built", none), "_law_built", "_law_built", defArgs s_law_built, defBody s_law_built, defScope s_law_built, [], []⟩,
  ⟨("_law_calm", none), "_law_calm", "_law_calm", defArgs s_law_calm, defBody s_law_calm, defScope s_law_calm, [], []⟩,
  ⟨("_law_same", none), "_law_same", "_law_same", defArgs s_law_same, defBody s_law_same, defScope s_law_same, [], []⟩,
  ⟨("_law_led", none), "_law_led", "_law_led", defArgs s_law_led, defBody s_law_led, defScope s_law_led, [], []⟩,
  ⟨("_law_right", none), "_law_right", "_law_right", defArgs s_law_right, defBody s_law_right, defScope s_law_right, [], []⟩,
  ⟨("law", none), "law", "law", defArgs s_law, defBody s_law, defScope s_law, [], []⟩]
def fn4 : List He.DefD := [⟨("Program", some "__init__"), "__init__", "Program.__init__", defArgs s_Program_init, defBody s_Program_init, defScope s_Program_init, [], [("cells", .non), ("answers", .non)]⟩,
  ⟨("Program", some "__call__"), "__call__", "Program.__call__", defArgs s_Program_call, defBody s_Program_call, defScope s_Program_call, [], []⟩,
  ⟨("Run", some "__init__"), "__init__", "Run.__init__", defArgs s_Run_init, defBody s_Run_init, defScope s_Run_init, [], []⟩,
  ⟨("Run", some "held"), "held", "Run.held", defArgs s_Run_held, defBody s_Run_held, defScope s_Run_held, [], []⟩,
  ⟨("Run", some "after"), "after", "Run.after", defArgs s_Run_after, defBody s_Run_after, defScope s_Run_after, [], []⟩]
def fn : List He.DefD := fn0 ++ fn1 ++ fn2 ++ fn3 ++ fn4
def fa0 : List He.Fa := [.glo "_wall", .glo "is_letters", .glo "is_name", .glo "is_index", .glo "is_number_text", .glo "is_unknown", .glo "arguments_in", .glo "application", .glo "is_text", .glo "is_value", .glo "value_of", .glo "are_names", .glo "is_plain", .glo "is_statement", .glo "is_level", .glo "is_body", .glo "branches", .glo "size_of", .glo "does_count", .glo "most_on_path"]
def fa1 : List He.Fa := [.glo "paths_fit", .glo "rows_from", .glo "rows_of", .glo "is_thread_code", .glo "are_contents", .glo "is_asked", .glo "are_answers", .glo "require_threads", .glo "cell_of", .glo "cells_in", .glo "registers_of", .glo "registers_in", .glo "require_program", .glo "require_thread", .glo "is_order", .glo "settled", .glo "made_value", .glo "packed", .glo "registers_at", .glo "first_state"]
def fa2 : List He.Fa := [.glo "next_statement", .glo "step_of", .glo "steps_in", .glo "is_possible", .glo "ready_in", .glo "clashes_in", .glo "is_clashing", .glo "replaced", .glo "stepped", .glo "led", .glo "reached", .glo "order_to", .glo "first_clash", .glo "ends_in", .glo "clash", .glo "is_orderly", .glo "ends", .glo "outcome", .glo "_law_dice", .glo "_law_roll"]
def fa3 : List He.Fa := [.glo "_law_one_of", .glo "_law_quiet", .glo "_law_size", .glo "_law_table", .glo "_law_program", .glo "_law_ahead", .glo "_law_begin", .glo "_law_next", .glo "_law_can", .glo "_law_after", .glo "_law_clashes", .glo "_law_states", .glo "_law_is_orderly", .glo "_law_ends", .glo "_law_built", .glo "_law_calm", .glo "_law_same", .glo "_law_led", .glo "_law_right", .glo "law"]
def fa4 : List He.Fa := [.glo "Program", .glo "Run", .glo "SIZES", .glo "WORDS", .glo "ACCESSES", .glo "STEPS", .free "isinstance", .free "len", .free "all", .free "sum", .free "int", .free "max", .free "min", .free "abs", .free "range", .free "enumerate", .free "tuple", .free "list", .free "dict", .free "set"]
def fa5 : List He.Fa := [.free "sorted", .free "zip", .free "str", .free "bool", .int "MAX_LETTERS" 8, .int "MAX_ARGUMENTS_values" 2, .int "MAX_DEEP" 3, .int "MAX_ARGUMENTS_stretches" 2, .int "MAX_THREADS" 3, .int "MAX_CODE" 60, .int "MAX_ASKED" 6, .int "MAX_STEPS" 200, .int "MAX_STATES" 4000, .str "GET_values" "get", .str "FIGURES" "0123456789", .str "READ" "read", .str "WRITE" "write", .str "SET" "set", .str "COPY" "copy", .str "GET_stretches" "get"]
def fa6 : List He.Fa := [.str "PUT" "put", .str "SHOW" "show", .str "IF" "if", .cls "Program", .cls "Run", .mkr "Program", .mkr "Run", .meth "Run" "held", .meth "Run" "after", .noat "Program" "own_threads", .noat "Program" "own_cells", .noat "Program" "own_answers", .noat "Program" "own_rows", .noat "Program" "own_registers", .noat "Program" "own_names", .noat "Run" "own_program", .noat "Run" "own_order", .noat "Run" "own_state"]
def fa : List He.Fa := fa0 ++ fa1 ++ fa2 ++ fa3 ++ fa4 ++ fa5 ++ fa6
def ts : List He.Tab := [(fun K => He.ga K "SIZES", ["read", "write", "copy", "get", "put"])]
structure GD where
  m : Str
  qual : Str
  st : Stmt
/-- the getter of a property of Run -/
def pA (K : PySem.W.Frag) (m : Str) : Addr := match PySem.W.recIn K (He.ma K (He.ga K "Run") m) "property" with
  | some (.ref g :: _) => g
  | _ => 0
def fnA (K : PySem.W.Frag) (a : Addr) : He.FnW := match K.lookup a with
  | some ⟨_, _, .func fd, _⟩ => some (fd.name, fd.qualname, fd.params, fd.body, fd.scope, fd.globals, fd.closure, fd.builtins)
  | _ => none
def GD.val (d : GD) : He.FnW := some (d.m, d.qual, defArgs d.st, .stmts (defBody d.st), defScope d.st, mainGlobals, [], builtinsNs)
def GD.ok (K : PySem.W.Frag) (d : GD) : Bool := PySem.W.keepIn K (.ref (pA K d.m)) && (match K.lookup (pA K d.m) with
  | some ⟨_, _, .func fd, _⟩ => PySem.W.codeIn K fd.code d.qual && He.dflB K fd.defaults []
  | _ => false)
def prB (K : PySem.W.Frag) (m : Str) : Bool := He.eqO (PySem.W.findIn K (.ref (He.ga K "Run")) m) (some (some (.ref (He.ma K (He.ga K "Run") m)))) && (He.eqO (PySem.W.specialIn K (.ref (He.ma K (He.ga K "Run") m)) "__get__") (some (some (.builtin "property.__get__"))) && (decide (PySem.W.takesIn K (.ref (He.ma K (He.ga K "Run") m)) = some true) && (match PySem.W.recIn K (He.ma K (He.ga K "Run") m) "property" with
  | some (.ref _ :: _) => true
  | _ => false)))
def gds : List GD := [⟨"shown", "Run.shown", s_Run_shown⟩, ⟨"cells", "Run.cells", s_Run_cells⟩, ⟨"lines", "Run.lines", s_Run_lines⟩, ⟨"next_steps", "Run.next_steps", s_Run_next_steps⟩, ⟨"ready", "Run.ready", s_Run_ready⟩, ⟨"is_end", "Run.is_end", s_Run_is_end⟩, ⟨"clashing", "Run.clashing", s_Run_clashing⟩]
def clB (K : PySem.W.Frag) : Bool := He.eqO (PySem.W.findIn K (.ref (He.ga K "Program")) "__class__") (some (some (.builtin "object.__class__"))) && (He.eqO (PySem.W.specialIn K (.builtin "object.__class__") "__get__") (some (some (.builtin "getset_descriptor.__get__"))) && (decide (PySem.W.takesIn K (.builtin "object.__class__") = some true) && (decide (PySem.W.mroIn K (He.ga K "Program") (.type "object") = some true) && decide (PySem.W.kitOne K (.ref (He.ga K "Program")) (.ref (He.ga K "Program")) = some true))))
def coB (K : PySem.W.Frag) : Bool := He.eqO (PySem.W.findIn K (.ref (He.ga K "Program")) "__call__") (some (some (.ref (He.ma K (He.ga K "Program") "__call__")))) && (PySem.W.isFn K (.ref (He.ma K (He.ga K "Program") "__call__")) && PySem.W.fnIn K (He.ma K (He.ga K "Program") "__call__"))
def tpB (K : PySem.W.Frag) : Bool := He.tupB K "WORDS" [.str "else", .str "end", .str "get", .str "if", .str "put", .str "show"] && (He.tupB K "ACCESSES" [.str "read", .str "write"] && (He.tupB K "STEPS" [.str "read", .str "write", .str "get", .str "put", .str "show"] && He.valsB K (He.ga K "SIZES") [("read", .int 3), ("write", .int 3), ("get", .int 2), ("put", .int 2)]))
def exB (K : PySem.W.Frag) : Bool := (gds.all fun d => d.ok K && prB K d.m) && (clB K && (coB K && tpB K))
abbrev AlH : Type := (He.AlT × List He.FnW) × Bool
def obsK (K : PySem.W.Frag) : AlH := ((He.obsT fa fn ts K, gds.map fun d => fnA K (pA K d.m)), exB K)
def valH (w : World) : AlH := ((He.valT fn ts w, gds.map GD.val), true)
def front (g : Addr → Option Obj) : Nat → List Addr → List Addr
  | 0, as => as
  | n + 1, as => as ++ front g n (as.flatMap fun a => match g a with | some o => He.refsD o | none => [])
def asP (g : Addr → Option Obj) : List Addr := front g 6 [mainGlobals]
def obsP (g : Addr → Option Obj) : AlH := obsK (He.frG g (asP g))
def hk : PySem.W.Hook where
  α := AlH
  obs := fun s => obsP s.heap.get?
  val := valH
  says := fun w h => ∃ K : PySem.W.Frag, K.In h ∧ obsK K = valH w
  of := fun _ _ e => ⟨_, He.frG_in, e⟩
  keeps := fun _ _ _ ⟨K, hK, c⟩ k => ⟨K, PySem.W.Frag.In.keeps hK k, c⟩
def ob (s : PySem.W.SharedT) : AlH := obsP (HandSHeadRun.getT s)
theorem ob_eq (s : PySem.W.SharedT) : ob s = hk.obs s.abs := by
  have e : HandSHeadRun.getT s = s.abs.heap.get? := funext (HandSHeadRun.getT_eq s)
  unfold ob
  rw [e]
  rfl
def nm0 : List PySem.Str := ["_wall", "MoveError", "InvalidProgram", "InvalidOperation", "InvalidNumber", "TooMany", "MAX_LETTERS", "MAX_ARGUMENTS_values", "WORDS", "GET_values", "FIGURES", "is_letters", "is_name", "is_index", "is_number_text", "is_unknown", "arguments_in", "application", "is_text", "is_value"]
def nm1 : List PySem.Str := ["value_of", "MAX_DEEP", "MAX_ARGUMENTS_stretches", "READ", "WRITE", "SET", "COPY", "GET_stretches", "PUT", "SHOW", "IF", "SIZES", "are_names", "is_plain", "is_statement", "is_level", "is_body", "branches", "size_of", "does_count"]
def nm2 : List PySem.Str := ["most_on_path", "paths_fit", "rows_from", "rows_of", "MAX_THREADS", "MAX_CODE", "MAX_ASKED", "MAX_STEPS", "ACCESSES", "STEPS", "is_thread_code", "are_contents", "is_asked", "are_answers", "require_threads", "cell_of", "cells_in", "registers_of", "registers_in", "Program"]
def nm3 : List PySem.Str := ["Run", "require_program", "require_thread", "is_order", "settled", "made_value", "packed", "registers_at", "first_state", "next_statement", "step_of", "steps_in", "is_possible", "ready_in", "clashes_in", "is_clashing", "replaced", "stepped", "led", "MAX_STATES"]
def nm4 : List PySem.Str := ["reached", "order_to", "first_clash", "ends_in", "clash", "is_orderly", "ends", "outcome", "_law_dice", "_law_roll", "_law_one_of", "_law_quiet", "_law_size", "_law_table", "_law_program", "_law_ahead", "_law_begin", "_law_next", "_law_can", "_law_after"]
def nm5 : List PySem.Str := ["_law_clashes", "_law_states", "_law_is_orderly", "_law_ends", "_law_built", "_law_calm", "_law_same", "_law_led", "_law_right"]
def nms : List PySem.Str := nm0 ++ nm1 ++ nm2 ++ nm3 ++ nm4 ++ nm5
abbrev R : PySem.W.OpenRow := PySem.W.OpenLaw.row PySem.Challenge.rw_orderlymoves_k33_whole_orderly_programs
end Hd
end
section
set_option Elab.async false
set_option linter.all false
set_option maxRecDepth 100000
set_option maxHeartbeats 0
/-! Hd2: the run of the top, both ways of the row. -/
namespace Hd
open PySem PySem.Spec PyProof.Rows L2 Pt
theorem r1 (w : World) : HandSHeadRun.RunEq R (PySem.W.view R.prog [115]) hk ob 9000 nms (w.withFollow "special-get-raises" false) := by
  intro os
  kernel_rfl
theorem r2 (w : World) : HandSHeadRun.RunEq R (PySem.W.view R.prog [115]) hk ob 9000 nms (w.withFollow "special-get-raises" true) := by
  intro os
  kernel_rfl
theorem run (w : World) : HandSHeadRun.RunEq R (PySem.W.view R.prog [115]) hk ob 9000 nms w := by
  have e := World.withFollow_self w "special-get-raises"
  cases h : w.params.followText "special-get-raises" with
  | false => rw [h] at e; rw [← e]; exact r1 w
  | true => rw [h] at e; rw [← e]; exact r2 w
end Hd
end
section
set_option Elab.async false
set_option linter.all false
set_option maxRecDepth 100000
set_option maxHeartbeats 4000000
/-! PzA: data by value over the hand layer: what a value represents, frames, names by slot. -/
namespace Pz
abbrev St := List (Option L2.V)
open PySem PySem.Spec PyProof.Rows L2

/-- data by value; ref: an object that is only pointed at; ntp: a tuple that is known to have no dict of its own -/
inductive D where
  | non | bl (b : Bool) | int (i : Int) | str (x : Str) | ref (a : Addr) | ty (n : String)
  | tup (ds : List D) | ntp (ds : List D) | lst (ds : List D) | dct (kvs : List (D × D)) | dcn (kvs : List (D × D)) | ins (C : Addr) (fs : List (Str × D)) | insA (a C : Addr) (fs : List (Str × D)) | atA (a : Addr) (d : D)

/-- what is fixed: the program, the world, the written part -/
structure Gx where
  P : Program
  w : World
  K : PySem.W.Frag
abbrev gx (X : Cx) : Gx := ⟨X.prog, X.w, X.K⟩

-- a key that is a nested tuple
mutual
def D.nk : D → NestedKey
  | .int i => .num i
  | .str x => .text x
  | .tup ds => .tup (nks ds)
  | .ntp ds => .tup (nks ds)
  | _ => .none
def nks : List D → List NestedKey
  | [] => []
  | d :: ds => d.nk :: nks ds
end
/-- a dict whose keys are nested tuples: its entries' keys, the keys' addresses, the values -/
def DictN (P : Program) (w : World) (a : Addr) (xs : List (NestedKey × Addr × Value)) : Heap → Prop := fun h =>
  xs.length ≤ sizeLine ∧ (a == sysModules) = false ∧ ∃ o es ep, h.get? a = some o ∧ o.ExactDict ∧ o.data = .dict es ep ∧ es.toList = xs.map (entryOfKey (nestedKind P w)) ∧ (xs.map (·.1)).Nodup
def DN (G : Gx) (a : Addr) (xs : List (NestedKey × Addr × Value)) : HO := .ext (DictN G.P G.w a xs)
theorem DictN.at {P : Program} {w : World} {a : Addr} {xs : List (NestedKey × Addr × Value)} {h h' : Heap} (x : DictN P w a xs h) (k : ∀ o, h.get? a = some o → h'.get? a = some o) : DictN P w a xs h' := by
  obtain ⟨z, y, o, es, ep, ho, r⟩ := x
  exact ⟨z, y, o, es, ep, k o ho, r⟩
theorem dn_new {P : Program} {w : World} {K : PySem.W.Frag} {H : Hp} {h : Heap} {a : Addr} {xs : List (NestedKey × Addr × Value)} (x : DictN P w a xs h) : ObjOk P w H h a (DN ⟨P, w, K⟩ a xs) := by
  have ⟨_, _, o, _, _, ho, _⟩ := x
  exact ⟨x, ⟨o, ho⟩, fun _ _ p k => p.at k⟩

/-- a leaf key -/
def D.ofKey : Key → D
  | .inl i => .int i
  | .inr x => .str x

def WrT (K : PySem.W.Frag) (a : Addr) (xs : List V) : Prop := ∃ (o : Obj) (its : Array Value) (n : Nat), K.lookup a = some o ∧ o.cls = .type "tuple" ∧ o.data = .seq its n ∧ its.size ≤ sizeLine ∧ Vals xs its.toList
def WrL (K : PySem.W.Frag) (a : Addr) (xs : List V) : Prop := ∃ (o : Obj) (its : Array Value) (n : Nat), K.lookup a = some o ∧ o.cls = .type "list" ∧ o.dict = none ∧ o.data = .seq its n ∧ its.size ≤ sizeLine ∧ Vals xs its.toList
/-- a tuple, a list that stays: of the heap and not in M, or written -/
def TupM (G : Gx) (M : Addr → Prop) (H : Hp) (a : Addr) (xs : List V) : Prop := (Rd H a (.tup xs) ∧ ¬ M a) ∨ WrT G.K a xs
def LstM (G : Gx) (M : Addr → Prop) (H : Hp) (a : Addr) (xs : List V) : Prop := (Rd H a (.lst xs) ∧ ¬ M a) ∨ WrL G.K a xs
theorem TupM.sq {G : Gx} {M : Addr → Prop} {H : Hp} {a : Addr} {xs : List V} (h : TupM G M H a xs) : SqT G.K H a xs := h.elim (fun z => .inl z.1) .inr
theorem LstM.sq {G : Gx} {M : Addr → Prop} {H : Hp} {a : Addr} {xs : List V} (h : LstM G M H a xs) : SqL G.K H a xs := h.elim (fun z => .inl z.1) .inr
section
variable (G : Gx) (M : Addr → Prop) (H : Hp)
-- the value represents the data; M: the addresses of what may still change, nothing by value stands there
mutual
inductive Rp : V → D → Prop
  | non : Rp .non .non
  | bl (b : Bool) : Rp (.bl b) (.bl b)
  | int (i : Int) : Rp (.int i) (.int i)
  | str (x : Str) : Rp (.str x) (.str x)
  | ref (a : Addr) : Rp (.ref a) (.ref a)
  | ty (n : String) : Rp (.ty n) (.ty n)
  | tup {a : Addr} {vs : List V} {ds : List D} : TupM G M H a vs → Rps vs ds → Rp (.ref a) (.tup ds)
  | ntp {a : Addr} {ob : Obj} {vs : List V} {ds : List D} : H a = some (.frz ob (.tup vs)) → ob.dict = none → ¬ M a → Rps vs ds → Rp (.ref a) (.ntp ds)
  | lst {a : Addr} {vs : List V} {ds : List D} : LstM G M H a vs → Rps vs ds → Rp (.ref a) (.lst ds)
  | dk {a : Addr} {ob : Obj} {kvs : List (Key × V)} {es : List (D × D)} : H a = some (.frz ob (.dK kvs)) → ¬ M a → RpK kvs es → Rp (.ref a) (.dct es)
  | dn {a : Addr} {ob : Obj} {xs : List (NestedKey × Addr × Value)} {es : List (D × D)} : H a = some (.frz ob (DN G a xs)) → ¬ M a → RpN xs es → Rp (.ref a) (.dcn es)
  | ins {a C dx : Addr} {fs : List (Str × V)} {es : List (Str × D)} : H a = some (.ins C dx fs) → ¬ M a → RpF fs es → Rp (.ref a) (.ins C es)
  | insA {a C dx : Addr} {fs : List (Str × V)} {es : List (Str × D)} : H a = some (.ins C dx fs) → ¬ M a → RpF fs es → Rp (.ref a) (.insA a C es)
  | atA {a : Addr} {d : D} : Rp (.ref a) d → Rp (.ref a) (.atA a d)
inductive Rps : List V → List D → Prop
  | nil : Rps [] []
  | cons {v : V} {vs : List V} {d : D} {ds : List D} : Rp v d → Rps vs ds → Rps (v :: vs) (d :: ds)
inductive RpK : List (Key × V) → List (D × D) → Prop
  | nil : RpK [] []
  | cons {k : Key} {v : V} {kvs : List (Key × V)} {d : D} {es : List (D × D)} : Rp v d → RpK kvs es → RpK ((k, v) :: kvs) ((D.ofKey k, d) :: es)
inductive RpN : List (NestedKey × Addr × Value) → List (D × D) → Prop
  | nil : RpN [] []
  | cons {a : Addr} {v : V} {u : Value} {xs : List (NestedKey × Addr × Value)} {k d : D} {es : List (D × D)} : Rp (.ref a) k → RelV v u → Rp v d → RpN xs es → RpN ((k.nk, a, u) :: xs) ((k, d) :: es)
inductive RpF : List (Str × V) → List (Str × D) → Prop
  | nil : RpF [] []
  | cons {k : Str} {v : V} {fs : List (Str × V)} {d : D} {es : List (Str × D)} : Rp v d → RpF fs es → RpF ((k, v) :: fs) ((k, d) :: es)
end
end

section
variable {G : Gx} {M M' : Addr → Prop} {H H' : Hp}
/-- from M over H to M' over H': what is by value stays -/
structure Kp (M M' : Addr → Prop) (H H' : Hp) : Prop where
  at_ : ∀ b o, H b = some o → ¬ M b → H' b = some o
  out : ∀ b, H b ≠ none → ¬ M b → ¬ M' b
theorem rd_kp (k : Kp M M' H H') {a : Addr} {u : HO} (h : Rd H a u) (hm : ¬ M a) : Rd H' a u ∧ ¬ M' a := by
  rcases h with h | ⟨o, h⟩
  · exact ⟨.inl (k.at_ _ _ h hm), k.out _ (by rw [h]; exact fun z => nomatch z) hm⟩
  · exact ⟨.inr ⟨o, k.at_ _ _ h hm⟩, k.out _ (by rw [h]; exact fun z => nomatch z) hm⟩
theorem TupM.kp (k : Kp M M' H H') {a : Addr} {vs : List V} : TupM G M H a vs → TupM G M' H' a vs
  | .inl ⟨h, hm⟩ => .inl (rd_kp k h hm)
  | .inr h => .inr h
theorem LstM.kp (k : Kp M M' H H') {a : Addr} {vs : List V} : LstM G M H a vs → LstM G M' H' a vs
  | .inl ⟨h, hm⟩ => .inl (rd_kp k h hm)
  | .inr h => .inr h
theorem Kp.ho (k : Kp M M' H H') {a : Addr} {o : HO} (h : H a = some o) (hm : ¬ M a) : H' a = some o ∧ ¬ M' a :=
  ⟨k.at_ _ _ h hm, k.out _ (by rw [h]; exact fun z => nomatch z) hm⟩
-- what stands by value stays
mutual
theorem Rp.kp (k : Kp M M' H H') : ∀ {v : V} {d : D}, Rp G M H v d → Rp G M' H' v d
  | _, _, .non => .non
  | _, _, .bl b => .bl b
  | _, _, .int i => .int i
  | _, _, .str x => .str x
  | _, _, .ref a => .ref a
  | _, _, .ty n => .ty n
  | _, _, .tup h r => .tup (h.kp k) (Rps.kp k r)
  | _, _, .ntp h hd hm r => .ntp (k.ho h hm).1 hd (k.ho h hm).2 (Rps.kp k r)
  | _, _, .lst h r => .lst (h.kp k) (Rps.kp k r)
  | _, _, .dk h hm r => .dk (k.ho h hm).1 (k.ho h hm).2 (RpK.kp k r)
  | _, _, .dn h hm r => .dn (k.ho h hm).1 (k.ho h hm).2 (RpN.kp k r)
  | _, _, .ins h hm r => .ins (k.ho h hm).1 (k.ho h hm).2 (RpF.kp k r)
  | _, _, .insA h hm r => .insA (k.ho h hm).1 (k.ho h hm).2 (RpF.kp k r)
  | _, _, .atA r => .atA (Rp.kp k r)
theorem Rps.kp (k : Kp M M' H H') : ∀ {v : List V} {d : List D}, Rps G M H v d → Rps G M' H' v d
  | _, _, .nil => .nil
  | _, _, .cons a r => .cons (Rp.kp k a) (Rps.kp k r)
theorem RpK.kp (k : Kp M M' H H') : ∀ {v : List (Key × V)} {d : List (D × D)}, RpK G M H v d → RpK G M' H' v d
  | _, _, .nil => .nil
  | _, _, .cons a r => .cons (Rp.kp k a) (RpK.kp k r)
theorem RpN.kp (k : Kp M M' H H') : ∀ {v : List (NestedKey × Addr × Value)} {d : List (D × D)}, RpN G M H v d → RpN G M' H' v d
  | _, _, .nil => .nil
  | _, _, .cons a e b r => .cons (Rp.kp k a) e (Rp.kp k b) (RpN.kp k r)
theorem RpF.kp (k : Kp M M' H H') : ∀ {v : List (Str × V)} {d : List (Str × D)}, RpF G M H v d → RpF G M' H' v d
  | _, _, .nil => .nil
  | _, _, .cons a r => .cons (Rp.kp k a) (RpF.kp k r)
end
end
/-! ### lists of data -/
section
variable {G : Gx} {M M' : Addr → Prop} {H H' : Hp}
theorem Rps.length : ∀ {vs : List V} {ds : List D}, Rps G M H vs ds → vs.length = ds.length
  | _, _, .nil => rfl
  | _, _, .cons _ r => congrArg (· + 1) (Rps.length r)
theorem Rps.get : ∀ {vs : List V} {ds : List D} {i : Nat} {d : D}, Rps G M H vs ds → ds[i]? = some d → ∃ v, vs[i]? = some v ∧ Rp G M H v d
  | _, _, _, _, .nil, e => by simp at e
  | _, _, 0, _, .cons a _, e => by simp at e; subst e; exact ⟨_, rfl, a⟩
  | _, _, i + 1, _, .cons _ r, e => by
    obtain ⟨v, h1, h2⟩ := Rps.get (i := i) r (by simpa using e)
    exact ⟨v, by simpa using h1, h2⟩
theorem Rps.get' : ∀ {vs : List V} {ds : List D} {i : Nat} {v : V}, Rps G M H vs ds → vs[i]? = some v → ∃ d, ds[i]? = some d ∧ Rp G M H v d
  | _, _, _, _, .nil, e => by simp at e
  | _, _, 0, _, .cons a _, e => by simp at e; subst e; exact ⟨_, rfl, a⟩
  | _, _, i + 1, _, .cons _ r, e => by
    obtain ⟨v, h1, h2⟩ := Rps.get' (i := i) r (by simpa using e)
    exact ⟨v, by simpa using h1, h2⟩
theorem Rps.append : ∀ {vs ws : List V} {ds es : List D}, Rps G M H vs ds → Rps G M H ws es → Rps G M H (vs ++ ws) (ds ++ es)
  | _, _, _, _, .nil, s => s
  | _, _, _, _, .cons a r, s => .cons a (Rps.append r s)
theorem Rps.drop : ∀ {vs : List V} {ds : List D} (n : Nat), Rps G M H vs ds → Rps G M H (vs.drop n) (ds.drop n)
  | _, _, 0, r => r
  | _, _, _ + 1, .nil => .nil
  | _, _, n + 1, .cons _ r => Rps.drop n r
theorem Rps.take : ∀ {vs : List V} {ds : List D} (n : Nat), Rps G M H vs ds → Rps G M H (vs.take n) (ds.take n)
  | _, _, 0, _ => .nil
  | _, _, _ + 1, .nil => .nil
  | _, _, n + 1, .cons a r => .cons a (Rps.take n r)
theorem Rps.set {v : V} {d : D} (h : Rp G M H v d) : ∀ {vs : List V} {ds : List D} (i : Nat), Rps G M H vs ds → Rps G M H (vs.set i v) (ds.set i d)
  | _, _, _, .nil => .nil
  | _, _, 0, .cons _ r => .cons h r
  | _, _, i + 1, .cons a r => .cons a (Rps.set h i r)
theorem Rps.inv_nil {vs : List V} (h : Rps G M H vs []) : vs = [] := by cases h; rfl
theorem Rps.inv_cons {vs : List V} {d : D} {ds : List D} (h : Rps G M H vs (d :: ds)) : ∃ v r, vs = v :: r ∧ Rp G M H v d ∧ Rps G M H r ds := by
  cases h with
  | cons a r => exact ⟨_, _, rfl, a, r⟩
theorem Rps.strs : ∀ {vs : List V} {xs : List Str}, Rps G M H vs (xs.map .str) → vs = xs.map .str
  | _, [], h => h.inv_nil
  | _, x :: xs, h => by
    cases h with
    | cons a r => cases a; exact congrArg _ (Rps.strs r)
theorem Rps.of_strs : ∀ (xs : List Str), Rps G M H (xs.map .str) (xs.map .str)
  | [] => .nil
  | x :: xs => .cons (.str x) (Rps.of_strs xs)
theorem Rps.ints : ∀ {vs : List V} {xs : List Int}, Rps G M H vs (xs.map .int) → vs = xs.map .int
  | _, [], h => h.inv_nil
  | _, x :: xs, h => by
    cases h with
    | cons a r => cases a; exact congrArg _ (Rps.ints r)
theorem Rps.of_ints : ∀ (xs : List Int), Rps G M H (xs.map .int) (xs.map .int)
  | [] => .nil
  | x :: xs => .cons (.int x) (Rps.of_ints xs)
end

/-! ### frames: what a body may count on of the heap -/
/-- M0: what others may still change; Z: what is changed under the body's own calls (a thing with a rule of its own); I: what holds of the heap through the body; fresh: what the body itself may change -/
structure Fr where
  M0 : Addr → Prop
  Z : Addr → Prop
  I : Hp → Prop
  fresh : Addr → Prop
  st : ∀ H H', I H → Same H H' → I H'
  up : ∀ H a o, I H → fresh a → I (upd H a o)
  nw : ∀ H a, I H → H a = none → fresh a
  zf : ∀ a, Z a → M0 a ∧ ¬ fresh a
  zi : ∀ H a, I H → Z a → H a ≠ none
/-- a slot: a value, or a list, dict, instance that only this slot knows -/
inductive Sl where
  | v (d : D)
  | own (d : D)
abbrev En := List (Option Sl)
inductive Own (G : Gx) (M : Addr → Prop) (H : Hp) (a : Addr) : D → Prop
  | lst {vs ds} : H a = some (.lst vs) → Rps G M H vs ds → Own G M H a (.lst ds)
  | dk {kvs es} : H a = some (.dK kvs) → RpK G M H kvs es → Own G M H a (.dct es)
  | dn {xs es} : H a = some (DN G a xs) → RpN G M H xs es → Own G M H a (.dcn es)
  | ins {C dx fs es} : H a = some (.ins C dx fs) → RpF G M H fs es → Own G M H a (.ins C es)
  | insA {C dx fs es} : H a = some (.ins C dx fs) → RpF G M H fs es → Own G M H a (.insA a C es)
  | atA {d} : Own G M H a d → Own G M H a (.atA a d)
/-- what an expression leaves: all but Z -/
def Gr (F : Fr) (H H' : Hp) : Prop := ∀ b o, H b = some o → ¬ F.Z b → H' b = some o
structure RepS (G : Gx) (F : Fr) (M : Addr → Prop) (σ : St) (H : Hp) (en : En) : Prop where
  inv : F.I H
  m0 : ∀ a, F.M0 a → M a
  mf : ∀ a, M a → F.M0 a ∨ F.fresh a
  dom : ∀ a, M a → H a ≠ none
  own : ∀ (i : Nat) d, en[i]? = some (some (.own d)) → ∃ a, σ[i]? = some (some (.ref a)) ∧ M a ∧ ¬ F.M0 a ∧ F.fresh a ∧ Own G M H a d
  sep : ∀ (i j : Nat) a d d', i ≠ j → en[i]? = some (some (.own d)) → en[j]? = some (some (.own d')) → σ[i]? = some (some (.ref a)) → σ[j]? = some (some (.ref a)) → False
  val : ∀ (i : Nat) d, en[i]? = some (some (.v d)) → ∃ v, σ[i]? = some (some v) ∧ Rp G M H v d
  len : σ.length = en.length
section
variable {G : Gx} {F : Fr} {M M' : Addr → Prop} {H H' H2 : Hp} {σ : St} {en : En}
theorem Own.kp (k : Kp M M' H H') {a : Addr} {d : D} (h : Own G M H a d) (ha : ∀ o, H a = some o → H' a = some o) : Own G M' H' a d := by
  induction h with
  | lst h r => exact .lst (ha _ h) (r.kp k)
  | dk h r => exact .dk (ha _ h) (r.kp k)
  | dn h r => exact .dn (ha _ h) (r.kp k)
  | ins h r => exact .ins (ha _ h) (r.kp k)
  | insA h r => exact .insA (ha _ h) (r.kp k)
  | atA _ ih => exact .atA ih
theorem Own.dom {a : Addr} {d : D} (h : Own G M H a d) : H a ≠ none := by
  induction h with
  | lst h r => rw [h]; exact fun z => nomatch z
  | dk h r => rw [h]; exact fun z => nomatch z
  | dn h r => rw [h]; exact fun z => nomatch z
  | ins h r => rw [h]; exact fun z => nomatch z
  | insA h r => rw [h]; exact fun z => nomatch z
  | atA _ ih => exact ih
theorem Gr.refl : Gr F H H := fun _ _ h _ => h
theorem Gr.trans (a : Gr F H H') (b : Gr F H' H2) : Gr F H H2 := fun c o h z => b c o (a c o h z) z
theorem Gr.same (h : Same H H') : Gr F H H' := fun b o e _ => h b o e
theorem Gr.new {p : Addr} {o : HO} (h : H p = none) : Gr F H (upd H p o) := fun b u e _ => by
  rw [upd_ne (ne_of_none e h)]
  exact e
theorem Same.new {p : Addr} {o : HO} (h : H p = none) : Same H (upd H p o) := fun b u e => by
  rw [upd_ne (ne_of_none e h)]
  exact e
theorem RepS.kp (R : RepS G F M σ H en) (g : Gr F H H') : Kp M M H H' :=
  ⟨fun b o h hm => g b o h fun z => hm (R.m0 b (F.zf b z).1), fun _ _ hm => hm⟩
theorem RepS.step (R : RepS G F M σ H en) (i : F.I H') (g : Gr F H H') : RepS G F M σ H' en := by
  have k := R.kp g
  refine ⟨i, R.m0, R.mf, fun a ha => ?_, fun j d h => ?_, R.sep, fun j d h => ?_, R.len⟩
  · by_cases z : F.Z a
    · exact F.zi H' a i z
    · cases e : H a with
      | none => exact absurd e (R.dom a ha)
      | some o => rw [g a o e z]; exact fun q => nomatch q
  · obtain ⟨a, h1, h2, h3, h4, h5⟩ := R.own j d h
    exact ⟨a, h1, h2, h3, h4, h5.kp k fun o e => g a o e fun z => (F.zf a z).2 h4⟩
  · obtain ⟨v, h1, h2⟩ := R.val j d h
    exact ⟨v, h1, h2.kp k⟩
theorem RepS.same (R : RepS G F M σ H en) (s : Same H H') : RepS G F M σ H' en := R.step (F.st _ _ R.inv s) (Gr.same s)
theorem RepS.notin (R : RepS G F M σ H en) {p : Addr} (h : H p = none) : ¬ M p := fun z => R.dom p z h
end
end Pz
end
section
set_option Elab.async false
set_option linter.all false
set_option maxRecDepth 100000
set_option maxHeartbeats 4000000
/-! PzB: the judgements over data by value, names, constants, operators, tests, arguments, displays. -/
namespace Pz
open PySem PySem.Spec PyProof.Rows L2

/-! ### readings -/
/-- a value by value, any of K -/
def tW (G : Gx) (F : Fr) (en : En) (K : D → Prop) : TE := fun σ H Q => ∃ M, RepS G F M σ H en ∧ ∀ v H' d, F.I H' → Gr F H H' → Rp G M H' v d → K d → Q v H'
def Mp (M : Addr → Prop) (a : Addr) : Addr → Prop := fun b => M b ∨ b = a
/-- a new object that nobody else knows -/
def tN (G : Gx) (F : Fr) (en : En) (K : D → Prop) : TE := fun σ H Q => ∃ M, RepS G F M σ H en ∧ ∀ a H' d, F.I H' → Gr F H H' → H a = none → Own G (Mp M a) H' a d → K d → Q (.ref a) H'
theorem Kp.less {M : Addr → Prop} {H : Hp} {a : Addr} : Kp (Mp M a) M H H := ⟨fun _ _ h _ => h, fun _ _ h z => h (.inl z)⟩
theorem Kp.more {M : Addr → Prop} {H H' : Hp} {a : Addr} (h : H a = none) (s : ∀ b o, H b = some o → ¬ M b → H' b = some o) : Kp M (Mp M a) H H' := ⟨s, fun b hb hm z => z.elim hm fun e => hb (e ▸ h)⟩
theorem Kp.trans {M M1 M2 : Addr → Prop} {H H1 H2 : Hp} (a : Kp M M1 H H1) (b : Kp M1 M2 H1 H2) : Kp M M2 H H2 :=
  ⟨fun c o h hm => b.at_ c o (a.at_ c o h hm) (a.out c (by rw [h]; exact fun z => nomatch z) hm), fun c h hm => by
    cases e : H c with
    | none => exact absurd e h
    | some o => exact b.out c (by rw [a.at_ c o e hm]; exact fun z => nomatch z) (a.out c h hm)⟩
/-- by value, or what an own slot holds: to be looked at on the spot -/
def Bw (G : Gx) (M : Addr → Prop) (σ : St) (H : Hp) (en : En) (v : V) (d : D) : Prop := Rp G M H v d ∨ ∃ (i : Nat) (a : Addr) (d' : D), σ[i]? = some (some (.ref a)) ∧ en[i]? = some (some (.own d')) ∧ v = .ref a ∧ (d' = d ∨ d' = .atA a d)
def tB (G : Gx) (F : Fr) (en : En) (d : D) : TE := fun σ H Q => ∃ M, RepS G F M σ H en ∧ ∀ v H', F.I H' → Gr F H H' → Bw G M σ H' en v d → Q v H'
def tT (G : Gx) (F : Fr) (en : En) (K : Bool → Prop) : TT := fun σ H Q => ∃ M, RepS G F M σ H en ∧ ∀ b H', F.I H' → Gr F H H' → K b → Q b H'
def tA (G : Gx) (F : Fr) (en : En) (ds : List D) : TA := fun σ H Q => ∃ M, RepS G F M σ H en ∧ ∀ vs H', F.I H' → Gr F H H' → Rps G M H' vs ds → Q vs H'

def EvW (X : Cx) (F : Fr) (en : En) (e : Expr) (K : D → Prop) : Prop := PE X e (tW (gx X) F en K)
def Ev (X : Cx) (F : Fr) (en : En) (e : Expr) (d : D) : Prop := PE X e (tW (gx X) F en (fun z => z = d))
def Ef (X : Cx) (F : Fr) (en : En) (e : Expr) (d : D) : Prop := PE X e (tN (gx X) F en (fun z => z = d))
def Eb (X : Cx) (F : Fr) (en : En) (e : Expr) (d : D) : Prop := PE X e (tB (gx X) F en d)
def EtW (X : Cx) (F : Fr) (en : En) (e : Expr) (K : Bool → Prop) : Prop := PT X e (tT (gx X) F en K)
def Et (X : Cx) (F : Fr) (en : En) (e : Expr) (b : Bool) : Prop := PT X e (tT (gx X) F en (fun z => z = b))
def Ea (X : Cx) (F : Fr) (en : En) (es : List Expr) (ds : List D) : Prop := PA X es (tA (gx X) F en ds)

theorem PE.wk {X : Cx} {e : Expr} {t t' : TE} (h : PE X e t) (w : ∀ σ H Q, t' σ H Q → t σ H Q) : PE X e t' := ⟨fun pins s σ H Q I q => h.run pins s σ H Q I (w σ H Q q)⟩
theorem PT.wk {X : Cx} {e : Expr} {t t' : TT} (h : PT X e t) (w : ∀ σ H Q, t' σ H Q → t σ H Q) : PT X e t' := ⟨fun pins s σ H Q I q => h.run pins s σ H Q I (w σ H Q q)⟩
theorem PW.wk {X : Cx} {e : Expr} {t t' : TT} (h : PW X e t) (w : ∀ σ H Q, t' σ H Q → t σ H Q) : PW X e t' := ⟨fun wh pins s σ H Q I q => h.run wh pins s σ H Q I (w σ H Q q)⟩
theorem PA.wk {X : Cx} {e : List Expr} {t t' : TA} (h : PA X e t) (w : ∀ σ H Q, t' σ H Q → t σ H Q) : PA X e t' := ⟨fun p pins s σ H Q I q => h.run p pins s σ H Q I (w σ H Q q)⟩
theorem PS.wk {X : Cx} {e : Stmt} {t t' : TS} (h : PS X e t) (w : ∀ D σ H, t' D σ H → t D σ H) : PS X e t' := ⟨fun pins s σ H D I q => h.run pins s σ H D I (w D σ H q)⟩
theorem PSs.wk {X : Cx} {e : List Stmt} {t t' : TS} (h : PSs X e t) (w : ∀ D σ H, t' D σ H → t D σ H) : PSs X e t' := ⟨fun pins s σ H D I q => h.run pins s σ H D I (w D σ H q)⟩

/-- the largest reading of an operation on values -/
def rU (X : Cx) (f : Value → Value → Sem Value) : R2 := fun x y H Q => ∀ (pins : List (Addr × Obj)) (s : Shared) (σ : St) (v u : Value), Inv X pins σ H s → RelV x v → RelV y u → wpAny (model X.prog X.w) X.A (f v u) (EP X pins σ Q) X.xe s
theorem rU_ok {X : Cx} {f : Value → Value → Sem Value} : OpR X f (rU X f) := fun pins s σ H x y v u Q I rx ry h => h pins s σ v u I rx ry
theorem rU_of {X : Cx} {f : Value → Value → Sem Value} {r : R2} (h : OpR X f r) {x y : V} {H : Hp} {Q : VK} (q : r x y H Q) : rU X f x y H Q := fun pins s σ v u I rx ry => h pins s σ H x y v u Q I rx ry q
def rC (X : Cx) (f : Value) : List V → Hp → VK → Prop := fun xs H Q => ∀ (pins : List (Addr × Obj)) (s : Shared) (σ : St) (us : List Value), Inv X pins σ H s → Vals xs us → wpAny (model X.prog X.w) X.A (call f us) (EP X pins σ Q) X.xe s

section
variable {X : Cx} {F : Fr} {en : En} {G : Gx} {M : Addr → Prop} {H H' : Hp} {σ : St} {v : V} {d x y z : D}
theorem Bw.step (b : Bw G M σ H en v d) (R : RepS G F M σ H en) (i : F.I H') (g : Gr F H H') : Bw G M σ H' en v d := by
  rcases b with b | b
  · exact .inl (b.kp (R.kp g))
  · exact .inr b
theorem Bw.nod {a : Addr} (b : Bw G M σ H en v d) (R : RepS G F M σ H en) (hd : ∀ a, ¬ Own G M H a d) : Rp G M H v d := by
  rcases b with b | ⟨i, a, d', h1, h2, rfl, e⟩
  · exact b
  · obtain ⟨a', h3, _, _, _, h4⟩ := R.own i d' h2
    rcases e with rfl | rfl
    · exact absurd h4 (hd a')
    · cases h4 with
      | atA h4 => exact absurd h4 (hd _)
theorem Bw.any (b : Bw G M σ H en v d) (R : RepS G F M σ H en) : Rp G M H v d ∨ ∃ a, v = .ref a ∧ Own G M H a d := by
  rcases b with b | ⟨i, a, d', h1, h2, rfl, e⟩
  · exact .inl b
  · obtain ⟨a', h3, _, _, _, h4⟩ := R.own i d' h2
    rw [h1] at h3
    cases h3
    rcases e with rfl | rfl
    · exact .inr ⟨a, rfl, h4⟩
    · cases h4 with
      | atA h4 => exact .inr ⟨a, rfl, h4⟩
theorem Bw.int {i : Int} (b : Bw G M σ H en v (.int i)) (R : RepS G F M σ H en) : v = .int i := by
  rcases b.any R with h | ⟨a, _, h⟩
  · cases h; rfl
  · cases h
theorem Bw.str {i : Str} (b : Bw G M σ H en v (.str i)) (R : RepS G F M σ H en) : v = .str i := by
  rcases b.any R with h | ⟨a, _, h⟩
  · cases h; rfl
  · cases h
theorem Bw.bl {i : Bool} (b : Bw G M σ H en v (.bl i)) (R : RepS G F M σ H en) : v = .bl i := by
  rcases b.any R with h | ⟨a, _, h⟩
  · cases h; rfl
  · cases h
theorem Bw.non (b : Bw G M σ H en v .non) (R : RepS G F M σ H en) : v = .non := by
  rcases b.any R with h | ⟨a, _, h⟩
  · cases h; rfl
  · cases h
theorem Bw.tup {ds : List D} (b : Bw G M σ H en v (.tup ds)) (R : RepS G F M σ H en) : ∃ a vs, v = .ref a ∧ TupM G M H a vs ∧ Rps G M H vs ds := by
  rcases b.any R with h | ⟨a, _, h⟩
  · cases h with
    | tup h r => exact ⟨_, _, rfl, h, r⟩
  · cases h
theorem Bw.lst {ds : List D} (b : Bw G M σ H en v (.lst ds)) (R : RepS G F M σ H en) : ∃ a vs, v = .ref a ∧ SqL G.K H a vs ∧ Rps G M H vs ds := by
  rcases b.any R with h | ⟨a, rfl, h⟩
  · cases h with
    | lst h r => exact ⟨_, _, rfl, h.sq, r⟩
  · cases h with
    | lst h r => exact ⟨_, _, rfl, .of h, r⟩

/-! ### from one judgement to another -/
theorem Ev.w {e : Expr} {K : D → Prop} (h : Ev X F en e d) (k : K d) : EvW X F en e K := PE.wk h fun σ H Q ⟨M, R, q⟩ => ⟨M, R, fun v H' z i g r e => q v H' z i g r (e ▸ k)⟩
theorem EvW.to {e : Expr} {K K' : D → Prop} (h : EvW X F en e K) (k : ∀ z, K z → K' z) : EvW X F en e K' := PE.wk h fun σ H Q ⟨M, R, q⟩ => ⟨M, R, fun v H' z i g r e => q v H' z i g r (k z e)⟩
theorem EvW.ev {e : Expr} (h : EvW X F en e (fun z => z = d)) : Ev X F en e d := h
theorem Ev.is {e : Expr} (h : Ev X F en e d) (k : d = x) : Ev X F en e x := k ▸ h
theorem Ev.eb {e : Expr} (h : Ev X F en e d) : Eb X F en e d := PE.wk h fun σ H Q ⟨M, R, q⟩ => ⟨M, R, fun v H' z i g r e => q v H' i g (.inl (e ▸ r))⟩
/-- an object that is no longer changed: a dict is frozen -/
theorem Own.froze {pins : List (Addr × Obj)} {s : Shared} {M' : Addr → Prop} {a : Addr} (I : Inv X pins σ H s) (o : Own (gx X) M H a d) (hma : M a) (hm : ¬ M' a) (hs : ∀ b, M' b → M b) :
    ∃ u, Inv X pins σ (upd H a u) s ∧ Rp (gx X) M' (upd H a u) (.ref a) d ∧ Kp M M' H (upd H a u) := by
  have kp : M a → ∀ u, Kp M M' H (upd H a u) := fun hma u => ⟨fun b x e h => by rw [upd_ne (fun z => h (by rw [z]; exact hma))]; exact e, fun b _ h z => h (hs b z)⟩
  · induction o with
    | lst h r =>
      rename_i vs ds
      refine ⟨.lst vs, ?_, .lst (.inl ⟨.inl upd_same, hm⟩) (r.kp (kp hma _)), kp hma _⟩
      have e : upd H a (.lst vs) = H := by funext b; unfold upd; split <;> simp_all
      rw [e]; exact I
    | dk h r =>
      obtain ⟨od, I1⟩ := I.lock h trivial
      exact ⟨_, I1, .dk upd_same hm (r.kp (kp hma _)), kp hma _⟩
    | dn h r =>
      obtain ⟨od, I1⟩ := I.lock h trivial
      exact ⟨_, I1, .dn upd_same hm (r.kp (kp hma _)), kp hma _⟩
    | ins h r =>
      rename_i C dx fs es
      refine ⟨.ins C dx fs, ?_, .ins upd_same hm (r.kp (kp hma _)), kp hma _⟩
      have e : upd H a (.ins C dx fs) = H := by funext b; unfold upd; split <;> simp_all
      rw [e]; exact I
    | insA h r =>
      rename_i C dx fs es
      refine ⟨.ins C dx fs, ?_, .insA upd_same hm (r.kp (kp hma _)), kp hma _⟩
      have e : upd H a (.ins C dx fs) = H := by funext b; unfold upd; split <;> simp_all
      rw [e]; exact I
    | atA _ ih =>
      obtain ⟨u, I1, rp, kk⟩ := ih
      exact ⟨u, I1, .atA rp, kk⟩
theorem Ef.ev {e : Expr} (h : Ef X F en e d) : Ev X F en e d := ⟨fun pins s σ H Q I ⟨M, R, q⟩ =>
  thn (h.run pins s σ H (fun v H1 => ∃ a, v = .ref a ∧ F.I H1 ∧ Gr F H H1 ∧ H a = none ∧ Own (gx X) (Mp M a) H1 a d) I ⟨M, R, fun a H1 z i g n r e => ⟨a, rfl, i, g, n, e ▸ r⟩⟩) fun u s1 ⟨v, H1, I1, rv, a, ev, i, g, n, o⟩ => by
    subst ev
    obtain ⟨w, I2, rp, _⟩ := Own.froze (M' := M) I1 o (.inr rfl) (R.notin n) fun b z => .inl z
    exact ⟨.ref a, _, I2, rv, q _ _ d (F.up _ _ _ i (F.nw _ _ R.inv n)) (fun b x hb hz => by rw [upd_ne (ne_of_none hb n)]; exact g b x hb hz) rp rfl⟩⟩
theorem Ef.is {e : Expr} (h : Ef X F en e d) (k : d = x) : Ef X F en e x := k ▸ h
theorem Et.w {e : Expr} {K : Bool → Prop} {b : Bool} (h : Et X F en e b) (k : K b) : EtW X F en e K := PT.wk h fun σ H Q ⟨M, R, q⟩ => ⟨M, R, fun z H' i g e => q z H' i g (e ▸ k)⟩
theorem Et.is {e : Expr} {b c : Bool} (h : Et X F en e b) (k : b = c) : Et X F en e c := k ▸ h

/-! ### names, constants -/
theorem nm (i : Nat) {x : Str} {pos : Pos} (h : en[i]? = some (some (.v d)) := by rfl) (hN : X.N[i]? = some x := by rfl) (hv : Vis X.env.scope x := by first | exact Or.inl rfl | exact Or.inr (Or.inl rfl) | exact Or.inr (Or.inr rfl)) (hd : (x == ("__debug__" : Str)) = false := by decide)
    (hcd : (x == ("__classdict__" : Str)) = false := by decide) : Ev X F en (.Name x pos) d :=
  PE.wk (pe_var hN hv hd hcd) fun σ H Q ⟨M, R, q⟩ => by
    obtain ⟨v, h1, h2⟩ := R.val i d h
    exact ⟨v, h1, q v H d R.inv Gr.refl h2 rfl⟩
/-- an own slot, looked at -/
theorem no (i : Nat) {x : Str} {pos : Pos} (h : en[i]? = some (some (.own d)) := by rfl) (hN : X.N[i]? = some x := by rfl) (hv : Vis X.env.scope x := by first | exact Or.inl rfl | exact Or.inr (Or.inl rfl) | exact Or.inr (Or.inr rfl)) (hd : (x == ("__debug__" : Str)) = false := by decide)
    (hcd : (x == ("__classdict__" : Str)) = false := by decide) : Eb X F en (.Name x pos) d :=
  PE.wk (pe_var hN hv hd hcd) fun σ H Q ⟨M, R, q⟩ => by
    obtain ⟨a, h1, _⟩ := R.own i d h
    exact ⟨.ref a, h1, q _ H R.inv Gr.refl (.inr ⟨i, a, d, h1, h, rfl, .inl rfl⟩)⟩
/-- .. at a known address -/
theorem noA (i : Nat) {x : Str} {pos : Pos} {ad : Addr} (h : en[i]? = some (some (.own (.atA ad d))) := by rfl) (hN : X.N[i]? = some x := by rfl) (hv : Vis X.env.scope x := by first | exact Or.inl rfl | exact Or.inr (Or.inl rfl) | exact Or.inr (Or.inr rfl)) (hd : (x == ("__debug__" : Str)) = false := by decide)
    (hcd : (x == ("__classdict__" : Str)) = false := by decide) : Eb X F en (.Name x pos) d :=
  PE.wk (pe_var hN hv hd hcd) fun σ H Q ⟨M, R, q⟩ => by
    obtain ⟨a, h1, _, _, _, h5⟩ := R.own i _ h
    cases h5 with
    | atA h5 => exact ⟨.ref ad, h1, q _ H R.inv Gr.refl (.inr ⟨i, ad, .atA ad d, h1, h, rfl, .inr rfl⟩)⟩
theorem c_int {i : Int} {j : Nat} {pos : Pos} : Ev X F en (.Constant (.int i) j pos) (.int i) := PE.wk pe_int fun σ H Q ⟨M, R, q⟩ => q _ H _ R.inv Gr.refl (.int i) rfl
theorem c_bl {i : Bool} {j : Nat} {pos : Pos} : Ev X F en (.Constant (.bool i) j pos) (.bl i) := PE.wk pe_bl fun σ H Q ⟨M, R, q⟩ => q _ H _ R.inv Gr.refl (.bl i) rfl
theorem c_str {i : Str} {j : Nat} {pos : Pos} : Ev X F en (.Constant (.str i) j pos) (.str i) := PE.wk pe_str fun σ H Q ⟨M, R, q⟩ => q _ H _ R.inv Gr.refl (.str i) rfl
theorem c_non {j : Nat} {pos : Pos} : Ev X F en (.Constant .none j pos) .non := PE.wk pe_non fun σ H Q ⟨M, R, q⟩ => q _ H _ R.inv Gr.refl .non rfl
/-- a module's constant: an int, a text -/
theorem g_int {x : Str} {i : Int} {t : Tok} {pos : Pos} (hm : X.mg x = some (.int i t)) (hg : Gl X x := by rfl) (hd : (x == ("__debug__" : Str)) = false := by decide) : Ev X F en (.Name x pos) (.int i) :=
  PE.wk (pe_glob (v := .int i) hg hm ⟨t, rfl⟩ hd) fun σ H Q ⟨M, R, q⟩ => q _ H _ R.inv Gr.refl (.int i) rfl
theorem g_str {x : Str} {i : Str} {t : Tok} {pos : Pos} (hm : X.mg x = some (.str i t)) (hg : Gl X x := by rfl) (hd : (x == ("__debug__" : Str)) = false := by decide) : Ev X F en (.Name x pos) (.str i) :=
  PE.wk (pe_glob (v := .str i) hg hm ⟨t, rfl⟩ hd) fun σ H Q ⟨M, R, q⟩ => q _ H _ R.inv Gr.refl (.str i) rfl
/-- a built-in type, a class of the module, as a value -/
theorem g_ty {x : Str} {n : String} {pos : Pos} (hm : X.mg x = none) (hg : Gl X x := by rfl) (hv : bootBuiltins x = some (.type n) := by decide +kernel) (hn : x ≠ "__name__" := by decide) (hd : (x == ("__debug__" : Str)) = false := by decide) : Ev X F en (.Name x pos) (.ty n) :=
  PE.wk (pe_bltn (v := .ty n) hg hm hv rfl hn hd) fun σ H Q ⟨M, R, q⟩ => q _ H _ R.inv Gr.refl (.ty n) rfl
theorem g_ref {x : Str} {a : Addr} {pos : Pos} (hm : X.mg x = some (.ref a)) (hg : Gl X x := by rfl) (hd : (x == ("__debug__" : Str)) = false := by decide) : Ev X F en (.Name x pos) (.ref a) :=
  PE.wk (pe_glob (v := .ref a) hg hm rfl hd) fun σ H Q ⟨M, R, q⟩ => q _ H _ R.inv Gr.refl (.ref a) rfl
/-- a module's tuple of texts -/
theorem g_strs {x : Str} {a : Addr} {xs : List Str} {pos : Pos} (hm : X.mg x = some (.ref a)) (hw : WrT X.K a (xs.map .str)) (hg : Gl X x := by rfl) (hd : (x == ("__debug__" : Str)) = false := by decide) : Ev X F en (.Name x pos) (.tup (xs.map .str)) :=
  PE.wk (pe_glob (v := .ref a) hg hm rfl hd) fun σ H Q ⟨M, R, q⟩ => q _ H _ R.inv Gr.refl (.tup (.inr hw) (Rps.of_strs xs)) rfl

/-! ### operators -/
/-- an operation on two pieces of data -/
def OpD (X : Cx) (F : Fr) (en : En) (f : Value → Value → Sem Value) (x y z : D) : Prop :=
  ∀ (M : Addr → Prop) (σ : St) (H : Hp) (vx vy : V) (Q : VK), RepS (gx X) F M σ H en → Bw (gx X) M σ H en vx x → Bw (gx X) M σ H en vy y → (∀ v H', F.I H' → Gr F H H' → Rp (gx X) M H' v z → Q v H') → rU X f vx vy H Q
variable {a b c : Expr} {pos : Pos}
theorem OpD.read {f : Value → Value → Sem Value} (ha : Eb X F en a x) (hb : Eb X F en b y) (ho : OpD X F en f x y z) (σ : St) (H : Hp) (Q : VK) (h : tW (gx X) F en (fun d => d = z) σ H Q) :
    tB (gx X) F en x σ H fun vx H1 => tB (gx X) F en y σ H1 fun vy H2 => rU X f vx vy H2 Q := by
  obtain ⟨M, R, q⟩ := h
  refine ⟨M, R, fun vx H1 i1 g1 bx => ?_⟩
  have R1 := R.step i1 g1
  refine ⟨M, R1, fun vy H2 i2 g2 by_ => ?_⟩
  have R2 := R1.step i2 g2
  exact ho M σ H2 vx vy Q R2 (bx.step R1 i2 g2) by_ fun v H' i3 g3 r => q v H' z i3 ((g1.trans g2).trans g3) r rfl
theorem e_bin {op : Operator} (ha : Eb X F en a x) (hb : Eb X F en b y) (ho : OpD X F en (binaryOp op) x y z) : Ev X F en (.BinOp a op b pos) z :=
  PE.wk (pe_op rU_ok ha hb) fun σ H Q h => OpD.read ha hb ho σ H Q h
theorem e_cmp {op : CmpOp} (ha : Eb X F en a x) (hb : Eb X F en b y) (ho : OpD X F en (compareOp op) x y z) (hm : behindInMarks op b = false := by first | exact nomark _ | rfl) : Ev X F en (.Compare a [op] [b] pos) z :=
  PE.wk (pe_cmpR rU_ok ha hb hm) fun σ H Q h => OpD.read ha hb ho σ H Q h
theorem t_cmp {op : CmpOp} {k : Bool} (ha : Eb X F en a x) (hb : Eb X F en b y) (ho : OpD X F en (compareOp op) x y (.bl k)) (hm : behindInMarks op b = false := by first | exact nomark _ | rfl) : Et X F en (.Compare a [op] [b] pos) k :=
  PT.wk (pt_cmpR rU_ok ha hb hm) fun σ H Q ⟨M, R, q⟩ => OpD.read ha hb ho σ H _ ⟨M, R, fun v H' d i g r e => by
    subst e
    cases r
    exact ⟨k, rfl, q k H' i g rfl⟩⟩
theorem o_of {f : Value → Value → Sem Value} {r : R2} (ho : OpR X f r) (h : ∀ (M : Addr → Prop) (σ : St) (H : Hp) (vx vy : V) (Q : VK), RepS (gx X) F M σ H en → Bw (gx X) M σ H en vx x → Bw (gx X) M σ H en vy y → (∀ v H', F.I H' → Gr F H H' → Rp (gx X) M H' v z → Q v H') → r vx vy H Q) :
    OpD X F en f x y z := fun M σ H vx vy Q R bx by_ q => rU_of ho (h M σ H vx vy Q R bx by_ q)
/-- two ints -/
theorem o_int {f : Value → Value → Sem Value} {i j : Int} {g : Int → Int → V} (ho : OpR X f (rI0 g)) (hz : ∀ (M : Addr → Prop) (H : Hp), Rp (gx X) M H (g i j) z) : OpD X F en f (.int i) (.int j) z :=
  o_of ho fun M σ H vx vy Q R bx by_ q => ⟨i, j, bx.int R, by_.int R, q _ H R.inv Gr.refl (hz M H)⟩
theorem o_intC {f : Value → Value → Sem Value} {i j : Int} {C : Int → Int → Prop} {g : Int → Int → V} (ho : OpR X f (rI C g)) (hc : C i j) (hz : ∀ (M : Addr → Prop) (H : Hp), Rp (gx X) M H (g i j) z) : OpD X F en f (.int i) (.int j) z :=
  o_of ho fun M σ H vx vy Q R bx by_ q => ⟨i, j, bx.int R, by_.int R, hc, q _ H R.inv Gr.refl (hz M H)⟩
theorem o_add {i j : Int} : OpD X F en (binaryOp .Add) (.int i) (.int j) (.int (i + j)) := o_int op_add fun _ _ => .int _
theorem o_sub {i j : Int} : OpD X F en (binaryOp .Sub) (.int i) (.int j) (.int (i - j)) := o_int op_sub fun _ _ => .int _
theorem o_mod {i j : Int} (h : j ≠ 0) : OpD X F en (binaryOp .Mod) (.int i) (.int j) (.int (i.fmod j)) := o_intC op_modN h fun _ _ => .int _
theorem o_lt {i j : Int} : OpD X F en (compareOp .Lt) (.int i) (.int j) (.bl (decide (i < j))) := o_int op_lt fun _ _ => .bl _
theorem o_gt {i j : Int} : OpD X F en (compareOp .Gt) (.int i) (.int j) (.bl (decide (j < i))) := o_int op_gt fun _ _ => .bl _
theorem o_le {i j : Int} : OpD X F en (compareOp .LtE) (.int i) (.int j) (.bl (decide (i ≤ j))) := o_int op_le fun _ _ => .bl _
theorem o_isN (h : x ≠ .non) : OpD X F en (compareOp .Is) x .non (.bl false) := o_of op_isN fun M σ H vx vy Q R bx by_ q => ⟨by_.non R, by
  have e : vx ≠ .non := fun e => by
    subst e
    rcases bx.any R with r | ⟨a, e, _⟩
    · cases r; exact h rfl
    · cases e
  rw [decide_eq_false e]
  exact q _ H R.inv Gr.refl (.bl _)⟩
theorem o_isNn : OpD X F en (compareOp .Is) .non .non (.bl true) := o_of op_isN fun M σ H vx vy Q R bx by_ q => ⟨by_.non R, by
  rw [bx.non R]
  exact q _ H R.inv Gr.refl (.bl _)⟩
theorem o_notN (h : x ≠ .non) : OpD X F en (compareOp .IsNot) x .non (.bl true) := o_of op_notN fun M σ H vx vy Q R bx by_ q => ⟨by_.non R, by
  have e : vx ≠ .non := fun e => by
    subst e
    rcases bx.any R with r | ⟨a, e, _⟩
    · cases r; exact h rfl
    · cases e
  rw [decide_eq_false e]
  exact q _ H R.inv Gr.refl (.bl _)⟩
theorem o_notNn : OpD X F en (compareOp .IsNot) .non .non (.bl false) := o_of op_notN fun M σ H vx vy Q R bx by_ q => ⟨by_.non R, by
  rw [bx.non R]
  exact q _ H R.inv Gr.refl (.bl _)⟩
theorem o_eqS {i j : Str} : OpD X F en (compareOp .Eq) (.str i) (.str j) (.bl (decide (i = j))) := o_of op_eq fun M σ H vx vy Q R bx by_ q => by
  rw [bx.str R, by_.str R]
  refine ⟨rfl, ?_⟩
  rw [dec_str, ← Bool.beq_eq_decide_eq] at *
  exact q _ H R.inv Gr.refl (.bl _)
theorem o_neS {i j : Str} : OpD X F en (compareOp .NotEq) (.str i) (.str j) (.bl (!decide (i = j))) := o_of op_ne fun M σ H vx vy Q R bx by_ q => by
  rw [bx.str R, by_.str R]
  refine ⟨rfl, ?_⟩
  rw [dec_str, ← Bool.beq_eq_decide_eq] at *
  exact q _ H R.inv Gr.refl (.bl _)
theorem o_eqI {i j : Int} : OpD X F en (compareOp .Eq) (.int i) (.int j) (.bl (decide (i = j))) := o_of op_eq fun M σ H vx vy Q R bx by_ q => by
  rw [bx.int R, by_.int R]
  refine ⟨rfl, ?_⟩
  rw [dec_int, ← Bool.beq_eq_decide_eq] at *
  exact q _ H R.inv Gr.refl (.bl _)
theorem o_addS {i j : Str} (h : i.length + j.length ≤ sizeLine) : OpD X F en (binaryOp .Add) (.str i) (.str j) (.str (i ++ j)) := o_of op_add_str fun M σ H vx vy Q R bx by_ q =>
  ⟨i, j, bx.str R, by_.str R, h, q _ H R.inv Gr.refl (.str _)⟩
theorem o_leS {i j : Str} : OpD X F en (compareOp .LtE) (.str i) (.str j) (.bl (!decide (j.cps.toList < i.cps.toList))) := o_of op_le_str fun M σ H vx vy Q R bx by_ q =>
  ⟨i, j, bx.str R, by_.str R, q _ H R.inv Gr.refl (.bl _)⟩
theorem o_catT {xs ys : List D} (h : xs.length + ys.length ≤ sizeLine) : OpD X F en (binaryOp .Add) (.tup xs) (.tup ys) (.tup (xs ++ ys)) := o_of op_catA fun M σ H vx vy Q R bx by_ q => by
  obtain ⟨a, vs, rfl, ha, ra⟩ := bx.tup R
  obtain ⟨b, ws, rfl, hb, rb⟩ := by_.tup R
  refine ⟨a, b, vs, ws, rfl, rfl, ha.sq, hb.sq, by rw [ra.length, rb.length]; exact h, fun e => ?_, fun e1 e2 => ?_, fun e1 e2 p hp => ?_⟩
  · subst e
    cases ra
    exact q _ H R.inv Gr.refl (.tup hb rb)
  · subst e2
    cases rb
    rw [List.append_nil] at q
    exact q _ H R.inv Gr.refl (.tup ha ra)
  · refine q _ _ (F.up _ _ _ R.inv (F.nw _ _ R.inv hp)) (Gr.new hp) (.tup (.inl ⟨.inl upd_same, R.notin hp⟩) ?_)
    exact (ra.append rb).kp (R.kp (Gr.new hp))

/-! ### == over data -/
mutual
def D.py : D → PyData
  | .non => .none
  | .bl b => .bool b
  | .int i => .int i
  | .str x => .str x
  | .tup ds => .tuple (pys ds)
  | .lst ds => .list (pys ds)
  | _ => .dict []
def pys : List D → List PyData
  | [] => []
  | d :: ds => d.py :: pys ds
end
theorem pys_map : ∀ ds : List D, pys ds = ds.map D.py
  | [] => rfl
  | d :: ds => congrArg _ (pys_map ds)
mutual
theorem Rp.dp : ∀ {v : V} {d : D}, Rp G M H v d → d.py.canLay0 = true → Dp G.K H v d.py
  | _, _, .non, _ => .non
  | _, _, .bl b, _ => .bl b
  | _, _, .int i, _ => .int i
  | _, _, .str x, _ => .str x
  | _, _, .ref a, h => by simp [D.py, PyData.canLay0] at h
  | _, _, .ty a, h => by simp [D.py, PyData.canLay0] at h
  | _, _, .tup h r, k => .tup h.sq (Rps.dp r (by simpa [D.py, PyData.canLay0] using k))
  | _, _, .ntp _ _ _ _, h => by simp [D.py, PyData.canLay0] at h
  | _, _, .lst h r, k => .lst h.sq (Rps.dp r (by simpa [D.py, PyData.canLay0] using k))
  | _, _, .dk _ _ _, h => by simp [D.py, PyData.canLay0] at h
  | _, _, .dn _ _ _, h => by simp [D.py, PyData.canLay0] at h
  | _, _, .ins _ _ _, h => by simp [D.py, PyData.canLay0] at h
  | _, _, .atA _, h => by simp [D.py, PyData.canLay0] at h
theorem Rps.dp : ∀ {v : List V} {d : List D}, Rps G M H v d → PyData.canLayAll0 (pys d) = true → DpAll G.K H v (pys d)
  | _, _, .nil, _ => .nil
  | _, _, .cons a r, k => by
    simp only [pys, PyData.canLayAll0, Bool.and_eq_true] at k
    exact .cons (Rp.dp a k.1) (Rps.dp r k.2)
end
theorem Bw.dp (b : Bw G M σ H en v d) (R : RepS G F M σ H en) (h : d.py.canLay0 = true) : Dp G.K H v d.py := by
  rcases b.any R with r | ⟨a, rfl, o⟩
  · exact r.dp h
  · cases o with
    | lst e r => exact .lst (.of e) (r.dp (by simpa [D.py, PyData.canLay0] using h))
    | dk e r => simp [D.py, PyData.canLay0] at h
    | dn e r => simp [D.py, PyData.canLay0] at h
    | ins e r => simp [D.py, PyData.canLay0] at h
    | insA e r => simp [D.py, PyData.canLay0] at h
    | atA _ => simp [D.py, PyData.canLay0] at h
theorem o_eq (hu : X.A.units + 64 < cLine) (hx : SeqAt.shaped x.py = true) (hy : SeqAt.shaped y.py = true) : OpD X F en (compareOp .Eq) x y (.bl (PyData.eqv x.py y.py)) := o_of (op_eqD hu) fun M σ H vx vy Q R bx by_ q =>
  ⟨x.py, y.py, bx.dp R (SeqAt.canLay_of_shaped hx), by_.dp R (SeqAt.canLay_of_shaped hy), hx, hy, q _ H R.inv Gr.refl (.bl _)⟩
theorem o_ne (hu : X.A.units + 64 < cLine) (hx : SeqAt.shaped x.py = true) (hy : SeqAt.shaped y.py = true) : OpD X F en (compareOp .NotEq) x y (.bl (!PyData.eqv x.py y.py)) := o_of (op_neD hu) fun M σ H vx vy Q R bx by_ q =>
  ⟨x.py, y.py, bx.dp R (SeqAt.canLay_of_shaped hx), by_.dp R (SeqAt.canLay_of_shaped hy), hx, hy, q _ H R.inv Gr.refl (.bl _)⟩
theorem OpD.is {f : Value → Value → Sem Value} (h : OpD X F en f x y z) {z' : D} (e : z = z') : OpD X F en f x y z' := e ▸ h

/-! ### tests -/
theorem t_bool {k : Bool} (h : Ev X F en a (.bl k)) (he : ∀ whole, isTrue a X.env whole = (do let v ← whole; standAt a.pos; holding [v] (truthy v)) := by intro _; rfl) : Et X F en a k :=
  PT.wk (pt_val h he) fun σ H Q ⟨M, R, q⟩ => ⟨M, R, fun v H' d i g r e => by
    subst e
    cases r
    exact ⟨k, rfl, q k H' i g rfl⟩⟩
theorem t_not {k : Bool} (h : Et X F en a k) : Et X F en (.UnaryOp .Not a pos) (!k) :=
  PT.wk (pt_not h) fun σ H Q ⟨M, R, q⟩ => ⟨M, R, fun b H' i g e => q _ H' i g (e ▸ rfl)⟩
theorem t_notW {K : Bool → Prop} (h : EtW X F en a K) : EtW X F en (.UnaryOp .Not a pos) (fun k => K (!k)) :=
  PT.wk (pt_not h) fun σ H Q ⟨M, R, q⟩ => ⟨M, R, fun b H' i g e => q _ H' i g (by show K (!!b); rw [Bool.not_not]; exact e)⟩
/-- and, or, as tests: a chain -/
def Ew (X : Cx) (F : Fr) (en : En) (e : Expr) (b : Bool) : Prop := PW X e (tT (gx X) F en (fun z => z = b))
theorem Ew.t {e : Expr} {k : Bool} (h : Ew X F en e k) : Et X F en e k := PW.pt h
theorem w_and1 {k : Bool} (h : Et X F en a k) : Ew X F en (.BoolOp .And [a] pos) k := pw_and1 h
theorem w_or1 {k : Bool} (h : Et X F en a k) : Ew X F en (.BoolOp .Or [a] pos) k := pw_or1 h
theorem w_andF {r : List Expr} (h : Et X F en a false) : Ew X F en (.BoolOp .And (a :: b :: r) pos) false :=
  PW.wk (pw_and h (tB' := fun _ _ _ => False) ⟨fun _ _ _ _ _ _ _ z => z.elim⟩) fun σ H Q ⟨M, R, q⟩ => ⟨M, R, fun k H' i g e => by
    subst e
    exact iteF (q _ H' i g rfl)⟩
theorem w_andT {r : List Expr} {k : Bool} (h : Et X F en a true) (h2 : Ew X F en (.BoolOp .And (b :: r) pos) k) : Ew X F en (.BoolOp .And (a :: b :: r) pos) k :=
  PW.wk (pw_and h h2) fun σ H Q ⟨M, R, q⟩ => ⟨M, R, fun j H' i g e => by
    subst e
    exact iteT ⟨M, R.step i g, fun j' H2 i2 g2 e2 => q _ H2 i2 (g.trans g2) e2⟩⟩
theorem w_orT {r : List Expr} (h : Et X F en a true) : Ew X F en (.BoolOp .Or (a :: b :: r) pos) true :=
  PW.wk (pw_or h (tB' := fun _ _ _ => False) ⟨fun _ _ _ _ _ _ _ z => z.elim⟩) fun σ H Q ⟨M, R, q⟩ => ⟨M, R, fun k H' i g e => by
    subst e
    exact iteT (q _ H' i g rfl)⟩
theorem w_orF {r : List Expr} {k : Bool} (h : Et X F en a false) (h2 : Ew X F en (.BoolOp .Or (b :: r) pos) k) : Ew X F en (.BoolOp .Or (a :: b :: r) pos) k :=
  PW.wk (pw_or h h2) fun σ H Q ⟨M, R, q⟩ => ⟨M, R, fun j H' i g e => by
    subst e
    exact iteF ⟨M, R.step i g, fun j' H2 i2 g2 e2 => q _ H2 i2 (g.trans g2) e2⟩⟩
theorem w_and {r : List Expr} {j k : Bool} (h : Et X F en a j) (h2 : j = true → Ew X F en (.BoolOp .And (b :: r) pos) k) : Ew X F en (.BoolOp .And (a :: b :: r) pos) (j && k) := by
  cases j with
  | false => exact w_andF h
  | true => exact w_andT h (h2 rfl)
theorem w_or {r : List Expr} {j k : Bool} (h : Et X F en a j) (h2 : j = false → Ew X F en (.BoolOp .Or (b :: r) pos) k) : Ew X F en (.BoolOp .Or (a :: b :: r) pos) (j || k) := by
  cases j with
  | true => exact w_orT h
  | false => exact w_orF h (h2 rfl)
/-- .. as values (all but the last True or False) -/
theorem e_one {op : BoolOp} (h : Ev X F en a d) : Ev X F en (.BoolOp op [a] pos) d := pe_one h
theorem e_andF {r : List Expr} (h : Ev X F en a (.bl false)) : Ev X F en (.BoolOp .And (a :: b :: r) pos) (.bl false) :=
  PE.wk (pe_and h (tb := fun _ _ _ => False) ⟨fun _ _ _ _ _ _ z => z.elim⟩) fun σ H Q ⟨M, R, q⟩ => ⟨M, R, fun v H' d i g rr e => by
    subst e
    cases rr
    exact ⟨false, rfl, iteF (q _ H' _ i g (.bl _) rfl)⟩⟩
theorem e_andT {r : List Expr} (h : Ev X F en a (.bl true)) (h2 : Ev X F en (.BoolOp .And (b :: r) pos) d) : Ev X F en (.BoolOp .And (a :: b :: r) pos) d :=
  PE.wk (pe_and h h2) fun σ H Q ⟨M, R, q⟩ => ⟨M, R, fun v H' d i g rr e => by
    subst e
    cases rr
    exact ⟨true, rfl, iteT ⟨M, R.step i g, fun v2 H2 d2 i2 g2 r2 e2 => q _ H2 _ i2 (g.trans g2) r2 e2⟩⟩⟩
theorem e_orT {r : List Expr} (h : Ev X F en a (.bl true)) : Ev X F en (.BoolOp .Or (a :: b :: r) pos) (.bl true) :=
  PE.wk (pe_or h (tb := fun _ _ _ => False) ⟨fun _ _ _ _ _ _ z => z.elim⟩) fun σ H Q ⟨M, R, q⟩ => ⟨M, R, fun v H' d i g rr e => by
    subst e
    cases rr
    exact ⟨true, rfl, iteT (q _ H' _ i g (.bl _) rfl)⟩⟩
theorem e_orF {r : List Expr} (h : Ev X F en a (.bl false)) (h2 : Ev X F en (.BoolOp .Or (b :: r) pos) d) : Ev X F en (.BoolOp .Or (a :: b :: r) pos) d :=
  PE.wk (pe_or h h2) fun σ H Q ⟨M, R, q⟩ => ⟨M, R, fun v H' d i g rr e => by
    subst e
    cases rr
    exact ⟨false, rfl, iteF ⟨M, R.step i g, fun v2 H2 d2 i2 g2 r2 e2 => q _ H2 _ i2 (g.trans g2) r2 e2⟩⟩⟩
theorem e_and {r : List Expr} {j k : Bool} (h : Ev X F en a (.bl j)) (h2 : j = true → Ev X F en (.BoolOp .And (b :: r) pos) (.bl k)) : Ev X F en (.BoolOp .And (a :: b :: r) pos) (.bl (j && k)) := by
  cases j with
  | false => exact e_andF h
  | true => exact e_andT h (h2 rfl)
theorem e_not {k : Bool} (h : Ev X F en a (.bl k)) : Ev X F en (.UnaryOp .Not a pos) (.bl (!k)) :=
  PE.wk (pe_not h) fun σ H Q ⟨M, R, q⟩ => ⟨M, R, fun v H' d i g r e => by
    subst e
    cases r
    exact ⟨k, rfl, q _ H' _ i g (.bl _) rfl⟩⟩
theorem e_ifT (h : Et X F en c true) (ha : Ev X F en a d) : Ev X F en (.IfExp c a b pos) d :=
  PE.wk (pe_ifExp h ha (tb := fun _ _ _ => False) ⟨fun _ _ _ _ _ _ z => z.elim⟩) fun σ H Q ⟨M, R, q⟩ => ⟨M, R, fun k H' i g e => by
    subst e
    exact iteT ⟨M, R.step i g, fun v2 H2 d2 i2 g2 r2 e2 => q _ H2 _ i2 (g.trans g2) r2 e2⟩⟩
theorem e_ifF (h : Et X F en c false) (hb : Ev X F en b d) : Ev X F en (.IfExp c a b pos) d :=
  PE.wk (pe_ifExp h (ta := fun _ _ _ => False) ⟨fun _ _ _ _ _ _ z => z.elim⟩ hb) fun σ H Q ⟨M, R, q⟩ => ⟨M, R, fun k H' i g e => by
    subst e
    exact iteF ⟨M, R.step i g, fun v2 H2 d2 i2 g2 r2 e2 => q _ H2 _ i2 (g.trans g2) r2 e2⟩⟩

/-! ### arguments, displays -/
variable {e : Expr} {es : List Expr} {ds : List D}
theorem a_nil : Ea X F en [] [] := PA.wk pa_nil fun σ H Q ⟨M, R, q⟩ => q [] H R.inv Gr.refl .nil
theorem a_cons (h : Ev X F en e d) (hr : Ea X F en es ds) (hs : starEach (e :: es) X.env = (false, eval e X.env) :: starEach es X.env := by rfl) : Ea X F en (e :: es) (d :: ds) :=
  PA.wk (pa_cons h hr hs) fun σ H Q ⟨M, R, q⟩ => ⟨M, R, fun v H1 z i g r e => ⟨M, R.step i g, fun vs H2 i2 g2 r2 => by
    subst e
    exact q _ H2 i2 (g.trans g2) (.cons (r.kp ((R.step i g).kp g2)) r2)⟩⟩
theorem a_star {p : Pos} {xs : List D} (h : Ev X F en e (.tup xs)) (hr : Ea X F en es ds) (hs : starEach (.Starred e p :: es) X.env = (true, eval e X.env) :: starEach es X.env := by rfl) : Ea X F en (.Starred e p :: es) (xs ++ ds) :=
  PA.wk (StX.pa_star h hr hs) fun σ H Q ⟨M, R, q⟩ => ⟨M, R, fun v H1 z i g r e => by
    subst e
    cases r with
    | tup ht rs => exact ⟨_, _, rfl, .inl ht.sq, M, R.step i g, fun vs H2 i2 g2 r2 => q _ H2 i2 (g.trans g2) ((rs.kp ((R.step i g).kp g2)).append r2)⟩⟩
theorem a_starL {p : Pos} {xs : List D} (h : Ev X F en e (.lst xs)) (hr : Ea X F en es ds) (hs : starEach (.Starred e p :: es) X.env = (true, eval e X.env) :: starEach es X.env := by rfl) : Ea X F en (.Starred e p :: es) (xs ++ ds) :=
  PA.wk (StX.pa_star h hr hs) fun σ H Q ⟨M, R, q⟩ => ⟨M, R, fun v H1 z i g r e => by
    subst e
    cases r with
    | lst ht rs => exact ⟨_, _, rfl, .inr ht.sq, M, R.step i g, fun vs H2 i2 g2 r2 => q _ H2 i2 (g.trans g2) ((rs.kp ((R.step i g).kp g2)).append r2)⟩⟩
theorem RepS.new_tup {vs : List V} {p : Addr} (R : RepS (gx X) F M σ H en) (hp : H p = none) (r : Rps (gx X) M H vs ds) : F.I (upd H p (.tup vs)) ∧ Gr F H (upd H p (.tup vs)) ∧ Rp (gx X) M (upd H p (.tup vs)) (.ref p) (.tup ds) :=
  ⟨F.up _ _ _ R.inv (F.nw _ _ R.inv hp), Gr.new hp, .tup (.inl ⟨.inl upd_same, R.notin hp⟩) (r.kp (R.kp (Gr.new hp)))⟩
theorem e_tup {x1 : Nat} (h : Ea X F en es ds) (hl : ds.length ≤ sizeLine) : Ev X F en (.Tuple es x1 pos) (.tup ds) :=
  PE.wk (pe_tup h) fun σ H Q ⟨M, R, q⟩ => ⟨M, R, fun vs H1 i g r => ⟨by rw [r.length]; exact hl, fun p hp => by
    obtain ⟨i2, g2, r2⟩ := (R.step i g).new_tup hp r
    exact q _ _ _ i2 (g.trans g2) r2 rfl⟩⟩
theorem f_lst (h : Ea X F en es ds) (hl : ds.length ≤ sizeLine) : Ef X F en (.List es pos) (.lst ds) :=
  PE.wk (pe_lst h) fun σ H Q ⟨M, R, q⟩ => ⟨M, R, fun vs H1 i g r => ⟨by rw [r.length]; exact hl, fun p hp => by
    have R1 := R.step i g
    have hp0 : H p = none := by
      cases e : H p with
      | none => rfl
      | some o =>
        by_cases z : F.Z p
        · exact absurd hp (F.zi H1 p i z)
        · rw [g p o e z] at hp; cases hp
    exact q _ _ _ (F.up _ _ _ R1.inv (F.nw _ _ R1.inv hp)) (g.trans (Gr.new hp)) hp0 (.lst upd_same (r.kp (.more hp (R1.kp (Gr.new hp)).at_))) rfl⟩⟩
end
end Pz
end
section
set_option Elab.async false
set_option linter.all false
set_option maxRecDepth 100000
set_option maxHeartbeats 4000000
/-! PzC: slots stored, statements, loops, comprehensions, calls of defs. -/
namespace Pz
open PySem PySem.Spec PyProof.Rows L2

/-! ### slots -/
section
variable {G : Gx} {F : Fr} {M M' : Addr → Prop} {H H' H2 : Hp} {σ σ' : St} {en : En} {v : V} {d : D} {i : Nat}
theorem getset {α : Type} {l : List α} {i j : Nat} {x y : α} (h : (l.set i x)[j]? = some y) : (j = i ∧ y = x ∧ i < l.length) ∨ (j ≠ i ∧ l[j]? = some y) := by
  by_cases e : i = j
  · subst e
    by_cases hl : i < l.length
    · rw [List.getElem?_set_self hl] at h
      exact .inl ⟨rfl, (Option.some.inj h).symm, hl⟩
    · rw [List.getElem?_eq_none (by simpa using hl)] at h
      cases h
  · rw [List.getElem?_set_ne e] at h
    exact .inr ⟨fun z => e z.symm, h⟩
theorem RepS.setv (R : RepS G F M σ H en) (r : Rp G M H v d) : RepS G F M (σ.set i (some v)) H (en.set i (some (.v d))) := by
  refine ⟨R.inv, R.m0, R.mf, R.dom, fun j d' h => ?_, fun j k a d1 d2 hn h1 h2 g1 g2 => ?_, fun j d' h => ?_, by simp [R.len]⟩
  · rcases getset h with ⟨_, e, _⟩ | ⟨hn, h⟩
    · cases e
    · rw [List.getElem?_set_ne (Ne.symm hn)]
      exact R.own j d' h
  · rcases getset h1 with ⟨_, e, _⟩ | ⟨n1, h1⟩
    · cases e
    · rcases getset h2 with ⟨_, e, _⟩ | ⟨n2, h2⟩
      · cases e
      · rw [List.getElem?_set_ne (Ne.symm n1)] at g1
        rw [List.getElem?_set_ne (Ne.symm n2)] at g2
        exact R.sep j k a d1 d2 hn h1 h2 g1 g2
  · rcases getset h with ⟨e, e2, hl⟩ | ⟨hn, h⟩
    · cases e2
      subst e
      exact ⟨v, List.getElem?_set_self (by rw [R.len]; exact hl), r⟩
    · rw [List.getElem?_set_ne (Ne.symm hn)]
      exact R.val j d' h
/-- more is not by value -/
theorem RepS.more {a : Addr} (R : RepS G F M σ H en) (i : F.I H') (g : Gr F H H') (hn : H a = none) (hf : F.fresh a) (hd : H' a ≠ none) : RepS G F (Mp M a) σ H' en := by
  have k : Kp M (Mp M a) H H' := .more hn (R.kp g).at_
  have R1 := R.step i g
  refine ⟨i, fun b hb => .inl (R.m0 b hb), fun b hb => hb.elim (R.mf b) fun e => .inr (e ▸ hf), fun b hb => hb.elim (R1.dom b) fun e => e ▸ hd, fun j d h => ?_, R.sep, fun j d h => ?_, R.len⟩
  · obtain ⟨b, h1, h2, h3, h4, h5⟩ := R.own j d h
    exact ⟨b, h1, .inl h2, h3, h4, h5.kp k fun o e => g b o e fun z => (F.zf b z).2 h4⟩
  · obtain ⟨w, h1, h2⟩ := R.val j d h
    exact ⟨w, h1, h2.kp k⟩
/-- what an own slot may hold: new to all slots -/
structure NewO (G : Gx) (F : Fr) (M : Addr → Prop) (H : Hp) (σ : St) (en : En) (a : Addr) (d : D) : Prop where
  m : M a
  m0 : ¬ F.M0 a
  fr : F.fresh a
  own : Own G M H a d
  apart : ∀ (i : Nat) d', en[i]? = some (some (.own d')) → σ[i]? = some (some (.ref a)) → False
theorem RepS.seto {a : Addr} (R : RepS G F M σ H en) (n : NewO G F M H σ en a d) : RepS G F M (σ.set i (some (.ref a))) H (en.set i (some (.own d))) := by
  refine ⟨R.inv, R.m0, R.mf, R.dom, fun j d' h => ?_, fun j k b d1 d2 hn h1 h2 g1 g2 => ?_, fun j d' h => ?_, by simp [R.len]⟩
  · rcases getset h with ⟨e, e2, hl⟩ | ⟨hn, h⟩
    · cases e2
      subst e
      exact ⟨a, List.getElem?_set_self (by rw [R.len]; exact hl), n.m, n.m0, n.fr, n.own⟩
    · rw [List.getElem?_set_ne (Ne.symm hn)]
      exact R.own j d' h
  · rcases getset h1 with ⟨e1, c1, l1⟩ | ⟨n1, h1⟩
    · cases c1
      subst e1
      rw [List.getElem?_set_self (by rw [R.len]; exact l1)] at g1
      cases g1
      rcases getset h2 with ⟨e2, _, _⟩ | ⟨n2, h2⟩
      · exact hn e2.symm
      · rw [List.getElem?_set_ne (Ne.symm n2)] at g2
        exact n.apart k d2 h2 g2
    · rw [List.getElem?_set_ne (Ne.symm n1)] at g1
      have h1' := h1
      rcases getset h2 with ⟨e2, c2, l2⟩ | ⟨n2, h2⟩
      · cases c2
        subst e2
        rw [List.getElem?_set_self (by rw [R.len]; exact l2)] at g2
        cases g2
        exact n.apart j d1 (by rename_i q; first | exact h1' | exact q) g1
      · rw [List.getElem?_set_ne (Ne.symm n2)] at g2
        exact R.sep j k b d1 d2 hn h1 h2 g1 g2
  · rcases getset h with ⟨_, e, _⟩ | ⟨hn, h⟩
    · cases e
    · rw [List.getElem?_set_ne (Ne.symm hn)]
      exact R.val j d' h
/-- a slot's own object is changed -/
theorem RepS.chg {a : Addr} {o : HO} {d' : D} (R : RepS G F M σ H en) (h : en[i]? = some (some (.own d))) (ha : σ[i]? = some (some (.ref a))) (ho : Own G M (upd H a o) a d') : RepS G F M σ (upd H a o) (en.set i (some (.own d'))) := by
  obtain ⟨a', h1, h2, h3, h4, h5⟩ := R.own i d h
  rw [ha] at h1
  cases h1
  have k : Kp M M H (upd H a o) := ⟨fun b u e hm => by rw [upd_ne (fun z => hm (by rw [z]; exact h2))]; exact e, fun _ _ hm => hm⟩
  have hi : i < en.length := (List.getElem?_eq_some_iff.mp h).1
  refine ⟨F.up _ _ _ R.inv h4, R.m0, R.mf, fun b hb => ?_, fun j d1 hj => ?_, fun j l b d1 d2 hn g1 g2 e1 e2 => ?_, fun j d1 hj => ?_, by simp [R.len]⟩
  · by_cases e : b = a
    · subst e; rw [upd_same]; exact fun z => nomatch z
    · rw [upd_ne e]; exact R.dom b hb
  · rcases getset hj with ⟨e, e2, hl⟩ | ⟨hn, hj⟩
    · cases e2
      subst e
      exact ⟨a, ha, h2, h3, h4, ho⟩
    · obtain ⟨b, g1, g2, g3, g4, g5⟩ := R.own j d1 hj
      have nb : b ≠ a := fun e => R.sep j i a d1 d hn hj h (e ▸ g1) ha
      exact ⟨b, g1, g2, g3, g4, g5.kp k fun u e => by rw [upd_ne nb]; exact e⟩
  · have c1 : ∃ z, en[j]? = some (some (.own z)) := by
      rcases getset g1 with ⟨e, _, _⟩ | ⟨_, g1⟩
      · exact ⟨d, e ▸ h⟩
      · exact ⟨d1, g1⟩
    have c2 : ∃ z, en[l]? = some (some (.own z)) := by
      rcases getset g2 with ⟨e, _, _⟩ | ⟨_, g2⟩
      · exact ⟨d, e ▸ h⟩
      · exact ⟨d2, g2⟩
    obtain ⟨z1, c1⟩ := c1
    obtain ⟨z2, c2⟩ := c2
    exact R.sep j l b z1 z2 hn c1 c2 e1 e2
  · rcases getset hj with ⟨_, e, _⟩ | ⟨hn, hj⟩
    · cases e
    · obtain ⟨w, g1, g2⟩ := R.val j d1 hj
      exact ⟨w, g1, g2.kp k⟩
/-- a slot forgotten -/
theorem RepS.drop (R : RepS G F M σ H en) : RepS G F M (σ.set i none) H (en.set i none) := by
  refine ⟨R.inv, R.m0, R.mf, R.dom, fun j d' h => ?_, fun j k a d1 d2 hn h1 h2 g1 g2 => ?_, fun j d' h => ?_, by simp [R.len]⟩
  · rcases getset h with ⟨_, e, _⟩ | ⟨hn, h⟩
    · cases e
    · rw [List.getElem?_set_ne (Ne.symm hn)]
      exact R.own j d' h
  · rcases getset h1 with ⟨_, e, _⟩ | ⟨n1, h1⟩
    · cases e
    · rcases getset h2 with ⟨_, e, _⟩ | ⟨n2, h2⟩
      · cases e
      · rw [List.getElem?_set_ne (Ne.symm n1)] at g1
        rw [List.getElem?_set_ne (Ne.symm n2)] at g2
        exact R.sep j k a d1 d2 hn h1 h2 g1 g2
  · rcases getset h with ⟨e, e2, hl⟩ | ⟨hn, h⟩
    · cases e2
    · rw [List.getElem?_set_ne (Ne.symm hn)]
      exact R.val j d' h
def wipeE (en : En) : List Nat → En
  | [] => en
  | i :: is => (wipeE en is).set i none
theorem RepS.wipe (R : RepS G F M σ H en) : ∀ is : List Nat, RepS G F M (L2.wipe σ is) H (wipeE en is)
  | [] => R
  | i :: is => (RepS.wipe R is).drop
/-- an own slot's object is no longer changed: it stands by value -/
theorem RepS.frz {X : Cx} {pins : List (Addr × Obj)} {s : Shared} (R : RepS (gx X) F M σ H en) (I : Inv X pins σ H s) (h : en[i]? = some (some (.own d))) : ∃ M' a u, RepS (gx X) F M' σ (upd H a u) (en.set i (some (.v d))) ∧ Inv X pins σ (upd H a u) s ∧ Kp M M' H (upd H a u) := by
  obtain ⟨a, h1, h2, h3, h4, h5⟩ := R.own i d h
  obtain ⟨u, I2, rp, k⟩ := Own.froze (M' := fun b => M b ∧ b ≠ a) I h5 h2 (fun z => z.2 rfl) fun b z => z.1
  refine ⟨fun b => M b ∧ b ≠ a, a, u, ⟨F.up _ _ _ R.inv h4, fun b hb => ⟨R.m0 b hb, fun e => h3 (e ▸ hb)⟩, fun b hb => R.mf b hb.1, fun b hb => by rw [upd_ne hb.2]; exact R.dom b hb.1, fun j d1 hj => ?_, fun j l b d1 d2 hn g1 g2 e1 e2 => ?_, fun j d1 hj => ?_, by simp [R.len]⟩, I2, k⟩
  · rcases getset hj with ⟨_, e, _⟩ | ⟨hn, hj⟩
    · cases e
    · obtain ⟨b, g1, g2, g3, g4, g5⟩ := R.own j d1 hj
      have nb : b ≠ a := fun e => R.sep j i a d1 d hn hj h (e ▸ g1) h1
      exact ⟨b, g1, ⟨g2, nb⟩, g3, g4, g5.kp k fun _ e => by rw [upd_ne nb]; exact e⟩
  · rcases getset g1 with ⟨_, e, _⟩ | ⟨n1, g1⟩
    · cases e
    · rcases getset g2 with ⟨_, e, _⟩ | ⟨n2, g2⟩
      · cases e
      · exact R.sep j l b d1 d2 hn g1 g2 e1 e2
  · rcases getset hj with ⟨e, e2, hl⟩ | ⟨hn, hj⟩
    · cases e2
      subst e
      exact ⟨.ref a, h1, rp⟩
    · obtain ⟨w, g1, g2⟩ := R.val j d1 hj
      exact ⟨w, g1, g2.kp k⟩
end

/-! ### statements -/
structure KD where
  nx : En → Prop
  rt : D → Prop
  bk : En → Prop := fun _ => False
  ct : En → Prop := fun _ => False
  ro : D → Prop := fun _ => False
  re : En → D → Prop := fun _ _ => False
/-- the wanted ends, from where one stands -/
structure ES (G : Gx) (F : Fr) (M : Addr → Prop) (H : Hp) (k : KD) (E : Ends) : Prop where
  nx : ∀ M' σ' H' en', RepS G F M' σ' H' en' → Kp M M' H H' → k.nx en' → E.nx σ' H'
  rt : ∀ v H' d, F.I H' → Rp G F.M0 H' v d → k.rt d → E.rt v H'
  bk : ∀ M' σ' H' en', RepS G F M' σ' H' en' → Kp M M' H H' → k.bk en' → E.bk σ' H'
  ct : ∀ M' σ' H' en', RepS G F M' σ' H' en' → Kp M M' H H' → k.ct en' → E.ct σ' H'
  ro : ∀ a H' d, F.I H' → ¬ F.M0 a → F.fresh a → Own G (Mp F.M0 a) H' a d → k.ro d → E.rt (.ref a) H'
  re : ∀ M' σ' H' en' v d, RepS G F M' σ' H' en' → Kp M M' H H' → Rp G M' H' v d → k.re en' d → E.rt v H'
theorem ES.step {G : Gx} {F : Fr} {M M' : Addr → Prop} {H H' : Hp} {k : KD} {E : Ends} (q : ES G F M H k E) (p : Kp M M' H H') : ES G F M' H' k E :=
  ⟨fun M2 σ2 H2 e2 R2 p2 => q.nx M2 σ2 H2 e2 R2 (p.trans p2), q.rt, fun M2 σ2 H2 e2 R2 p2 => q.bk M2 σ2 H2 e2 R2 (p.trans p2), fun M2 σ2 H2 e2 R2 p2 => q.ct M2 σ2 H2 e2 R2 (p.trans p2), q.ro, fun M2 σ2 H2 e2 v d R2 p2 => q.re M2 σ2 H2 e2 v d R2 (p.trans p2)⟩
def tS (G : Gx) (F : Fr) (en : En) (k : KD) : TS := fun E σ H => ∃ M, RepS G F M σ H en ∧ ES G F M H k E
theorem Kp.refl {M : Addr → Prop} {H : Hp} : Kp M M H H := ⟨fun _ _ h _ => h, fun _ _ h => h⟩
def Sx (X : Cx) (F : Fr) (en : En) (sts : List Stmt) (k : KD) : Prop := PSs X sts (tS (gx X) F en k)
/-- the largest reading of a block -/
def tU (X : Cx) (sts : List Stmt) : TS := fun E σ H => ∀ (pins : List (Addr × Obj)) (s : Shared), Inv X pins σ H s → wpAny (model X.prog X.w) X.A (execs sts X.env) (SP X pins E) X.xe s
theorem tU_ok {X : Cx} {sts : List Stmt} : PSs X sts (tU X sts) := ⟨fun pins s σ H E I h => h pins s I⟩
theorem Sx.u {X : Cx} {F : Fr} {en : En} {sts : List Stmt} {k : KD} (h : Sx X F en sts k) {E : Ends} {σ : St} {H : Hp} (q : tS (gx X) F en k E σ H) : tU X sts E σ H := fun pins s I => h.run pins s σ H E I q

section
variable {X : Cx} {F : Fr} {en : En} {k : KD} {rest : List Stmt} {d : D} {e : Expr} {pos : Pos}
theorem s_nil (h : k.nx en) : Sx X F en [] k := PSs.wk pss_nil fun E σ H ⟨M, R, q⟩ => q.nx M σ H en R .refl h
theorem s_pass (h : Sx X F en rest k) : Sx X F en (.Pass pos :: rest) k := PSs.wk (pss_cons ps_pass h) fun E σ H q => q
/-- an own slot's object stays as it is from here on -/
theorem s_frz (i : Nat) (h : Sx X F (en.set i (some (.v d))) rest k) (hi : en[i]? = some (some (.own d)) := by rfl) : Sx X F en rest k := ⟨fun pins s σ H E I ⟨M, R, q⟩ => by
  obtain ⟨M', a, u, R', I', kp⟩ := R.frz I hi
  exact h.run pins s σ _ E I' ⟨M', R', q.step kp⟩⟩
theorem s_ret (he : Ev X F en e d) (h : k.rt d) : Sx X F en (.Return (some e) pos :: rest) k :=
  PSs.wk (pss_cons (ps_ret he) (pss_never (sts := rest))) fun E σ H ⟨M, R, q⟩ => ⟨M, R, fun v H' z i g rp e => q.rt v H' d i (e ▸ rp.kp ⟨fun _ _ q _ => q, fun b _ hm z => hm (R.m0 b z)⟩) h⟩
theorem s_retW {K : D → Prop} (he : EvW X F en e K) (h : ∀ d, K d → k.rt d) : Sx X F en (.Return (some e) pos :: rest) k :=
  PSs.wk (pss_cons (ps_ret he) (pss_never (sts := rest))) fun E σ H ⟨M, R, q⟩ => ⟨M, R, fun v H' z i g rp e => q.rt v H' z i (rp.kp ⟨fun _ _ q _ => q, fun b _ hm z => hm (R.m0 b z)⟩) (h z e)⟩
/-- return, the slots known -/
theorem s_retE {K : D → Prop} (he : EvW X F en e K) (h : ∀ d, K d → k.re en d) : Sx X F en (.Return (some e) pos :: rest) k :=
  PSs.wk (pss_cons (ps_ret he) (pss_never (sts := rest))) fun E σ H ⟨M, R, q⟩ => ⟨M, R, fun v H' z i g rp e => q.re M σ H' en v z (R.step i g) (R.kp g) rp (h z e)⟩
/-- return of a new object -/
theorem s_retF (he : Ef X F en e d) (h : k.ro d) : Sx X F en (.Return (some e) pos :: rest) k :=
  PSs.wk (pss_cons (ps_ret he) (pss_never (sts := rest))) fun E σ H ⟨M, R, q⟩ => ⟨M, R, fun a H1 z i1 g n r e => by
    subst e
    have n0 : ¬ F.M0 a := fun z => R.notin n (R.m0 a z)
    refine q.ro a H1 _ i1 n0 (F.nw _ _ R.inv n) (r.kp ⟨fun _ _ h _ => h, fun b _ hm z => ?_⟩ fun _ h => h) h
    rcases z with z | z
    · exact hm (.inl (R.m0 b z))
    · exact hm (.inr z)⟩
/-- return of an own slot's object -/
theorem s_retO (i : Nat) {x : Str} {pos' : Pos} (hi : en[i]? = some (some (.own d)) := by rfl) (h : k.ro d) (hN : X.N[i]? = some x := by rfl) (hv : Vis X.env.scope x := by first | exact Or.inl rfl | exact Or.inr (Or.inl rfl) | exact Or.inr (Or.inr rfl)) (hd : (x == ("__debug__" : Str)) = false := by decide)
    (hcd : (x == ("__classdict__" : Str)) = false := by decide) : Sx X F en (.Return (some (.Name x pos')) pos :: rest) k :=
  PSs.wk (pss_cons (ps_ret (pe_var hN hv hd hcd)) (pss_never (sts := rest))) fun E σ H ⟨M, R, q⟩ => by
    obtain ⟨a, h1, h2, h3, h4, h5⟩ := R.own i d hi
    refine ⟨.ref a, h1, q.ro a H _ R.inv h3 h4 (h5.kp ⟨fun _ _ h _ => h, fun b _ hm z => ?_⟩ fun _ h => h) h⟩
    rcases z with z | z
    · exact hm (R.m0 b z)
    · subst z; exact hm h2
variable {i : Nat} {x : Str} {pos' : Pos}
theorem s_set (i : Nat) {x : Str} {pos' : Pos} (hN : X.N.Nodup) (he : Ev X F en e d) (h : Sx X F (en.set i (some (.v d))) rest k) (hi : X.N[i]? = some x := by rfl) (hx : Loc X.env.scope x := by first | exact Or.inl rfl | exact Or.inr rfl)
    (hs : swapsWith e (some (.Name x pos')) pos.line X.env = pure false := by rfl) (hf : X.fn x = true ∨ X.env.scope.names.lookup x = some .local := by first | exact .inl rfl | exact .inr rfl) :
    Sx X F en (.Assign [.Name x pos'] e pos :: rest) k :=
  PSs.wk (pss_cons (ps_set hN hi hx he hs hf) h) fun E σ H ⟨M, R, q⟩ => ⟨M, R, fun v H1 z i1 g r e => ⟨M, (R.step i1 g).setv (e ▸ r), q.step (R.kp g)⟩⟩
theorem s_setW (i : Nat) {x : Str} {pos' : Pos} {K : D → Prop} (hN : X.N.Nodup) (he : EvW X F en e K) (h : ∀ d, K d → Sx X F (en.set i (some (.v d))) rest k) (hi : X.N[i]? = some x := by rfl) (hx : Loc X.env.scope x := by first | exact Or.inl rfl | exact Or.inr rfl)
    (hs : swapsWith e (some (.Name x pos')) pos.line X.env = pure false := by rfl) (hf : X.fn x = true ∨ X.env.scope.names.lookup x = some .local := by first | exact .inl rfl | exact .inr rfl) :
    Sx X F en (.Assign [.Name x pos'] e pos :: rest) k :=
  PSs.wk (pss_cons (ps_set hN hi hx he hs hf) tU_ok) fun E σ H ⟨M, R, q⟩ => ⟨M, R, fun v H1 z i1 g r e => (h z e).u ⟨M, (R.step i1 g).setv r, q.step (R.kp g)⟩⟩
theorem NewO.of {G : Gx} {M : Addr → Prop} {H H' : Hp} {σ : St} {a : Addr} (R : RepS G F M σ H en) (n : H a = none) (i : F.I H') (g : Gr F H H') (o : Own G (Mp M a) H' a d) : RepS G F (Mp M a) σ H' en ∧ NewO G F (Mp M a) H' σ en a d := by
  have hf := F.nw _ _ R.inv n
  refine ⟨R.more i g n hf o.dom, .inr rfl, fun z => R.notin n (R.m0 a z), hf, o, fun j d' h1 h2 => ?_⟩
  obtain ⟨b, e1, e2, _⟩ := R.own j d' h1
  rw [h2] at e1
  cases e1
  exact R.notin n e2
theorem s_setO (i : Nat) {x : Str} {pos' : Pos} (hN : X.N.Nodup) (he : Ef X F en e d) (h : Sx X F (en.set i (some (.own d))) rest k) (hi : X.N[i]? = some x := by rfl) (hx : Loc X.env.scope x := by first | exact Or.inl rfl | exact Or.inr rfl)
    (hs : swapsWith e (some (.Name x pos')) pos.line X.env = pure false := by rfl) (hf : X.fn x = true ∨ X.env.scope.names.lookup x = some .local := by first | exact .inl rfl | exact .inr rfl) :
    Sx X F en (.Assign [.Name x pos'] e pos :: rest) k :=
  PSs.wk (pss_cons (ps_set hN hi hx he hs hf) h) fun E σ H ⟨M, R, q⟩ => ⟨M, R, fun a H1 z i1 g n r e => by
    subst e
    obtain ⟨R1, n1⟩ := NewO.of R n i1 g r
    exact ⟨_, R1.seto n1, q.step (.more n (R.kp g).at_)⟩⟩
theorem s_expr (he : Ev X F en e d) (h : Sx X F en rest k) (hs : swapsWith e none pos.line X.env = pure false := by rfl) : Sx X F en (.Expr e pos :: rest) k :=
  PSs.wk (pss_cons (ps_expr he hs) h) fun E σ H ⟨M, R, q⟩ => ⟨M, R, fun v H1 z i1 g r e => ⟨M, R.step i1 g, q.step (R.kp g)⟩⟩
variable {c : Expr} {ba bb : List Stmt}
/-- if, its answer open -/
theorem s_ifW {K : Bool → Prop} (hc : EtW X F en c K) (h1 : K true → Sx X F en ba { k with nx := fun en' => Sx X F en' rest k }) (h2 : K false → Sx X F en bb { k with nx := fun en' => Sx X F en' rest k }) : Sx X F en (.If c ba bb pos :: rest) k :=
  PSs.wk (pss_cons (ps_if hc (tU_ok (sts := ba)) (tU_ok (sts := bb))) (tU_ok (sts := rest))) fun E σ H ⟨M, R, q⟩ => ⟨M, R, fun z H1 i g hk => by
    have R1 := R.step i g
    have q1 := q.step (R.kp g)
    have p : ∀ {sts : List Stmt}, Sx X F en sts { k with nx := fun en' => Sx X F en' rest k } → tU X sts { E with nx := tU X rest E } σ H1 := fun h => h.u ⟨M, R1, ⟨fun M' σ' H' en' R' kp h' => h'.u ⟨M', R', q1.step kp⟩, q1.rt, q1.bk, q1.ct, q1.ro, q1.re⟩⟩
    cases z with
    | true => exact iteT (p (h1 hk))
    | false => exact iteF (p (h2 hk))⟩
theorem s_ifT (hc : Et X F en c true) (h : Sx X F en ba { k with nx := fun en' => Sx X F en' rest k }) : Sx X F en (.If c ba bb pos :: rest) k := s_ifW (K := fun z => z = true) hc (fun _ => h) fun z => nomatch z
theorem s_ifF (hc : Et X F en c false) (h : Sx X F en bb { k with nx := fun en' => Sx X F en' rest k }) : Sx X F en (.If c ba bb pos :: rest) k := s_ifW (K := fun z => z = false) hc (fun z => nomatch z) fun _ => h
/-- .. without else, not taken -/
theorem s_if0 (hc : Et X F en c false) (h : Sx X F en rest k) : Sx X F en (.If c ba [] pos :: rest) k := s_ifF hc (s_nil h)
theorem s_if {z : Bool} (hc : Et X F en c z) (h1 : z = true → Sx X F en ba { k with nx := fun en' => Sx X F en' rest k }) (h2 : z = false → Sx X F en bb { k with nx := fun en' => Sx X F en' rest k }) : Sx X F en (.If c ba bb pos :: rest) k :=
  s_ifW (K := fun y => y = z) hc (fun e => h1 e.symm) fun e => h2 e.symm
/-- while, by a measure -/
theorem s_while {body : List Stmt} (P : En → Prop) (μ : En → Nat) (hp : PassesOwn (model X.prog X.w) X.A X.env X.xe) (h0 : P en)
    (hs : ∀ e, P e → ∃ z, Et X F e c z ∧ (z = true → Sx X F e body { nx := fun e' => P e' ∧ μ e' < μ e, ct := fun e' => P e' ∧ μ e' < μ e, bk := fun e' => Sx X F e' rest k, rt := k.rt, ro := k.ro, re := k.re }) ∧ (z = false → Sx X F e rest k)) : Sx X F en (.While c body [] pos :: rest) k := by
  let tc : TT := fun σ H Q => ∃ e z, P e ∧ Et X F e c z ∧ tT (gx X) F e (fun y => y = z) σ H Q
  have hc : PT X c tc := ⟨fun pins s σ H Q I ⟨e, z, _, h, q⟩ => PT.run h pins s σ H Q I q⟩
  refine PSs.wk (pss_cons (ps_while hp hc (tU_ok (sts := body))) (tU_ok (sts := rest))) fun E σ H ⟨M, R, q⟩ => ?_
  refine ⟨fun m σ' H' => ∃ M' e, RepS (gx X) F M' σ' H' e ∧ Kp M M' H H' ∧ P e ∧ m = μ e, ⟨μ en, M, en, R, .refl, h0, rfl⟩, ?_⟩
  rintro m σ' H' ⟨M', e, R', kp, p, rfl⟩
  obtain ⟨z, hz, ht, hf⟩ := hs e p
  refine ⟨e, z, p, hz, M', R', fun y H2 i g ey => ?_⟩
  subst ey
  have R2 := R'.step i g
  have kp2 := kp.trans (R'.kp g)
  cases y with
  | false => exact (hf rfl).u ⟨M', R2, q.step kp2⟩
  | true =>
    refine ⟨fun σ3 H3 => ∃ M3 e3, RepS (gx X) F M3 σ3 H3 e3 ∧ Kp M M3 H H3 ∧ P e3 ∧ μ e3 < μ e, fun σ3 H3 ⟨M3, e3, R3, k3, p3, l3⟩ => ⟨_, l3, M3, e3, R3, k3, p3, rfl⟩, ?_⟩
    exact (ht rfl).u ⟨M', R2, ⟨fun M3 σ3 H3 e3 R3 k3 z => ⟨M3, e3, R3, kp2.trans k3, z⟩, q.rt, fun M3 σ3 H3 e3 R3 k3 z => z.u ⟨M3, R3, q.step (kp2.trans k3)⟩, fun M3 σ3 H3 e3 R3 k3 z => ⟨M3, e3, R3, kp2.trans k3, z⟩, q.ro, fun M3 σ3 H3 e3 v d R3 k3 => q.re M3 σ3 H3 e3 v d R3 (kp2.trans k3)⟩⟩
end
end Pz
end
section
set_option Elab.async false
set_option linter.all false
set_option maxRecDepth 100000
set_option maxHeartbeats 4000000
/-! PzD: targets, what is walked, for, comprehensions. -/
namespace Pz
open PySem PySem.Spec PyProof.Rows L2

/-! ### targets -/
def tgR (X : Cx) (tg : Expr) : TG := fun v σ H Q => ∀ (pins : List (Addr × Obj)) (s : Shared) (u : Value), Inv X pins σ H s → RelV v u → wpAny (model X.prog X.w) X.A (assign tg X.env u) (fun _ s' => ∃ σ' H', Inv X pins σ' H' s' ∧ Q σ' H') X.xe s
theorem tgR_ok {X : Cx} {tg : Expr} : PG X tg (tgR X tg) := ⟨fun pins s σ H v u Q I r h => h pins s u I r⟩
def setV (σ : St) : List Nat → List V → St
  | i :: is, v :: vs => setV (σ.set i (some v)) is vs
  | _, _ => σ
def setE (en : En) : List Nat → List D → En
  | i :: is, d :: ds => setE (en.set i (some (.v d))) is ds
  | _, _ => en
theorem RepS.setl {G : Gx} {F : Fr} {M : Addr → Prop} {H : Hp} : ∀ {is : List Nat} {vs : List V} {ds : List D} {σ : St} {en : En}, RepS G F M σ H en → Rps G M H vs ds → RepS G F M (setV σ is vs) H (setE en is ds)
  | [], _, _, _, _, R, _ => by simpa [setV, setE] using R
  | i :: is, _, _, _, _, R, .nil => by simpa [setV, setE] using R
  | i :: is, _, _, _, _, R, .cons a r => by
    unfold setV setE
    exact RepS.setl (R.setv a) r
/-- the target stores the parts of a value at the slots is -/
def Tg (X : Cx) (F : Fr) (tg : Expr) (is : List Nat) (sp : D → Option (List D)) : Prop :=
  ∀ (M : Addr → Prop) (σ : St) (H : Hp) (en : En) (v : V) (d : D) (ds : List D) (Q : St → Hp → Prop), RepS (gx X) F M σ H en → Rp (gx X) M H v d → sp d = some ds → (∀ vs, Rps (gx X) M H vs ds → vs.length = is.length → Q (setV σ is vs) H) → tgR X tg v σ H Q
def sp1 : D → Option (List D) := fun d => some [d]
def spn (n : Nat) : D → Option (List D)
  | .tup ds => if ds.length = n then some ds else none
  | _ => none
section
variable {X : Cx} {F : Fr} {pos : Pos}
theorem tg_nm (i : Nat) {x : Str} (hN : X.N.Nodup) (hi : X.N[i]? = some x := by rfl) (hx : Loc X.env.scope x := by first | exact Or.inl rfl | exact Or.inr rfl) (hf : X.fn x = true ∨ X.env.scope.names.lookup x = some .local := by first | exact .inl rfl | exact .inr rfl) :
    Tg X F (.Name x pos) [i] sp1 := fun M σ H en v d ds Q R r e q pins s u I rv => by
  cases e
  exact (pg_name hN hi hx hf).run pins s σ H v u Q I rv (q [v] (.cons r .nil) rfl)
/-- names in a row -/
def gAll : List Nat → TGs := fun is vs σ H Q => vs.length = is.length ∧ Q (setV σ is vs) H
theorem gs_nil : PGs X [] (gAll []) := ⟨fun pins s σ H vs us Q I r h => pgs_nil.run pins s σ H vs us Q I r (by
  obtain ⟨e, h⟩ := h
  have e2 : vs = [] := List.eq_nil_of_length_eq_zero e
  subst e2
  exact ⟨rfl, h⟩)⟩
theorem gs_cons (i : Nat) {x : Str} {es : List Expr} {is : List Nat} (hN : X.N.Nodup) (h : PGs X es (gAll is)) (hi : X.N[i]? = some x := by rfl) (hx : Loc X.env.scope x := by first | exact Or.inl rfl | exact Or.inr rfl) (hf : X.fn x = true ∨ X.env.scope.names.lookup x = some .local := by first | exact .inl rfl | exact .inr rfl)
    (hs : (assignEach (.Name x pos :: es) X.env).map (·.2) = assign (.Name x pos) X.env :: (assignEach es X.env).map (·.2) := by rfl) : PGs X (.Name x pos :: es) (gAll (i :: is)) := ⟨fun pins s σ H vs us Q I r h2 => (pgs_cons (pg_name hN hi hx hf) h hs).run pins s σ H vs us Q I r (by
  obtain ⟨e, h2⟩ := h2
  cases vs with
  | nil => cases e
  | cons v vs => exact ⟨v, vs, rfl, by simpa using e, h2⟩)⟩
theorem tg_tup {es : List Expr} {kk : Nat} {is : List Nat} (hc : X.calm = true) (h : PGs X es (gAll is)) (hn : (assignEach es X.env).length = is.length := by rfl) (hst : (assignEach es X.env).findIdx? (·.1) = none := by rfl) :
    Tg X F (.Tuple es kk pos) is (spn is.length) := fun M σ H en v d ds Q R r e q pins s u I rv => by
  refine (pg_tup hc h hn hst).run pins s σ H v u Q I rv ?_
  cases r with
  | tup ht rs =>
    rename_i a vs es'
    have e' : (if es'.length = is.length then some es' else none) = some ds := e
    by_cases hl : es'.length = is.length
    · rw [if_pos hl] at e'
      have e2 : es' = ds := Option.some.inj e'
      subst e2
      exact ⟨a, vs, rfl, ht.sq, by rw [rs.length]; exact hl, by rw [rs.length]; exact hl, q vs rs (by rw [rs.length]; exact hl)⟩
    · rw [if_neg hl] at e'
      exact nomatch e'
  | _ => cases e
end

/-! ### what is walked -/
/-- the iterator gives the items ds, as long as what is by value stays -/
def JOk (G : Gx) (M : Addr → Prop) (H1 : Hp) (J : It) (ds : List D) : Prop :=
  ∀ (M2 : Addr → Prop) (H2 : Hp), Kp M M2 H1 H2 → (∀ a, M2 a → H2 a ≠ none) → ∀ i : Nat, (∀ d, ds[i]? = some d → J.go i H2 ∧ ∀ x H3, J.yld i H2 x H3 → Same H2 H3 ∧ Rp G M2 H3 x d) ∧ (ds.length ≤ i → J.stop i H2)
def tI (G : Gx) (F : Fr) (en : En) (ds : List D) : TI := fun σ H R => ∃ M, RepS G F M σ H en ∧ ∀ J H', F.I H' → Gr F H H' → JOk G M H' J ds → R J H'
def Ei (X : Cx) (F : Fr) (tg iter : Expr) (en : En) (ds : List D) : Prop := PI X tg iter (tI (gx X) F en ds)
theorem PI.wk {X : Cx} {tg iter : Expr} {t t' : TI} (h : PI X tg iter t) (w : ∀ σ H R, t' σ H R → t σ H R) : PI X tg iter t' := ⟨fun pins s σ H R I q => h.run pins s σ H R I (w σ H R q)⟩
section
variable {X : Cx} {F : Fr} {en : En} {tg e : Expr} {ds : List D} {p pos : Pos}
theorem sqT_one {K : PySem.W.Frag} {P : Program} {w : World} {H : Hp} {a : Addr} {xs ys : List V} (h : SqT K H a xs) (g : SqT K H a ys) (hx : xs = ys) : True := trivial
/-- what stands as a tuple | a list by value is one list -/
theorem tupM_yld {G : Gx} {M : Addr → Prop} {H : Hp} {a : Addr} {vs : List V} (h : TupM G M H a vs) {i : Nat} {x : V} (q : ∀ xs, SqT G.K H a xs → xs[i]? = some x) : vs[i]? = some x := q vs h.sq
theorem i_tup (h : Ev X F en e (.tup ds)) : Ei X F tg e en ds := PI.wk (pi_tup h) fun σ H R ⟨M, RR, q⟩ => ⟨M, RR, fun v H1 z i g rp ez => by
  subst ez
  cases rp with
  | tup ht rs =>
    rename_i a vs
    refine ⟨a, rfl, ⟨vs, ht.sq⟩, q _ H1 i g fun M2 H2 k hd j => ⟨fun d hj => ?_, fun hj => ⟨vs, (ht.kp k).sq, by rw [rs.length]; exact hj⟩⟩⟩
    obtain ⟨w, hw, rw_⟩ := rs.get hj
    refine ⟨⟨vs, w, (ht.kp k).sq, hw⟩, fun x H3 ⟨e3, y⟩ => ?_⟩
    subst e3
    have ex := y vs (ht.kp k).sq
    rw [hw] at ex
    cases ex
    exact ⟨Same.refl _, rw_.kp k⟩⟩
theorem i_list (h : Ev X F en e (.lst ds)) : Ei X F tg e en ds := PI.wk (pi_list h) fun σ H R ⟨M, RR, q⟩ => ⟨M, RR, fun v H1 z i g rp ez => by
  subst ez
  cases rp with
  | lst ht rs =>
    rename_i a vs
    refine ⟨a, rfl, ⟨vs, ht.sq⟩, q _ H1 i g fun M2 H2 k hd j => ⟨fun d hj => ?_, fun hj => ⟨vs, (ht.kp k).sq, by rw [rs.length]; exact hj⟩⟩⟩
    obtain ⟨w, hw, rw_⟩ := rs.get hj
    refine ⟨⟨vs, w, (ht.kp k).sq, hw⟩, fun x H3 ⟨e3, y⟩ => ?_⟩
    subst e3
    have ex := y vs (ht.kp k).sq
    rw [hw] at ex
    cases ex
    exact ⟨Same.refl _, rw_.kp k⟩⟩
def rangeD (lo : Int) (n : Nat) : List D := (List.range n).map fun i : Nat => .int (lo + i)
theorem rangeD_get {lo : Int} {n i : Nat} {d : D} (h : (rangeD lo n)[i]? = some d) : i < n ∧ d = .int (lo + i) := by
  unfold rangeD at h
  rw [List.getElem?_map] at h
  by_cases hi : i < n
  · rw [List.getElem?_range hi] at h
    exact ⟨hi, (Option.some.inj h).symm⟩
  · rw [List.getElem?_eq_none (by simpa using hi)] at h
    cases h
theorem jok_range {G : Gx} {M : Addr → Prop} {H : Hp} {lo : Int} {n : Nat} : JOk G M H (Itr lo n) (rangeD lo n) := fun M2 H2 k hd j => ⟨fun d hj => by
    obtain ⟨h1, rfl⟩ := rangeD_get hj
    exact ⟨h1, fun x H3 ⟨e3, ex⟩ => by subst e3 ex; exact ⟨Same.refl _, .int _⟩⟩,
  fun hj => by
    show n ≤ j
    simpa [rangeD] using hj⟩
theorem i_range1 {n : Nat} (h : Ea X F en [e] [.int n]) (hm : X.mg "range" = none) (hn : n < 2 ^ 62 := by decide) (hg : Gl X "range" := by rfl) (hs : starEach [e] X.env = [(false, eval e X.env)] := by rfl) : Ei X F tg (.Call (.Name "range" p) [e] [] pos) en (rangeD 0 n) :=
  PI.wk (pi_range1 hg hm h hs) fun σ H R ⟨M, RR, q⟩ => ⟨M, RR, fun vs H1 i g rp => by
    cases rp with
    | cons a r =>
      cases a
      cases r
      exact ⟨(n : Int), rfl, by omega, by omega, q _ H1 i g (by rw [Int.toNat_natCast]; exact jok_range)⟩⟩
theorem i_range2 {e2 : Expr} {lo hi : Int} (h : Ea X F en [e, e2] [.int lo, .int hi]) (hm : X.mg "range" = none) (hb : -(2 ^ 62) ≤ lo ∧ lo < 2 ^ 62 ∧ -(2 ^ 62) ≤ hi ∧ hi < 2 ^ 62) (hg : Gl X "range" := by rfl)
    (hs : starEach [e, e2] X.env = [(false, eval e X.env), (false, eval e2 X.env)] := by rfl) (hs2 : starEach [e2] X.env = [(false, eval e2 X.env)] := by rfl) : Ei X F tg (.Call (.Name "range" p) [e, e2] [] pos) en (rangeD lo (hi - lo).toNat) :=
  PI.wk (pi_range2 hg hm h hs hs2) fun σ H R ⟨M, RR, q⟩ => ⟨M, RR, fun vs H1 i g rp => by
    cases rp with
    | cons a r =>
      cases a
      cases r with
      | cons a r =>
        cases a
        cases r
        exact ⟨lo, hi, rfl, hb, q _ H1 i g jok_range⟩⟩
/-- a text, sign by sign -/
def signsD (x : Str) : List D := x.cps.toList.map fun c => .str ⟨#[c]⟩
theorem i_str {x : Str} (h : Ev X F en e (.str x)) : Ei X F tg e en (signsD x) := PI.wk (pi_str h) fun σ H R ⟨M, RR, q⟩ => ⟨M, RR, fun v H1 z i g rp ez => by
  subst ez
  cases rp
  refine ⟨x, rfl, q _ H1 i g fun M2 H2 k hd j => ⟨fun d hj => ?_, fun hj => ?_⟩⟩
  · unfold signsD at hj
    rw [List.getElem?_map, Array.getElem?_toList] at hj
    obtain ⟨c, hc, ed⟩ := Option.map_eq_some_iff.mp hj
    refine ⟨(Array.getElem?_eq_some_iff.mp hc).1, fun y H3 ⟨e3, c', hc', ey⟩ => ?_⟩
    rw [hc] at hc'
    cases hc'
    subst e3 ey ed
    exact ⟨Same.refl _, .str _⟩
  · show x.cps.size ≤ j
    simpa [signsD] using hj⟩

/-! ### for -/
theorem s_for {iter : Expr} {body rest : List Stmt} {k : KD} {is : List Nat} {sp : D → Option (List D)} (P : Nat → En → Prop) (hp : PassesOwn (model X.prog X.w) X.A X.env X.xe) (hc : X.calm = true) (hi : Ei X F tg iter en ds) (ht : Tg X F tg is sp) (h0 : P 0 en)
    (hs : ∀ (i : Nat) d e, ds[i]? = some d → P i e → ∃ items, sp d = some items ∧ Sx X F (setE e is items) body { nx := P (i + 1), ct := P (i + 1), bk := fun e' => Sx X F e' rest k, rt := k.rt, ro := k.ro, re := k.re }) (hd : ∀ e, P ds.length e → Sx X F e rest k)
    (hfs : ∀ x, foldedSetIterable iter X.env x = pure x := by intro _; rfl) : Sx X F en (.For tg iter body [] pos :: rest) k := by
  refine PSs.wk (pss_cons (ps_for hp hc hi (tgR_ok (tg := tg)) (tU_ok (sts := body)) hfs) (tU_ok (sts := rest))) fun E σ H ⟨M, R, q⟩ => ⟨M, R, fun J H1 i1 g1 jok => ?_⟩
  have R1 := R.step i1 g1
  have q1 := q.step (R.kp g1)
  refine ⟨fun i m σ' H' => ∃ M' e, RepS (gx X) F M' σ' H' e ∧ Kp M M' H1 H' ∧ P i e ∧ i ≤ ds.length ∧ m = ds.length - i, ⟨ds.length, M, en, R1, .refl, h0, Nat.zero_le _, rfl⟩, ?_⟩
  rintro i m σ' H' ⟨M', e, R', kp, p, hle, rfl⟩
  have jk := jok M' H' kp R'.dom i
  by_cases hlt : i < ds.length
  · have hdi : ds[i]? = some ds[i] := List.getElem?_eq_getElem hlt
    obtain ⟨go, yld⟩ := jk.1 _ hdi
    obtain ⟨items, hsp, hb⟩ := hs i _ e hdi p
    refine .inr ⟨go, fun σ3 H3 => ∃ M3 e3, RepS (gx X) F M3 σ3 H3 e3 ∧ Kp M M3 H1 H3 ∧ P (i + 1) e3, fun σ3 H3 ⟨M3, e3, R3, k3, p3⟩ => ⟨ds.length - (i + 1), by omega, M3, e3, R3, k3, p3, hlt, rfl⟩, fun x H3 y => ?_⟩
    obtain ⟨sm, rx⟩ := yld x H3 y
    have R3 := R'.same sm
    have k3 := kp.trans (R'.kp (Gr.same sm))
    refine ht M' σ' H3 e x _ items _ R3 rx hsp fun vs rs hl => ?_
    exact hb.u ⟨M', R3.setl rs, ⟨fun M4 σ4 H4 e4 R4 k4 z => ⟨M4, e4, R4, k3.trans k4, z⟩, q.rt, fun M4 σ4 H4 e4 R4 k4 z => z.u ⟨M4, R4, q1.step (k3.trans k4)⟩, fun M4 σ4 H4 e4 R4 k4 z => ⟨M4, e4, R4, k3.trans k4, z⟩, q.ro, fun M4 σ4 H4 e4 v d R4 k4 => q1.re M4 σ4 H4 e4 v d R4 (k3.trans k4)⟩⟩
  · have e1 : i = ds.length := by omega
    exact .inl ⟨jk.2 (by omega), (hd e (e1 ▸ p)).u ⟨M', R', q1.step kp⟩⟩

/-! ### list comprehensions -/
/-- a value in every context of a comprehension's block -/
def EvB (X : Cx) (F : Fr) (scope : Scope) (en : En) (e : Expr) (d : D) : Prop := ∀ (s : Shared) (H : Hp) (C : Addr) (cl : List (Str × Addr)) (fp : List Addr), Ev (X.blk s H scope (compEnvC scope cl C X.env) fp) F en e d
def EtB (X : Cx) (F : Fr) (scope : Scope) (en : En) (e : Expr) (b : Bool) : Prop := ∀ (s : Shared) (H : Hp) (C : Addr) (cl : List (Str × Addr)) (fp : List Addr), Et (X.blk s H scope (compEnvC scope cl C X.env) fp) F en e b
def TgB (X : Cx) (F : Fr) (scope : Scope) (tg : Expr) (is : List Nat) (sp : D → Option (List D)) : Prop := ∀ (s : Shared) (H : Hp) (C : Addr) (cl : List (Str × Addr)) (fp : List Addr), Tg (X.blk s H scope (compEnvC scope cl C X.env) fp) F tg is sp
theorem getE_set {α : Type} {l m : List α} {i : Nat} {x : α} (h : ∀ j, j ≠ i → l[j]? = m[j]?) (hl : l.length = m.length) : l.set i x = m.set i x := by
  refine List.ext_getElem? fun j => ?_
  by_cases e : i = j
  · subst e
    by_cases hi : i < l.length
    · rw [List.getElem?_set_self hi, List.getElem?_set_self (hl ▸ hi)]
    · rw [List.getElem?_eq_none (by rw [List.length_set]; omega), List.getElem?_eq_none (by rw [List.length_set]; omega)]
  · rw [List.getElem?_set_ne e, List.getElem?_set_ne e]
    exact h j (Ne.symm e)
theorem wipe_get (σ : St) (j : Nat) : ∀ vs : List Nat, j ∉ vs → (L2.wipe σ vs)[j]? = σ[j]?
  | [], _ => rfl
  | v :: vs, h => by
    unfold L2.wipe
    rw [List.getElem?_set_ne (fun e => h (by rw [e]; exact List.mem_cons_self))]
    exact wipe_get σ j vs fun z => h (List.mem_cons_of_mem _ z)
theorem wipe_congr {σ τ : St} (hl : σ.length = τ.length) : ∀ {vs : List Nat}, (∀ j, j ∉ vs → σ[j]? = τ[j]?) → L2.wipe σ vs = L2.wipe τ vs
  | [], h => List.ext_getElem? fun j => h j (by simp)
  | v :: vs, h => by
    refine List.ext_getElem? fun j => ?_
    by_cases e : j ∈ v :: vs
    · have z : ∀ (ρ : St) (us : List Nat), j ∈ us → (L2.wipe ρ us)[j]? = if j < ρ.length then some none else none := by
        intro ρ us
        induction us with
        | nil => intro h; cases h
        | cons u us ih =>
          intro h
          unfold L2.wipe
          by_cases eu : u = j
          · subst eu
            by_cases hl : u < ρ.length
            · rw [List.getElem?_set_self (by rw [L2.wipe_length]; exact hl), if_pos hl]
            · rw [List.getElem?_eq_none (by rw [List.length_set, L2.wipe_length]; omega), if_neg hl]
          · rw [List.getElem?_set_ne eu]
            rcases List.mem_cons.mp h with e | h
            · exact absurd e.symm eu
            · exact ih h
      rw [z σ _ e, z τ _ e, hl]
    · rw [wipe_get σ j _ e, wipe_get τ j _ e]
      exact h j e
theorem setV_get : ∀ {is : List Nat} {vs : List V} {σ : St} {j : Nat}, j ∉ is → (setV σ is vs)[j]? = σ[j]?
  | [], _, _, _, _ => by simp [setV]
  | i :: is, [], _, _, _ => by simp [setV]
  | i :: is, v :: vs, σ, j, h => by
    unfold setV
    rw [setV_get (fun z => h (List.mem_cons_of_mem _ z)), List.getElem?_set_ne (fun e => h (by rw [e]; exact List.mem_cons_self))]
theorem setV_len : ∀ {is : List Nat} {vs : List V} {σ : St}, (setV σ is vs).length = σ.length
  | [], _, _ => by simp [setV]
  | i :: is, [], _ => by simp [setV]
  | i :: is, v :: vs, σ => by
    unfold setV
    rw [setV_len, List.length_set]
theorem wipe_setV {is own : List Nat} {vs : List V} {σ : St} (h : ∀ i ∈ is, i ∈ own) : L2.wipe (setV σ is vs) own = L2.wipe σ own :=
  wipe_congr setV_len fun j hj => setV_get fun z => hj (h j z)
theorem wipe_idem (σ : St) (own : List Nat) : L2.wipe (L2.wipe σ own) own = L2.wipe σ own := wipe_congr (L2.wipe_length _ _) fun j hj => wipe_get σ j own hj
/-- what a comprehension makes: of the items that p keeps, the values -/
def picked (p : D → Bool) (g : D → D) (ds : List D) : List D := (ds.filter p).map g
theorem picked_yes {p : D → Bool} {g : D → D} {i : Nat} {d : D} (h : ds[i]? = some d) (hp : p d = true) : picked p g (ds.take (i + 1)) = picked p g (ds.take i) ++ [g d] := by
  unfold picked
  rw [List.take_add_one, h]
  simp [hp]
theorem picked_no {p : D → Bool} {g : D → D} {i : Nat} {d : D} (h : ds[i]? = some d) (hp : p d = false) : picked p g (ds.take (i + 1)) = picked p g (ds.take i) := by
  unfold picked
  rw [List.take_add_one, h]
  simp [hp]
theorem picked_len {p : D → Bool} {g : D → D} : (picked p g ds).length ≤ ds.length := by
  unfold picked
  rw [List.length_map]
  exact List.length_filter_le _ _
theorem lc_rd {elt iter : Expr} {ifs : List Expr} {scope : Scope} {own : List (Str × Nat)} {is : List Nat} {sp : D → Option (List D)} {tt : TT} (p : D → Bool) (g : D → D) (hc : X.calm = true) (hN : X.N.Nodup) (hi : Ei X F tg iter en ds) (ok : BlkOk X.N X.env.scope scope own)
    (hown : ∀ i ∈ is, i ∈ own.map (·.2)) (ht : TgB X F scope tg is sp) (htt : ∀ (s : Shared) (H : Hp) (C : Addr) (cl : List (Str × Addr)) (fp : List Addr), PTs (X.blk s H scope (compEnvC scope cl C X.env) fp) ifs tt)
    (ht2 : ∀ d ∈ ds, ∀ items, sp d = some items → ∀ σ H Q, tT (gx X) F (setE (wipeE en (own.map (·.2))) is items) (fun z => z = p d) σ H Q → tt σ H Q)
    (he : ∀ d ∈ ds, ∃ items, sp d = some items ∧ (p d = true → EvB X F scope (setE (wipeE en (own.map (·.2))) is items) elt (g d))) (hz : ds.length ≤ 1000000) (hfs : ∀ x, foldedSetIterable iter X.env x = pure x := by intro _; rfl) :
    ∃ (tgg : TG) (te : TE), (∀ (s : Shared) (H : Hp) (C : Addr) (cl : List (Str × Addr)) (fp : List Addr), PG (X.blk s H scope (compEnvC scope cl C X.env) fp) tg tgg) ∧ (∀ (s : Shared) (H : Hp) (C : Addr) (cl : List (Str × Addr)) (fp : List Addr), PE (X.blk s H scope (compEnvC scope cl C X.env) fp) elt te) ∧
      ∀ σ H Q, tN (gx X) F en (fun z => z = .lst (picked p g ds)) σ H Q → tLc (tI (gx X) F en ds) tgg tt te (own.map (·.2)) σ H Q := by
  let te : TE := fun σ H Q => ∃ en' d', EvB X F scope en' elt d' ∧ tW (gx X) F en' (fun z => z = d') σ H Q
  let tgg : TG := fun v σ H Q => ∀ (s : Shared) (H0 : Hp) (C : Addr) (cl : List (Str × Addr)) (fp : List Addr), tgR (X.blk s H0 scope (compEnvC scope cl C X.env) fp) tg v σ H Q
  have hg : ∀ (s : Shared) (H : Hp) (C : Addr) (cl : List (Str × Addr)) (fp : List Addr), PG (X.blk s H scope (compEnvC scope cl C X.env) fp) tg tgg := fun s H C cl fp => ⟨fun pins s' σ H' v u Q I r q => q s H C cl fp pins s' u I r⟩
  have hte : ∀ (s : Shared) (H : Hp) (C : Addr) (cl : List (Str × Addr)) (fp : List Addr), PE (X.blk s H scope (compEnvC scope cl C X.env) fp) elt te := fun s H C cl fp => ⟨fun pins s' σ H' Q I ⟨en', d', h, q⟩ => PE.run (h s H C cl fp) pins s' σ H' Q I q⟩
  refine ⟨tgg, te, hg, hte, fun σ H Q ⟨M, R, q⟩ => ⟨M, R, fun J H1 i1 g1 jok => ?_⟩⟩
  intro L hL
  have R1 := R.step i1 g1
  have hL0 : H L = none := by
    cases e : H L with
    | none => rfl
    | some o =>
      by_cases z : F.Z L
      · exact absurd hL (F.zi H1 L i1 z)
      · rw [g1 L o e z] at hL; cases hL
  have hfr := F.nw _ _ R.inv hL0
  have i2 : F.I (upd H1 L (.lst [])) := F.up _ _ _ i1 hfr
  have R2 : RepS (gx X) F (Mp M L) σ (upd H1 L (.lst [])) en := R1.more i2 (Gr.new hL) hL hfr (by rw [upd_same]; exact fun z => nomatch z)
  have k12 : Kp M (Mp M L) H1 (upd H1 L (.lst [])) := .more hL fun b o e _ => by rw [upd_ne (ne_of_none e hL)]; exact e
  let St' := fun (i : Nat) (H' : Hp) => RepS (gx X) F (Mp M L) σ H' en ∧ Gr F H H' ∧ Kp M (Mp M L) H1 H' ∧ ∃ acc, H' L = some (.lst acc) ∧ Rps (gx X) (Mp M L) H' acc (picked p g (ds.take i))
  refine ⟨fun i m H' => St' i H' ∧ i ≤ ds.length ∧ m = ds.length - i, ⟨ds.length, ⟨R2, g1.trans (Gr.new hL), k12, [], upd_same, .nil⟩, Nat.zero_le _, rfl⟩, ?_⟩
  rintro i m H' ⟨⟨R', gr, k', acc, hacc, racc⟩, hle, rfl⟩
  have jk := jok (Mp M L) H' k' R'.dom i
  by_cases hlt : i < ds.length
  · have hdi : ds[i]? = some ds[i] := List.getElem?_eq_getElem hlt
    have hmem : ds[i] ∈ ds := List.getElem_mem hlt
    obtain ⟨go, yld⟩ := jk.1 _ hdi
    obtain ⟨items, hsp, hel⟩ := he _ hmem
    refine .inr ⟨go, St' (i + 1), fun H3 z => ⟨ds.length - (i + 1), by omega, z, hlt, rfl⟩, fun x H3 y => ?_⟩
    obtain ⟨sm, rx⟩ := yld x H3 y
    have R3 := R'.same sm
    have k3 : Kp (Mp M L) (Mp M L) H' H3 := R'.kp (Gr.same sm)
    have R3w := R3.wipe (own.map (·.2))
    intro s0 H0 C cl fp
    refine ht s0 H0 C cl fp (Mp M L) _ H3 _ x _ items _ R3w rx hsp fun vs rs hl => ⟨?_, ?_⟩
    · rw [wipe_setV hown, wipe_idem]
    · have R4 := R3w.setl (is := is) rs
      refine ht2 _ hmem items hsp _ H3 _ ⟨Mp M L, R4, fun b H4 i4 g4 eb => ?_⟩
      subst eb
      have gL : H4 L = some (.lst acc) := by
        have e3 := sm L _ hacc
        exact g4 L _ e3 fun z => (F.zf L z).2 hfr
      have R5 := R3.step i4 g4
      have k4 := k3.trans (R3.kp g4)
      cases hp : p ds[i] with
      | false =>
        refine iteF ⟨R5, (gr.trans (Gr.same sm)).trans g4, k'.trans k4, acc, gL, ?_⟩
        rw [picked_no hdi hp]
        exact racc.kp k4
      | true =>
        refine iteT ⟨_, _, hel hp, Mp M L, R4.step i4 g4, fun v H5 d i5 g5 rv ed => ?_⟩
        subst ed
        have gL5 : H5 L = some (.lst acc) := g5 L _ gL fun z => (F.zf L z).2 hfr
        have k5 := k4.trans (R5.kp g5)
        refine ⟨acc, gL5, ?_, ?_⟩
        · rw [racc.length]
          refine Nat.lt_of_le_of_lt picked_len (Nat.lt_of_le_of_lt (List.length_take_le _ _) (Nat.lt_of_le_of_lt (Nat.le_trans hle hz) (by decide)))
        · have hu : ∀ b o, H5 b = some o → ¬ Mp M L b → upd H5 L (.lst (acc ++ [v])) b = some o := fun b o e hm => by
            rw [upd_ne fun z => hm (.inr z)]; exact e
          have k6 : Kp (Mp M L) (Mp M L) H5 (upd H5 L (.lst (acc ++ [v]))) := ⟨hu, fun _ _ h => h⟩
          have R6 := R5.step i5 g5
          refine ⟨?_, ?_, k'.trans (k5.trans k6), acc ++ [v], upd_same, ?_⟩
          · refine ⟨F.up _ _ _ i5 hfr, R6.m0, R6.mf, fun a ha => ?_, fun j d h => ?_, R6.sep, fun j d h => ?_, R6.len⟩
            · by_cases e : a = L
              · rw [e, upd_same]; exact fun z => nomatch z
              · rw [upd_ne e]; exact R6.dom a ha
            · obtain ⟨b, h1, h2, h3, h4, h5⟩ := R6.own j d h
              have nb : b ≠ L := fun e => by
                obtain ⟨b', g1', g2', _⟩ := R.own j d h
                rw [h1] at g1'
                cases g1'
                exact R.dom b g2' (e ▸ hL0)
              exact ⟨b, h1, h2, h3, h4, h5.kp k6 fun o e => by rw [upd_ne nb]; exact e⟩
            · obtain ⟨w, h1, h2⟩ := R6.val j d h
              exact ⟨w, h1, h2.kp k6⟩
          · exact fun b o e z => by
              rw [upd_ne (ne_of_none e hL0)]
              exact ((gr.trans (Gr.same sm)).trans (g4.trans g5)) b o e z
          · rw [picked_yes hdi hp]
            exact (racc.kp (k5.trans k6)).append (.cons (rv.kp k6) .nil)
  · have e1 : i = ds.length := by omega
    subst e1
    rw [List.take_length] at racc
    exact .inl ⟨jk.2 (Nat.le_refl _), q L H' _ R'.inv gr hL0 (.lst hacc racc) rfl⟩
theorem lc_all {elt iter : Expr} {ifs : List Expr} {scope : Scope} {own : List (Str × Nat)} {is : List Nat} {sp : D → Option (List D)} {tt : TT} (p : D → Bool) (g : D → D) (hc : X.calm = true) (hN : X.N.Nodup) (hi : Ei X F tg iter en ds) (ok : BlkOk X.N X.env.scope scope own)
    (hown : ∀ i ∈ is, i ∈ own.map (·.2)) (ht : TgB X F scope tg is sp) (htt : ∀ (s : Shared) (H : Hp) (C : Addr) (cl : List (Str × Addr)) (fp : List Addr), PTs (X.blk s H scope (compEnvC scope cl C X.env) fp) ifs tt)
    (ht2 : ∀ d ∈ ds, ∀ items, sp d = some items → ∀ σ H Q, tT (gx X) F (setE (wipeE en (own.map (·.2))) is items) (fun z => z = p d) σ H Q → tt σ H Q)
    (he : ∀ d ∈ ds, ∃ items, sp d = some items ∧ (p d = true → EvB X F scope (setE (wipeE en (own.map (·.2))) is items) elt (g d))) (hz : ds.length ≤ 1000000) (hfs : ∀ x, foldedSetIterable iter X.env x = pure x := by intro _; rfl) :
    Ef X F en (.ListComp elt [⟨tg, iter, ifs, 0⟩] scope pos) (.lst (picked p g ds)) := by
  obtain ⟨tgg, te, hg, hte, hw⟩ := lc_rd (X := X) (F := F) (en := en) (elt := elt) (iter := iter) (ifs := ifs) p g hc hN hi ok hown ht htt ht2 he hz hfs
  exact PE.wk (pe_lc hc hN hi ok hg htt hte hfs) hw
/-- name = [..] on one line -/
theorem s_lcAll {elt iter : Expr} {ifs : List Expr} {scope : Scope} {own : List (Str × Nat)} {is : List Nat} {sp : D → Option (List D)} {tt : TT} {rest : List Stmt} {k : KD} {x : Str} {px spos : Pos} (i : Nat) (p : D → Bool) (g : D → D) (hc : X.calm = true) (hN : X.N.Nodup) (hi : Ei X F tg iter en ds) (ok : BlkOk X.N X.env.scope scope own)
    (hown : ∀ i ∈ is, i ∈ own.map (·.2)) (ht : TgB X F scope tg is sp) (htt : ∀ (s : Shared) (H : Hp) (C : Addr) (cl : List (Str × Addr)) (fp : List Addr), PTs (X.blk s H scope (compEnvC scope cl C X.env) fp) ifs tt)
    (ht2 : ∀ d ∈ ds, ∀ items, sp d = some items → ∀ σ H Q, tT (gx X) F (setE (wipeE en (own.map (·.2))) is items) (fun z => z = p d) σ H Q → tt σ H Q)
    (he : ∀ d ∈ ds, ∃ items, sp d = some items ∧ (p d = true → EvB X F scope (setE (wipeE en (own.map (·.2))) is items) elt (g d))) (hz : ds.length ≤ 1000000) (h : Sx X F (en.set i (some (.own (.lst (picked p g ds))))) rest k) (hx : X.N[i]? = some x := by rfl) (hxl : X.env.scope.names.lookup x = some .local := by rfl) (hfs : ∀ x, foldedSetIterable iter X.env x = pure x := by intro _; rfl) (hsw : swapsWith (.ListComp elt [⟨tg, iter, ifs, 0⟩] scope pos) (some (.Name x px)) spos.line X.env = pure true := by rfl) :
    Sx X F en (.Assign [.Name x px] (.ListComp elt [⟨tg, iter, ifs, 0⟩] scope pos) spos :: rest) k := by
  obtain ⟨tgg, te, hg, hte, hw⟩ := lc_rd (X := X) (F := F) (en := en) (elt := elt) (iter := iter) (ifs := ifs) p g hc hN hi ok hown ht htt ht2 he hz hfs
  refine PSs.wk (pss_cons (ps_setLc hc hN hx hxl hsw hi ok hg htt hte hfs) h) fun E σ H ⟨M, R, q⟩ => ?_
  exact hw σ H (fun v H1 => gName i v σ H1 fun σ2 H2 => tS (gx X) F (en.set i (some (.own (.lst (picked p g ds))))) k E σ2 H2) ⟨M, R, fun a H1 z i1 g1 n r e => by
    subst e
    obtain ⟨R1, n1⟩ := NewO.of R n i1 g1 r
    exact ⟨_, R1.seto n1, q.step (.more n (R.kp g1).at_)⟩⟩
end
end Pz
end
section
set_option Elab.async false
set_option linter.all false
set_option maxRecDepth 100000
set_option maxHeartbeats 4000000
/-! PzE: calls of defs and of built-ins, subscripts, slices, methods of built-ins, fields. -/
namespace Pz
open PySem PySem.Spec PyProof.Rows L2

section
variable {X : Cx} {F : Fr} {en : En} {tg e a b : Expr} {es : List Expr} {ds xs ys : List D} {d x y z : D} {p pos : Pos} {G : Gx} {M : Addr → Prop} {H H' : Hp} {σ : St}
/-! ### list comprehensions, the forms one uses -/
theorem picked_all {g : D → D} : picked (fun _ => true) g ds = ds.map g := by
  unfold picked
  rw [List.filter_eq_self.mpr fun _ _ => rfl]
theorem f_lc {elt iter : Expr} {scope : Scope} {is : List Nat} {sp : D → Option (List D)} (own : List (Str × Nat)) (g : D → D) (hc : X.calm = true) (hN : X.N.Nodup) (ok : BlkOk X.N X.env.scope scope own) (hi : Ei X F tg iter en ds)
    (ht : TgB X F scope tg is sp) (he : ∀ d ∈ ds, ∃ items, sp d = some items ∧ EvB X F scope (setE (wipeE en (own.map (·.2))) is items) elt (g d)) (hz : ds.length ≤ 1000000) (hown : ∀ i ∈ is, i ∈ own.map (·.2) := by decide)
    (hfs : ∀ x, foldedSetIterable iter X.env x = pure x := by intro _; rfl) : Ef X F en (.ListComp elt [⟨tg, iter, [], 0⟩] scope pos) (.lst (ds.map g)) := by
  rw [← picked_all]
  exact lc_all (fun _ => true) g hc hN hi ok hown ht (fun _ _ _ _ _ => pts_nil) (fun d _ items _ σ H Q ⟨M, R, q⟩ => q true H R.inv Gr.refl rfl) (fun d hd => (he d hd).imp fun items h => ⟨h.1, fun _ => h.2⟩) hz hfs
theorem f_lcIf {elt iter c : Expr} {scope : Scope} {is : List Nat} {sp : D → Option (List D)} (own : List (Str × Nat)) (q : D → Bool) (g : D → D) (hc : X.calm = true) (hN : X.N.Nodup) (ok : BlkOk X.N X.env.scope scope own) (hi : Ei X F tg iter en ds)
    (ht : TgB X F scope tg is sp) (he : ∀ d ∈ ds, ∃ items, sp d = some items ∧ EtB X F scope (setE (wipeE en (own.map (·.2))) is items) c (q d) ∧ (q d = true → EvB X F scope (setE (wipeE en (own.map (·.2))) is items) elt (g d))) (hz : ds.length ≤ 1000000) (hown : ∀ i ∈ is, i ∈ own.map (·.2) := by decide)
    (hfs : ∀ x, foldedSetIterable iter X.env x = pure x := by intro _; rfl) : Ef X F en (.ListComp elt [⟨tg, iter, [c], 0⟩] scope pos) (.lst (picked q g ds)) := by
  let tt : TT := fun σ H Q => ∃ en' b, EtB X F scope en' c b ∧ tT (gx X) F en' (fun z => z = b) σ H Q
  refine lc_all (tt := tt) q g hc hN hi ok hown ht (fun s H C cl fp => pts_one ⟨fun pins s' σ H' Q I ⟨en', b, h, r⟩ => PT.run (h s H C cl fp) pins s' σ H' Q I r⟩) (fun d hd items hs σ H Q r => ?_) (fun d hd => (he d hd).imp fun items h => ⟨h.1, h.2.2⟩) hz hfs
  obtain ⟨items', h1, h2, _⟩ := he d hd
  rw [hs] at h1
  cases h1
  exact ⟨_, _, h2, r⟩

theorem s_lc {elt iter : Expr} {scope : Scope} {is : List Nat} {sp : D → Option (List D)} {rest : List Stmt} {k : KD} {x : Str} {px spos : Pos} (i : Nat) (own : List (Str × Nat)) (g : D → D) (hc : X.calm = true) (hN : X.N.Nodup) (ok : BlkOk X.N X.env.scope scope own) (hi : Ei X F tg iter en ds)
    (ht : TgB X F scope tg is sp) (he : ∀ d ∈ ds, ∃ items, sp d = some items ∧ EvB X F scope (setE (wipeE en (own.map (·.2))) is items) elt (g d)) (hz : ds.length ≤ 1000000) (h : Sx X F (en.set i (some (.own (.lst (ds.map g))))) rest k) (hown : ∀ i ∈ is, i ∈ own.map (·.2) := by decide)
    (hx : X.N[i]? = some x := by rfl) (hxl : X.env.scope.names.lookup x = some .local := by rfl) (hfs : ∀ x, foldedSetIterable iter X.env x = pure x := by intro _; rfl) (hsw : swapsWith (.ListComp elt [⟨tg, iter, [], 0⟩] scope pos) (some (.Name x px)) spos.line X.env = pure true := by rfl) :
    Sx X F en (.Assign [.Name x px] (.ListComp elt [⟨tg, iter, [], 0⟩] scope pos) spos :: rest) k := by
  rw [← picked_all] at h
  exact s_lcAll i (fun _ => true) g hc hN hi ok hown ht (fun _ _ _ _ _ => pts_nil) (fun d _ items _ σ H Q ⟨M, R, q⟩ => q true H R.inv Gr.refl rfl) (fun d hd => (he d hd).imp fun items h => ⟨h.1, fun _ => h.2⟩) hz h hx hxl hfs hsw
theorem s_lcIf {elt iter c : Expr} {scope : Scope} {is : List Nat} {sp : D → Option (List D)} {rest : List Stmt} {k : KD} {x : Str} {px spos : Pos} (i : Nat) (own : List (Str × Nat)) (q : D → Bool) (g : D → D) (hc : X.calm = true) (hN : X.N.Nodup) (ok : BlkOk X.N X.env.scope scope own) (hi : Ei X F tg iter en ds)
    (ht : TgB X F scope tg is sp) (he : ∀ d ∈ ds, ∃ items, sp d = some items ∧ EtB X F scope (setE (wipeE en (own.map (·.2))) is items) c (q d) ∧ (q d = true → EvB X F scope (setE (wipeE en (own.map (·.2))) is items) elt (g d))) (hz : ds.length ≤ 1000000) (h : Sx X F (en.set i (some (.own (.lst (picked q g ds))))) rest k) (hown : ∀ i ∈ is, i ∈ own.map (·.2) := by decide)
    (hx : X.N[i]? = some x := by rfl) (hxl : X.env.scope.names.lookup x = some .local := by rfl) (hfs : ∀ x, foldedSetIterable iter X.env x = pure x := by intro _; rfl) (hsw : swapsWith (.ListComp elt [⟨tg, iter, [c], 0⟩] scope pos) (some (.Name x px)) spos.line X.env = pure true := by rfl) :
    Sx X F en (.Assign [.Name x px] (.ListComp elt [⟨tg, iter, [c], 0⟩] scope pos) spos :: rest) k := by
  let tt : TT := fun σ H Q => ∃ en' b, EtB X F scope en' c b ∧ tT (gx X) F en' (fun z => z = b) σ H Q
  refine s_lcAll (tt := tt) i q g hc hN hi ok hown ht (fun s H C cl fp => pts_one ⟨fun pins s' σ H' Q I ⟨en', b, h, r⟩ => PT.run (h s H C cl fp) pins s' σ H' Q I r⟩) (fun d hd items hs σ H Q r => ?_) (fun d hd => (he d hd).imp fun items h => ⟨h.1, h.2.2⟩) hz h hx hxl hfs hsw
  obtain ⟨items', h1, h2, _⟩ := he d hd
  rw [hs] at h1
  cases h1
  exact ⟨_, _, h2, r⟩
/-! ### arguments to look at -/
inductive Bws (G : Gx) (M : Addr → Prop) (σ : St) (H : Hp) (en : En) : List V → List D → Prop
  | nil : Bws G M σ H en [] []
  | cons {v vs d ds} : Bw G M σ H en v d → Bws G M σ H en vs ds → Bws G M σ H en (v :: vs) (d :: ds)
def tAb (G : Gx) (F : Fr) (en : En) (ds : List D) : TA := fun σ H Q => ∃ M, RepS G F M σ H en ∧ ∀ vs H', F.I H' → Gr F H H' → Bws G M σ H' en vs ds → Q vs H'
def Eab (X : Cx) (F : Fr) (en : En) (es : List Expr) (ds : List D) : Prop := PA X es (tAb (gx X) F en ds)
theorem b_nil : Eab X F en [] [] := PA.wk pa_nil fun σ H Q ⟨M, R, q⟩ => q [] H R.inv Gr.refl .nil
theorem b_cons (h : Eb X F en e d) (hr : Eab X F en es ds) (hs : starEach (e :: es) X.env = (false, eval e X.env) :: starEach es X.env := by rfl) : Eab X F en (e :: es) (d :: ds) :=
  PA.wk (pa_cons h hr hs) fun σ H Q ⟨M, R, q⟩ => ⟨M, R, fun v H1 i g r => ⟨M, R.step i g, fun vs H2 i2 g2 r2 => q _ H2 i2 (g.trans g2) (.cons (r.step (R.step i g) i2 g2) r2)⟩⟩
/-- a built-in's call on data: a value; a new object -/
def CallD (X : Cx) (F : Fr) (en : En) (f : Value) (ds : List D) (z : D) : Prop := ∀ (M : Addr → Prop) (σ : St) (H : Hp) (vs : List V) (Q : VK), RepS (gx X) F M σ H en → Bws (gx X) M σ H en vs ds → (∀ v H', F.I H' → Gr F H H' → Rp (gx X) M H' v z → Q v H') → rC X f vs H Q
def CallN (X : Cx) (F : Fr) (en : En) (f : Value) (ds : List D) (z : D) : Prop := ∀ (M : Addr → Prop) (σ : St) (H : Hp) (vs : List V) (Q : VK), RepS (gx X) F M σ H en → Bws (gx X) M σ H en vs ds → (∀ a H', F.I H' → Gr F H H' → H a = none → Own (gx X) (Mp M a) H' a z → Q (.ref a) H') → rC X f vs H Q
theorem rC_ok {f : Value} : CallR X f (rC X f) := fun pins s σ H xs us Q I r h => h pins s σ us I r
theorem rC_of {f : Value} {r : List V → Hp → VK → Prop} (h : CallR X f r) {xs : List V} {H : Hp} {Q : VK} (q : r xs H Q) : rC X f xs H Q := fun pins s σ us I rx => h pins s σ H xs us Q I rx q
theorem none_back (R : RepS G F M σ H en) (i : F.I H') (g : Gr F H H') {p : Addr} (h : H' p = none) : H p = none := by
  cases e : H p with
  | none => rfl
  | some o =>
    by_cases z : F.Z p
    · exact absurd h (F.zi H' p i z)
    · rw [g p o e z] at h; cases h
section
variable {id T : String} {f : Str}
theorem e_callB (ha : Eab X F en (e :: es) ds) (hc : CallD X F en (.builtin id) ds z) (hm : X.mg f = none) (hg : Gl X f := by rfl) (hv : bootBuiltins f = some (.builtin id) := by decide +kernel) (hn : f ≠ "__name__" := by decide) (hdb : (f == ("__debug__" : Str)) = false := by decide)
    (he : starEach (e :: es) X.env = (false, eval e X.env) :: starEach es X.env := by rfl) (hpl : (backTo pos (starEach es X.env)).any (·.1) = false := by rfl) : Ev X F en (.Call (.Name f p) (e :: es) [] pos) z :=
  PE.wk (pe_callB rC_ok hg hm hv ha hn hdb he hpl) fun σ H Q ⟨M, R, q⟩ => ⟨M, R, fun vs H1 i g r => hc M σ H1 vs Q (R.step i g) r fun v H2 i2 g2 rp => q v H2 z i2 (g.trans g2) rp rfl⟩
theorem f_callB (ha : Eab X F en (e :: es) ds) (hc : CallN X F en (.builtin id) ds z) (hm : X.mg f = none) (hg : Gl X f := by rfl) (hv : bootBuiltins f = some (.builtin id) := by decide +kernel) (hn : f ≠ "__name__" := by decide) (hdb : (f == ("__debug__" : Str)) = false := by decide)
    (he : starEach (e :: es) X.env = (false, eval e X.env) :: starEach es X.env := by rfl) (hpl : (backTo pos (starEach es X.env)).any (·.1) = false := by rfl) : Ef X F en (.Call (.Name f p) (e :: es) [] pos) z :=
  PE.wk (pe_callB rC_ok hg hm hv ha hn hdb he hpl) fun σ H Q ⟨M, R, q⟩ => ⟨M, R, fun vs H1 i g r => hc M σ H1 vs Q (R.step i g) r fun a H2 i2 g2 n o => q a H2 z i2 (g.trans g2) (none_back R i g n) o rfl⟩
theorem e_callT (ha : Eab X F en (e :: es) ds) (hc : CallD X F en (.type T) ds z) (hm : X.mg f = none) (hg : Gl X f := by rfl) (hv : bootBuiltins f = some (.type T) := by decide +kernel) (hn : f ≠ "__name__" := by decide) (hdb : (f == ("__debug__" : Str)) = false := by decide)
    (he : starEach (e :: es) X.env = (false, eval e X.env) :: starEach es X.env := by rfl) (hpl : (backTo pos (starEach es X.env)).any (·.1) = false := by rfl) : Ev X F en (.Call (.Name f p) (e :: es) [] pos) z :=
  PE.wk (pe_callTy rC_ok hg hm hv ha hn hdb he hpl) fun σ H Q ⟨M, R, q⟩ => ⟨M, R, fun vs H1 i g r => hc M σ H1 vs Q (R.step i g) r fun v H2 i2 g2 rp => q v H2 z i2 (g.trans g2) rp rfl⟩
theorem f_callT (ha : Eab X F en (e :: es) ds) (hc : CallN X F en (.type T) ds z) (hm : X.mg f = none) (hg : Gl X f := by rfl) (hv : bootBuiltins f = some (.type T) := by decide +kernel) (hn : f ≠ "__name__" := by decide) (hdb : (f == ("__debug__" : Str)) = false := by decide)
    (he : starEach (e :: es) X.env = (false, eval e X.env) :: starEach es X.env := by rfl) (hpl : (backTo pos (starEach es X.env)).any (·.1) = false := by rfl) : Ef X F en (.Call (.Name f p) (e :: es) [] pos) z :=
  PE.wk (pe_callTy rC_ok hg hm hv ha hn hdb he hpl) fun σ H Q ⟨M, R, q⟩ => ⟨M, R, fun vs H1 i g r => hc M σ H1 vs Q (R.step i g) r fun a H2 i2 g2 n o => q a H2 z i2 (g.trans g2) (none_back R i g n) o rfl⟩
end
theorem Bws.one {v : List V} (h : Bws G M σ H en v [d]) : ∃ w, v = [w] ∧ Bw G M σ H en w d := by
  cases h with
  | cons a r => cases r; exact ⟨_, rfl, a⟩
theorem Bws.two {v : List V} (h : Bws G M σ H en v [x, y]) : ∃ w u, v = [w, u] ∧ Bw G M σ H en w x ∧ Bw G M σ H en u y := by
  cases h with
  | cons a r =>
    obtain ⟨u, rfl, b⟩ := r.one
    exact ⟨_, _, rfl, a, b⟩
/-- from a rule of one argument -/
theorem cd_of {f : Value} {r : List V → Hp → VK → Prop} (hr : CallR X f r) (h : ∀ (M : Addr → Prop) (σ : St) (H : Hp) (v : V) (Q : VK), RepS (gx X) F M σ H en → Bw (gx X) M σ H en v x → (∀ v H', F.I H' → Gr F H H' → Rp (gx X) M H' v z → Q v H') → r [v] H Q) : CallD X F en f [x] z :=
  fun M σ H vs Q R b q => by
    obtain ⟨w, rfl, bw⟩ := b.one
    exact rC_of hr (h M σ H w Q R bw q)
theorem cn_of {f : Value} {r : List V → Hp → VK → Prop} (hr : CallR X f r) (h : ∀ (M : Addr → Prop) (σ : St) (H : Hp) (v : V) (Q : VK), RepS (gx X) F M σ H en → Bw (gx X) M σ H en v x → (∀ a H', F.I H' → Gr F H H' → H a = none → Own (gx X) (Mp M a) H' a z → Q (.ref a) H') → r [v] H Q) : CallN X F en f [x] z :=
  fun M σ H vs Q R b q => by
    obtain ⟨w, rfl, bw⟩ := b.one
    exact rC_of hr (h M σ H w Q R bw q)
/-- a new list laid -/
theorem RepS.new_lst {vs : List V} {l : Addr} (R : RepS (gx X) F M σ H en) (hl : H l = none) (r : Rps (gx X) M H vs ds) : F.I (upd H l (.lst vs)) ∧ Gr F H (upd H l (.lst vs)) ∧ Own (gx X) (Mp M l) (upd H l (.lst vs)) l (.lst ds) :=
  ⟨F.up _ _ _ R.inv (F.nw _ _ R.inv hl), Gr.new hl, .lst upd_same (r.kp (.more hl (R.kp (Gr.new hl)).at_))⟩
theorem k_len : CallD X F en (.builtin "len") [.lst xs] (.int (xs.length : Int)) := cd_of call_len_seq fun M σ H v Q R b q => by
  obtain ⟨a, vs, rfl, h, r⟩ := b.lst R
  exact ⟨a, vs, rfl, .inl h, q _ H R.inv Gr.refl (r.length ▸ .int _)⟩
theorem k_lenT : CallD X F en (.builtin "len") [.tup xs] (.int (xs.length : Int)) := cd_of call_len_seq fun M σ H v Q R b q => by
  obtain ⟨a, vs, rfl, h, r⟩ := b.tup R
  exact ⟨a, vs, rfl, .inr h.sq, q _ H R.inv Gr.refl (r.length ▸ .int _)⟩
theorem k_lenS {t : Str} (h : t.length ≤ sizeLine) : CallD X F en (.builtin "len") [.str t] (.int (t.length : Int)) := cd_of call_len_str fun M σ H v Q R b q =>
  ⟨t, by rw [b.str R], h, q _ H R.inv Gr.refl (.int _)⟩
theorem Rps.bls : ∀ {vs : List V} {bs : List Bool}, Rps G M H vs (bs.map .bl) → vs = bs.map .bl
  | _, [], h => h.inv_nil
  | _, x :: xs, h => by
    cases h with
    | cons a r => cases a; exact congrArg _ (Rps.bls r)
theorem k_all {bs : List Bool} (hc : X.calm = true) : CallD X F en (.builtin "all") [.lst (bs.map .bl)] (.bl (bs.all id)) := cd_of (cr_all hc) fun M σ H v Q R b q => by
  obtain ⟨a, vs, rfl, h, r⟩ := b.lst R
  have e := r.bls
  subst e
  exact ⟨a, bs, rfl, h, q _ H R.inv Gr.refl (.bl _)⟩
theorem k_sum {ns : List Int} (hc : X.calm = true) : CallD X F en (.builtin "sum") [.lst (ns.map .int)] (.int ns.sum) := cd_of (cr_sum hc) fun M σ H v Q R b q => by
  obtain ⟨a, vs, rfl, h, r⟩ := b.lst R
  have e := r.ints
  subst e
  exact ⟨a, ns, rfl, h, q _ H R.inv Gr.refl (.int _)⟩
theorem k_tuple : CallD X F en (.type "tuple") [.lst xs] (.tup xs) := cd_of call_tuple_of fun M σ H v Q R b q => by
  obtain ⟨a, vs, rfl, h, r⟩ := b.lst R
  refine ⟨a, vs, rfl, .inl ⟨h, fun l hl => ?_⟩⟩
  obtain ⟨i2, g2, r2⟩ := R.new_tup hl r
  exact q _ _ i2 g2 r2
theorem k_tupleT : CallD X F en (.type "tuple") [.tup xs] (.tup xs) := cd_of call_tuple_of fun M σ H v Q R b q => by
  obtain ⟨a, vs, rfl, h, r⟩ := b.tup R
  exact ⟨a, vs, rfl, .inr ⟨h.sq, q _ H R.inv Gr.refl (.tup h r)⟩⟩
theorem k_list : CallN X F en (.type "list") [.lst xs] (.lst xs) := cn_of call_list_of fun M σ H v Q R b q => by
  obtain ⟨a, vs, rfl, h, r⟩ := b.lst R
  refine ⟨a, vs, rfl, .inl h, fun l hl => ?_⟩
  obtain ⟨i2, g2, o⟩ := R.new_lst hl r
  exact q _ _ i2 g2 hl o
theorem k_listT : CallN X F en (.type "list") [.tup xs] (.lst xs) := cn_of call_list_of fun M σ H v Q R b q => by
  obtain ⟨a, vs, rfl, h, r⟩ := b.tup R
  refine ⟨a, vs, rfl, .inr h.sq, fun l hl => ?_⟩
  obtain ⟨i2, g2, o⟩ := R.new_lst hl r
  exact q _ _ i2 g2 hl o
theorem k_int {i : Int} : CallD X F en (.type "int") [.int i] (.int i) := cd_of call_int1 fun M σ H v Q R b q => .inl ⟨i, by rw [b.int R], q _ H R.inv Gr.refl (.int _)⟩
theorem k_intB {i : Bool} : CallD X F en (.type "int") [.bl i] (.int (if i then 1 else 0)) := cd_of call_int1 fun M σ H v Q R b q => .inr ⟨i, by rw [b.bl R], q _ H R.inv Gr.refl (.int _)⟩
theorem k_abs {i : Int} : CallD X F en (.builtin "abs") [.int i] (.int (if i < 0 then -i else i)) := cd_of call_abs fun M σ H v Q R b q => ⟨i, by rw [b.int R], q _ H R.inv Gr.refl (.int _)⟩

/-! ### isinstance -/
def D.tyn : D → String
  | .non => "NoneType"
  | .bl _ => "bool"
  | .int _ => "int"
  | .str _ => "str"
  | .tup _ => "tuple"
  | .lst _ => "list"
  | .dct _ => "dict"
  | _ => "?"

/-! ### subscripts -/
def IxD (X : Cx) (F : Fr) (en : En) (x y z : D) : Prop :=
  ∀ (M : Addr → Prop) (σ : St) (H : Hp) (vx vy : V) (Q : VK), RepS (gx X) F M σ H en → Bw (gx X) M σ H en vx x → Bw (gx X) M σ H en vy y → (∀ v H', F.I H' → Gr F H H' → Rp (gx X) M H' v z → Q v H') → rIx X.K vx vy H Q
theorem e_ix (ha : Eb X F en a x) (hb : Ev X F en b y) (ho : IxD X F en x y z) (hs : PlainIx b := by intro _ _; rfl) : Ev X F en (.Subscript a b pos) z :=
  PE.wk (pe_ix ix_seq ha hb.eb hs) fun σ H Q ⟨M, R, q⟩ => ⟨M, R, fun vx H1 i1 g1 bx => ⟨M, R.step i1 g1, fun vy H2 i2 g2 by_ => by
    have R1 := R.step i1 g1
    exact ho M σ H2 vx vy Q (R1.step i2 g2) (bx.step R1 i2 g2) by_ fun v H' i3 g3 r => q v H' z i3 ((g1.trans g2).trans g3) r rfl⟩⟩
theorem x_tup {j : Nat} (h : xs[j]? = some d) : IxD X F en (.tup xs) (.int (j : Int)) d := fun M σ H vx vy Q R bx by_ q => by
  obtain ⟨a, vs, rfl, ht, r⟩ := bx.tup R
  obtain ⟨w, hw, rw_⟩ := r.get h
  exact .inr (.inl ⟨a, vs, (j : Int), w, rfl, by_.int R, ht.sq, atI_nat hw, q w H R.inv Gr.refl rw_⟩)
theorem x_lst {j : Nat} (h : xs[j]? = some d) : IxD X F en (.lst xs) (.int (j : Int)) d := fun M σ H vx vy Q R bx by_ q => by
  obtain ⟨a, vs, rfl, ht, r⟩ := bx.lst R
  obtain ⟨w, hw, rw_⟩ := r.get h
  exact .inl ⟨a, vs, (j : Int), w, rfl, by_.int R, ht, atI_nat hw, q w H R.inv Gr.refl rw_⟩
/-- slices with written or open bounds -/
def Eo (X : Cx) (F : Fr) (en : En) (e : Option Expr) (o : Option Int) : Prop := PO X e (fun σ H Q => ∃ M, RepS (gx X) F M σ H en ∧ ∀ H', F.I H' → Gr F H H' → Q o H')
theorem PO.wk {e : Option Expr} {t t' : TO} (h : PO X e t) (w : ∀ σ H Q, t' σ H Q → t σ H Q) : PO X e t' := ⟨fun pins s σ H Q I q => h.run pins s σ H Q I (w σ H Q q)⟩
theorem o_none : Eo X F en none none := PO.wk po_none fun σ H Q ⟨M, R, q⟩ => q H R.inv Gr.refl
theorem o_some {i : Int} (h : Ev X F en e (.int i)) : Eo X F en (some e) (some i) := PO.wk (po_some h) fun σ H Q ⟨M, R, q⟩ => ⟨M, R, fun v H' d j g r ed => by
  subst ed
  cases r
  exact ⟨i, rfl, q H' j g⟩⟩
def cutD (xs : List D) (lo hi : Option Int) : List D := (xs.drop (HT.sIx xs.length 0 lo)).take (HT.sIx xs.length xs.length hi - HT.sIx xs.length 0 lo)
theorem Rps.cut {vs : List V} (r : Rps G M H vs xs) (lo hi : Option Int) : Rps G M H (cutV vs lo hi) (cutD xs lo hi) := by
  unfold cutV cutD
  rw [r.length]
  exact (r.drop _).take _
theorem e_slT {lo hi : Option Expr} {l h : Option Int} {p2 : Pos} (ha : Ev X F en a (.tup xs)) (hl : Eo X F en lo l) (hh : Eo X F en hi h) : Ev X F en (.Subscript a (.Slice lo hi none p2) pos) (.tup (cutD xs l h)) :=
  PE.wk (pe_slice sl_tupA ha hl hh) fun σ H Q ⟨M, R, q⟩ => ⟨M, R, fun v H1 z i1 g1 rp ez => ⟨M, R.step i1 g1, fun H2 i2 g2 => ⟨M, (R.step i1 g1).step i2 g2, fun H3 i3 g3 => by
    subst ez
    have R3 := ((R.step i1 g1).step i2 g2).step i3 g3
    have rp3 := (rp.kp ((R.step i1 g1).kp g2)).kp (((R.step i1 g1).step i2 g2).kp g3)
    have g := (g1.trans g2).trans g3
    cases rp3 with
    | tup ht rs =>
      rename_i aa vs
      refine ⟨aa, vs, rfl, ht.sq, fun e => ?_, fun _ pp hp => ?_⟩
      · refine q _ H3 _ i3 g (.tup ht ?_) rfl
        have ec : cutD xs l h = xs := by
          unfold cutD
          rw [← rs.length, e.1, e.2]
          simp [rs.length]
        rw [ec]
        exact rs
      · obtain ⟨i4, g4, r4⟩ := R3.new_tup hp (rs.cut l h)
        exact q _ _ _ i4 (g.trans g4) r4 rfl⟩⟩⟩
theorem f_slL {lo hi : Option Expr} {l h : Option Int} {p2 : Pos} (ha : Eb X F en a (.lst xs)) (hl : Eo X F en lo l) (hh : Eo X F en hi h) : Ef X F en (.Subscript a (.Slice lo hi none p2) pos) (.lst (cutD xs l h)) :=
  PE.wk (pe_slice sl_list ha hl hh) fun σ H Q ⟨M, R, q⟩ => ⟨M, R, fun v H1 i1 g1 bx => ⟨M, R.step i1 g1, fun H2 i2 g2 => ⟨M, (R.step i1 g1).step i2 g2, fun H3 i3 g3 => by
    have R2 := (R.step i1 g1).step i2 g2
    have R3 := R2.step i3 g3
    have g := (g1.trans g2).trans g3
    obtain ⟨aa, vs, rfl, ht, rs⟩ := ((bx.step (R.step i1 g1) i2 g2).step R2 i3 g3).lst R3
    refine ⟨aa, vs, rfl, ht, fun pp hp => ?_⟩
    obtain ⟨i4, g4, o4⟩ := R3.new_lst hp (rs.cut l h)
    exact q _ _ _ i4 (g.trans g4) (none_back R i3 g hp) o4 rfl⟩⟩⟩
end

/-! ### a def's promise, its call -/
def spF (G : Gx) (R : List D → D → Prop) : Sp := fun vs H Q _ => ∃ (M : Addr → Prop) (ds : List D) (d : D), Rps G M H vs ds ∧ (∀ a, M a → H a ≠ none) ∧ R ds d ∧ ∀ v H', Same H H' → Rp G M H' v d → Q v H'
/-- the module's name x is a def of level k that keeps R -/
def Cal (P : Program) (w : World) (K : PySem.W.Frag) (mg : Str → Option Value) (base : Heap) (k : Nat) (x : Str) (R : List D → D → Prop) : Prop :=
  ∃ (f : Addr) (fd : FuncData) (ps : List Str), mg x = some (.ref f) ∧ PySem.W.keepIn K (.ref f) = true ∧ FnOk P w K mg base CX0 k f fd ps (spF ⟨P, w, K⟩ R) ∧ Binds K fd ps []
abbrev CalX (X : Cx) : Nat → Str → (List D → D → Prop) → Prop := Cal X.prog X.w X.K X.mg X.base
section
variable {X : Cx} {F : Fr} {en : En} {e : Expr} {es : List Expr} {ds : List D} {d : D} {p pos : Pos} {k : Nat} {x : Str} {R : List D → D → Prop}
theorem e_call (C : CalX X k x R) (hr : Room k X.A) (ha : Ea X F en (e :: es) ds) (hR : R ds d) (hg : Gl X x := by rfl) (hdb : (x == ("__debug__" : Str)) = false := by decide) (he : starEach (e :: es) X.env = (false, eval e X.env) :: starEach es X.env := by rfl)
    (hpl : (backTo pos (starEach es X.env)).any (·.1) = false := by rfl) : Ev X F en (.Call (.Name x p) (e :: es) [] pos) d := by
  obtain ⟨f, fd, ps, hm, hk, FF, hb⟩ := C
  exact PE.wk (pe_call FF hr hg hm hk hb .nil pass0 ha hdb he hpl) fun σ H Q ⟨M, R, q⟩ => ⟨M, R, fun vs H1 i g r => ⟨M, ds, d, by rw [List.append_nil]; exact r, (R.step i g).dom, hR, fun v H2 s r2 => q v H2 d (F.st _ _ i s) (g.trans (Gr.same s)) r2 rfl⟩⟩
end
/-- the frame of a def that leaves all as it is -/
def Fr.pure (M : Addr → Prop) (H : Hp) (hM : ∀ a, M a → H a ≠ none) : Fr where
  M0 := M
  Z := fun _ => False
  I := fun H' => Same H H'
  fresh := fun a => H a = none
  st := fun _ _ a b => a.trans b
  up := fun H' a o s hn b u hb => by rw [upd_ne (ne_of_none hb hn)]; exact s b u hb
  nw := fun H' a s hn => s.free hn
  zf := fun _ z => z.elim
  zi := fun _ _ _ z => z.elim
def startE (N : List Str) (ds : List D) : En := ds.map (fun d => some (.v d)) ++ List.replicate (N.length - ds.length) none
theorem start_rep {G : Gx} {M : Addr → Prop} {H : Hp} {N : List Str} {vs : List V} {ds : List D} (hM : ∀ a, M a → H a ≠ none) (r : Rps G M H vs ds) : RepS G (Fr.pure M H hM) M (L2.start N vs) H (startE N ds) := by
  have hl := r.length
  have sl : ∀ (i : Nat) s, (startE N ds)[i]? = some (some s) → ∃ d, ds[i]? = some d ∧ s = .v d := fun i s h => by
    unfold startE at h
    by_cases hi : i < ds.length
    · rw [List.getElem?_append_left (by simpa using hi), List.getElem?_map, List.getElem?_eq_getElem hi] at h
      exact ⟨ds[i], List.getElem?_eq_getElem hi, by cases h; rfl⟩
    · rw [List.getElem?_append_right (by simpa using hi), List.getElem?_replicate] at h
      split at h <;> cases h
  refine ⟨Same.refl _, fun _ h => h, fun _ h => .inl h, hM, fun i d h => ?_, fun i j a d d' _ h => ?_, fun i d h => ?_, by simp [startE, L2.start, hl]⟩
  · obtain ⟨_, _, e⟩ := sl i _ h
    cases e
  · obtain ⟨_, _, e⟩ := sl i _ h
    cases e
  · obtain ⟨d', h1, e⟩ := sl i _ h
    cases e
    obtain ⟨v, hv, rv⟩ := r.get h1
    refine ⟨v, ?_, rv⟩
    unfold L2.start
    have hi : i < vs.length := (List.getElem?_eq_some_iff.mp hv).1
    rw [List.getElem?_append_left (by simpa using hi), List.getElem?_map, hv]
    rfl
section
variable {P : Program} {w : World} {K : PySem.W.Frag} {mg : Str → Option Value} {base : Heap}
/-- a def that changes nothing of its callers', by its body -/
theorem def_ok {x qual : Str} {st : Stmt} {f : Addr} {fd : FuncData} {N ps : List Str} {k : Nat} {R : List D → D → Prop} (F : Fun K x qual st f fd) (S : FnScope N ps (defScope st)) (len : ∀ ds d, R ds d → ds.length = ps.length)
    (hb : ∀ (cdv : Value) (A : Around) (outer : List Env) (s : Shared) (H : Hp) (E : XK) (Fm : Fr) (ds : List D) (d : D), Room k (A.deeper (envOfC qual (defScope st) s.heap.objs.size f cdv)) → R ds d →
      Sx ((cxOf CX0 P w K mg base N qual (defScope st) f cdv A outer s H E).nox) Fm (startE N ds) (defBody st) { nx := fun _ => d = .non, rt := fun z => z = d }) :
    FnOk P w K mg base CX0 (k + 1) f fd ps (spF ⟨P, w, K⟩ R) := by
  refine F.ok S (fun vs H Q E h => ?_) (fun cdv A outer s H vs Q E hr h => ?_)
  · obtain ⟨M, ds, d, r, _, hR, _⟩ := h
    rw [r.length]
    exact len ds d hR
  · obtain ⟨M, ds, d, r, hM, hR, q⟩ := h
    refine ⟨_, hb cdv A outer s H E (Fr.pure M H hM) ds d hr hR, M, start_rep hM r, ⟨fun M' σ' H' en' R' kp z => ?_, fun v H' z i rp e => q v H' i (e ▸ rp), fun _ _ _ _ _ _ z => z.elim, fun _ _ _ _ _ _ z => z.elim, fun _ _ _ _ _ _ _ z => z.elim, fun _ _ _ _ _ _ _ _ _ z => z.elim⟩⟩
    subst z
    exact q .non H' R'.inv .non
/-- the module's def at x -/
def DefAt (K : PySem.W.Frag) (mg : Str → Option Value) (x : Str) (st : Stmt) : Prop := ∃ f fd, mg x = some (.ref f) ∧ Fun K x x st f fd
theorem cal_ok {x : Str} {st : Stmt} {N ps : List Str} {k : Nat} {R : List D → D → Prop} (C : DefAt K mg x st) (S : FnScope N ps (defScope st)) (len : ∀ ds d, R ds d → ds.length = ps.length)
    (hbi : ∀ (kV doc pm : Value) (an : Option Addr) (cdv ct : Value) (us : List Value), us.length = ps.length → bindArgs (PySem.W.fnOf x x (defArgs st) (defBody st) (defScope st) .none kV doc pm an cdv ct) ⟨us, []⟩ = Pure.pure (ps.zip us))
    (hb : ∀ (f : Addr) (cdv : Value) (A : Around) (outer : List Env) (s : Shared) (H : Hp) (E : XK) (Fm : Fr) (ds : List D) (d : D), Room k (A.deeper (envOfC x (defScope st) s.heap.objs.size f cdv)) → R ds d →
      Sx ((cxOf CX0 P w K mg base N x (defScope st) f cdv A outer s H E).nox) Fm (startE N ds) (defBody st) { nx := fun _ => d = .non, rt := fun z => z = d }) :
    Cal P w K mg base (k + 1) x R := by
  obtain ⟨f, fd, hm, F⟩ := C
  exact ⟨f, fd, ps, hm, F.kp, def_ok F S len (hb f), F.binds hbi⟩
/-! ### defs that give a new object -/
def spN (G : Gx) (R : List D → D → Prop) : Sp := fun vs H Q _ => ∃ (M : Addr → Prop) (ds : List D) (d : D), Rps G M H vs ds ∧ (∀ a, M a → H a ≠ none) ∧ R ds d ∧ ∀ a H', Same H H' → H a = none → Own G (Mp M a) H' a d → Q (.ref a) H'
def CalN (P : Program) (w : World) (K : PySem.W.Frag) (mg : Str → Option Value) (base : Heap) (k : Nat) (x : Str) (R : List D → D → Prop) : Prop :=
  ∃ (f : Addr) (fd : FuncData) (ps : List Str), mg x = some (.ref f) ∧ PySem.W.keepIn K (.ref f) = true ∧ FnOk P w K mg base CX0 k f fd ps (spN ⟨P, w, K⟩ R) ∧ Binds K fd ps []
theorem f_call {X : Cx} {F : Fr} {en : En} {e : Expr} {es : List Expr} {ds : List D} {d : D} {p pos : Pos} {k : Nat} {x : Str} {R : List D → D → Prop} (C : CalN X.prog X.w X.K X.mg X.base k x R) (hr : Room k X.A) (ha : Ea X F en (e :: es) ds) (hR : R ds d) (hg : Gl X x := by rfl) (hdb : (x == ("__debug__" : Str)) = false := by decide) (he : starEach (e :: es) X.env = (false, eval e X.env) :: starEach es X.env := by rfl)
    (hpl : (backTo pos (starEach es X.env)).any (·.1) = false := by rfl) : Ef X F en (.Call (.Name x p) (e :: es) [] pos) d := by
  obtain ⟨f, fd, ps, hm, hk, FF, hb⟩ := C
  exact PE.wk (pe_call FF hr hg hm hk hb .nil pass0 ha hdb he hpl) fun σ H Q ⟨M, R, q⟩ => ⟨M, R, fun vs H1 i g r => ⟨M, ds, d, by rw [List.append_nil]; exact r, (R.step i g).dom, hR, fun a H2 s n o => q a H2 d (F.st _ _ i s) (g.trans (Gr.same s)) (none_back R i g n) o rfl⟩⟩
theorem calN_ok {x : Str} {st : Stmt} {N ps : List Str} {k : Nat} {R : List D → D → Prop} (C : DefAt K mg x st) (S : FnScope N ps (defScope st)) (len : ∀ ds d, R ds d → ds.length = ps.length)
    (hbi : ∀ (kV doc pm : Value) (an : Option Addr) (cdv ct : Value) (us : List Value), us.length = ps.length → bindArgs (PySem.W.fnOf x x (defArgs st) (defBody st) (defScope st) .none kV doc pm an cdv ct) ⟨us, []⟩ = Pure.pure (ps.zip us))
    (hb : ∀ (f : Addr) (cdv : Value) (A : Around) (outer : List Env) (s : Shared) (H : Hp) (E : XK) (Fm : Fr) (ds : List D) (d : D), Room k (A.deeper (envOfC x (defScope st) s.heap.objs.size f cdv)) → R ds d →
      Sx ((cxOf CX0 P w K mg base N x (defScope st) f cdv A outer s H E).nox) Fm (startE N ds) (defBody st) { nx := fun _ => False, rt := fun _ => False, ro := fun z => z = d }) :
    CalN P w K mg base (k + 1) x R := by
  obtain ⟨f, fd, hm, F⟩ := C
  refine ⟨f, fd, ps, hm, F.kp, ?_, F.binds hbi⟩
  refine F.ok S (fun vs H Q E h => ?_) (fun cdv A outer s H vs Q E hr h => ?_)
  · obtain ⟨M, ds, d, r, _, hR, _⟩ := h
    rw [r.length]
    exact len ds d hR
  · obtain ⟨M, ds, d, r, hM, hR, q⟩ := h
    refine ⟨_, hb f cdv A outer s H E (Fr.pure M H hM) ds d hr hR, M, start_rep hM r, ⟨fun _ _ _ _ _ _ z => z.elim, fun _ _ _ _ _ z => z.elim, fun _ _ _ _ _ _ z => z.elim, fun _ _ _ _ _ _ z => z.elim, fun a H' z i n0 fr o e => ?_, fun _ _ _ _ _ _ _ _ _ z => z.elim⟩⟩
    subst e
    exact q a H' i fr o
end
end Pz
end
section
set_option Elab.async false
set_option linter.all false
set_option maxRecDepth 100000
set_option maxHeartbeats 4000000
/-! PzF: own lists and dicts changed, dicts with text keys, fields, several targets at once, isinstance, in. -/
namespace Pz
open PySem PySem.Spec PyProof.Rows L2

section
variable {X : Cx} {F : Fr} {en : En} {tg e a b c o : Expr} {es : List Expr} {ds xs ys : List D} {d x y z : D} {p pos p1 p2 p3 : Pos} {G : Gx} {M M' : Addr → Prop} {H H' : Hp} {σ : St} {k : KD} {rest : List Stmt}
/-! ### lists -/
theorem s_app (i : Nat) {nm_ : Str} (he : Ev X F en e d) (h : Sx X F (en.set i (some (.own (.lst (xs ++ [d]))))) rest k) (hl : xs.length < 1000000) (hi : en[i]? = some (some (.own (.lst xs))) := by rfl) (hN : X.N[i]? = some nm_ := by rfl)
    (hv : Vis X.env.scope nm_ := by first | exact Or.inl rfl | exact Or.inr (Or.inl rfl) | exact Or.inr (Or.inr rfl)) (hd : (nm_ == ("__debug__" : Str)) = false := by decide) (hcd : (nm_ == ("__classdict__" : Str)) = false := by decide)
    (hbase : attributeBase (.Name nm_ p1) ("append" : Str) X.env (eval (.Name nm_ p1) X.env) = eval (.Name nm_ p1) X.env := by rfl)
    (hfew : ((backTo p3 (starEach [e] X.env)).all (fun x => !x.1) && (backToKw p3 (keywordEach [] X.env)).all (fun x => x.1.isSome) && decide (([e] : List Expr).length + ([] : List Keyword).length + (if ([] : List Keyword).isEmpty then 0 else 1) < 30)) = true := by rfl)
    (hline : (p2.endLine == p3.line) = true := by rfl) (hs : starEach [e] X.env = (false, eval e X.env) :: starEach [] X.env := by rfl) (hplain : (backTo p3 (starEach [] X.env)).any (·.1) = false := by rfl)
    (hsw : swapsWith (.Call (.Attribute (.Name nm_ p1) ("append" : Str) p2) [e] [] p3) none pos.line X.env = pure false := by rfl) :
    Sx X F en (.Expr (.Call (.Attribute (.Name nm_ p1) ("append" : Str) p2) [e] [] p3) pos :: rest) k :=
  PSs.wk (pss_cons (ps_expr (pe_bm PySem.F.plainAttrs_list PySem.F.slot_list_append PySem.F.type_list_append mt_append (pe_var hN hv hd hcd) (pa_cons he pa_nil hs) hbase hfew hline hs hplain) hsw) h) fun E σ H ⟨M, R, q⟩ => by
    obtain ⟨a, h1, h2, h3, h4, h5⟩ := R.own i _ hi
    cases h5 with
    | lst hv rv =>
      rename_i vs
      refine ⟨.ref a, h1, .inl ⟨rfl, vs, .of hv⟩, M, R, fun v H1 d' i1 g1 rp ed => ?_⟩
      subst ed
      have R1 := R.step i1 g1
      have hv1 : H1 a = some (.lst vs) := g1 a _ hv fun z => (F.zf a z).2 h4
      have rv1 := rv.kp (R.kp g1)
      refine ⟨a, vs, v, rfl, rfl, hv1, ?_, ?_⟩
      · rw [rv.length]; exact Nat.lt_trans hl (by decide)
      · have kk : Kp M M H1 (upd H1 a (.lst (vs ++ [v]))) := ⟨fun b u e hm => by rw [upd_ne (fun z => hm (by rw [z]; exact h2))]; exact e, fun _ _ hm => hm⟩
        exact ⟨M, R1.chg hi h1 (.lst upd_same ((rv1.append (.cons rp .nil)).kp kk)), q.step ((R.kp g1).trans kk)⟩
/-- xs[j] = e, xs an own list -/
theorem s_setL (i : Nat) {j : Nat} {nm_ : Str} (he : Ev X F en e d) (hb : Ev X F en b (.int (j : Int))) (hj : j < xs.length) (h : Sx X F (en.set i (some (.own (.lst (xs.set j d))))) rest k) (hi : en[i]? = some (some (.own (.lst xs))) := by rfl) (hN : X.N[i]? = some nm_ := by rfl)
    (hv : Vis X.env.scope nm_ := by first | exact Or.inl rfl | exact Or.inr (Or.inl rfl) | exact Or.inr (Or.inr rfl)) (hd : (nm_ == ("__debug__" : Str)) = false := by decide) (hcd : (nm_ == ("__classdict__" : Str)) = false := by decide)
    (hs : swapsWithSole [.Subscript (.Name nm_ p1) b p2] e pos.line X.env = pure false := by rfl) (hw : swappedStores [.Subscript (.Name nm_ p1) b p2] e X.env = pure none := by rfl)
    (h1 : (assignEach [.Subscript (.Name nm_ p1) b p2] X.env).map (·.2) = [assign (.Subscript (.Name nm_ p1) b p2) X.env] := by rfl)
    (ha : ∀ v, assign (.Subscript (.Name nm_ p1) b p2) X.env v = (do
      let ov ← holding [v] (eval (.Name nm_ p1) X.env)
      let iv ← holding [v, ov] (eval b X.env)
      standAt p2
      holding [v, ov, iv] (setItem ov iv v)
      release [v, ov, iv] []) := by intro _; rfl) : Sx X F en (.Assign [.Subscript (.Name nm_ p1) b p2] e pos :: rest) k :=
  PSs.wk (pss_cons (ps_asg he (pg_sub (pe_var hN hv hd hcd) hb set_list ha) hs hw h1) h) fun E σ H ⟨M, R, q⟩ => ⟨M, R, fun v H1 d' i1 g1 rp ed => by
    subst ed
    obtain ⟨a, e1, h2, h3, h4, h5⟩ := R.own i _ hi
    cases h5 with
    | lst hv rv =>
      rename_i vs
      have R1 := R.step i1 g1
      refine ⟨.ref a, e1, M, R1, fun vj H2 z i2 g2 rj ez => ?_⟩
      subst ez
      cases rj
      have R2 := R1.step i2 g2
      have g := g1.trans g2
      have hv2 : H2 a = some (.lst vs) := g a _ hv fun z => (F.zf a z).2 h4
      have rv2 := rv.kp (R.kp g)
      refine ⟨a, vs, (j : Int), j, rfl, rfl, hv2, ?_, ?_⟩
      · rw [rv.length]
        unfold ixN
        rw [if_pos (by omega), if_pos (by omega)]
        simp
      · have kk : Kp M M H2 (upd H2 a (.lst (vs.set j v))) := ⟨fun b u e hm => by rw [upd_ne (fun z => hm (by rw [z]; exact h2))]; exact e, fun _ _ hm => hm⟩
        exact ⟨M, R2.chg hi e1 (.lst upd_same ((Rps.set (rp.kp (R1.kp g2)) j rv2).kp kk)), q.step ((R.kp g).trans kk)⟩⟩

/-! ### dicts with leaf keys -/
/-- a dict with int and text keys -/
def dk (kvs : List (Key × D)) : D := .dct (kvs.map fun q => (D.ofKey q.1, q.2))
def getD_ (kvs : List (Key × D)) (k : Key) : Option D := (kvs.find? fun kv => decide (kv.1 = k)).map (·.2)
def putD (kvs : List (Key × D)) (k : Key) (v : D) : List (Key × D) :=
  if (kvs.any fun kv => decide (kv.1 = k)) = true then kvs.map (fun kv => if kv.1 = k then (kv.1, v) else kv) else kvs ++ [(k, v)]
inductive Rpk (G : Gx) (M : Addr → Prop) (H : Hp) : List (Key × V) → List (Key × D) → Prop
  | nil : Rpk G M H [] []
  | cons {k v d vs ds} : Rp G M H v d → Rpk G M H vs ds → Rpk G M H ((k, v) :: vs) ((k, d) :: ds)
theorem D.ofKey_inj : ∀ {a b : Key}, D.ofKey a = D.ofKey b → a = b
  | .inl _, .inl _, h => by cases h; rfl
  | .inr _, .inr _, h => by cases h; rfl
  | .inl _, .inr _, h => nomatch h
  | .inr _, .inl _, h => nomatch h
theorem RpK.to : ∀ {vs : List (Key × V)} {kvs : List (Key × D)}, RpK G M H vs (kvs.map fun q => (D.ofKey q.1, q.2)) → Rpk G M H vs kvs
  | _, [], h => by cases h; exact .nil
  | _, (k, d) :: ds, h => by
    generalize hg : List.map (fun q : Key × D => (D.ofKey q.1, q.2)) ((k, d) :: ds) = l at h
    cases h with
    | nil => cases hg
    | cons a r =>
      simp only [List.map_cons, List.cons.injEq, Prod.mk.injEq] at hg
      obtain ⟨⟨e1, e2⟩, e3⟩ := hg
      have e1 := D.ofKey_inj e1
      subst e1 e2 e3
      exact .cons a r.to
theorem Rpk.back : ∀ {vs : List (Key × V)} {kvs : List (Key × D)}, Rpk G M H vs kvs → RpK G M H vs (kvs.map fun q => (D.ofKey q.1, q.2))
  | _, _, .nil => .nil
  | _, _, .cons a r => .cons a r.back
theorem Rpk.length : ∀ {vs : List (Key × V)} {kvs : List (Key × D)}, Rpk G M H vs kvs → vs.length = kvs.length
  | _, _, .nil => rfl
  | _, _, .cons _ r => congrArg (· + 1) r.length
theorem Rpk.kp (kk : Kp M M' H H') : ∀ {vs : List (Key × V)} {kvs : List (Key × D)}, Rpk G M H vs kvs → Rpk G M' H' vs kvs
  | _, _, .nil => .nil
  | _, _, .cons a r => .cons (a.kp kk) (r.kp kk)
theorem Rpk.get {k : Key} : ∀ {vs : List (Key × V)} {kvs : List (Key × D)}, Rpk G M H vs kvs → (match getD_ kvs k with | some d => ∃ v, valV vs k = some v ∧ Rp G M H v d | none => valV vs k = none)
  | _, _, .nil => rfl
  | _, _, .cons (k := k') (v := v) (d := d) a r => by
    unfold getD_ valV
    rw [List.find?_cons, List.find?_cons]
    by_cases e : k' = k
    · simp only [e, decide_true]
      exact ⟨_, rfl, a⟩
    · simp only [e, decide_false]
      exact r.get
theorem Rpk.mapput {k : Key} {v : V} {d : D} (a : Rp G M H v d) : ∀ {vs : List (Key × V)} {kvs : List (Key × D)}, Rpk G M H vs kvs →
    Rpk G M H (vs.map (fun kv => if kv.1 = k then (kv.1, v) else kv)) (kvs.map (fun kv => if kv.1 = k then (kv.1, d) else kv)) ∧ (vs.any fun kv => decide (kv.1 = k)) = (kvs.any fun kv => decide (kv.1 = k))
  | _, _, .nil => ⟨.nil, rfl⟩
  | _, _, .cons (k := k') b r => by
    obtain ⟨h1, h2⟩ := Rpk.mapput (k := k) a r
    refine ⟨?_, ?_⟩
    · simp only [List.map_cons]
      by_cases e : k' = k
      · simp only [e, if_true]
        exact .cons a h1
      · simp only [e, if_false]
        exact .cons b h1
    · simp only [List.any_cons, h2]
theorem Rpk.app {k : Key} {v : V} {d : D} (a : Rp G M H v d) : ∀ {vs : List (Key × V)} {kvs : List (Key × D)}, Rpk G M H vs kvs → Rpk G M H (vs ++ [(k, v)]) (kvs ++ [(k, d)])
  | _, _, .nil => .cons a .nil
  | _, _, .cons b r => .cons b (Rpk.app a r)
theorem Rpk.put {k : Key} {v : V} {d : D} (a : Rp G M H v d) {vs : List (Key × V)} {kvs : List (Key × D)} (r : Rpk G M H vs kvs) : Rpk G M H (putK vs k v) (putD kvs k d) := by
  obtain ⟨h1, h2⟩ := Rpk.mapput (k := k) a r
  unfold putK putD
  rw [h2]
  split
  · exact h1
  · exact r.app a
theorem ofKey_kV {kx : Key} {vx : V} (h : Rp G M H vx (D.ofKey kx)) : vx = kV kx := by
  cases kx with
  | inl i => cases h; rfl
  | inr s => cases h; rfl
theorem Bw.dk {kvs : List (Key × D)} {v : V} (bw : Bw G M σ H en v (dk kvs)) (R : RepS G F M σ H en) : ∃ a vs, v = .ref a ∧ Rd H a (.dK vs) ∧ Rpk G M H vs kvs := by
  rcases bw.any R with r | ⟨a, rfl, o⟩
  · unfold Pz.dk at r
    cases r with
    | dk h hm r => exact ⟨_, _, rfl, .inr ⟨_, h⟩, r.to⟩
  · unfold Pz.dk at o
    cases o with
    | dk h r => exact ⟨_, _, rfl, .inl h, r.to⟩
/-- {} -/
theorem f_dnew : Ef X F en (.Dict [] [] pos) (dk []) := PE.wk pe_dnewK fun σ H Q ⟨M, R, q⟩ => fun l hl =>
  q l _ _ (F.up _ _ _ R.inv (F.nw _ _ R.inv hl)) (Gr.new hl) hl (.dk upd_same .nil) rfl

/-! ### fields -/
theorem RpF.get : ∀ {vs : List (Str × V)} {fs : List (Str × D)} {f : Str} {d : D}, RpF G M H vs fs → fs.lookup f = some d → ∃ v, vs.lookup f = some v ∧ Rp G M H v d
  | _, _, _, _, .nil, h => by simp at h
  | _, _, f, d, .cons (k := k') a r, h => by
    rw [List.lookup_cons] at h ⊢
    cases e : f == k' with
    | true =>
      rw [e] at h
      cases h
      exact ⟨_, rfl, a⟩
    | false =>
      rw [e] at h
      exact r.get h
def putFD (f : Str) (v : D) : List (Str × D) → List (Str × D)
  | [] => [(f, v)]
  | (g, x) :: r => if g = f then (g, v) :: r else (g, x) :: putFD f v r
theorem RpF.put {f : Str} {v : V} {d : D} (a : Rp G M H v d) : ∀ {vs : List (Str × V)} {fs : List (Str × D)}, RpF G M H vs fs → RpF G M H (putF f v vs) (putFD f d fs)
  | _, _, .nil => .cons a .nil
  | _, _, .cons (k := k') b r => by
    unfold putF putFD
    split
    · exact .cons a r
    · exact .cons b (RpF.put a r)
theorem RpF.length : ∀ {vs : List (Str × V)} {fs : List (Str × D)}, RpF G M H vs fs → vs.length = fs.length
  | _, _, .nil => rfl
  | _, _, .cons _ r => congrArg (· + 1) r.length
theorem Bw.ins {C : Addr} {fs : List (Str × D)} {v : V} (bw : Bw G M σ H en v (.ins C fs)) (R : RepS G F M σ H en) : ∃ a dx vs, v = .ref a ∧ H a = some (.ins C dx vs) ∧ RpF G M H vs fs := by
  rcases bw.any R with r | ⟨a, rfl, o⟩
  · cases r with
    | ins h hm r => exact ⟨_, _, _, rfl, h, r⟩
  · cases o with
    | ins h r => exact ⟨_, _, _, rfl, h, r⟩
/-- o.f -/
theorem e_fld {C : Addr} {fs : List (Str × D)} {f : Str} (ho : Eb X F en o (.ins C fs)) (l : fs.lookup f = some d) (cl : Cls X.K C) (n : NoAttr X.K C f) (hb : attributeBase o f X.env (eval o X.env) = eval o X.env := by rfl) : Ev X F en (.Attribute o f pos) d :=
  PE.wk (pe_fld ho hb) fun σ H Q ⟨M, R, q⟩ => ⟨M, R, fun v H1 i g bw => by
    have R1 := R.step i g
    obtain ⟨a, dx, vs, rfl, h, r⟩ := bw.ins R1
    obtain ⟨w, hw, rw_⟩ := r.get l
    exact ⟨a, C, dx, vs, w, rfl, h, cl, n, hw, q w H1 d i g rw_ rfl⟩⟩
/-- self.f = e, self an own instance -/
theorem s_fld (i : Nat) {C : Addr} {fs : List (Str × D)} {f nm_ : Str} (he : Ev X F en e d) (h : Sx X F (en.set i (some (.own (.ins C (putFD f d fs))))) rest k) (cl : Cls X.K C) (n : NoAttr X.K C f) (hl : fs.length < 1000) (hi : en[i]? = some (some (.own (.ins C fs))) := by rfl) (hN : X.N[i]? = some nm_ := by rfl)
    (hv : Vis X.env.scope nm_ := by first | exact Or.inl rfl | exact Or.inr (Or.inl rfl) | exact Or.inr (Or.inr rfl)) (hd : (nm_ == ("__debug__" : Str)) = false := by decide) (hcd : (nm_ == ("__classdict__" : Str)) = false := by decide)
    (hs : swapsWith e (some (.Attribute (.Name nm_ p1) f p2)) pos.line X.env = pure false := by rfl) : Sx X F en (.Assign [.Attribute (.Name nm_ p1) f p2] e pos :: rest) k :=
  PSs.wk (pss_cons (ps_fld (pe_var hN hv hd hcd) he hs) h) fun E σ H ⟨M, R, q⟩ => ⟨M, R, fun v H1 d' i1 g1 rp ed => by
    subst ed
    obtain ⟨a, e1, h2, h3, h4, h5⟩ := R.own i _ hi
    cases h5 with
    | ins hv rv =>
      rename_i dx vs
      have R1 := R.step i1 g1
      have hv1 : H1 a = some (.ins C dx vs) := g1 a _ hv fun z => (F.zf a z).2 h4
      have kk : Kp M M H1 (upd H1 a (.ins C dx (putF f v vs))) := ⟨fun b u e hm => by rw [upd_ne (fun z => hm (by rw [z]; exact h2))]; exact e, fun _ _ hm => hm⟩
      refine ⟨.ref a, e1, a, C, dx, vs, rfl, hv1, cl, n, by rw [rv.length]; exact hl, M, R1.chg hi e1 (.ins upd_same ((RpF.put rp (rv.kp (R.kp g1))).kp kk)), q.step ((R.kp g1).trans kk)⟩⟩

/-! ### tuples to several names; augmented -/
theorem s_asgT {is : List Nat} {sp : D → Option (List D)} (he : Ev X F en e d) (ht : Tg X F tg is sp) (hd : sp d = some ds) (h : Sx X F (setE en is ds) rest k) (hs : swapsWithSole [tg] e pos.line X.env = pure false := by rfl) (hw : swappedStores [tg] e X.env = pure none := by rfl)
    (h1 : (assignEach [tg] X.env).map (·.2) = [assign tg X.env] := by rfl) : Sx X F en (.Assign [tg] e pos :: rest) k :=
  PSs.wk (pss_cons (ps_asg he tgR_ok hs hw h1) h) fun E σ H ⟨M, R, q⟩ => ⟨M, R, fun v H1 z i g rp ez => by
    subst ez
    have R1 := R.step i g
    exact ht M σ H1 en v z ds _ R1 rp hd fun vs rs hl => ⟨M, R1.setl rs, q.step (R.kp g)⟩⟩
theorem s_addI (i : Nat) {nm_ : Str} {m n : Int} (hN : X.N.Nodup) (he : Ev X F en e (.int n)) (h : Sx X F (en.set i (some (.v (.int (m + n))))) rest k) (hi : en[i]? = some (some (.v (.int m))) := by rfl) (hn : X.N[i]? = some nm_ := by rfl) (hx : Loc X.env.scope nm_ := by first | exact Or.inl rfl | exact Or.inr rfl)
    (hf : X.fn nm_ = true ∨ X.env.scope.names.lookup nm_ = some .local := by first | exact .inl rfl | exact .inr rfl) : Sx X F en (.AugAssign (.Name nm_ p1) .Add e pos :: rest) k :=
  PSs.wk (pss_cons (ps_aug hN hn hx he ip_add hf) h) fun E σ H ⟨M, R, q⟩ => by
    obtain ⟨v, h1, r⟩ := R.val i _ hi
    cases r
    refine ⟨_, h1, M, R, fun w H1 z i1 g1 rp ez => ?_⟩
    subst ez
    cases rp
    exact ⟨m, n, rfl, rfl, M, (R.step i1 g1).setv (.int _), q.step (R.kp g1)⟩

/-! ### in, not in over tuples and lists of flat data -/
def D.flat : D → Bool
  | .non | .bl _ | .int _ | .str _ => true
  | _ => false
theorem Rps.flats : ∀ {vs : List V} {xs : List Str}, Rps G M H vs (xs.map .str) → vs.all flatV = true
  | _, [], h => by rw [h.inv_nil]; rfl
  | _, x :: xs, h => by
    cases h with
    | cons a r =>
      cases a
      simp only [List.all_cons, Bool.and_eq_true]
      exact ⟨rfl, r.flats⟩
theorem inV_strs (s : Str) : ∀ xs : List Str, inV (.str s) (xs.map V.str) = xs.any fun x => decide (x = s)
  | [] => rfl
  | x :: xs => by
    unfold inV
    rw [List.map_cons, List.any_cons, List.any_cons]
    have e := inV_strs s xs
    unfold inV at e
    rw [e]
    congr 1
theorem o_inS {s : Str} {ts : List Str} : OpD X F en (compareOp .In) (.str s) (.tup (ts.map .str)) (.bl (ts.any fun x => decide (x = s))) := o_of op_in_seq fun M σ H vx vy Q R bx by_ q => by
  obtain ⟨a, vs, rfl, ha, ra⟩ := by_.tup R
  have e := ra.strs
  subst e
  refine ⟨a, _, rfl, .inr ha.sq, by rw [bx.str R]; rfl, ra.flats, ?_⟩
  rw [bx.str R, if_neg Bool.false_ne_true, inV_strs]
  exact q _ H R.inv Gr.refl (.bl _)
theorem o_ninS {s : Str} {ts : List Str} : OpD X F en (compareOp .NotIn) (.str s) (.tup (ts.map .str)) (.bl (!ts.any fun x => decide (x = s))) := o_of op_notIn_seq fun M σ H vx vy Q R bx by_ q => by
  obtain ⟨a, vs, rfl, ha, ra⟩ := by_.tup R
  have e := ra.strs
  subst e
  refine ⟨a, _, rfl, .inr ha.sq, by rw [bx.str R]; rfl, ra.flats, ?_⟩
  rw [bx.str R, if_pos rfl, inV_strs]
  exact q _ H R.inv Gr.refl (.bl _)
end
end Pz
end
section
set_option Elab.async false
set_option linter.all false
set_option maxRecDepth 100000
set_option maxHeartbeats 4000000
/-! PzG: several stores at once, isinstance, chains, dicts with leaf keys, texts glued. -/
namespace Pz
open PySem PySem.Spec PyProof.Rows L2

section
variable {X : Cx} {F : Fr} {en : En} {tg e a b c o : Expr} {es : List Expr} {ds xs ys : List D} {d x y z : D} {p pos p1 p2 p3 : Pos} {G : Gx} {M M' : Addr → Prop} {H H' H0 : Hp} {σ : St} {k : KD} {rest : List Stmt}
/-! ### values and new objects side by side -/
inductive Pend (G : Gx) (F : Fr) (M : Addr → Prop) (H : Hp) (σ : St) (en : En) (H0 : Hp) : List V → List Sl → Prop
  | nil : Pend G F M H σ en H0 [] []
  | v {v d vs ss} : Rp G M H v d → Pend G F M H σ en H0 vs ss → Pend G F M H σ en H0 (v :: vs) (.v d :: ss)
  | own {a d vs ss} : NewO G F M H σ en a d → H0 a = none → (∀ (j : Nat) d', ss[j]? = some (.own d') → vs[j]? = some (.ref a) → False) → Pend G F M H σ en H0 vs ss → Pend G F M H σ en H0 (.ref a :: vs) (.own d :: ss)
theorem Pend.back : ∀ {vs : List V} {ss : List Sl}, Pend G F M H σ en H' vs ss → (∀ q, H' q = none → H0 q = none) → Pend G F M H σ en H0 vs ss
  | _, _, .nil, _ => .nil
  | _, _, .v r p, h => .v r (p.back h)
  | _, _, .own n e dd p, h => .own n (h _ e) dd (p.back h)
theorem Pend.new : ∀ {vs : List V} {ss : List Sl} {j : Nat} {d' : D} {q : Addr}, Pend G F M H σ en H0 vs ss → ss[j]? = some (.own d') → vs[j]? = some (.ref q) → H0 q = none
  | _, _, j, _, _, .nil, h, _ => by simp at h
  | _, _, 0, _, _, .v _ _, h, _ => by simp at h
  | _, _, j + 1, _, _, .v _ p, h, g => p.new (j := j) (by simpa using h) (by simpa using g)
  | _, _, 0, _, _, .own _ e _ _, h, g => by simp at g; exact g ▸ e
  | _, _, j + 1, _, _, .own _ _ _ p, h, g => p.new (j := j) (by simpa using h) (by simpa using g)
def tAs (G : Gx) (F : Fr) (en : En) (ss : List Sl) : TA := fun σ H Q => ∃ M, RepS G F M σ H en ∧ ∀ vs H' M', RepS G F M' σ H' en → Gr F H H' → (∀ b, M b → M' b) → Kp M M' H H' → Pend G F M' H' σ en H vs ss → Q vs H'
def Eas (X : Cx) (F : Fr) (en : En) (es : List Expr) (ss : List Sl) : Prop := PA X es (tAs (gx X) F en ss)
variable {ss : List Sl}
theorem as_nil : Eas X F en [] [] := PA.wk pa_nil fun σ H Q ⟨M, R, q⟩ => q [] H M R Gr.refl (fun _ h => h) .refl .nil
theorem as_v (h : Ev X F en e d) (hr : Eas X F en es ss) (hs : starEach (e :: es) X.env = (false, eval e X.env) :: starEach es X.env := by rfl) : Eas X F en (e :: es) (.v d :: ss) :=
  PA.wk (pa_cons h hr hs) fun σ H Q ⟨M, R, q⟩ => ⟨M, R, fun v H1 z i g rp ez => ⟨M, R.step i g, fun vs H2 M2 R2 g2 m2 k2 pd => by
    subst ez
    exact q (v :: vs) H2 M2 R2 (g.trans g2) m2 ((R.kp g).trans k2) (.v (rp.kp k2) (pd.back fun q hq => none_back R i g hq))⟩⟩
theorem NewO.kp {M2 : Addr → Prop} {H2 : Hp} {ad : Addr} (n : NewO G F M H σ en ad d) (g : Gr F H H2) (m : ∀ b, M b → M2 b) (kk : Kp M M2 H H2) : NewO G F M2 H2 σ en ad d :=
  ⟨m _ n.m, n.m0, n.fr, n.own.kp kk fun o e => g _ o e fun z => (F.zf _ z).2 n.fr, n.apart⟩
theorem as_o (h : Ef X F en e d) (hr : Eas X F en es ss) (hs : starEach (e :: es) X.env = (false, eval e X.env) :: starEach es X.env := by rfl) : Eas X F en (e :: es) (.own d :: ss) :=
  PA.wk (pa_cons h hr hs) fun σ H Q ⟨M, R, q⟩ => ⟨M, R, fun ad H1 z i g n oo ez => by
    subst ez
    obtain ⟨R1, n1⟩ := NewO.of R n i g oo
    refine ⟨Mp M ad, R1, fun vs H2 M2 R2 g2 m2 k2 pd => ?_⟩
    refine q (.ref ad :: vs) H2 M2 R2 (g.trans g2) (fun b hb => m2 b (.inl hb)) ((Kp.more n (R.kp g).at_).trans k2) (.own (n1.kp g2 m2 k2) n (fun j d' e1 e2 => ?_) (pd.back fun q hq => none_back R i g hq))
    exact oo.dom (pd.new e1 e2)⟩
def setSl (en : En) : List Nat → List Sl → En
  | i :: is, s :: ss => setSl (en.set i (some s)) is ss
  | _, _ => en
theorem Pend.moved {i : Nat} {v : V} {s : Sl} : ∀ {vs : List V} {ss : List Sl}, Pend G F M H σ en H0 vs ss → (∀ d', s = .own d' → ∀ (j : Nat) d'', ss[j]? = some (.own d'') → vs[j]? = some v → False) → Pend G F M H (σ.set i (some v)) (en.set i (some s)) H0 vs ss
  | _, _, .nil, _ => .nil
  | _, _, .v r p, h => .v r (p.moved fun d' e j d'' h1 h2 => h d' e (j + 1) d'' (by simpa using h1) (by simpa using h2))
  | _, _, .own (a := ad) (d := dd) n e nd p, h => by
    refine .own ⟨n.m, n.m0, n.fr, n.own, fun j d' h1 h2 => ?_⟩ e nd (p.moved fun d' e j d'' h1 h2 => h d' e (j + 1) d'' (by simpa using h1) (by simpa using h2))
    rcases getset h1 with ⟨ej, es, hl⟩ | ⟨nj, h1⟩
    · subst ej
      rcases getset h2 with ⟨_, ev, _⟩ | ⟨nj, _⟩
      · cases ev
        cases es
        exact h d' rfl 0 dd (by simp) (by simp)
      · exact nj rfl
    · rw [List.getElem?_set_ne (Ne.symm nj)] at h2
      exact n.apart j d' h1 h2
theorem RepS.pend : ∀ {is : List Nat} {vs : List V} {ss : List Sl} {σ : St} {en : En}, RepS G F M σ H en → Pend G F M H σ en H0 vs ss → RepS G F M (setV σ is vs) H (setSl en is ss)
  | [], _, _, _, _, R, _ => by simpa [setV, setSl] using R
  | i :: is, _, _, _, _, R, .nil => by simpa [setV, setSl] using R
  | i :: is, _, _, _, _, R, .v r p => by
    unfold setV setSl
    exact RepS.pend (R.setv r) (p.moved fun d' e => nomatch e)
  | i :: is, _, _, _, _, R, .own n e nd p => by
    unfold setV setSl
    exact RepS.pend (R.seto n) (p.moved fun d' ed j d'' h1 h2 => nd j d'' h1 h2)
theorem s_par2 {na nb : Str} {px py pt pt2 : Pos} {kt k2 : Nat} {s1 s2 : Sl} (i j : Nat) (hc : X.calm = true) (hN : X.N.Nodup) (ha : Eas X F en [a, b] [s1, s2]) (h : Sx X F ((en.set i (some s1)).set j (some s2)) rest k) (hi : X.N[i]? = some na := by rfl) (hj : X.N[j]? = some nb := by rfl) (hij : i ≠ j := by decide)
    (hx : X.env.scope.names.lookup na = some .local := by rfl) (hy : X.env.scope.names.lookup nb = some .local := by rfl)
    (hw : swappedStores [.Tuple [.Name na px, .Name nb py] kt pt] (.Tuple [a, b] k2 pt2) X.env = pure (some [na, nb]) := by rfl)
    (hs : swapsWithSole [.Tuple [.Name na px, .Name nb py] kt pt] (.Tuple [a, b] k2 pt2) pos.line X.env = pure false := by rfl) : Sx X F en (.Assign [.Tuple [.Name na px, .Name nb py] kt pt] (.Tuple [a, b] k2 pt2) pos :: rest) k :=
  PSs.wk (pss_cons (ps_par hc hN hi hj hij hx hy ha hw hs) h) fun E σ H ⟨M, R, q⟩ => ⟨M, R, fun vs H1 M1 R1 g m1 k1 pd => by
    cases vs with
    | nil => cases pd
    | cons v vs =>
      cases vs with
      | nil => cases pd with
        | v r p => cases p
        | own n e dd p => cases p
      | cons w vs =>
        cases vs with
        | cons u vs => cases pd with
          | v r p => cases p with
            | v r p => cases p
            | own n e dd p => cases p
          | own n e dd p => cases p with
            | v r p => cases p
            | own n e dd p => cases p
        | nil => exact ⟨v, w, rfl, M1, RepS.pend (is := [i, j]) R1 pd, q.step k1⟩⟩
theorem Pend.len : ∀ {vs : List V} {ss : List Sl}, Pend G F M H σ en H0 vs ss → vs.length = ss.length
  | _, _, .nil => rfl
  | _, _, .v _ p => congrArg (· + 1) p.len
  | _, _, .own _ _ _ p => congrArg (· + 1) p.len
theorem s_par3 {na nb nc : Str} {px py pz pt pt2 : Pos} {kt k2 : Nat} {s1 s2 s3 : Sl} (i j l : Nat) (hc : X.calm = true) (hN : X.N.Nodup) (ha : Eas X F en [a, b, c] [s1, s2, s3]) (h : Sx X F (((en.set i (some s1)).set j (some s2)).set l (some s3)) rest k) (hi : X.N[i]? = some na := by rfl) (hj : X.N[j]? = some nb := by rfl) (hl : X.N[l]? = some nc := by rfl)
    (hij : i ≠ j := by decide) (hil : i ≠ l := by decide) (hjl : j ≠ l := by decide)
    (hx : X.env.scope.names.lookup na = some .local := by rfl) (hy : X.env.scope.names.lookup nb = some .local := by rfl) (hz : X.env.scope.names.lookup nc = some .local := by rfl)
    (hw : swappedStores [.Tuple [.Name na px, .Name nb py, .Name nc pz] kt pt] (.Tuple [a, b, c] k2 pt2) X.env = pure (some [na, nb, nc]) := by rfl)
    (hs : swapsWithSole [.Tuple [.Name na px, .Name nb py, .Name nc pz] kt pt] (.Tuple [a, b, c] k2 pt2) pos.line X.env = pure false := by rfl) : Sx X F en (.Assign [.Tuple [.Name na px, .Name nb py, .Name nc pz] kt pt] (.Tuple [a, b, c] k2 pt2) pos :: rest) k :=
  PSs.wk (pss_cons (ps_par3 hc hN hi hj hl hij hil hjl hx hy hz ha hw hs) h) fun E σ H ⟨M, R, q⟩ => ⟨M, R, fun vs H1 M1 R1 g m1 k1 pd => by
    have hl3 := pd.len
    match vs, hl3 with
    | [u, v, w], _ => exact ⟨u, v, w, rfl, M1, RepS.pend (is := [i, j, l]) R1 pd, q.step k1⟩⟩

/-! ### isinstance -/
theorem Bw.tyX {v : V} {T : String} (bw : Bw G M σ H en v x) (R : RepS G F M σ H en) (h : x.tyn = T) (hT : T ≠ "?") : TyX G.K H v (.type T) := by
  rcases bw.any R with r | ⟨a, rfl, o⟩
  · cases r with
    | non => subst h; exact .base .non
    | bl b => subst h; exact .base (.bl b)
    | int i => subst h; exact .base (.int i)
    | str s => subst h; exact .base (.str s)
    | ref a => exact absurd h.symm hT
    | ty n => exact absurd h.symm hT
    | tup ht r =>
      subst h
      rcases ht with ⟨ht, _⟩ | ⟨o, its, n, e, c, _⟩
      · rcases ht with ht | ⟨ob, ht⟩
        · exact .base (.tup ht)
        · exact .fTuple ht
      · exact .kTuple e c
    | lst ht r =>
      subst h
      rcases ht with ⟨ht, _⟩ | ⟨o, its, n, e, c, _⟩
      · rcases ht with ht | ⟨ob, ht⟩
        · exact .base (.lst ht)
        · exact .base (.frz ht)
      · exact .kList e c
    | ntp ht hd hm r => exact absurd h.symm hT
    | dk ht hm r => subst h; exact .fDict ht
    | dn ht hm r => exact absurd h.symm hT
    | ins ht hm r => exact absurd h.symm hT
    | insA ht hm r => exact absurd h.symm hT
    | atA _ => exact absurd h.symm hT
  · cases o with
    | lst ht r => subst h; exact .base (.lst ht)
    | dk ht r => subst h; exact .base (.dK ht)
    | dn ht r => exact absurd h.symm hT
    | ins ht r => exact absurd h.symm hT
    | insA ht r => exact absurd h.symm hT
    | atA _ => exact absurd h.symm hT
theorem k_isi {T n : String} {r : Bool} (h : x.tyn = T) (hT : T ≠ "?" := by decide) (hk : kitB T n = some r := by decide +kernel) : CallD X F en (.builtin "isinstance") [x, .ty n] (.bl r) := fun M σ H vs Q R bw q => by
  obtain ⟨w, u, rfl, b1, b2⟩ := bw.two
  have e : u = .ty n := by
    rcases b2.any R with r | ⟨a, _, o⟩
    · cases r; rfl
    · cases o
  subst e
  exact rC_of call_isi ⟨w, .ty n, .type T, .type n, r, rfl, .ty n, b1.tyX R h hT, kit_ty hk, q _ H R.inv Gr.refl (.bl r)⟩

/-! ### chains of comparisons -/
theorem e_chainT {op op' : CmpOp} {k2 : Bool} (ha : Eb X F en a x) (hb : Eb X F en b y) (hc : Eb X F en c z) (o1 : OpD X F en (compareOp op) x y (.bl true)) (o2 : OpD X F en (compareOp op') y z (.bl k2)) (hm : lastMarks [op, op'] [b, c] = false := by with_unfolding_all rfl) : Ev X F en (.Compare a [op, op'] [b, c] pos) (.bl k2) :=
  PE.wk (pe_chain rU_ok rU_ok ha hb hc hm) fun σ H Q ⟨M, R, q⟩ => ⟨M, R, fun vx H1 i1 g1 bx => ⟨M, R.step i1 g1, fun vy H2 i2 g2 by_ => by
    have R1 := R.step i1 g1
    have R2 := R1.step i2 g2
    refine o1 M σ H2 vx vy _ R2 (bx.step R1 i2 g2) by_ fun v H3 i3 g3 r => ?_
    cases r
    refine ⟨true, rfl, iteT ⟨M, R2.step i3 g3, fun vz H4 i4 g4 bz => ?_⟩⟩
    have R3 := R2.step i3 g3
    exact o2 M σ H4 vy vz Q (R3.step i4 g4) ((by_.step R2 i3 g3).step R3 i4 g4) bz fun v H5 i5 g5 r => q v H5 _ i5 ((((g1.trans g2).trans g3).trans g4).trans g5) r rfl⟩⟩
theorem e_chainF {op op' : CmpOp} (ha : Eb X F en a x) (hb : Eb X F en b y) (o1 : OpD X F en (compareOp op) x y (.bl false)) (hm : lastMarks [op, op'] [b, c] = false := by with_unfolding_all rfl) : Ev X F en (.Compare a [op, op'] [b, c] pos) (.bl false) :=
  PE.wk (pe_chain (tc := fun _ _ _ => False) (r' := fun _ _ _ _ => False) rU_ok (fun _ _ _ _ _ _ _ _ _ _ _ _ z => z.elim) ha hb ⟨fun _ _ _ _ _ _ z => z.elim⟩ hm) fun σ H Q ⟨M, R, q⟩ => ⟨M, R, fun vx H1 i1 g1 bx => ⟨M, R.step i1 g1, fun vy H2 i2 g2 by_ => by
    have R1 := R.step i1 g1
    have R2 := R1.step i2 g2
    refine o1 M σ H2 vx vy _ R2 (bx.step R1 i2 g2) by_ fun v H3 i3 g3 r => ?_
    cases r
    exact ⟨false, rfl, iteF (q _ H3 _ i3 ((g1.trans g2).trans g3) (.bl _) rfl)⟩⟩⟩
theorem t_chainT {op op' : CmpOp} {k2 : Bool} (ha : Eb X F en a x) (hb : Eb X F en b y) (hc : Eb X F en c z) (o1 : OpD X F en (compareOp op) x y (.bl true)) (o2 : OpD X F en (compareOp op') y z (.bl k2)) (hm : lastMarks [op, op'] [b, c] = false := by with_unfolding_all rfl) : Et X F en (.Compare a [op, op'] [b, c] pos) k2 :=
  PT.wk (pt_chain rU_ok rU_ok ha hb hc hm) fun σ H Q ⟨M, R, q⟩ => ⟨M, R, fun vx H1 i1 g1 bx => ⟨M, R.step i1 g1, fun vy H2 i2 g2 by_ => by
    have R1 := R.step i1 g1
    have R2 := R1.step i2 g2
    refine o1 M σ H2 vx vy _ R2 (bx.step R1 i2 g2) by_ fun v H3 i3 g3 r => ?_
    cases r
    refine ⟨true, rfl, iteT ⟨M, R2.step i3 g3, fun vz H4 i4 g4 bz => ?_⟩⟩
    have R3 := R2.step i3 g3
    exact o2 M σ H4 vy vz _ (R3.step i4 g4) ((by_.step R2 i3 g3).step R3 i4 g4) bz fun v H5 i5 g5 r => by
      cases r
      exact ⟨k2, rfl, q k2 H5 i5 ((((g1.trans g2).trans g3).trans g4).trans g5) rfl⟩⟩⟩

/-! ### dicts with leaf keys -/
variable {kvs : List (Key × D)} {ky : Key}
theorem Bw.key {v : V} (bw : Bw G M σ H en v (D.ofKey ky)) (R : RepS G F M σ H en) : v = kV ky := by
  cases ky with
  | inl i => exact bw.int R
  | inr s => exact bw.str R
theorem rd_dget {vs : List (Key × V)} {ad : Addr} (h : Rd H ad (.dK vs)) : DGet H ad (kV ky) (valV vs ky) := .inl ⟨vs, ky, h, rfl, rfl⟩
theorem Rpk.at {vs : List (Key × V)} (r : Rpk G M H vs kvs) (h : getD_ kvs ky = some d) : ∃ v, valV vs ky = some v ∧ Rp G M H v d := by
  have q := r.get (k := ky)
  rw [h] at q
  exact q
theorem Rpk.no {vs : List (Key × V)} (r : Rpk G M H vs kvs) (h : getD_ kvs ky = none) : valV vs ky = none := by
  have q := r.get (k := ky)
  rw [h] at q
  exact q
theorem e_dix (ho : Eb X F en o (dk kvs)) (hb : Ev X F en b (D.ofKey ky)) (h : getD_ kvs ky = some d) (hu : X.A.units + 64 < cLine) (hs : NoSl b := by intro _ _; rfl) : Ev X F en (.Subscript o b pos) d :=
  PE.wk (pe_dget (by omega) ho hb.eb hs) fun σ H Q ⟨M, R, q⟩ => ⟨M, R, fun v H1 i1 g1 bo => ⟨M, R.step i1 g1, fun w H2 i2 g2 bk => by
    have R2 := (R.step i1 g1).step i2 g2
    obtain ⟨ad, vs, rfl, hr, r⟩ := (bo.step (R.step i1 g1) i2 g2).dk R2
    obtain ⟨u, hu1, ru⟩ := r.at h
    refine ⟨ad, u, rfl, ?_, q u H2 d i2 (g1.trans g2) ru rfl⟩
    rw [bk.key R2, ← hu1]
    exact rd_dget hr⟩⟩
theorem e_dget1 {apos cpos : Pos} (ho : Eb X F en o (dk kvs)) (hb : Ev X F en b (D.ofKey ky)) (hu : X.A.units + 64 < cLine) (m : M1 X o "get" apos b cpos) : Ev X F en (.Call (.Attribute o "get" apos) [b] [] cpos) ((getD_ kvs ky).getD .non) :=
  PE.wk (pe_dget1 (by omega) ho hb.eb m) fun σ H Q ⟨M, R, q⟩ => ⟨M, R, fun v H1 i1 g1 bo => by
    have R1 := R.step i1 g1
    obtain ⟨ad, vs, rfl, hr, r⟩ := bo.dk R1
    refine ⟨ad, rfl, .inl ⟨vs, hr⟩, M, R1, fun w H2 i2 g2 bk => ?_⟩
    have R2 := R1.step i2 g2
    obtain ⟨ad', vs', e, hr', r'⟩ := (bo.step R1 i2 g2).dk R2
    cases e
    refine ⟨valV vs' ky, by rw [bk.key R2]; exact rd_dget hr', ?_⟩
    cases hg : getD_ kvs ky with
    | none => rw [r'.no hg]; exact q _ H2 _ i2 (g1.trans g2) .non (by rw [hg] <;> rfl)
    | some d =>
      obtain ⟨u, hu1, ru⟩ := r'.at hg
      rw [hu1]
      exact q u H2 d i2 (g1.trans g2) ru (by rw [hg] <;> rfl)⟩
theorem e_dget2 {apos cpos : Pos} (ho : Eb X F en o (dk kvs)) (hb : Ev X F en b (D.ofKey ky)) (hc : Ev X F en c x) (hu : X.A.units + 64 < cLine) (m : M2 X o "get" apos b c cpos) : Ev X F en (.Call (.Attribute o "get" apos) [b, c] [] cpos) ((getD_ kvs ky).getD x) :=
  PE.wk (pe_dget2 (by omega) ho hb.eb hc m) fun σ H Q ⟨M, R, q⟩ => ⟨M, R, fun v H1 i1 g1 bo => by
    have R1 := R.step i1 g1
    obtain ⟨ad, vs, rfl, hr, r⟩ := bo.dk R1
    refine ⟨ad, rfl, .inl ⟨vs, hr⟩, M, R1, fun w H2 i2 g2 bk => ⟨M, R1.step i2 g2, fun z H3 zd i3 g3 rz ez => ?_⟩⟩
    subst ez
    have R2 := R1.step i2 g2
    have R3 := R2.step i3 g3
    obtain ⟨ad', vs', e, hr', r'⟩ := ((bo.step R1 i2 g2).step R2 i3 g3).dk R3
    cases e
    refine ⟨valV vs' ky, by rw [(bk.step R2 i3 g3).key R3]; exact rd_dget hr', ?_⟩
    have gg := (g1.trans g2).trans g3
    cases hg : getD_ kvs ky with
    | none => rw [r'.no hg]; exact q _ H3 _ i3 gg rz (by rw [hg] <;> rfl)
    | some d =>
      obtain ⟨u, hu1, ru⟩ := r'.at hg
      rw [hu1]
      exact q u H3 d i3 gg ru (by rw [hg] <;> rfl)⟩
/-- d[k] = v, d an own dict -/
theorem s_dput (i : Nat) {nm_ : Str} (he : Ev X F en e d) (hb : Ev X F en b (D.ofKey ky)) (h : Sx X F (en.set i (some (.own (dk (putD kvs ky d))))) rest k) (hl : kvs.length < 1000000) (hu : X.A.units + 64 < cLine) (hi : en[i]? = some (some (.own (dk kvs))) := by rfl) (hN : X.N[i]? = some nm_ := by rfl)
    (hv : Vis X.env.scope nm_ := by first | exact Or.inl rfl | exact Or.inr (Or.inl rfl) | exact Or.inr (Or.inr rfl)) (hd : (nm_ == ("__debug__" : Str)) = false := by decide) (hcd : (nm_ == ("__classdict__" : Str)) = false := by decide)
    (hs : swapsWith e (some (.Subscript (.Name nm_ p1) b p2)) pos.line X.env = pure false := by rfl) : Sx X F en (.Assign [.Subscript (.Name nm_ p1) b p2] e pos :: rest) k :=
  PSs.wk (pss_cons (ps_dput (by omega) (pe_var hN hv hd hcd) hb.eb he hs) h) fun E σ H ⟨M, R, q⟩ => ⟨M, R, fun v H1 d' i1 g1 rp ed => by
    subst ed
    obtain ⟨ad, e1, h2, h3, h4, h5⟩ := R.own i _ hi
    have R1 := R.step i1 g1
    refine ⟨.ref ad, e1, M, R1, fun w H2 i2 g2 bk => ?_⟩
    have R2 := R1.step i2 g2
    have g := g1.trans g2
    unfold dk at h5
    cases h5 with
    | dk hv rv =>
      rename_i vs
      have hv2 : H2 ad = some (.dK vs) := g ad _ hv fun z => (F.zf ad z).2 h4
      have rv2 := (rv.to).kp (R.kp g)
      have kk : Kp M M H2 (upd H2 ad (.dK (putK vs ky v))) := ⟨fun b u e hm => by rw [upd_ne (fun z => hm (by rw [z]; exact h2))]; exact e, fun _ _ hm => hm⟩
      refine ⟨ad, _, rfl, ?_, M, R2.chg hi e1 (.dk upd_same (Rpk.back ((Rpk.put (rp.kp (R1.kp g2)) rv2).kp kk))), q.step ((R.kp g).trans kk)⟩
      rw [bk.key R2]
      exact .inl ⟨vs, ky, hv2, rfl, by rw [rv2.length]; exact Nat.lt_trans hl (by decide), rfl⟩⟩
/-- dict(d) -/
theorem k_dictD : CallN X F en (.type "dict") [dk kvs] (dk kvs) := cn_of call_dictD fun M σ H v Q R bw q => by
  obtain ⟨ad, vs, rfl, hr, r⟩ := bw.dk R
  refine ⟨ad, vs, rfl, hr, fun l hl => q l _ (F.up _ _ _ R.inv (F.nw _ _ R.inv hl)) (Gr.new hl) hl (.dk upd_same ?_)⟩
  exact Rpk.back (r.kp (.more hl (R.kp (Gr.new hl)).at_))
theorem Rpk.keys : ∀ {vs : List (Key × V)} {kvs : List (Key × D)}, Rpk G M H vs kvs → Rps G M H (vs.map fun kv => kV kv.1) (kvs.map fun q => D.ofKey q.1)
  | _, _, .nil => .nil
  | _, _, .cons (k := kk) a r => by
    refine .cons ?_ r.keys
    cases kk with
    | inl i => exact .int i
    | inr s => exact .str s
/-- list(d) -/
theorem k_listD (hc : X.calm = true) : CallN X F en (.type "list") [dk kvs] (.lst (kvs.map fun q => D.ofKey q.1)) := cn_of (call_listD hc) fun M σ H v Q R bw q => by
  obtain ⟨ad, vs, rfl, hr, r⟩ := bw.dk R
  refine ⟨ad, vs, rfl, hr, fun l hl => ?_⟩
  obtain ⟨i2, g2, o⟩ := R.new_lst hl r.keys
  exact q _ _ i2 g2 hl o
theorem RepS.new_lst' {vs : List V} {l : Addr} (R : RepS (gx X) F M σ H en) (hl : H l = none) (r : Rps (gx X) M H vs ds) : F.I (upd H l (.lst vs)) ∧ Gr F H (upd H l (.lst vs)) ∧ Own (gx X) (Mp M l) (upd H l (.lst vs)) l (.lst ds) := R.new_lst hl r
/-- sorted(texts), fewer than 64 -/
theorem k_sortS {ts us : List Str} (hl : ts.length < 64) (hu : ∀ ys : List Str, ys.Perm ts → sortedS ys = true → ys = us) : CallN X F en (.builtin "sorted") [.lst (ts.map .str)] (.lst (us.map .str)) := cn_of cr_sortedS fun M σ H v Q R bw q => by
  obtain ⟨ad, vs, rfl, hr, r⟩ := bw.lst R
  have e := r.strs
  subst e
  refine ⟨ad, ts, rfl, hr, hl, fun ys p hp hs hn => ?_⟩
  have e := hu ys hp hs
  subst e
  obtain ⟨i2, g2, o⟩ := R.new_lst hn (Rps.of_strs ys)
  exact q _ _ i2 g2 hn o

/-! ### texts glued -/
theorem e_fmt {s : Str} (h : Ev X F en e (.str s)) (hl : s.length ≤ sizeLine) : Ev X F en (.FormattedValue e (-1) none pos) (.str s) :=
  PE.wk (pe_fmt h) fun σ H Q ⟨M, R, q⟩ => ⟨M, R, fun v H1 z i g r ez => by
    subst ez
    cases r
    exact .inl ⟨s, rfl, hl, q _ H1 _ i g (.str s) rfl⟩⟩
theorem e_join2 {s t : Str} (ha : Ev X F en a (.str s)) (hb : Ev X F en b (.str t)) (hl : ((Str.empty ++ s) ++ t).length ≤ sizeLine) (hl1 : (Str.empty ++ s).length ≤ sizeLine) : Ev X F en (.JoinedStr [a, b] pos) (.str ((Str.empty ++ s) ++ t)) :=
  PE.wk (pe_joined (.cons ha (.cons hb .nil))) fun σ H Q ⟨M, R, q⟩ => ⟨M, R, fun v H1 z i g r ez => by
    subst ez
    cases r
    refine ⟨s, rfl, hl1, M, R.step i g, fun v2 H2 z2 i2 g2 r2 ez2 => ?_⟩
    subst ez2
    cases r2
    exact ⟨t, rfl, hl, q _ H2 _ i2 (g.trans g2) (.str _) rfl⟩⟩
/-- x or y, by truth: None or a tuple with items -/
theorem e_orN {r : List Expr} (h : Ev X F en a .non) (h2 : Ev X F en (.BoolOp .Or (b :: r) pos) d) : Ev X F en (.BoolOp .Or (a :: b :: r) pos) d :=
  PE.wk (pe_orT h h2) fun σ H Q ⟨M, R, q⟩ => ⟨M, R, fun v H1 z i g rp ez => by
    subst ez
    cases rp
    exact ⟨false, rfl, iteF ⟨M, R.step i g, fun v2 H2 d2 i2 g2 r2 e2 => q _ H2 _ i2 (g.trans g2) r2 e2⟩⟩⟩
theorem e_orTup {r : List Expr} (h : Ev X F en a (.tup (x :: xs))) : Ev X F en (.BoolOp .Or (a :: b :: r) pos) (.tup (x :: xs)) :=
  PE.wk (pe_orT h (tb := fun _ _ _ => False) ⟨fun _ _ _ _ _ _ z => z.elim⟩) fun σ H Q ⟨M, R, q⟩ => ⟨M, R, fun v H1 z i g rp ez => by
    subst ez
    have rp' := rp
    cases rp with
    | tup ht rs =>
      cases rs with
      | cons ra rr => exact ⟨true, .inr (.inl ⟨_, ht.sq, rfl⟩), iteT (q _ H1 _ i g rp' rfl)⟩⟩
end
end Pz
end
section
set_option Elab.async false
set_option linter.all false
set_option maxRecDepth 100000
set_option maxHeartbeats 4000000
/-! PzH: tests and operators whose answer is known. -/
namespace Pz
open PySem PySem.Spec PyProof.Rows L2
section
variable {X : Cx} {F : Fr} {en : En} {a b c e : Expr} {x y z d : D} {pos : Pos}
theorem t_notT (h : Et X F en a true) : Et X F en (.UnaryOp .Not a pos) false := t_not h
theorem t_notF (h : Et X F en a false) : Et X F en (.UnaryOp .Not a pos) true := t_not h
theorem e_notT (h : Ev X F en a (.bl true)) : Ev X F en (.UnaryOp .Not a pos) (.bl false) := e_not h
theorem e_notF (h : Ev X F en a (.bl false)) : Ev X F en (.UnaryOp .Not a pos) (.bl true) := e_not h
variable {i j : Int} {s t : Str}
theorem o_ltT (h : i < j) : OpD X F en (compareOp .Lt) (.int i) (.int j) (.bl true) := o_lt.is (by rw [decide_eq_true h])
theorem o_ltF (h : ¬ i < j) : OpD X F en (compareOp .Lt) (.int i) (.int j) (.bl false) := o_lt.is (by rw [decide_eq_false h])
theorem o_leT (h : i ≤ j) : OpD X F en (compareOp .LtE) (.int i) (.int j) (.bl true) := o_le.is (by rw [decide_eq_true h])
theorem o_leF (h : ¬ i ≤ j) : OpD X F en (compareOp .LtE) (.int i) (.int j) (.bl false) := o_le.is (by rw [decide_eq_false h])
theorem o_gtT (h : j < i) : OpD X F en (compareOp .Gt) (.int i) (.int j) (.bl true) := o_gt.is (by rw [decide_eq_true h])
theorem o_gtF (h : ¬ j < i) : OpD X F en (compareOp .Gt) (.int i) (.int j) (.bl false) := o_gt.is (by rw [decide_eq_false h])
theorem o_eqIT (h : i = j) : OpD X F en (compareOp .Eq) (.int i) (.int j) (.bl true) := o_eqI.is (by rw [decide_eq_true h])
theorem o_eqIF (h : i ≠ j) : OpD X F en (compareOp .Eq) (.int i) (.int j) (.bl false) := o_eqI.is (by rw [decide_eq_false h])
theorem o_eqST (h : s = t) : OpD X F en (compareOp .Eq) (.str s) (.str t) (.bl true) := o_eqS.is (by rw [decide_eq_true h])
theorem o_eqSF (h : s ≠ t) : OpD X F en (compareOp .Eq) (.str s) (.str t) (.bl false) := o_eqS.is (by rw [decide_eq_false h])
theorem o_neST (h : s ≠ t) : OpD X F en (compareOp .NotEq) (.str s) (.str t) (.bl true) := o_neS.is (by rw [decide_eq_false h]; rfl)
theorem o_neSF (h : s = t) : OpD X F en (compareOp .NotEq) (.str s) (.str t) (.bl false) := o_neS.is (by rw [decide_eq_true h]; rfl)
theorem o_inSk {ts : List Str} {k : Bool} (h : (ts.any fun x => decide (x = s)) = k) : OpD X F en (compareOp .In) (.str s) (.tup (ts.map .str)) (.bl k) := o_inS.is (by rw [h])
theorem o_ninSk {ts : List Str} {k : Bool} (h : (ts.any fun x => decide (x = s)) = !k) : OpD X F en (compareOp .NotIn) (.str s) (.tup (ts.map .str)) (.bl k) := o_ninS.is (by rw [h, Bool.not_not])
theorem o_eqT (hu : X.A.units + 64 < cLine) (hx : SeqAt.shaped x.py = true) (hy : SeqAt.shaped y.py = true) (h : PyData.eqv x.py y.py = true) : OpD X F en (compareOp .Eq) x y (.bl true) := (o_eq hu hx hy).is (by rw [h])
theorem o_eqF (hu : X.A.units + 64 < cLine) (hx : SeqAt.shaped x.py = true) (hy : SeqAt.shaped y.py = true) (h : PyData.eqv x.py y.py = false) : OpD X F en (compareOp .Eq) x y (.bl false) := (o_eq hu hx hy).is (by rw [h])
theorem o_neT (hu : X.A.units + 64 < cLine) (hx : SeqAt.shaped x.py = true) (hy : SeqAt.shaped y.py = true) (h : PyData.eqv x.py y.py = false) : OpD X F en (compareOp .NotEq) x y (.bl true) := (o_ne hu hx hy).is (by rw [h]; rfl)
theorem o_neF (hu : X.A.units + 64 < cLine) (hx : SeqAt.shaped x.py = true) (hy : SeqAt.shaped y.py = true) (h : PyData.eqv x.py y.py = true) : OpD X F en (compareOp .NotEq) x y (.bl false) := (o_ne hu hx hy).is (by rw [h]; rfl)
end
end Pz
end
section
set_option Elab.async false
set_option linter.all false
set_option maxRecDepth 100000
set_option maxHeartbeats 4000000
/-! PzI: enumerate over a tuple; max with a default of an empty list; a module's dict. -/
namespace Pz
open PySem PySem.Spec PyProof.Rows L2
/-! ### enumerate(v), v a tuple -/
theorem meets_enum1 {v : Value} {o : Obj} {H : Heap → Prop} (B : Begins v o H) :
    Meets (Builtin.«enumerate.__new__» ⟨[.type "enumerate", v], []⟩) (fun _ R s => H s.heap ∧
      R (.ok (.ret (.ref (s.heap.push o).objs.size))) { s with heap := (s.heap.push o).push { cls := .type "enumerate", data := .fields #[.none, .bool false, .ref s.heap.objs.size, rawInt 0, .none, .none] } }) :=
  .of_wp fun prog w A R s h => by
    obtain ⟨hp, g, d, tk, os⟩ := s; obtain ⟨h1, h⟩ := h
    have hsub := sub_enumerate
    have q1 : ∀ {A' : Around} {E : Value → Shared → Prop} {Q : Value → Shared → Prop}, Q (.ref hp.objs.size) ⟨hp.push o, g, d, tk, os⟩ → wpAny (model prog w) A' (pyIter v) Q E ⟨hp, g, d, tk, os⟩ :=
      fun q => B.iter prog w _ _ ⟨hp, g, d, tk, os⟩ _ h1 q
    wp_walk using q1
    refine wpAny_stack_any fun st => wpAny_pure ?_
    split
    · rename_i c _ _ _ _ _
      cases (c == Value.type "enumerate")
      · wp_walk using q1
        exact ⟨_, rfl, h⟩
      · wp_walk using q1
        exact ⟨_, rfl, h⟩
    · wp_walk using q1
      exact ⟨_, rfl, h⟩
section
variable {prog : Program} {w : World} {A : Around} {E : Value → Shared → Prop} {s : Shared}
theorem call_enum1 {v : Value} {o : Obj} {H : Heap → Prop} {Q : Value → Shared → Prop} (B : Begins v o H) (h1 : H s.heap)
    (h : ∀ h', IsEnum h' (s.heap.objs.size + 1) s.heap.objs.size 0 .none → h'.get? s.heap.objs.size = some o → h'.objs.size = s.heap.objs.size + 2 →
      (∀ b o, s.heap.get? b = some o → h'.get? b = some o) → Q (.ref (s.heap.objs.size + 1)) { s with heap := h' }) :
    wpAny (model prog w) A (call (.type "enumerate") [v]) Q E s := by
  refine callType_new F.called_enumerate (by decide) (F.typeCall_enumerate_1 _) (F.newCall_enumerate_1 _) (fun obj => F.args_object_init_2 obj _) F.entry_enumerate_new
    (meets_enum1 B) ⟨h1, ?_⟩
  have hz : (s.heap.push o).objs.size = s.heap.objs.size + 1 := Heap.size_push ..
  show _ ∧ _
  rw [hz]
  have he : IsEnum ((s.heap.push o).push { cls := .type "enumerate", data := .fields #[.none, .bool false, .ref s.heap.objs.size, rawInt 0, .none, .none] }) (s.heap.objs.size + 1) s.heap.objs.size 0 .none := by
    have := Heap.get?_push_size (s.heap.push o) (o := { cls := .type "enumerate", data := .fields #[.none, .bool false, .ref s.heap.objs.size, rawInt 0, .none, .none] }) rfl
    rw [hz] at this; exact this
  refine ⟨⟨_, he, rfl⟩, h _ he (Heap.get?_push_of_some _ (Heap.get?_push_size _ B.free)) (by rw [Heap.size_push, hz]) fun b o x => Heap.get?_push_of_some _ (Heap.get?_push_of_some _ x)⟩
end
theorem wpAny_pyNext_tup_end {prog : Program} {w : World} {A : Around} {E : Value → Shared → Prop} {s : Shared} {e it l : Addr} {i : Nat} {c : Int} {items : Array Value} {old : Value} {Q : Option Value → Shared → Prop} (hh : A.handled = none)
    (he : IsEnum s.heap e it c old) (hit : s.heap.IsTupleIter it l i) (hl : s.heap.IsTuple l items) (hx : items[i]? = none)
    (hQ : ∀ h', Heap.ExtBut it s.heap h' → Q none { s with heap := h' }) : wpAny (model prog w) A (pyNext (.ref e)) Q E s := by
  have hT : s.TypeIs (.ref e) "enumerate" := ⟨_, he, rfl⟩
  unfold pyNext
  refine wpAny_bind (wpAny_attempt (wpAny_callSpecial?_slot (name := Str.ofString "__next__") hT F.slot_enumerate_next
    (wpAny_call_entry F.slot_enumerate_next hT F.entry_enumerate_next ?_ (F.args_enumerate_next_1 _))))
  show wpAny _ _ (field (.ref e) 2 >>= _) _ _ _
  refine wpAny_bind (wpAny_field he rfl (x := .ref it) rfl ?_)
  refine wpAny_bind (wpAny_nextOf_tuple_end hh hit hl hx fun h' x he' hx' => ?_)
  obtain ⟨o, ho, hc⟩ := hx'
  refine wpAny_bind (wpAny_isInstance (T := "StopIteration") (b := true) ⟨o, ho, hc⟩ isSubtype_stop ?_)
  exact wpAny_pure (hQ _ he')
def Iet (K : PySem.W.Frag) (a : Addr) : It :=
  ⟨fun i H => ∃ (xs : List V) (x : V), SqT K H a xs ∧ xs[i]? = some x,
    fun i H v H' => ∃ T x, v = .ref T ∧ H T = none ∧ H' = upd H T (.tup [.int (i : Nat), x]) ∧ ∀ xs, SqT K H a xs → xs[i]? = some x,
    fun i H => ∃ xs : List V, SqT K H a xs ∧ xs.length ≤ i⟩
theorem turn_enumT {P : Program} {w : World} {K : PySem.W.Frag} {elts : List Expr} {kk : Nat} {tpos : Pos} (a e it : Addr) :
    Turn P w K (.Tuple elts kk tpos) (Iet K a) [e, it] e (fun i h => (∃ old, IsEnum h e it (0 + ((i : Nat) : Int)) old) ∧ h.IsTupleIter it a i ∧ e ≠ it ∧ a ≠ it ∧ e ≠ a) where
  mem := by simp
  obj := fun i h st b hb => by
    obtain ⟨⟨old, he⟩, ⟨o, ho, hc, hd⟩, _⟩ := st
    have e' : b = e ∨ b = it := by simpa using hb
    rcases e' with z | z
    · rw [z]; exact ⟨_, he, fun v q => nomatch q⟩
    · rw [z]; exact ⟨o, ho, fun v q => by rw [hd] at q; cases q⟩
  keep := fun i h h' st k => let ⟨⟨old, he⟩, hi, hne⟩ := st; ⟨⟨old, k e (by simp) _ he⟩, hi.at fun o q => k it (by simp) o q, hne⟩
  item := by
    intro X hP hw hK hc i pins s σ H E I hf st hg
    subst hP hw hK
    obtain ⟨⟨old, he⟩, hit, hne, hai, hea⟩ := st
    obtain ⟨xs, x, hq, hx⟩ := hg
    obtain ⟨its, rv, p, hz⟩ := I.tuple hq
    obtain ⟨u, hu, ru⟩ := rv.get hx
    have p' : s.heap.IsTuple a its.toArray := p
    have hel : e < s.heap.objs.size := Heap.lt_size he
    have hil : it < s.heap.objs.size := by obtain ⟨_, q, _⟩ := hit; exact Heap.lt_size q
    have hlt : i < its.toArray.size := by
      have : i < its.length := (List.getElem?_eq_some_iff.mp hu).1
      simpa using this
    refine wpAny_pyNext_enum_itemC (Draws.tuple (prog := X.prog) (w := X.w) (A := X.A.in1) (I.ok.hd hc) it a hai its.toArray) (c := 0 + (i : Int)) he ⟨hit, p'⟩ hlt hne (by simp [hne, hea]) fun y h' tk hP ho hs' hT hsz hk => ?_
    have ey : y = u := by
      have : its.toArray[i]? = some u := by simpa using hu
      rw [this] at hP
      exact (Option.some.inj hP).symm
    subst ey
    refine ⟨_, rfl, wpAny_letOwnedTupleGo_enum (s := { s with heap := h', toks := tk + 1 }) ho fun h'' he' sb => ?_⟩
    have hT2 : h''.get? s.heap.objs.size = some { cls := .type "tuple", data := .seq #[.int (0 + (i : Int)) tk, y] } := (sb.2 _ (Nat.ne_of_gt hel)).trans hT
    have new : ObjOk X.prog X.w (upd H s.heap.objs.size (.tup [.int (i : Nat), x])) h'' s.heap.objs.size (.tup [.int (i : Nat), x]) :=
      ⟨by show 2 ≤ sizeLine; decide, [.int (0 + (i : Int)) tk, y], .cons ⟨_, by rw [Int.zero_add]⟩ (.cons ru .nil), ⟨_, hT2, rfl, _, rfl⟩⟩
    have I1 : Inv X pins σ (upd H s.heap.objs.size (.tup [.int (i : Nat), x])) { s with heap := h'', toks := tk + 1 } :=
      I.turnedNew (ch := [e, it]) (fun b ob hb q => (sb.2 b (fun z => hb (by simp [z]))).trans (hk b ob (fun z => hb (by simp [z])) (fun z => hb (by simp [z])) q)) hf (Nat.le_refl _) new
    refine ⟨.ref s.heap.objs.size, _, I1, rfl, ⟨_, x, rfl, I.hok.fresh (Nat.le_refl _), rfl, fun ys hy => by rw [I.tuple_inj hy hq]; exact hx⟩, ⟨⟨y, ?_⟩, hs'.1.at fun o q => (sb.2 it (Ne.symm hne)).trans q, hne, hai, hea⟩, fun b hb => ?_⟩
    · have e1 : (0 + ((i + 1 : Nat) : Int)) = 0 + (i : Int) + 1 := by omega
      rw [e1]; exact he'
    · have hb' : b < s.heap.objs.size := by
        have e' : b = e ∨ b = it := by simpa using hb
        rcases e' with z | z
        · rw [z]; exact hel
        · rw [z]; exact hil
      rw [upd_ne (Nat.ne_of_lt hb')]
      exact (hf b hb).1
  done := by
    intro X hP hw hK hc i pins s σ H E I hf st hg
    subst hP hw hK
    obtain ⟨⟨old, he⟩, hit, hne, hai, hea⟩ := st
    obtain ⟨xs, hq, hx⟩ := hg
    obtain ⟨its, rv, p, hz⟩ := I.tuple hq
    have p' : s.heap.IsTuple a its.toArray := p
    obtain ⟨f0, f1, f2, f3, f4, f5⟩ := hf it (by simp)
    have hl := rv.length
    have hlen : its.toArray[i]? = none := by simp; omega
    exact wpAny_pyNext_tup_end (I.ok.hd hc) he hit p' hlen fun h' eb => ⟨rfl, I.turned (t' := s.toks) (fun b o hb q => eb b o hb q) f0 f1 f3 f4 f5⟩
  self := fun A i s Q E st h => let ⟨⟨_, he⟩, _⟩ := st; wpAny_pyIter_enum he h
def iEnumT (K : PySem.W.Frag) (ta : TA) : TI := fun σ H R => ta σ H fun vs H1 => ∃ a xs, vs = [.ref a] ∧ SqT K H1 a xs ∧ R (Iet K a) H1
theorem pi_enumT {X : Cx} {e : Expr} {ta : TA} {p pos tpos : Pos} {elts : List Expr} {kk : Nat} (hg : Gl X "enumerate") (hm : X.mg "enumerate" = none) (ha : PA X [e] ta) (hs : starEach [e] X.env = [(false, eval e X.env)] := by rfl) :
    PI X (.Tuple elts kk tpos) (.Call (.Name "enumerate" p) [e] [] pos) (iEnumT X.K ta) := by
  refine ⟨fun pins s σ H R I h => ?_⟩
  refine Call_ (ld_blt I hg hm boot_enumerate (PyProof.Rows.callWith_type1 (thn (ha.run pos pins s σ H _ I h) fun us s1 ⟨vs, H1, I1, r1, q1⟩ => ?_) hs rfl))
  obtain ⟨a, xs, ex, hq, q⟩ := q1
  subst ex
  cases r1 with
  | cons r rr =>
    cases rr
    cases r
    obtain ⟨its, rv, p', hz⟩ := I1.tuple hq
    have p'' : s1.heap.IsTuple a its.toArray := p'
    have hal : a < s1.heap.objs.size := by obtain ⟨_, q, _⟩ := p''; exact Heap.lt_size q
    refine call_enum1 (begins_tuple a its.toArray) p'' fun h' he hit hsz hk => wpAny_pyIter_enum he ?_
    have I2 : Inv X pins σ H1 { s1 with heap := h' } := I1.kept (t' := s1.toks) hk
    refine ⟨s1.heap.objs.size + 1, [s1.heap.objs.size + 1, s1.heap.objs.size], _, _, H1, rfl, I2, turn_enumT a (s1.heap.objs.size + 1) s1.heap.objs.size, ⟨⟨.none, he⟩, ⟨_, hit, rfl, rfl⟩, Nat.succ_ne_self _, Nat.ne_of_lt hal, Nat.ne_of_gt (Nat.lt_succ_of_lt hal)⟩, fun b hb => ?_, q⟩
    have e' : b = s1.heap.objs.size + 1 ∨ b = s1.heap.objs.size := by simpa using hb
    have hle : s1.heap.objs.size ≤ b := by
      rcases e' with z | z
      · rw [z]; exact Nat.le_add_right _ _
      · rw [z]; exact Nat.le_refl _
    exact I1.fpOk hle (I1.hok.fresh hle)
def enumD : Nat → List D → List D
  | _, [] => []
  | i, d :: r => .tup [.int (i : Nat), d] :: enumD (i + 1) r
theorem enumD_get : ∀ {ds : List D} {k i : Nat} {d : D}, (enumD k ds)[i]? = some d → ∃ x, ds[i]? = some x ∧ d = .tup [.int ((k + i : Nat) : Int), x]
  | [], _, _, _, h => by simp [enumD] at h
  | x :: r, k, 0, d, h => by
    simp [enumD] at h
    exact ⟨x, by simp, by rw [← h]; rfl⟩
  | x :: r, k, i + 1, d, h => by
    obtain ⟨y, h1, h2⟩ := enumD_get (ds := r) (k := k + 1) (i := i) (d := d) (by simpa [enumD] using h)
    refine ⟨y, by simpa using h1, ?_⟩
    rw [h2]
    congr 4
    omega
theorem enumD_len : ∀ {ds : List D} {k : Nat}, (enumD k ds).length = ds.length
  | [], _ => rfl
  | _ :: r, k => congrArg (· + 1) (enumD_len (ds := r))
theorem i_enumT {X : Cx} {F : Fr} {en : En} {e : Expr} {ds : List D} {p pos tpos : Pos} {elts : List Expr} {kk : Nat} (h : Ea X F en [e] [.tup ds]) (hm : X.mg "enumerate" = none) (hg : Gl X "enumerate" := by rfl) (hs : starEach [e] X.env = [(false, eval e X.env)] := by rfl) :
    Ei X F (.Tuple elts kk tpos) (.Call (.Name "enumerate" p) [e] [] pos) en (enumD 0 ds) :=
  PI.wk (pi_enumT hg hm h hs) fun σ H R ⟨M, RR, q⟩ => ⟨M, RR, fun vs H1 i g rp => by
    cases rp with
    | cons a r =>
      cases r
      cases a with
      | tup ht rs =>
        rename_i ad vs
        refine ⟨ad, vs, rfl, ht.sq, q _ H1 i g fun M2 H2 k hd j => ⟨fun d hj => ?_, fun hj => ⟨vs, (ht.kp k).sq, by rw [rs.length, ← enumD_len (ds := ds) (k := 0)]; exact hj⟩⟩⟩
        obtain ⟨x, hx, ed⟩ := enumD_get hj
        obtain ⟨w, hw, rw_⟩ := rs.get hx
        refine ⟨⟨vs, w, (ht.kp k).sq, hw⟩, fun y H3 ⟨T, x', ey, hT, e3, q2⟩ => ?_⟩
        have ex := q2 vs (ht.kp k).sq
        rw [hw] at ex
        cases ex
        subst ey e3 ed
        have nT : ¬ M2 T := fun z => hd T z hT
        have kk2 : Kp M2 M2 H2 (upd H2 T (.tup [.int ((j : Nat) : Int), w])) := ⟨fun b o e _ => by rw [upd_ne (ne_of_none e hT)]; exact e, fun _ _ z => z⟩
        refine ⟨Same.new hT, .tup (.inl ⟨.inl upd_same, nT⟩) (.cons ?_ (.cons ((rw_.kp k).kp kk2) .nil))⟩
        rw [Nat.zero_add]
        exact .int _⟩
end Pz
end
section
set_option Elab.async false
set_option linter.all false
set_option maxRecDepth 100000
set_option maxHeartbeats 4000000
/-! PzJ: max of an empty list with a default; a module's dict with text keys; slices with bounds as numbers. -/
namespace Pz
open PySem PySem.Spec PyProof.Rows L2
theorem args_max_d (a d : Value) : argsOk "max" ⟨[a], [(Str.ofString "default", d)]⟩ := by unfold argsOk; kernel_rfl
section
variable {prog : Program} {w : World} {A : Around} {E : Value → Shared → Prop} {s : Shared}
theorem tree_kw {id : String} {b : Builtin} {args : List Value} {kw : List (Str × Value)} {Q : Value → Shared → Prop} (hk : builtinKind id = none) (hp : plainId id = true)
    (hb : entryFor table id = some b) (ha : argsOk id ⟨args, kw⟩)
    (hc : wpAny (model prog w) A.in1 (b ⟨args, kw⟩) (fun fin s' => match fin with
      | .done f => (match (Except.ok f : Result) with | .ok (.ret v) => Q v s' | .ok _ => False | .error e => E e s')
      | .again c' => c'.quiet = true ∧ codeAny (model prog w) A c' (fun r s' => match r with | .ok (.ret v) => Q v s' | .ok _ => False | .error e => E e s') s') E s) :
    wpAny (model prog w) A (call (.builtin id) args kw) Q E s := by
  refine wpAny_call (codeAny_call_builtin hp hb ?_)
  simp only [checkBuiltinCall, hk]
  cases hsig : Manifest.signature? id with
  | none => exact wpAny_pure hc
  | some sig =>
    simp only [argsOk, hsig] at ha
    have h2 : Bind.checkArgs id sig ⟨args, kw⟩ = pure () := ha
    show wpAny _ A.in1 (Bind.checkArgs id sig ⟨args, kw⟩) _ _ s
    rw [h2]; exact wpAny_pure hc
theorem max_loop_d {R : Result → Shared → Prop} {I S : Addr} {d : Value} {c : Nat} {fp wr : List Addr} {P : Nat → Value → Prop} {St : Nat → Heap → Prop} (W : Walks prog w A.in1 I fp wr 0 P St) (hst : St 0 s.heap)
    (hS : s.heap.get? S = some { cls := .type "list", dict := none, data := .seq #[] c, slots := #[] })
    (hR : ∀ h' tk, (∀ b o, b ∉ wr → s.heap.get? b = some o → h'.get? b = some o) → R (.ok (.ret d)) { s with heap := h', toks := tk }) :
    codeAny (model prog w) A (.builtin "max.loop" ⟨[.ref I, .none, .ref S], [("default", d)]⟩) R s := by
  refine codeAny_builtin F.entry_max_loop ?_
  rw [Around.under_plainId F.plain_max_loop _]
  show wpAny _ A.in1 (seqItems? (.ref S) >>= _) _ _ s
  refine wpAny_bind (wpAny_seqItems hS rfl ?_)
  show wpAny _ A.in1 (tryCatch (pyNext (.ref I)) _ >>= _) _ _ s
  refine wpAny_bind (wpAny_tryCatch (W.done s _ _ hst fun h' tk hk' => ?_))
  refine wpAny_bind (wpAny_rule (wpAny_pure ?_))
  exact hR h' tk hk'
theorem call_max_d {l : Addr} {d : Value} {Q : Value → Shared → Prop} (hh : A.handled = none) (hl : s.heap.IsList l #[])
    (hQ : ∀ h' tk, (∀ b o, s.heap.get? b = some o → h'.get? b = some o) → Q d { s with heap := h', toks := tk }) :
    wpAny (model prog w) A (call (.builtin "max") [.ref l] [(Str.ofString "default", d)]) Q E s := by
  have hname : (toString "max" ++ toString ".loop" : String) = "max.loop" := by decide
  refine tree_kw F.kind_max F.plain_max F.entry_max (args_max_d _ _) ?_
  show wpAny _ A.in1 (Builtin.Builtins.bindParams "max" ["key", "default"] 0 ⟨[], [(Str.ofString "default", d)]⟩ >>= _) _ _ s
  refine wpAny_bind (wpAny_of_eq (show Builtin.Builtins.bindParams "max" ["key", "default"] 0 ⟨[], [(Str.ofString "default", d)]⟩ = pure [none, some d] from rfl) ?_)
  refine wpAny_bind (wpAny_pure ?_)
  refine wpAny_bind (iter_intList (xs := #[]) (by simpa [intItems] using hl) fun s₂ e st hfp hlI => ?_)
  subst e
  refine wpAny_bind (wpAny_newObj_type ?_)
  rw [hname]
  have W : Walks prog w A.in1 s.heap.objs.size [s.heap.objs.size, l] [s.heap.objs.size] 0 (fun i v => (intItems #[])[i]? = some v) (fun i h => h.IsListIter s.heap.objs.size l i ∧ h.IsList l (intItems #[])) := by
    have W0 := Walks.list (prog := prog) (w := w) (A := A.in1) hh s.heap.objs.size l hlI (intItems #[])
    have e0 : (intItems #[]).size = 0 := by simp [intItems]
    rwa [e0] at W0
  refine wpAny_pure ⟨plainId_quiet F.plain_max_loop _, max_loop_d (A := A) (c := 0) W ⟨st.1.at fun o e => Heap.get?_push_of_some _ e, st.2.at fun o e => Heap.get?_push_of_some _ e⟩ (Heap.get?_push_size _ rfl) fun h' tk hk => ?_⟩
  exact hQ h' tk (old_kept (s := s) (l := l) fun b o hb e => hk b o hb (Heap.get?_push_of_some _ e))
end
section
variable {X : Cx} {F : Fr} {en : En} {a b c o e : Expr} {d x y z : D} {p pos kpos : Pos} {xs : List D}
/-- max(xs, default=d) of an empty list -/
theorem cr_maxD (hc : X.calm = true) : CallRK X (.builtin "max") [Str.ofString "default"] (fun vs zs H Q => ∃ a z, vs = [.ref a] ∧ zs = [z] ∧ SqL X.K H a [] ∧ Q z H) := by
  intro pins s σ H vs zs us ws Q I r rz h
  obtain ⟨a, z, rfl, rfl, hs, q⟩ := h
  obtain rfl := Vals.ref1 r
  cases rz with
  | cons r1 rr =>
    cases rr
    obtain ⟨its, rv, hl, hz⟩ := I.list hs
    cases rv
    exact call_max_d (I.ok.hd hc) hl.isList fun h' tk k => ⟨z, H, I.kept (t' := tk) k, r1, q⟩
theorem e_maxV {f : Str} {i : Int} (hc : X.calm = true) (ha : Ev X F en e (.lst [])) (hd : Ev X F en o (.int i)) (hm : X.mg f = none) (hg : Gl X f := by rfl)
    (hv : bootBuiltins f = some (.builtin "max") := by decide +kernel) (hn : f ≠ "__name__" := by decide) (hdb : (f == ("__debug__" : Str)) = false := by decide)
    (he : backTo pos (starEach [e] X.env) = (false, eval e X.env) :: backTo pos (starEach [] X.env) := by rfl) (hpl : (backTo pos (starEach [e] X.env)).any (·.1) = false := by rfl) (hs : starEach [e] X.env = (false, eval e X.env) :: starEach [] X.env := by rfl)
    (hall : (backToKw pos (keywordEach [⟨some "default", o, kpos⟩] X.env)).all (·.1.isSome) = true := by rfl) (hnone : (backToKw pos (keywordEach [⟨some "default", o, kpos⟩] X.env)).any (·.1.isNone) = false := by rfl) (hks : (backToKw pos (keywordEach [⟨some "default", o, kpos⟩] X.env)).filterMap (·.1) = [Str.ofString "default"] := by rfl) :
    Ev X F en (.Call (.Name f p) [e] [⟨some "default", o, kpos⟩] pos) (.int i) := by
  refine PE.wk (pe_callBK (cr_maxD hc) hg hm hv (pa_cons (show PE X e _ from ha) pa_nil hs) (pk_cons hd pk_nil) hn hdb he hpl hall hnone hks) ?_
  intro σ H Q ⟨M, R, q⟩
  refine ⟨M, R, fun v H1 z i1 g1 r ez => ?_⟩
  subst ez
  refine ⟨M, R.step i1 g1, fun v2 H2 z2 i2 g2 r2 ez2 => ?_⟩
  subst ez2
  cases r2
  have r' := r.kp ((R.step i1 g1).kp g2)
  cases r' with
  | lst h rs => cases rs; exact ⟨_, _, rfl, rfl, h.sq, q _ H2 _ i2 (g1.trans g2) (.int _) rfl⟩
/-! ### a dict of the module -/
theorem o_inM {ad : Addr} {t : Str} (h : ∃ v, KDct X.K X.w ad t v) (hl : (ad == sysModules) = false) : OpD X F en (compareOp .In) (.str t) (.ref ad) (.bl true) := by
  obtain ⟨v, es, n, u, h1, h2, h3, h4⟩ := h
  exact o_of (op_in_kd ⟨h1, h2, hl⟩) fun M σ H vx vy Q R bx by_ q => by
    have ey : vy = .ref ad := by
      rcases by_.any R with r | ⟨b, _, o⟩
      · cases r; rfl
      · cases o
    exact ⟨t, some u, bx.str R, ey, h3, q _ H R.inv Gr.refl (.bl _)⟩
theorem e_ixM {ad : Addr} {t : Str} {i : Int} (ha : Ev X F en a (.ref ad)) (hb : Ev X F en b (.str t)) (h : KDct X.K X.w ad t (.int i)) (hs : PlainIx b := by intro _ _; rfl) : Ev X F en (.Subscript a b pos) (.int i) :=
  PE.wk (pe_ix ix_kdict ha.eb hb.eb hs) fun σ H Q ⟨M, R, q⟩ => ⟨M, R, fun vx H1 i1 g1 bx => ⟨M, R.step i1 g1, fun vy H2 i2 g2 by_ => by
    have R1 := R.step i1 g1
    have R2 := R1.step i2 g2
    have ex : vx = .ref ad := by
      rcases bx.any R1 with r | ⟨b, _, o⟩
      · cases r; rfl
      · cases o
    exact ⟨ad, t, .int i, ex, by_.str R2, h, q _ H2 _ i2 (g1.trans g2) (.int i) rfl⟩⟩⟩
end
/-! ### cuts -/
theorem cut_hi (xs : List D) (n : Nat) (h : n ≤ xs.length) : cutD xs (some (n : Int)) none = xs.drop n := by
  unfold cutD
  rw [HT.sIx_nat, HT.sIx_none, Nat.min_eq_left h]
  exact List.take_of_length_le (by simp)
theorem cut_lo (xs : List D) (n : Nat) (h : n ≤ xs.length) : cutD xs none (some (n : Int)) = xs.take n := by
  unfold cutD
  rw [HT.sIx_nat, HT.sIx_none, Nat.min_eq_left h]
  simp
end Pz
end
section
set_option Elab.async false
set_option linter.all false
set_option maxRecDepth 100000
/-! PzK: == over data of None, texts, tuples, lists: it is equality. -/
namespace Pz
open PySem PySem.Spec L2
inductive Sh : Nat → D → Prop
  | non {n} : Sh n .non
  | int {n i} : Sh n (.int i)
  | str {n x} : PyData.strOk x = true → Sh n (.str x)
  | tup {n ds} : (∀ d ∈ ds, Sh n d) → Sh (n + 1) (.tup ds)
  | lst {n ds} : (∀ d ∈ ds, Sh n d) → Sh (n + 1) (.lst ds)
mutual
theorem sh_ok : ∀ {d : D} {n : Nat}, Sh n d → d.py.canLay0 = true ∧ d.py.depth ≤ n + 1
  | .non, _, _ => by simp [D.py, PyData.canLay0, PyData.depth]
  | .int _, _, _ => by simp [D.py, PyData.canLay0, PyData.depth]
  | .str _, _, .str h => by simp [D.py, PyData.canLay0, PyData.depth, h]
  | .tup ds, _, .tup h => by
    have q := shs_ok (ds := ds) h
    simp only [D.py, PyData.canLay0, PyData.depth]
    exact ⟨q.1, by omega⟩
  | .lst ds, _, .lst h => by
    have q := shs_ok (ds := ds) h
    simp only [D.py, PyData.canLay0, PyData.depth]
    exact ⟨q.1, by omega⟩
theorem shs_ok : ∀ {ds : List D} {n : Nat}, (∀ d ∈ ds, Sh n d) → PyData.canLayAll0 (pys ds) = true ∧ PyData.depthAll (pys ds) ≤ n + 1
  | [], _, _ => by simp [pys, PyData.canLayAll0, PyData.depthAll]
  | d :: ds, _, h => by
    have q1 := sh_ok (d := d) (h d (by simp))
    have q2 := shs_ok (ds := ds) fun x hx => h x (by simp [hx])
    simp only [pys, PyData.canLayAll0, PyData.depthAll, Bool.and_eq_true]
    exact ⟨⟨q1.1, q2.1⟩, by omega⟩
end
theorem Sh.shaped {d : D} {n : Nat} (h : Sh n d) (hn : n ≤ 63 := by decide) : SeqAt.shaped d.py = true := by
  have q := sh_ok h
  unfold SeqAt.shaped
  rw [q.1, decide_eq_true (by omega)]
  rfl
mutual
theorem sh_eqv : ∀ {x y : D} {m n : Nat}, Sh m x → Sh n y → (PyData.eqv x.py y.py = true ↔ x = y)
  | .non, .non, _, _, _, _ => by simp [D.py, PyData.eqv]
  | .non, .int _, _, _, _, _ => by simp [D.py, PyData.eqv]
  | .int _, .non, _, _, _, _ => by simp [D.py, PyData.eqv]
  | .int _, .int _, _, _, _, _ => by simp [D.py, PyData.eqv]
  | .int _, .str _, _, _, _, _ => by simp [D.py, PyData.eqv]
  | .int _, .tup _, _, _, _, _ => by simp [D.py, PyData.eqv]
  | .int _, .lst _, _, _, _, _ => by simp [D.py, PyData.eqv]
  | .str _, .int _, _, _, _, _ => by simp [D.py, PyData.eqv]
  | .tup _, .int _, _, _, _, _ => by simp [D.py, PyData.eqv]
  | .lst _, .int _, _, _, _, _ => by simp [D.py, PyData.eqv]
  | .non, .str _, _, _, _, _ => by simp [D.py, PyData.eqv]
  | .non, .tup _, _, _, _, _ => by simp [D.py, PyData.eqv]
  | .non, .lst _, _, _, _, _ => by simp [D.py, PyData.eqv]
  | .str _, .non, _, _, _, _ => by simp [D.py, PyData.eqv]
  | .str _, .str _, _, _, _, _ => by simp [D.py, PyData.eqv]
  | .str _, .tup _, _, _, _, _ => by simp [D.py, PyData.eqv]
  | .str _, .lst _, _, _, _, _ => by simp [D.py, PyData.eqv]
  | .tup _, .non, _, _, _, _ => by simp [D.py, PyData.eqv]
  | .tup _, .str _, _, _, _, _ => by simp [D.py, PyData.eqv]
  | .tup xs, .tup ys, _, _, .tup h1, .tup h2 => by simp only [D.py, PyData.eqv, D.tup.injEq]; exact shs_eqv h1 h2
  | .tup _, .lst _, _, _, _, _ => by simp [D.py, PyData.eqv]
  | .lst _, .non, _, _, _, _ => by simp [D.py, PyData.eqv]
  | .lst _, .str _, _, _, _, _ => by simp [D.py, PyData.eqv]
  | .lst _, .tup _, _, _, _, _ => by simp [D.py, PyData.eqv]
  | .lst xs, .lst ys, _, _, .lst h1, .lst h2 => by simp only [D.py, PyData.eqv, D.lst.injEq]; exact shs_eqv h1 h2
theorem shs_eqv : ∀ {xs ys : List D} {m n : Nat}, (∀ d ∈ xs, Sh m d) → (∀ d ∈ ys, Sh n d) → (PyData.eqvAll (pys xs) (pys ys) = true ↔ xs = ys)
  | [], [], _, _, _, _ => by simp [pys, PyData.eqvAll]
  | [], _ :: _, _, _, _, _ => by simp [pys, PyData.eqvAll]
  | _ :: _, [], _, _, _, _ => by simp [pys, PyData.eqvAll]
  | x :: xs, y :: ys, _, _, h1, h2 => by
    simp only [pys, PyData.eqvAll, Bool.and_eq_true, List.cons.injEq]
    rw [sh_eqv (h1 x (by simp)) (h2 y (by simp)), shs_eqv (xs := xs) (ys := ys) (fun d hd => h1 d (by simp [hd])) fun d hd => h2 d (by simp [hd])]
end
theorem Sh.eqT {x : D} {n : Nat} (h : Sh n x) : PyData.eqv x.py x.py = true := (sh_eqv h h).2 rfl
theorem Sh.eqF {x y : D} {m n : Nat} (h : Sh m x) (g : Sh n y) (e : x ≠ y) : PyData.eqv x.py y.py = false := Bool.eq_false_iff.mpr fun q => e ((sh_eqv h g).1 q)
theorem sh_strs (xs : List Str) (h : ∀ x ∈ xs, PyData.strOk x = true) : Sh 1 (.tup (xs.map .str)) := .tup fun d hd => by
  obtain ⟨s, hs, rfl⟩ := List.mem_map.mp hd
  exact .str (h s hs)
section
variable {X : Cx} {F : Fr} {en : En} {x y : D} {m n : Nat}
theorem o_eq_T (hu : X.A.units + 64 < cLine) (h : Sh m x) (e : x = y) (hm : m ≤ 63 := by decide) : OpD X F en (compareOp .Eq) x y (.bl true) := by
  subst e
  exact o_eqT hu (h.shaped hm) (h.shaped hm) h.eqT
theorem o_eq_F (hu : X.A.units + 64 < cLine) (h : Sh m x) (g : Sh n y) (e : x ≠ y) (hm : m ≤ 63 := by decide) (hn : n ≤ 63 := by decide) : OpD X F en (compareOp .Eq) x y (.bl false) := o_eqF hu (h.shaped hm) (g.shaped hn) (h.eqF g e)
theorem o_ne_F (hu : X.A.units + 64 < cLine) (h : Sh m x) (e : x = y) (hm : m ≤ 63 := by decide) : OpD X F en (compareOp .NotEq) x y (.bl false) := by
  subst e
  exact o_neF hu (h.shaped hm) (h.shaped hm) h.eqT
theorem o_ne_T (hu : X.A.units + 64 < cLine) (h : Sh m x) (g : Sh n y) (e : x ≠ y) (hm : m ≤ 63 := by decide) (hn : n ≤ 63 := by decide) : OpD X F en (compareOp .NotEq) x y (.bl true) := o_neT hu (h.shaped hm) (g.shaped hn) (h.eqF g e)
end
end Pz
end
section
set_option Elab.async false
set_option linter.all false
set_option maxRecDepth 100000
set_option maxHeartbeats 4000000
/-! PzL: a dict by value walked by its keys. -/
namespace Pz
open PySem PySem.Spec PyProof.Rows L2
section
variable {X : Cx} {F : Fr} {en : En} {tg e : Expr} {G : Gx} {M : Addr → Prop} {H : Hp}
theorem Rpk.getk : ∀ {vs : List (Key × V)} {kvs : List (Key × D)} {i : Nat} {d : D}, Rpk G M H vs kvs → (kvs.map fun q => D.ofKey q.1)[i]? = some d → ∃ k v, vs[i]? = some (k, v) ∧ d = D.ofKey k
  | _, _, _, _, .nil, e => by simp at e
  | _, _, 0, _, .cons a _, e => by simp at e; exact ⟨_, _, rfl, e.symm⟩
  | _, _, i + 1, _, .cons _ r, e => by
    obtain ⟨k, v, h1, h2⟩ := Rpk.getk (i := i) r (by simpa using e)
    exact ⟨k, v, by simpa using h1, h2⟩
theorem i_dict {kvs : List (Key × D)} (h : Ev X F en e (dk kvs)) : Ei X F tg e en (kvs.map fun q => D.ofKey q.1) := PI.wk (pi_keys h) fun σ H R ⟨M, RR, q⟩ => ⟨M, RR, fun v H1 z i g rp ez => by
  subst ez
  unfold dk at rp
  cases rp with
  | dk hd hm r =>
    rename_i a ob vs
    have r' := r.to
    refine ⟨a, ob, rfl, .inl ⟨vs, hd, q _ H1 i g fun M2 H2 k hdm j => ⟨fun d hj => ?_, fun hj => ⟨(k.ho hd hm).1, by rw [r'.length]; simpa using hj⟩⟩⟩⟩
    obtain ⟨ky, v, hv, ed⟩ := r'.getk hj
    refine ⟨⟨(k.ho hd hm).1, (List.getElem?_eq_some_iff.mp hv).1⟩, fun x H3 ⟨e3, k', v', hk', ex⟩ => ?_⟩
    rw [hv] at hk'
    cases hk'
    subst e3 ex ed
    refine ⟨Same.refl _, ?_⟩
    cases ky with
    | inl i => exact .int i
    | inr s => exact .str s⟩
end
end Pz
end
section
set_option Elab.async false
set_option linter.all false
set_option maxRecDepth 100000
set_option maxHeartbeats 4000000
/-! PzM: list(zip(a, b)) of two tuples. -/
namespace Pz
open PySem PySem.Spec PyProof.Rows L2
section
variable {prog : Program} {w : World} {A : Around} {E : Value → Shared → Prop} {s : Shared}
theorem zt_item_held {z TI TO T i1 i2 l1 l2 : Addr} {f : Bool} {oT : Obj} {k1 k2 : Nat} {xs ys : Array Value} {x y : Value} {Q : Value → Shared → Prop} (D : ZipApart z TI TO i1 i2 l1 l2)
    (hz : IsZipHeld s.heap z TI TO T f) (hT : s.heap.get? T = some oT) (hTI : IsPair s.heap TI (.ref i1) (.ref i2))
    (h1 : s.heap.IsTupleIter i1 l1 k1) (h2 : s.heap.IsTupleIter i2 l2 k2) (hl1 : s.heap.IsTuple l1 xs) (hl2 : s.heap.IsTuple l2 ys) (hx : xs[k1]? = some x) (hy : ys[k2]? = some y)
    (hQ : ∀ h', IsZipHeld h' z TI TO T true → h'.IsTupleIter i1 l1 (k1 + 1) → h'.IsTupleIter i2 l2 (k2 + 1) → IsPair h' s.heap.objs.size x y → h'.objs.size = s.heap.objs.size + 1 →
      (∀ c o, c ≠ z → c ≠ i1 → c ≠ i2 → s.heap.get? c = some o → h'.get? c = some o) → Q (.ref s.heap.objs.size) { s with heap := h' }) :
    wpAny (model prog w) A (Builtin.«zip.__next__» ⟨[.ref z], []⟩) (fun fin s' => ∃ v, fin = .done (.ret v) ∧ Q v s') E s := by
  show wpAny _ _ (field (.ref z) 2 >>= _) _ _ _
  refine wpAny_bind (wpAny_field hz rfl (x := .bool false) rfl ?_)
  show wpAny _ _ (field (.ref z) 3 >>= _) _ _ _
  refine wpAny_bind (wpAny_field hz rfl (x := .ref TI) rfl ?_)
  refine wpAny_bind (wpAny_seqItems hTI rfl ?_)
  show wpAny _ _ (Builtin.SmallTypes.ownedTupleIsFree (.ref z) >>= _) _ _ _
  refine wpAny_bind (wpAny_tupleHeld_zip hz hT fun h₁ hz₁ hs₁ => ?_)
  simp only [Bool.false_eq_true, if_false]
  refine wpAny_bind ?_
  rw [← Array.forIn_toList]
  simp only [List.forIn_cons, List.forIn_nil]
  refine wpAny_bind (wpAny_bind (wpAny_holding ?_))
  show wpAny _ _ (Builtin.SmallTypes.nextOf (.ref i1) >>= _) _ _ _
  refine wpAny_bind (wpAny_nextOf_tuple_item (s := { s with heap := h₁ }) (h1.extBut hs₁.extBut D.i1z) (hl1.extBut hs₁.extBut D.l1z) hx fun h₂ h1₂ hs₂ => wpAny_pure ?_)
  refine wpAny_pure ?_
  refine wpAny_bind (wpAny_bind (wpAny_holding ?_))
  show wpAny _ _ (Builtin.SmallTypes.nextOf (.ref i2) >>= _) _ _ _
  refine wpAny_bind (wpAny_nextOf_tuple_item (s := { s with heap := h₂ }) ((h2.extBut hs₁.extBut D.i2z).extBut hs₂.extBut D.i12.symm) ((hl2.extBut hs₁.extBut D.l2z).extBut hs₂.extBut D.l2i1) hy fun h₃ h2₃ hs₃ => wpAny_pure ?_)
  refine wpAny_pure (wpAny_pure ?_)
  show wpAny _ _ (newTuple [x, y] >>= _) _ _ _
  refine wpAny_bind (wpAny_newTuple ?_)
  have hsz : h₃.objs.size = s.heap.objs.size := by rw [hs₃.1, hs₂.1, hs₁.1]
  have hz₃ : IsZipHeld h₃ z TI TO T true := hs₃.extBut _ _ D.i2z.symm (hs₂.extBut _ _ D.i1z.symm hz₁)
  have hk : ∀ c o, c ≠ z → c ≠ i1 → c ≠ i2 → s.heap.get? c = some o → h₃.get? c = some o := fun c o c1 c2 c3 e => hs₃.extBut _ _ c3 (hs₂.extBut _ _ c2 (hs₁.extBut _ _ c1 e))
  have h1₃ : h₃.IsTupleIter i1 l1 (k1 + 1) := h1₂.extBut hs₃.extBut D.i12
  refine wpAny_pure ⟨_, rfl, ?_⟩
  show Q (.ref h₃.objs.size) _
  have hp : IsPair (h₃.push { cls := .type "tuple", data := .seq #[x, y] }) h₃.objs.size x y := Heap.get?_push_size _ rfl
  have hz4 : (h₃.push { cls := .type "tuple", data := .seq #[x, y] }).objs.size = h₃.objs.size + 1 := Heap.size_push ..
  rw [hsz] at hp hz4 ⊢
  exact hQ _ (Heap.get?_push_of_some _ hz₃) (h1₃.at fun o e => Heap.get?_push_of_some _ e) (h2₃.at fun o e => Heap.get?_push_of_some _ e) hp hz4 fun c o c1 c2 c3 e => Heap.get?_push_of_some _ (hk c o c1 c2 c3 e)
theorem zt_end_held {z TI TO T i1 i2 l1 l2 : Addr} {f : Bool} {oT : Obj} {k1 : Nat} {xs : Array Value} {Q : PySem.Fin → Shared → Prop} (hh : A.handled = none) (D : ZipApart z TI TO i1 i2 l1 l2)
    (hz : IsZipHeld s.heap z TI TO T f) (hT : s.heap.get? T = some oT) (hTI : IsPair s.heap TI (.ref i1) (.ref i2))
    (h1 : s.heap.IsTupleIter i1 l1 k1) (hl1 : s.heap.IsTuple l1 xs) (hx : xs[k1]? = none)
    (hE : ∀ h' e, (∀ c o, c ≠ z → c ≠ i1 → s.heap.get? c = some o → h'.get? c = some o) → (∃ o, h'.get? e = some o ∧ o.cls = .type "StopIteration") → E (.ref e) { s with heap := h' }) :
    wpAny (model prog w) A (Builtin.«zip.__next__» ⟨[.ref z], []⟩) Q E s := by
  show wpAny _ _ (field (.ref z) 2 >>= _) _ _ _
  refine wpAny_bind (wpAny_field hz rfl (x := .bool false) rfl ?_)
  show wpAny _ _ (field (.ref z) 3 >>= _) _ _ _
  refine wpAny_bind (wpAny_field hz rfl (x := .ref TI) rfl ?_)
  refine wpAny_bind (wpAny_seqItems hTI rfl ?_)
  show wpAny _ _ (Builtin.SmallTypes.ownedTupleIsFree (.ref z) >>= _) _ _ _
  refine wpAny_bind (wpAny_tupleHeld_zip hz hT fun h₁ hz₁ hs₁ => ?_)
  simp only [Bool.false_eq_true, if_false]
  refine wpAny_bind ?_
  rw [← Array.forIn_toList]
  simp only [List.forIn_cons, List.forIn_nil]
  refine wpAny_bind (wpAny_bind (wpAny_holding ?_))
  show wpAny _ _ (Builtin.SmallTypes.nextOf (.ref i1) >>= _) _ _ _
  refine wpAny_bind (wpAny_nextOf_tuple_end (s := { s with heap := h₁ }) hh (h1.extBut hs₁.extBut D.i1z) (hl1.extBut hs₁.extBut D.l1z) hx fun h₂ e hs₂ he => ?_)
  exact hE h₂ e (fun c o c1 c2 x => hs₂ _ _ c2 (hs₁.extBut _ _ c1 x)) he
/-- the zip at its i-th turn, its tuples held -/
structure ZS (h : Heap) (z TI TO i1 i2 l1 l2 : Addr) (xs ys : Array Value) (S : Addr) (i : Nat) : Prop where
  ti : IsPair h TI (.ref i1) (.ref i2)
  a1 : h.IsTupleIter i1 l1 i
  a2 : h.IsTupleIter i2 l2 i
  t1 : h.IsTuple l1 xs
  t2 : h.IsTuple l2 ys
  st : (i = 0 ∧ IsZip h z TI TO .none ∧ ∃ a b, IsPair h TO a b) ∨ ∃ T f oT, IsZipHeld h z TI TO T f ∧ h.get? T = some oT ∧ T ≠ z ∧ T ≠ i1 ∧ T ≠ i2 ∧ T ≠ S
theorem ZS.keep {h h' : Heap} {z TI TO i1 i2 l1 l2 : Addr} {xs ys : Array Value} {S : Addr} {i : Nat} (q : ZS h z TI TO i1 i2 l1 l2 xs ys S i) (hk : ∀ b o, b ≠ S → h.get? b = some o → h'.get? b = some o)
    (n : z ≠ S ∧ TI ≠ S ∧ TO ≠ S ∧ i1 ≠ S ∧ i2 ≠ S ∧ l1 ≠ S ∧ l2 ≠ S) : ZS h' z TI TO i1 i2 l1 l2 xs ys S i := by
  obtain ⟨nz, nTI, nTO, n1, n2, m1, m2⟩ := n
  refine ⟨hk _ _ nTI q.ti, q.a1.at fun o e => hk _ o n1 e, q.a2.at fun o e => hk _ o n2 e, q.t1.at fun o e => hk _ o m1 e, q.t2.at fun o e => hk _ o m2 e, ?_⟩
  rcases q.st with ⟨e, hz, a, b, hp⟩ | ⟨T, f, oT, hz, hT, c⟩
  · exact .inl ⟨e, hk _ _ nz hz, a, b, hk _ _ nTO hp⟩
  · exact .inr ⟨T, f, oT, hk _ _ nz hz, hk _ _ c.2.2.2 hT, c⟩
theorem zs_item {z TI TO i1 i2 l1 l2 : Addr} {xs ys : Array Value} {x y : Value} {S : Addr} {i : Nat} {Q : Option Value → Shared → Prop} (D : ZipApart z TI TO i1 i2 l1 l2) (q : ZS s.heap z TI TO i1 i2 l1 l2 xs ys S i) (hS : S < s.heap.objs.size) (hx : xs[i]? = some x) (hy : ys[i]? = some y)
    (hQ : ∀ h', ZS h' z TI TO i1 i2 l1 l2 xs ys S (i + 1) → IsPair h' s.heap.objs.size x y → h'.objs.size = s.heap.objs.size + 1 → (∀ c o, c ≠ z → c ≠ TO → c ≠ i1 → c ≠ i2 → s.heap.get? c = some o → h'.get? c = some o) → Q (some (.ref s.heap.objs.size)) { s with heap := h' }) :
    wpAny (model prog w) A (pyNext (.ref z)) Q E s := by
  have lt : ∀ {c o}, s.heap.get? c = some o → s.heap.objs.size ≠ c := fun e => Nat.ne_of_gt (Heap.lt_size e)
  have li1 : s.heap.objs.size ≠ i1 := by obtain ⟨_, e, _⟩ := q.a1; exact lt e
  have li2 : s.heap.objs.size ≠ i2 := by obtain ⟨_, e, _⟩ := q.a2; exact lt e
  rcases q.st with ⟨e, hz, a, b, hp⟩ | ⟨T, f, oT, hz, hT, c⟩
  · refine RZ.pyNext_zipT_item D hz q.ti hp q.a1 q.a2 q.t1 q.t2 hx hy fun h' b1 b2 b3 b4 b5 b6 b7 => hQ h' ⟨b7 _ _ D.TIz D.TITO D.TIi1 D.TIi2 q.ti, b3, b4, q.t1.at fun o e => b7 _ o D.l1z D.l1TO D.l1i1 D.l1i2 e, q.t2.at fun o e => b7 _ o D.l2z D.l2TO D.l2i1 D.l2i2 e, .inr ⟨s.heap.objs.size, false, _, b1, b5, lt hz, li1, li2, Nat.ne_of_gt hS⟩⟩ b5 b6 b7
  · have hTy : s.TypeIs (.ref z) "zip" := ⟨_, hz, rfl⟩
    unfold pyNext
    refine wpAny_bind (wpAny_attempt (wpAny_callSpecial?_slot (name := Str.ofString "__next__") hTy F.slot_zip_next
      (wpAny_call_entry F.slot_zip_next hTy F.entry_zip_next
        (zt_item_held D hz hT q.ti q.a1 q.a2 q.t1 q.t2 hx hy fun h' b1 b3 b4 b5 b6 b7 => wpAny_pure ?_) (F.args_zip_next_1 _))))
    exact hQ h' ⟨b7 _ _ D.TIz D.TIi1 D.TIi2 q.ti, b3, b4, q.t1.at fun o e => b7 _ o D.l1z D.l1i1 D.l1i2 e, q.t2.at fun o e => b7 _ o D.l2z D.l2i1 D.l2i2 e, .inr ⟨T, true, oT, b1, b7 _ _ c.1 c.2.1 c.2.2.1 hT, c⟩⟩ b5 b6 fun d o c1 _ c3 c4 e => b7 d o c1 c3 c4 e
theorem zs_done {z TI TO i1 i2 l1 l2 : Addr} {xs ys : Array Value} {S : Addr} {i : Nat} {Q : Option Value → Shared → Prop} (hh : A.handled = none) (D : ZipApart z TI TO i1 i2 l1 l2) (q : ZS s.heap z TI TO i1 i2 l1 l2 xs ys S i) (hx : xs[i]? = none)
    (hQ : ∀ h', (∀ c o, c ≠ z → c ≠ TO → c ≠ i1 → c ≠ i2 → s.heap.get? c = some o → h'.get? c = some o) → Q none { s with heap := h' }) : wpAny (model prog w) A (pyNext (.ref z)) Q E s := by
  rcases q.st with ⟨e, hz, a, b, hp⟩ | ⟨T, f, oT, hz, hT, c⟩
  · exact RZ.pyNext_zipT_end hh D hz q.ti hp q.a1 q.a2 q.t1 q.t2 (.inl hx) hQ
  · have hTy : s.TypeIs (.ref z) "zip" := ⟨_, hz, rfl⟩
    unfold pyNext
    refine wpAny_bind (wpAny_attempt (wpAny_callSpecial?_slot (name := Str.ofString "__next__") hTy F.slot_zip_next
      (wpAny_call_entry F.slot_zip_next hTy F.entry_zip_next (zt_end_held hh D hz hT q.ti q.a1 q.t1 hx fun h' e hk he => ?_) (F.args_zip_next_1 _))))
    obtain ⟨o, ho, hc⟩ := he
    refine wpAny_bind (wpAny_isInstance (T := "StopIteration") (b := true) ⟨o, ho, hc⟩ isSubtype_stop ?_)
    exact wpAny_pure (hQ _ fun d o c1 _ c3 _ e => hk d o c1 c3 e)
end
open PySem.W (KdxG)
theorem zip_nolen : typeLookup (.type "zip") "__len__" = pure none := by rw [typeLookup_type, builtinLookup_eq_fast]; kernel_rfl
theorem zip_nohint : typeLookup (.type "zip") "__length_hint__" = pure none := by rw [typeLookup_type, builtinLookup_eq_fast]; kernel_rfl
section
variable {prog : Program} {w : World} {A : Around} {E : Value → Shared → Prop} {s : Shared} {KT : Type} [DecidableEq KT] {knd : KeyKind prog w KT} {R : Result → Shared → Prop} {kvs : List (KT × Value)} {z TI TO i1 i2 l1 l2 : Addr} {xs ys : Array Value}
/-- the pairs: keys from xs, values from ys -/
def ZK (knd : KeyKind prog w KT) (kvs : List (KT × Value)) (xs ys : Array Value) : Prop := xs.size = kvs.length ∧ ∀ (j : Nat) (k : KT) (v : Value), kvs[j]? = some (k, v) → ∃ x, xs[j]? = some x ∧ knd.is k x = true ∧ ys[j]? = some v
theorem zl_loop {S : Addr} (hh : A.handled = none) (D : ZipApart z TI TO i1 i2 l1 l2) (zk : ZK knd kvs xs ys) (n : z < S ∧ TI < S ∧ TO < S ∧ i1 < S ∧ i2 < S ∧ l1 < S ∧ l2 < S) (hn : kvs.length ≤ sizeLine) (res : Value) {h₁ : Heap} (hb₁ : h₁.objs.size = S + 1)
    (hR : ∀ h' tk acc c as, (∀ b o, b ≠ S → b ≠ z → b ≠ TO → b ≠ i1 → b ≠ i2 → h₁.get? b = some o → h'.get? b = some o) → h'.get? S = some { cls := .type "list", dict := none, data := .seq acc c, slots := #[] } → as.length = kvs.length → KdxG knd kvs S h' as →
      acc.toList = as.map Value.ref → R (.ok (.ret res)) { s with heap := h', toks := tk }) :
    ∀ (k i : Nat) (h : Heap) (tk c : Nat) (acc : Array Value) (as : List Addr), kvs.length - i = k → i ≤ kvs.length → ZS h z TI TO i1 i2 l1 l2 xs ys S i → (∀ b o, b ≠ S → b ≠ z → b ≠ TO → b ≠ i1 → b ≠ i2 → h₁.get? b = some o → h.get? b = some o) →
      h.get? S = some { cls := .type "list", dict := none, data := .seq acc c, slots := #[] } → acc.toList = as.map Value.ref → as.length = i → KdxG knd kvs S h as →
      codeAny (model prog w) A (.builtin "list.extend.loop" ⟨[.ref S, .ref z, res], []⟩) R { s with heap := h, toks := tk } := by
  obtain ⟨nz, nTI, nTO, n1, n2, m1, m2⟩ := n
  have hns : z ≠ S ∧ TI ≠ S ∧ TO ≠ S ∧ i1 ≠ S ∧ i2 ≠ S ∧ l1 ≠ S ∧ l2 ≠ S := ⟨Nat.ne_of_lt nz, Nat.ne_of_lt nTI, Nat.ne_of_lt nTO, Nat.ne_of_lt n1, Nat.ne_of_lt n2, Nat.ne_of_lt m1, Nat.ne_of_lt m2⟩
  have off : ∀ b, S ≤ b → b ≠ z ∧ b ≠ TO ∧ b ≠ i1 ∧ b ≠ i2 := fun b hb => ⟨Nat.ne_of_gt (Nat.lt_of_lt_of_le nz hb), Nat.ne_of_gt (Nat.lt_of_lt_of_le nTO hb), Nat.ne_of_gt (Nat.lt_of_lt_of_le n1 hb), Nat.ne_of_gt (Nat.lt_of_lt_of_le n2 hb)⟩
  intro k
  induction k with
  | zero =>
    intro i h tk c acc as hk hi hst hkeep hS hacc hal hG
    have hin : i = kvs.length := by omega
    refine codeAny_builtin PySem.F.entry_extend_loop ?_
    rw [Around.under_plainId PySem.F.plain_extend_loop _]
    show wpAny _ A.in1 (pyNext (.ref z) >>= _) _ _ _
    refine wpAny_bind (zs_done (s := { s with heap := h, toks := tk }) (A := A.in1) hh D hst (by rw [Array.getElem?_eq_none]; rw [zk.1]; omega) fun h' he => ?_)
    have up : ∀ b o, S ≤ b → h.get? b = some o → h'.get? b = some o := fun b o hb e => he b o (off b hb).1 (off b hb).2.1 (off b hb).2.2.1 (off b hb).2.2.2 e
    refine wpAny_pure (hR h' tk acc c as (fun b o b1 b2 b3 b4 b5 e => he b o b2 b3 b4 b5 (hkeep b o b1 b2 b3 b4 b5 e)) (up S _ (Nat.le_refl _) hS) (by omega) ⟨hG.rise, hG.above, fun j a hj => ?_⟩ hacc)
    obtain ⟨key, kk, x, e1, e2, e3⟩ := hG.pairs j a hj
    exact ⟨key, kk, x, e1, e2, up a _ (Nat.le_of_lt (hG.above a (List.mem_of_getElem? hj))) e3⟩
  | succ k ih =>
    intro i h tk c acc as hk hi hst hkeep hS hacc hal hG
    have hlt : i < kvs.length := by omega
    obtain ⟨⟨kk, v⟩, hx⟩ : ∃ p, kvs[i]? = some p := ⟨kvs[i], List.getElem?_eq_getElem hlt⟩
    obtain ⟨x, hxx, hkx, hyv⟩ := zk.2 i kk v hx
    have hsz : acc.size = i := by rw [← Array.length_toList, hacc, List.length_map, hal]
    have hSl : S < h.objs.size := Heap.lt_size hS
    refine codeAny_builtin PySem.F.entry_extend_loop ?_
    rw [Around.under_plainId PySem.F.plain_extend_loop _]
    show wpAny _ A.in1 (pyNext (.ref z) >>= _) _ _ _
    refine wpAny_bind (zs_item (s := { s with heap := h, toks := tk }) D hst hSl hxx hyv fun h' hst' ht hz hkp => ?_)
    dsimp only at ht hz hkp ⊢
    have kp : ∀ b o, S ≤ b → h.get? b = some o → h'.get? b = some o := fun b o hb e => hkp b o (off b hb).1 (off b hb).2.1 (off b hb).2.2.1 (off b hb).2.2.2 e
    have hS' := kp S _ (Nat.le_refl _) hS
    have up : ∀ b o, b ≠ S → h'.get? b = some o → (h'.update S (Obj.mapSeq (·.push (Value.ref h.objs.size)))).get? b = some o := fun b o hb e => (Heap.get?_update_other _ _ (Ne.symm hb)).trans e
    show wpAny _ A.in1 (updateSeq S (·.push (Value.ref h.objs.size)) >>= _) _ _ _
    refine wpAny_bind ?_
    refine wpAny_updateSeq hS' rfl (wpAny_pure ⟨plainId_quiet PySem.F.plain_extend_loop _, ih (i + 1) _ tk _ (acc.push (Value.ref h.objs.size)) (as ++ [h.objs.size]) (by omega) hlt (hst'.keep up hns)
      (fun b o b1 b2 b3 b4 b5 e => up b o b1 (hkp b o b2 b3 b4 b5 (hkeep b o b1 b2 b3 b4 b5 e))) (Heap.get?_update_self _ hS' rfl) (by rw [Array.toList_push, hacc, List.map_append]; rfl) (by rw [List.length_append, hal]; rfl) ⟨?_, ?_, ?_⟩⟩) (by rw [hsz]; omega) (by show (acc.push (Value.ref h.objs.size)).size ≤ sizeLine + 1; rw [Array.size_push, hsz]; omega)
    · refine List.pairwise_append.mpr ⟨hG.rise, List.pairwise_singleton _ _, fun a ha b hb => ?_⟩
      rw [List.mem_singleton.mp hb]
      exact hG.there ha
    · intro a ha
      rcases List.mem_append.mp ha with ha | ha
      · exact hG.above a ha
      · rw [List.mem_singleton.mp ha]; exact hSl
    · intro j b hj
      rcases Nat.lt_trichotomy j as.length with h1 | h1 | h1
      · rw [List.getElem?_append_left h1] at hj
        obtain ⟨key', k', x', e1, e2, e3⟩ := hG.pairs j b hj
        have hb := hG.above b (List.mem_of_getElem? hj)
        exact ⟨key', k', x', e1, e2, up b _ (Nat.ne_of_gt hb) (kp b _ (Nat.le_of_lt hb) e3)⟩
      · subst h1
        have hb : h.objs.size = b := by simpa using hj
        subst hb
        exact ⟨x, kk, v, by rw [hal]; exact hx, hkx, up _ _ (Nat.ne_of_gt hSl) ht⟩
      · have hnone : (as ++ [h.objs.size])[j]? = none := List.getElem?_eq_none (by rw [List.length_append, List.length_singleton]; omega)
        rw [hnone] at hj; cases hj
/-- list(z) -/
theorem zl_call {Q : Value → Shared → Prop} (hh : A.handled = none) (D : ZipApart z TI TO i1 i2 l1 l2) (zk : ZK knd kvs xs ys) (hn : kvs.length ≤ sizeLine)
    (hz : IsZip s.heap z TI TO .none) (hTI : IsPair s.heap TI (.ref i1) (.ref i2)) (hTO : ∃ a b, IsPair s.heap TO a b) (h1 : s.heap.IsTupleIter i1 l1 0) (h2 : s.heap.IsTupleIter i2 l2 0) (t1 : s.heap.IsTuple l1 xs) (t2 : s.heap.IsTuple l2 ys)
    (hQ : ∀ h' tk acc c as, (∀ b o, b ≠ z → b ≠ TO → b ≠ i1 → b ≠ i2 → s.heap.get? b = some o → h'.get? b = some o) → h'.get? s.heap.objs.size = some { cls := .type "list", dict := none, data := .seq acc c, slots := #[] } → as.length = kvs.length → KdxG knd kvs s.heap.objs.size h' as →
      acc.toList = as.map Value.ref → Q (.ref s.heap.objs.size) { s with heap := h', toks := tk }) :
    wpAny (model prog w) A (call (.type "list") [.ref z]) Q E s := by
  refine callType_codes (Q₁ := fun obj s₁ => obj = .ref s.heap.objs.size ∧ s₁ = { s with heap := s.heap.push { cls := .type "list", data := .seq #[] } }) PySem.F.called_list (PySem.F.typeCall_list_1 _) PySem.F.entry_list_init
    (code_list_new _ ⟨rfl, rfl⟩) fun obj s₁ h₁ => ?_
  obtain ⟨rfl, rfl⟩ := h₁
  have hS : (s.heap.push { cls := .type "list", data := .seq #[] }).get? s.heap.objs.size = some { cls := .type "list", data := .seq #[] } := Heap.get?_push_size _ rfl
  have lz : z < s.heap.objs.size := Heap.lt_size hz
  have lTI : TI < s.heap.objs.size := Heap.lt_size hTI
  have lTO : TO < s.heap.objs.size := by obtain ⟨a, b, e⟩ := hTO; exact Heap.lt_size e
  have l1' : i1 < s.heap.objs.size := by obtain ⟨_, e, _⟩ := h1; exact Heap.lt_size e
  have l2' : i2 < s.heap.objs.size := by obtain ⟨_, e, _⟩ := h2; exact Heap.lt_size e
  have lt1 : l1 < s.heap.objs.size := by obtain ⟨_, e, _⟩ := t1; exact Heap.lt_size e
  have lt2 : l2 < s.heap.objs.size := by obtain ⟨_, e, _⟩ := t2; exact Heap.lt_size e
  refine ⟨⟨_, hS, rfl⟩, PySem.F.args_list_init_2 _ _, ?_⟩
  show wpAny _ _ (do let old ← Builtin.List.listItems (.ref s.heap.objs.size); Builtin.List.listUpdate (.ref s.heap.objs.size) (fun _ => #[]); letGo old.toList.reverse; Builtin.List.listExtendWith (.ref s.heap.objs.size) (.ref z) .none) _ _ _
  refine wpAny_bind ?_
  unfold Builtin.List.listItems
  refine wpAny_bind (wpAny_seqItems hS rfl (wpAny_pure ?_))
  show wpAny _ _ (updateSeq s.heap.objs.size (fun _ => #[]) >>= fun _ => letGo (#[] : Array Value).toList.reverse >>= fun _ => Builtin.List.listExtendWith (.ref s.heap.objs.size) (.ref z) .none) _ _ _
  refine wpAny_bind (wpAny_updateSeq hS rfl ?_)
  have hS₂ := Heap.get?_update_self (Obj.mapSeq (fun _ => (#[] : Array Value))) hS rfl
  have oth : ∀ b o, b ≠ s.heap.objs.size → (s.heap.push { cls := .type "list", data := .seq #[] }).get? b = some o → ((s.heap.push { cls := .type "list", data := .seq #[] }).update s.heap.objs.size (Obj.mapSeq (fun _ => (#[] : Array Value)))).get? b = some o :=
    fun b o hb e => (Heap.get?_update_other _ _ (Ne.symm hb)).trans e
  refine wpAny_bind (wpAny_letGo ?_)
  unfold Builtin.List.listExtendWith
  have up0 : ∀ b o, s.heap.get? b = some o → ((s.heap.push { cls := .type "list", data := .seq #[] }).update s.heap.objs.size (Obj.mapSeq (fun _ => (#[] : Array Value)))).get? b = some o := fun b o e => oth b o (Nat.ne_of_lt (Heap.lt_size e)) (Heap.get?_push_of_some _ e)
  have hTy : ∀ (g : Heap) (tk : Nat), (∀ b o, s.heap.get? b = some o → g.get? b = some o) → ({ s with heap := g, toks := tk } : Shared).TypeIs (.ref z) "zip" := fun g tk k => ⟨_, k _ _ hz, rfl⟩
  refine wpAny_bind (wpAny_typeOf (T := "zip") (hTy _ _ up0) ?_)
  have g1 : Builtin.List.listSameRef (.ref s.heap.objs.size) (.ref z) = false := by simp [Builtin.List.listSameRef, Nat.ne_of_gt lz]
  have g2 : (Value.type "zip" == Value.type "list") = false := by decide
  have g3 : (Value.type "zip" == Value.type "tuple") = false := by decide
  simp only [g1, g2, g3, Bool.or_false, Bool.false_eq_true, if_false]
  refine wpAny_bind (wpAny_pyIter_zip (up0 _ _ hz) ?_)
  refine wpAny_bind (wpAny_holding ?_)
  unfold Builtin.List.listLengthHint
  refine wpAny_bind (wpAny_specialOf (hTy _ _ up0) zip_nolen ?_)
  show wpAny _ A.in1.in1 (specialOf (Value.ref z) (Str.ofString "__length_hint__") >>= _) _ _ _
  refine wpAny_bind (wpAny_specialOf (hTy _ _ up0) zip_nohint ?_)
  refine wpAny_pure ?_
  show wpAny _ A.in1.in1 (rule "list.extend.makes-room" >>= fun _ => Builtin.List.listTouch (.ref s.heap.objs.size) >>= fun _ =>
    again (.builtin "list.extend.loop" ⟨[.ref s.heap.objs.size, .ref z, .none], []⟩)) _ _ _
  refine wpAny_bind (wpAny_rule ?_)
  refine wpAny_bind ?_
  show wpAny _ A.in1.in1 (updateSeq s.heap.objs.size (·.push .none) >>= fun _ => updateSeq s.heap.objs.size (·.pop)) _ _ _
  refine wpAny_bind (wpAny_updateSeq hS₂ rfl ?_)
  have hS₃ := Heap.get?_update_self (Obj.mapSeq (·.push Value.none)) hS₂ rfl
  refine wpAny_updateSeq (hz := by seq_fits) hS₃ rfl ?_
  have hS₄ := Heap.get?_update_self (Obj.mapSeq (·.pop)) hS₃ rfl
  have kk : ∀ b o, b ≠ s.heap.objs.size → (s.heap.push { cls := .type "list", data := .seq #[] }).get? b = some o →
      ((((s.heap.push { cls := .type "list", data := .seq #[] }).update s.heap.objs.size (Obj.mapSeq (fun _ => (#[] : Array Value)))).update s.heap.objs.size (Obj.mapSeq (·.push Value.none))).update s.heap.objs.size (Obj.mapSeq (·.pop))).get? b = some o :=
    fun b o hb e => (Heap.get?_update_other _ _ (Ne.symm hb)).trans ((Heap.get?_update_other _ _ (Ne.symm hb)).trans (oth b o hb e))
  have up1 := fun b o (e : s.heap.get? b = some o) => kk b o (Nat.ne_of_lt (Heap.lt_size e)) (Heap.get?_push_of_some _ e)
  refine wpAny_pure ⟨plainId_quiet PySem.F.plain_extend_loop _, ?_⟩
  refine zl_loop (s := s) (knd := knd) (A := A.in1) hh D zk ⟨lz, lTI, lTO, l1', l2', lt1, lt2⟩ hn .none (h₁ := s.heap.push { cls := .type "list", data := .seq #[] }) (by rw [Heap.size_push]) (fun h' tk' acc c as hk' hS' hl hG hacc => ?_)
    kvs.length 0 _ s.toks _ #[] [] (Nat.sub_zero _) (Nat.zero_le _) ⟨up1 _ _ hTI, h1.at fun o e => up1 _ o e, h2.at fun o e => up1 _ o e, t1.at fun o e => up1 _ o e, t2.at fun o e => up1 _ o e, .inl ⟨rfl, up1 _ _ hz, hTO.elim fun a q => q.elim fun b q => ⟨a, b, up1 _ _ q⟩⟩⟩
    (fun b o hb _ _ _ _ e => kk b o hb e) hS₄ rfl rfl ⟨List.Pairwise.nil, (fun _ ha => nomatch ha), (fun j a hj => by simp at hj)⟩
  exact ⟨rfl, hQ h' tk' acc c as (fun b o b2 b3 b4 b5 e => hk' b o (Nat.ne_of_lt (Heap.lt_size e)) b2 b3 b4 b5 (Heap.get?_push_of_some _ e)) hS' hl hG hacc⟩
end
end Pz
end
section
set_option Elab.async false
set_option linter.all false
set_option maxRecDepth 100000
set_option maxHeartbeats 4000000
/-! PzN: list(zip(a, b)), dict(pairs), by value. -/
namespace Pz
open PySem PySem.Spec PyProof.Rows L2 LiI
open PySem.W (KdxG)
section
variable {X : Cx} {pins : List (Addr × Obj)} {σ : St} {H : Hp} {s : Shared} {h' : Heap} {tk : Nat} {kvs : List (Key × V)} {vs : List (Key × Value)} {acc : Array Value} {c : Nat} {as : List Addr} {L : Addr}
theorem pairs_laid (I : Inv X pins σ H s) (hL : s.heap.objs.size ≤ L) (hz : kvs.length ≤ sizeLine) (kv : KV kvs vs)
    (hk : ∀ b o, s.heap.get? b = some o → h'.get? b = some o) (hS : h'.get? L = some { cls := .type "list", dict := none, data := .seq acc c, slots := #[] }) (hl : as.length = vs.length) (hG : KdxG (mixKind X.prog X.w) vs L h' as) (hacc : acc.toList = as.map Value.ref) :
    ∃ H' : Hp, (∀ b o, H b = some o → H' b = some o) ∧ H L = none ∧ (∀ t ∈ as, H t = none) ∧ L ∉ as ∧ H' L = some (.lst (as.map V.ref)) ∧ Paired (fun (t : Addr) (q : Key × V) => H' t = some (.tup [kV q.1, q.2])) as kvs ∧ Inv X pins σ H' { s with heap := h', toks := tk } ∧ (∀ b, H' b ≠ H b → b = L ∨ b ∈ as) := by
  have lk : kvs.length = vs.length := Paired.length kv
  have hSn : L ∉ as := fun z => Nat.lt_irrefl _ (hG.above _ z)
  have nd : as.Nodup := List.Pairwise.imp (fun {a b} (h : a < b) => Nat.ne_of_lt h) hG.rise
  have new : ∀ t ∈ as, H t = none := fun t ht => I.hok.fresh (Nat.le_trans hL (Nat.le_of_lt (hG.above t ht)))
  have newS : H L = none := I.hok.fresh hL
  have atP := putT_at as kvs (upd H L (.lst (as.map V.ref))) (by omega) nd
  have off : ∀ b, b ∉ as → b ≠ L → putT (upd H L (.lst (as.map V.ref))) as kvs b = H b := fun b h1 h2 => by rw [putT_off as kvs _ h1, upd_ne h2]
  have low : ∀ b o, s.heap.get? b = some o → b ∉ as ∧ b ≠ L := fun b o e => ⟨fun z => absurd (Heap.lt_size e) (Nat.not_lt.mpr (Nat.le_trans hL (Nat.le_of_lt (hG.above b z)))), Nat.ne_of_lt (Nat.lt_of_lt_of_le (Heap.lt_size e) hL)⟩
  have kp : ∀ b u, H b = some u → (putT (upd H L (.lst (as.map V.ref))) as kvs) b = some u := fun b u e => by
    rw [off b (fun z => by rw [new b z] at e; cases e) (fun z => by rw [z, newS] at e; cases e)]
    exact e
  have eS : putT (upd H L (.lst (as.map V.ref))) as kvs L = some (.lst (as.map V.ref)) := by rw [putT_off as kvs _ hSn, upd_same]
  refine ⟨putT (upd H L (.lst (as.map V.ref))) as kvs, kp, newS, new, hSn, eS, atP, ?_, fun b hb => ?_⟩
  · refine I.call' (ch := []) rfl ⟨fun b o q _ _ _ => hk b o q, fun b o q _ _ _ => ⟨o.slots, hk b o q⟩, fun b o q n _ => ?_, fun b o q _ => ⟨o, hk b o q⟩, fun b xs q => kp b _ q, fun b o u q => kp b _ q, fun b ps q => ⟨#[], by rw [kp b _ q]; simp⟩⟩ (fun b u q => ?_) I.bare fun b z => by simp at z
    · obtain ⟨z1, z2⟩ := low b o q
      rw [off b z1 z2]
      exact n
    · by_cases hb : b ∈ as
      · obtain ⟨j, pk, e1, e2, e3⟩ := paired_ix atP hb
        rw [e3] at q
        cases q
        obtain ⟨key, k, x, f1, f2, f3⟩ := hG.pairs j b e1
        obtain ⟨qv, g1, g2, g3⟩ := LiI.paired_get kv e2
        rw [f1] at g1
        cases g1
        have rk : RelV (kV pk.1) key := by
          rw [g2]
          exact relV_key (show keyIs k key = true from f2)
        exact ⟨by show 2 ≤ sizeLine; decide, [key, x], .cons rk (.cons g3 .nil), ⟨_, f3, rfl, _, rfl⟩⟩
      · by_cases hb2 : b = L
        · rw [hb2] at q ⊢
          rw [eS] at q
          cases q
          refine ⟨by rw [List.length_map]; omega, acc.toList, c, by rw [hacc]; exact LiI.vals_refs as, ?_⟩
          rw [Array.toArray_toList]
          exact hS
        · rw [off b hb hb2] at q
          exact (I.hok b u q).stay (fun d v _ y => hk d v y) (fun d y => kp d _ y) fun d xs y => kp d _ y
  · by_cases h1 : b ∈ as
    · exact .inr h1
    · by_cases h2 : b = L
      · exact .inl h2
      · exact absurd (off b h1 h2) hb
end
def rZipL (K : PySem.W.Frag) : List V → Hp → VK → Prop := fun xs H Q => ∃ (a b : Addr) (ks : List Key) (vs : List V), xs = [.ref a, .ref b] ∧ SqT K H a (ks.map kV) ∧ SqT K H b vs ∧ ks.length = vs.length ∧
  ∀ (H' : Hp) (p : Addr) (ts : List Addr), (∀ b o, H b = some o → H' b = some o) → H p = none → (∀ t ∈ ts, H t = none) → p ∉ ts → H' p = some (.lst (ts.map V.ref)) → Paired (fun (t : Addr) (q : Key × V) => H' t = some (.tup [kV q.1, q.2])) ts (ks.zip vs) → Q (.ref p) H'
section
variable {X : Cx} {e e2 : Expr} {ta : TA} {p p2 pos pos2 : Pos}
theorem zip_kv : ∀ {ks : List Key} {vs : List V} {us : List Value}, Vals vs us → KV (ks.zip vs) (ks.zip us)
  | [], _, _, _ => .nil
  | _ :: _, _, _, .nil => .nil
  | _ :: _, _, _, .cons r rr => .cons ⟨rfl, r⟩ (zip_kv rr)
theorem is_get : ∀ {P : Program} {w : World} {ks : List Key} {us : List Value}, Vals (ks.map kV) us → ∀ {j : Nat} {k : Key}, ks[j]? = some k → ∃ x, us[j]? = some x ∧ (mixKind P w).is k x = true
  | _, _, [], _, _, _, _, h => by simp at h
  | _, _, k :: ks, _, r, 0, _, h => by
    rw [List.map_cons] at r
    cases r with
    | cons a t => simp at h; subst h; exact ⟨_, rfl, kV_is a⟩
  | P, w, k :: ks, _, r, j + 1, _, h => by
    rw [List.map_cons] at r
    cases r with
    | cons a t =>
      obtain ⟨x, h1, h2⟩ := is_get (P := P) (w := w) t (j := j) (by simpa using h)
      exact ⟨x, by simpa using h1, h2⟩
/-- list(zip(e, e2)) of two tuples, the first's items texts and ints -/
theorem pe_listZip (hc : X.calm = true) (hgl : Gl X "list") (hml : X.mg "list" = none) (hg : Gl X "zip") (hm : X.mg "zip" = none) (ha : PA X [e, e2] ta)
    (hs1 : starEach [.Call (.Name "zip" p2) [e, e2] [] pos2] X.env = (false, eval (.Call (.Name "zip" p2) [e, e2] [] pos2) X.env) :: starEach [] X.env := by rfl)
    (hs : starEach [e, e2] X.env = (false, eval e X.env) :: starEach [e2] X.env := by rfl) (hpl : (backTo pos2 (starEach [e2] X.env)).any (·.1) = false := by rfl) :
    PE X (.Call (.Name "list" p) [.Call (.Name "zip" p2) [e, e2] [] pos2] [] pos) (fun σ H Q => ta σ H fun vs H1 => rZipL X.K vs H1 Q) := by
  refine ⟨fun pins s σ H Q I h => ?_⟩
  refine wpAny_Call_Name_kw (ld_blt I hgl hml (by decide +kernel : bootBuiltins "list" = some (.type "list")) ?_)
  refine PyProof.Rows.callWith_type1 ?_ hs1 rfl
  rw [hs1]
  show wpAny _ _ (spliced ((false, eval (.Call (.Name "zip" p2) [e, e2] [] pos2) X.env) :: backTo pos (starEach [] X.env))) _ _ s
  refine Calls.spliced_cons ?_
  refine wpAny_Call_Name_kw (ld_blt I hg hm PyProof.Rows.boot_zip (PyProof.Rows.callWith_type1 (thn (ha.run pos2 pins s σ H _ I h) fun us s1 ⟨vs, H1, I1, r1, q1⟩ => ?_) hs hpl))
  obtain ⟨a, b, ks, ys, ex, hqx, hqy, hlen, q⟩ := q1
  subst ex
  cases r1 with
  | cons r rr =>
    cases rr with
    | cons r' rr =>
      cases rr
      cases r
      cases r'
      obtain ⟨its, rv, p1, z1⟩ := I1.tuple hqx
      obtain ⟨its2, rv2, p2', z2⟩ := I1.tuple hqy
      obtain ⟨o1, ho1, _⟩ := id p1
      obtain ⟨o2, ho2, _⟩ := id p2'
      have t1 : s1.heap.IsTuple a its.toArray := p1
      have t2 : s1.heap.IsTuple b its2.toArray := p2'
      have la : a < s1.heap.objs.size := Heap.lt_size ho1
      have lb : b < s1.heap.objs.size := Heap.lt_size ho2
      refine RZ.call_zipT t1 t2 fun h1 hz hTI hTO g1 g2 hsz hk => ?_
      refine Calls.spliced_nil ?_
      have nl : its.length = its2.length := by rw [← rv.length, ← rv2.length, List.length_map]; exact hlen
      have nk : its.length = ks.length := by rw [← rv.length, List.length_map]
      have zk : ZK (mixKind X.prog X.w) (ks.zip its2) its.toArray its2.toArray := ⟨by simp [List.length_zip]; omega, fun j k v hj => by
        rw [List.getElem?_zip_eq_some] at hj
        obtain ⟨x, hx, hi⟩ := is_get (P := X.prog) (w := X.w) rv hj.1
        exact ⟨x, by simpa using hx, hi, by simpa using hj.2⟩⟩
      have zl : (ks.zip its2).length ≤ sizeLine := by
        rw [List.length_zip, List.length_map] at *
        omega
      refine zl_call (knd := mixKind X.prog X.w) (kvs := ks.zip its2) (I1.ok.hd hc) (PySem.W.ktu_apart s1.heap.objs.size a b la lb) zk zl hz hTI ⟨_, _, hTO⟩ g1 g2 (t1.at fun o q => hk _ o q) (t2.at fun o q => hk _ o q) fun h' tk acc c as hk' hS hl hG hacc => ?_
      have up : ∀ d o, s1.heap.get? d = some o → h'.get? d = some o := fun d o q => by
        have hd : d < s1.heap.objs.size := Heap.lt_size q
        have n : ∀ k, d ≠ s1.heap.objs.size + k := fun k => Nat.ne_of_lt (Nat.lt_of_lt_of_le hd (Nat.le_add_right _ _))
        exact hk' d o (n 4) (n 3) (n 0) (n 1) (hk d o q)
      obtain ⟨H', k1, k2, k3, k4, k5, k6, J, _⟩ := pairs_laid (tk := tk) (L := h1.objs.size) I1 (by rw [hsz]; exact Nat.le_add_right _ _) (by rw [List.length_zip] at *; omega) (zip_kv rv2) up hS hl hG hacc
      exact ⟨.ref _, H', J, rfl, q H' _ as k1 k2 k3 k4 k5 k6⟩
end
section
variable {X : Cx} {F : Fr} {en : En} {e e2 : Expr} {p p2 pos pos2 : Pos} {G : Gx} {M M' : Addr → Prop} {H H' : Hp} {σ : St}
def pairD (q : Key × D) : D := .tup [D.ofKey q.1, q.2]
theorem Rps.keysV : ∀ {vs : List V} {ks : List Key}, Rps G M H vs (ks.map D.ofKey) → vs = ks.map kV
  | _, [], h => h.inv_nil
  | _, k :: ks, h => by
    cases h with
    | cons a r => rw [ofKey_kV a, r.keysV]; rfl
theorem RpsT {M2 : Addr → Prop} : ∀ {ts : List Addr} {ks : List Key} {vs : List V} {ds : List D}, Paired (fun (t : Addr) (q : Key × V) => H' t = some (.tup [kV q.1, q.2])) ts (ks.zip vs) → (∀ t ∈ ts, ¬ M2 t) → Rps G M2 H' vs ds → Rps G M2 H' (ts.map V.ref) ((ks.zip ds).map pairD)
  | _, [], _, _, h, _, _ => by cases h; exact .nil
  | _, _ :: _, _, _, h, _, .nil => by cases h; exact .nil
  | _, k :: ks, _, _, h, n, .cons a r => by
    rw [List.zip_cons_cons] at h
    cases h with
    | cons x y =>
      refine .cons (.tup (.inl ⟨.inl x, n _ List.mem_cons_self⟩) (.cons ?_ (.cons a .nil))) (RpsT y (fun t ht => n t (List.mem_cons_of_mem _ ht)) r)
      cases k with
      | inl i => exact .int i
      | inr s => exact .str s
theorem f_listZip {ks : List Key} {ds : List D} (hc : X.calm = true) (hml : X.mg "list" = none) (hm : X.mg "zip" = none) (ha : Ea X F en [e, e2] [.tup (ks.map D.ofKey), .tup ds]) (hl : ks.length = ds.length) (hgl : Gl X "list" := by rfl) (hg : Gl X "zip" := by rfl)
    (hs1 : starEach [.Call (.Name "zip" p2) [e, e2] [] pos2] X.env = (false, eval (.Call (.Name "zip" p2) [e, e2] [] pos2) X.env) :: starEach [] X.env := by rfl)
    (hs : starEach [e, e2] X.env = (false, eval e X.env) :: starEach [e2] X.env := by rfl) (hpl : (backTo pos2 (starEach [e2] X.env)).any (·.1) = false := by rfl) :
    Ef X F en (.Call (.Name "list" p) [.Call (.Name "zip" p2) [e, e2] [] pos2] [] pos) (.lst ((ks.zip ds).map pairD)) :=
  PE.wk (pe_listZip hc hgl hml hg hm ha hs1 hs hpl) fun σ H Q ⟨M, R, q⟩ => ⟨M, R, fun vs H1 i g rp => by
    cases rp with
    | cons a1 r =>
      cases r with
      | cons a2 r =>
        cases r
        cases a1 with
        | tup t1 r1 =>
          cases a2 with
          | tup t2 r2 =>
            rename_i a vs1 b vs2
            have ek := r1.keysV
            subst ek
            refine ⟨a, b, ks, vs2, rfl, t1.sq, t2.sq, by rw [r2.length]; exact hl, fun H' L ts k1 k2 k3 k4 k5 k6 => ?_⟩
            have R1 := R.step i g
            have same : Same H1 H' := k1
            have iL : F.I H' := F.st _ _ i same
            have gL : Gr F H1 H' := Gr.same same
            have kk : Kp M (Mp M L) H1 H' := .more k2 (R1.kp gL).at_
            refine q L H' _ iL (g.trans gL) (none_back R i g k2) (.lst k5 (RpsT k6 (fun t ht z => ?_) (r2.kp kk))) rfl
            rcases z with z | z
            · exact R1.dom t z (k3 t ht)
            · subst z
              exact k4 ht⟩
theorem putK_new {kvs : List (Key × V)} {k : Key} {v : V} (h : k ∉ kvs.map (·.1)) : putK kvs k v = kvs ++ [(k, v)] := by
  unfold putK
  rw [if_neg]
  intro z
  obtain ⟨q, hq, e⟩ := List.any_eq_true.mp z
  exact h (List.mem_map.mpr ⟨q, hq, of_decide_eq_true e⟩)
theorem mergeK_app : ∀ (more kvs : List (Key × V)), (kvs.map (·.1) ++ more.map (·.1)).Nodup → mergeK kvs more = kvs ++ more
  | [], kvs, _ => by simp [mergeK]
  | (k, v) :: r, kvs, h => by
    have h1 : k ∉ kvs.map (·.1) := fun z => (List.nodup_append.mp h).2.2 k z k (by simp) rfl
    show mergeK (putK kvs k v) r = _
    rw [putK_new h1, mergeK_app r (kvs ++ [(k, v)]) (by simpa using h)]
    simp
/-- dict(pairs), the keys all different -/
theorem k_dictP {kvs : List (Key × D)} (hc : X.calm = true) (hn : (kvs.map (·.1)).Nodup) : CallN X F en (.type "dict") [.lst (kvs.map pairD)] (dk kvs) := cn_of (call_dictP hc) fun M σ H v Q R bw q => by
  obtain ⟨ad, vs, rfl, hr, r⟩ := bw.lst R
  have key : ∀ {vs : List V} {kvs : List (Key × D)}, Rps (gx X) M H vs (kvs.map pairD) → ∃ (ps : List Addr) (us : List (Key × V)), vs = ps.map V.ref ∧ Paired (fun p kv => SqT X.K H p [kV kv.1, kv.2]) ps us ∧ Rpk (gx X) M H us kvs := by
    intro vs kvs
    induction kvs generalizing vs with
    | nil =>
      intro h
      exact ⟨[], [], h.inv_nil, .nil, .nil⟩
    | cons kd kvs ih =>
      obtain ⟨k, d⟩ := kd
      intro h
      obtain ⟨v, r, rfl, h1, h2⟩ := Rps.inv_cons (by simpa using h)
      obtain ⟨ps, us, e1, e2, e3⟩ := ih h2
      unfold pairD at h1
      cases h1 with
      | tup ht rs =>
        cases rs with
        | cons a r1 =>
          cases r1 with
          | cons b r2 =>
            cases r2
            have ea := ofKey_kV a
            subst ea
            exact ⟨_ :: ps, (k, _) :: us, by rw [e1]; rfl, .cons ht.sq e2, .cons b e3⟩
  obtain ⟨ps, us, rfl, h2, h3⟩ := key r
  refine ⟨ad, ps, us, rfl, hr, h2, fun l hl => ?_⟩
  have ek : us.map (·.1) = kvs.map (·.1) := by
    clear h2 r q hn hr bw
    induction h3 with
    | nil => rfl
    | cons a _ ih => exact congrArg _ ih
  rw [mergeK_app us [] (by rw [ek]; simpa using hn)]
  exact q l _ (F.up _ _ _ R.inv (F.nw _ _ R.inv hl)) (Gr.new hl) hl (.dk upd_same (Rpk.back (h3.kp (.more hl (R.kp (Gr.new hl)).at_))))
end
end Pz
end
section
set_option Elab.async false
set_option linter.all false
set_option maxRecDepth 100000
set_option maxHeartbeats 4000000
/-! PzO: tuples known to have no dict of their own: made, indexed. -/
namespace Pz
open PySem PySem.Spec PyProof.Rows L2
section
variable {X : Cx} {F : Fr} {en : En} {a b o e : Expr} {pos apos cpos : Pos} {G : Gx} {M : Addr → Prop} {H : Hp} {σ : St} {ds : List D}
theorem Rp.nt {v : V} (h : Rp G M H v (.ntp ds)) : Rp G M H v (.tup ds) := by
  cases h with
  | ntp h hd hm r => exact .tup (.inl ⟨.inr ⟨_, h⟩, hm⟩) r
theorem Ev.nt (h : Ev X F en e (.ntp ds)) : Ev X F en e (.tup ds) := PE.wk h fun σ H Q ⟨M, R, q⟩ => ⟨M, R, fun v H' z i g r ez => q v H' _ i g (by subst ez; exact r.nt) rfl⟩
/-- tuple(list), known to have no dict -/
theorem rc_tupN : CallR X (.type "tuple") (fun xs H Q => ∃ p ys, xs = [.ref p] ∧ SqL X.K H p ys ∧ ∀ l ob, H l = none → ob.dict = none → Q (.ref l) (upd H l (.frz ob (.tup ys)))) := by
  intro pins s σ H xs us Q I r h
  obtain ⟨p, ys, rfl, hq, q⟩ := h
  obtain ⟨u, rfl, rx⟩ := vals1 r
  cases rx
  obtain ⟨its, r', pl, hz⟩ := I.list hq
  have hlen := r'.length
  refine call_tuple_list pl.isList (fun h' kp => ?_) (by simp only [List.size_toArray] <;> omega)
  have I1 : Inv X pins σ H { s with heap := h' } := I.kept (t' := s.toks) kp
  have I2 : Inv X pins σ (upd H h'.objs.size (.frz { cls := .type "tuple", data := .seq its.toArray } (.tup ys))) { s with heap := h'.push { cls := .type "tuple", data := .seq its.toArray } } :=
    I1.laid (t' := s.toks) (fun b o e => Heap.get?_push_of_some _ e) (Nat.le_refl _) (show ObjOk X.prog X.w _ _ _ (.frz _ (.tup ys)) from ⟨Heap.get?_push_size _ rfl, hz, its, r', IsTup.new _ _⟩)
  exact ⟨.ref h'.objs.size, _, I2, rfl, q _ _ (I1.hok.fresh (Nat.le_refl _)) rfl⟩
theorem k_tupN : CallD X F en (.type "tuple") [.lst ds] (.ntp ds) := cd_of rc_tupN fun M σ H v Q R bw q => by
  obtain ⟨ad, vs, rfl, hr, r⟩ := bw.lst R
  refine ⟨ad, vs, rfl, hr, fun l ob hl hd => ?_⟩
  exact q _ _ (F.up _ _ _ R.inv (F.nw _ _ R.inv hl)) (Gr.new hl) (.ntp upd_same hd (R.notin hl) (r.kp (R.kp (Gr.new hl))))
/-- t.index(x) -/
theorem pe_idx {to : TE} {t : TA} (ho : PE X o to) (ha : PA X [b] t)
    (hbase : attributeBase o "index" X.env (eval o X.env) = eval o X.env := by rfl)
    (hfew : ((backTo cpos (starEach [b] X.env)).all (fun x => !x.1) && (backToKw cpos (keywordEach [] X.env)).all (fun x => x.1.isSome)
      && decide (([b] : List Expr).length + ([] : List Keyword).length + (if ([] : List Keyword).isEmpty then 0 else 1) < 30)) = true := by rfl)
    (hline : (apos.endLine == cpos.line) = true := by rfl) (hs : starEach [b] X.env = (false, eval b X.env) :: starEach [] X.env := by rfl) (hplain : (backTo cpos (starEach [] X.env)).any (·.1) = false := by rfl) :
    PE X (.Call (.Attribute o "index" apos) [b] [] cpos) (fun σ H Q => to σ H fun x H1 => ∃ p ob vs, x = .ref p ∧ H1 p = some (.frz ob (.tup vs)) ∧ ob.dict = none ∧
      t σ H1 fun xs H2 => ∃ (ys : List Str) (z : Str) (j : Nat), xs = [.str z] ∧ SqT X.K H2 p (ys.map V.str) ∧ ys[j]? = some z ∧ (∀ m, m < j → ys[m]? ≠ some z) ∧ Q (.int (j : Nat)) H2) := by
  refine ⟨fun pins s σ H Q I h => ?_⟩
  refine wpAny_Call_method_late hbase hfew hline rfl (thn (ho.run pins s σ H _ I h) fun v s1 ⟨x, H1, I1, r1, p, ob, vs, ex, hp, hd, q1⟩ => ?_)
  subst ex
  cases r1
  obtain ⟨hg, hz, its, rv, o', ho', hc', n, hdt⟩ := I1.hok p _ hp
  rw [hg] at ho'
  cases ho'
  refine ⟨"tuple", "tuple.index", PySem.F.plainAttrs_tuple, PySem.F.slot_tuple_index, PySem.F.type_tuple_index, ⟨_, hg, hc'⟩, fun a e => ⟨_, by cases e; exact hg, hd⟩, ?_⟩
  have hA := ha.run cpos pins s1 σ H1 _ I1 q1
  rw [hs] at hA ⊢
  refine Calls.callWith_builtin (by show (false || (backTo cpos (starEach [] X.env)).any (·.1)) = false; rw [hplain] <;> rfl) (Calls.evalArgs_plain ?_)
  exact thn hA fun us s2 ⟨vs2, H2, I2, r2, ys, z, j, e2, h1, h2, h3, q2⟩ => mt_tup_index pins s2 σ H2 (.ref p) vs2 (.ref p) us Q I2 rfl r2 ⟨p, ys, z, j, rfl, e2, h1, h2, h3, q2⟩
theorem e_idx {ts : List Str} {z : Str} {j : Nat} (ho : Ev X F en o (.ntp (ts.map .str))) (hb : Ev X F en b (.str z)) (hj : ts[j]? = some z) (hn : ∀ m, m < j → ts[m]? ≠ some z)
    (hbase : attributeBase o "index" X.env (eval o X.env) = eval o X.env := by rfl)
    (hfew : ((backTo cpos (starEach [b] X.env)).all (fun x => !x.1) && (backToKw cpos (keywordEach [] X.env)).all (fun x => x.1.isSome)
      && decide (([b] : List Expr).length + ([] : List Keyword).length + (if ([] : List Keyword).isEmpty then 0 else 1) < 30)) = true := by rfl)
    (hline : (apos.endLine == cpos.line) = true := by rfl) (hs : starEach [b] X.env = (false, eval b X.env) :: starEach [] X.env := by rfl) (hplain : (backTo cpos (starEach [] X.env)).any (·.1) = false := by rfl) :
    Ev X F en (.Call (.Attribute o "index" apos) [b] [] cpos) (.int (j : Int)) :=
  PE.wk (pe_idx ho (pa_cons hb pa_nil hs) hbase hfew hline hs hplain) fun σ H Q ⟨M, R, q⟩ => ⟨M, R, fun v H1 z1 i g r ez => by
    subst ez
    have R1 := R.step i g
    cases r with
    | ntp h hd hm rs =>
      rename_i p ob vs
      refine ⟨p, ob, vs, rfl, h, hd, M, R1, fun w H2 z2 i2 g2 r2 ez2 => ?_⟩
      subst ez2
      cases r2
      have es := rs.strs
      subst es
      refine ⟨ts, z, j, rfl, .inl (.inr ⟨ob, ((R1.kp g2).ho h hm).1⟩), hj, hn, q _ H2 _ i2 (g.trans g2) (.int _) rfl⟩⟩
end
end Pz
end
section
set_option Elab.async false
set_option linter.all false
set_option maxRecDepth 100000
set_option maxHeartbeats 8000000
/-! PzP: dict comprehensions with one or two fors, stored in any way (after the hand layer's lists and dicts). -/
namespace Pz
open PySem PySem.Spec PyProof.Rows L2
abbrev StG := V → V → Addr → Hp → (Hp → Prop) → Prop
/-- a new empty dict stands as o0 -/
def NewG (X : Cx) (o0 : Addr → HO) : Prop := ∀ (H : Hp) (h : Heap), sysModules < h.objs.size → ObjOk X.prog X.w (upd H h.objs.size (o0 h.objs.size)) (h.push { cls := .type "dict", data := .dict #[] }) h.objs.size (o0 h.objs.size)
/-- a store in a comprehension's block -/
def StoreG (X : Cx) (scope : Scope) (st : StG) : Prop := ∀ {s3 : Shared} {H3 : Hp} {ce : Env} {fp : List Addr} {pins : List (Addr × Obj)} {s : Shared} {σ : L2.St} {H : Hp} {E : Value → Shared → Prop} {D : Addr} {y z : V} {u r : Value} {N : Hp → Prop} {Q : Unit → Shared → Prop},
  Inv (X.blk s3 H3 scope ce fp) pins σ H s → RelV y u → RelV z r → st y z D H N → (∀ s' H', Inv (X.blk s3 H3 scope ce fp) pins σ H' s' → N H' → Q () s') → wpAny (model X.prog X.w) X.A (dictSet D u r) Q E s
theorem compTurn2D_out (kx vx t0 i0 t1 i1 : Expr) (ifs0 ifs1 : List Expr) (scope : Scope) (pos : Pos) (it : Value) (D : Addr) (env : Env) :
    compTurn (.DictComp kx vx [⟨t0, i0, ifs0, 0⟩, ⟨t1, i1, ifs1, 0⟩] scope pos) 0 it (.ref D) env = (do
      standAt i0.pos
      match ← pyNext it with
      | none => pure (.done .next)
      | some v =>
        letOwnedTupleGo t0 it v
        assign t0 env v
        let mut ok := true
        for c in ifs0 do
          if ok then ok ← isTrue c env (eval c env)
        if ok then
          let x ← eval i1 env
          standAt i1.pos
          let x ← foldedSetIterable i1 env x
          let _ ← runOwn (.compStart (.DictComp kx vx [⟨t0, i0, ifs0, 0⟩, ⟨t1, i1, ifs1, 0⟩] scope pos) 1 (← holding [x] (pyIter x)) (.ref D) env) env
        again (.compLoop (.DictComp kx vx [⟨t0, i0, ifs0, 0⟩, ⟨t1, i1, ifs1, 0⟩] scope pos) 0 it (.ref D) env)) := by rfl
theorem compTurn2D_in (kx vx t0 i0 t1 i1 : Expr) (ifs0 ifs1 : List Expr) (scope : Scope) (pos : Pos) (it : Value) (D : Addr) (env : Env) :
    compTurn (.DictComp kx vx [⟨t0, i0, ifs0, 0⟩, ⟨t1, i1, ifs1, 0⟩] scope pos) 1 it (.ref D) env = (do
      standAt i1.pos
      match ← pyNext it with
      | none => pure (.done .next)
      | some v =>
        letOwnedTupleGo t1 it v
        assign t1 env v
        let mut ok := true
        for c in ifs1 do
          if ok then ok ← isTrue c env (eval c env)
        if ok then
          (do
            let kv ← eval kx env
            let vv ← holding [kv] (eval vx env)
            standAt { kx.pos with endLine := vx.pos.endLine, endCol := vx.pos.endCol }
            holding [kv, vv] (dictSet D kv vv))
        again (.compLoop (.DictComp kx vx [⟨t0, i0, ifs0, 0⟩, ⟨t1, i1, ifs1, 0⟩] scope pos) 1 it (.ref D) env)) := by rfl


section
variable {prog : Program} {w : World} {A : Around} {R : Result → Shared → Prop} {s : Shared} {kx vx t0 i0 t1 i1 : Expr} {ifs0 ifs1 : List Expr} {scope : Scope} {pos : Pos} {it : Value} {D : Addr} {env : Env}
/-- the loop of the first clause -/
theorem compLoop2D_out (hs : ∀ x, foldedSetIterable i1 env x = pure x) (I : Nat → Shared → Prop)
    (turn : ∀ n s, I n s → wpAny (model prog w) A (pyNext it) (fun r s₁ => match r with
      | none => R (.ok .next) s₁
      | some v => wpAny (model prog w) A (letOwnedTupleGo t0 it v) (fun _ s₁' => wpAny (model prog w) A (assign t0 env v) (fun _ s₂ =>
          wpAny (model prog w) A (forIn ifs0 true fun c r => if r = true then do let ok ← isTrue c env (eval c env); pure (ForInStep.yield ok) else pure (ForInStep.yield r)) (fun ok s₃ =>
            if ok = true then wpAny (model prog w) A (eval i1 env) (fun x s₄ => wpAny (model prog w) A (pyIter x) (fun it1 s₅ =>
              codeAny (model prog w) A (.compStart (.DictComp kx vx [⟨t0, i0, ifs0, 0⟩, ⟨t1, i1, ifs1, 0⟩] scope pos) 1 it1 (.ref D) env) (fun r s' => match r with
                | .ok _ => ∃ m, m < n ∧ I m s'
                | .error _ => False) s₅) (notedBy (model prog w) A env fun e s' => R (.error e) s') s₄) (notedBy (model prog w) A env fun e s' => R (.error e) s') s₃
            else ∃ m, m < n ∧ I m s₃) (notedBy (model prog w) A env fun e s' => R (.error e) s') s₂) (notedBy (model prog w) A env fun e s' => R (.error e) s') s₁') (notedBy (model prog w) A env fun e s' => R (.error e) s') s₁) (notedBy (model prog w) A env fun e s' => R (.error e) s') s)
    (n : Nat) (h : I n s) :
    codeAny (model prog w) A (.compLoop (.DictComp kx vx [⟨t0, i0, ifs0, 0⟩, ⟨t1, i1, ifs1, 0⟩] scope pos) 0 it (.ref D) env) R s := by
  refine codeAny_loop rfl I (fun n s hI => ?_) n h
  show wpAny _ A ((compTurn (.DictComp kx vx [⟨t0, i0, ifs0, 0⟩, ⟨t1, i1, ifs1, 0⟩] scope pos) 0 it (.ref D) env).onRaise (fun x => do noteFrame x env; theTreesLotGoes x)) _ _ s
  refine wpAny_noted ?_
  rw [compTurn2D_out]
  refine wpAny_bind (wpAny_standAt (wpAny_bind (wpAny_mono (turn n s hI) (fun r s₁ h₁ => ?_) fun _ _ h' => h')))
  cases r with
  | none => exact wpAny_pure h₁
  | some v =>
    refine wpAny_bind (wpAny_mono h₁ (fun _ s₁' h₁' => ?_) fun _ _ h' => h')
    refine wpAny_bind (wpAny_mono h₁' (fun _ s₂ h₂ => wpAny_bind (wpAny_mono h₂ (fun ok s₃ h₃ => ?_) fun _ _ h' => h')) fun _ _ h' => h')
    cases ok with
    | false => exact wpAny_pure ⟨rfl, h₃⟩
    | true =>
      refine wpAny_bind (wpAny_mono h₃ (fun x s₄ h₄ => ?_) fun _ _ h' => h')
      refine wpAny_bind (wpAny_standAt (wpAny_bind (wpAny_of_eq (hs x) (wpAny_bind (wpAny_holding (wpAny_mono h₄ (fun it1 s₅ h₅ => ?_) fun _ _ h' => h'))))))
      refine wpAny_bind (wpAny_runOwn ?_)
      rw [Around.mark_none]
      refine codeAny_mono h₅ fun r s' hr => ?_
      cases r with
      | ok f =>
        first
          | exact wpAny_pure ⟨rfl, hr⟩
          | exact wpAny_bind (wpAny_pure (wpAny_pure ⟨rfl, hr⟩))
      | error e => exact hr.elim
/-- the loop of the second -/
theorem compLoop2D_in (I : Nat → Shared → Prop)
    (turn : ∀ n s, I n s → wpAny (model prog w) A (pyNext it) (fun r s₁ => match r with
      | none => R (.ok .next) s₁
      | some v => wpAny (model prog w) A (letOwnedTupleGo t1 it v) (fun _ s₁' => wpAny (model prog w) A (assign t1 env v) (fun _ s₂ =>
          wpAny (model prog w) A (forIn ifs1 true fun c r => if r = true then do let ok ← isTrue c env (eval c env); pure (ForInStep.yield ok) else pure (ForInStep.yield r)) (fun ok s₃ =>
            if ok = true then wpAny (model prog w) A (eval kx env) (fun kv s₄ => wpAny (model prog w) A (eval vx env) (fun vv s₅ =>
              wpAny (model prog w) A (dictSet D kv vv) (fun _ s₆ => ∃ m, m < n ∧ I m s₆) (notedBy (model prog w) A env fun e s' => R (.error e) s') s₅) (notedBy (model prog w) A env fun e s' => R (.error e) s') s₄) (notedBy (model prog w) A env fun e s' => R (.error e) s') s₃
            else ∃ m, m < n ∧ I m s₃) (notedBy (model prog w) A env fun e s' => R (.error e) s') s₂) (notedBy (model prog w) A env fun e s' => R (.error e) s') s₁') (notedBy (model prog w) A env fun e s' => R (.error e) s') s₁) (notedBy (model prog w) A env fun e s' => R (.error e) s') s)
    (n : Nat) (h : I n s) :
    codeAny (model prog w) A (.compLoop (.DictComp kx vx [⟨t0, i0, ifs0, 0⟩, ⟨t1, i1, ifs1, 0⟩] scope pos) 1 it (.ref D) env) R s := by
  refine codeAny_loop rfl I (fun n s hI => ?_) n h
  show wpAny _ A ((compTurn (.DictComp kx vx [⟨t0, i0, ifs0, 0⟩, ⟨t1, i1, ifs1, 0⟩] scope pos) 1 it (.ref D) env).onRaise (fun x => do noteFrame x env; theTreesLotGoes x)) _ _ s
  refine wpAny_noted ?_
  rw [compTurn2D_in]
  refine wpAny_bind (wpAny_standAt (wpAny_bind (wpAny_mono (turn n s hI) (fun r s₁ h₁ => ?_) fun _ _ h' => h')))
  cases r with
  | none => exact wpAny_pure h₁
  | some v =>
    refine wpAny_bind (wpAny_mono h₁ (fun _ s₁' h₁' => ?_) fun _ _ h' => h')
    refine wpAny_bind (wpAny_mono h₁' (fun _ s₂ h₂ => wpAny_bind (wpAny_mono h₂ (fun ok s₃ h₃ => ?_) fun _ _ h' => h')) fun _ _ h' => h')
    cases ok with
    | false => exact wpAny_pure ⟨rfl, h₃⟩
    | true =>
      exact wpAny_bind (wpAny_bind (wpAny_mono h₃ (fun kv s₄ h₄ => wpAny_bind (wpAny_holding (wpAny_mono h₄ (fun vv s₅ h₅ => wpAny_bind (wpAny_standAt (wpAny_holding (wpAny_mono h₅ (fun _ s₆ h₆ => wpAny_pure ⟨rfl, h₆⟩) fun _ _ h' => h')))) fun _ _ h' => h'))) fun _ _ h' => h'))
/-- the second clause's start -/
theorem compStart1D_ok (h0 : codeAny (model prog w) A (.compLoop (.DictComp kx vx [⟨t0, i0, ifs0, 0⟩, ⟨t1, i1, ifs1, 0⟩] scope pos) 1 it (.ref D) env) R s)
    (h : wpAny (model prog w) A (pyIter it) (fun it' s' => codeAny (model prog w) A (.compLoop (.DictComp kx vx [⟨t0, i0, ifs0, 0⟩, ⟨t1, i1, ifs1, 0⟩] scope pos) 1 it' (.ref D) env) R s')
      (notedBy (model prog w) A env fun x s' => R (.error x) s') s) :
    codeAny (model prog w) A (.compStart (.DictComp kx vx [⟨t0, i0, ifs0, 0⟩, ⟨t1, i1, ifs1, 0⟩] scope pos) 1 it (.ref D) env) R s := by
  refine codeAny_of_tree ?_
  show wpAny _ _ ((compStart (.DictComp kx vx [⟨t0, i0, ifs0, 0⟩, ⟨t1, i1, ifs1, 0⟩] scope pos) 1 it (.ref D) env).onRaise (fun x => do noteFrame x env; standAt theWindowsPlace)) _ _ s
  refine wpAny_notedAt ?_
  unfold compStart
  show wpAny _ _ (ask >>= _) _ _ s
  refine wpAny_bind (wpAny_askSetting (wpAny_ite ?_))
  split
  · first
      | exact wpAny_bind (wpAny_pure (wpAny_pure (And.intro rfl h0)))
      | exact wpAny_pure (And.intro rfl h0)
  · first
      | exact wpAny_bind (wpAny_rule (wpAny_bind (wpAny_standAt (wpAny_bind (wpAny_mono h (fun it' s' h' => wpAny_pure (And.intro rfl h')) fun _ _ x => x)))))
      | (refine wpAny_bind (wpAny_rule ?_); show wpAny _ _ (standAt i1.pos >>= _) _ _ s; exact wpAny_bind (wpAny_standAt (wpAny_bind (wpAny_mono h (fun it' s' h' => wpAny_pure (And.intro rfl h')) fun _ _ x => x))))
end


section
variable {X : Cx}
def tDg (o0 : Addr → HO) (st : StG) (wi : TI) (g : TG) (tt : TT) (tk tv : TE) (vs : List Nat) : TE := fun σ H Q => wi σ H fun J H1 => ∀ D, H1 D = none → ∃ W : Nat → Nat → Hp → Prop, (∃ m, W 0 m (upd H1 D (o0 D))) ∧ ∀ i m H, W i m H →
  (J.stop i H ∧ Q (.ref D) H) ∨ (J.go i H ∧ ∃ Nx : Hp → Prop, (∀ H', Nx H' → ∃ m', m' < m ∧ W (i + 1) m' H') ∧ ∀ x H', J.yld i H x H' → g x (L2.wipe σ vs) H' fun σ2 H2 => L2.wipe σ2 vs = L2.wipe σ vs ∧ tt σ2 H2 fun b H3 =>
    if b = true then tk σ2 H3 fun y H4 => tv σ2 H4 fun z H5 => st y z D H5 Nx else Nx H3)
def tDg2 (o0 : Addr → HO) (st : StG) (wi : TI) (g : TG) (tt : TT) (wi1 : TI) (g1 : TG) (tt1 : TT) (tk tv : TE) (vs vs1 : List Nat) : TE := fun σ H Q => wi σ H fun J H1 => ∀ D, H1 D = none → ∃ W : Nat → Nat → Hp → Prop, (∃ m, W 0 m (upd H1 D (o0 D))) ∧ ∀ i m H, W i m H →
  (J.stop i H ∧ Q (.ref D) H) ∨ (J.go i H ∧ ∃ Nx : Hp → Prop, (∀ H', Nx H' → ∃ m', m' < m ∧ W (i + 1) m' H') ∧ ∀ x H', J.yld i H x H' → g x (L2.wipe σ vs) H' fun σ2 H2 => L2.wipe σ2 vs = L2.wipe σ vs ∧ tt σ2 H2 fun b H3 =>
    if b = true then wi1 σ2 H3 fun J1 H4 => ∃ W1 : Nat → Nat → Hp → Prop, (∃ m, W1 0 m H4) ∧ ∀ j k H, W1 j k H →
      (J1.stop j H ∧ Nx H) ∨ (J1.go j H ∧ ∃ Nx1 : Hp → Prop, (∀ H', Nx1 H' → ∃ k', k' < k ∧ W1 (j + 1) k' H') ∧ ∀ x H', J1.yld j H x H' → g1 x (L2.wipe σ2 vs1) H' fun σ3 H5 => L2.wipe σ3 vs1 = L2.wipe σ2 vs1 ∧ tt1 σ3 H5 fun b H6 =>
        if b = true then tk σ3 H6 fun y H7 => tv σ3 H7 fun z H8 => st y z D H8 Nx1 else Nx1 H6)
    else Nx H3)
theorem dg_core {pins : List (Addr × Obj)} {s : Shared} {σ : St} {H : Hp} {Q : VK} {kx vx tg iter : Expr} {ifs : List Expr} {scope : Scope} {own : List (Str × Nat)} {pos pos' : Pos} {wi : TI} {g : TG} {tt : TT} {tk tv : TE} {o0 : Addr → HO} {st : StG} {use : Option (Value → Sem Unit)} {Qf : Value → Shared → Prop}
    (hc : X.calm = true) (hN : X.N.Nodup) (I : Inv X pins σ H s) (hi : PI X tg iter wi) (ok : BlkOk X.N X.env.scope scope own)
    (hg : ∀ (s : Shared) (H : Hp) (C : Addr) (cl : List (Str × Addr)) (fp : List Addr), PG (X.blk s H scope (compEnvC scope cl C X.env) fp) tg g) (ht : ∀ (s : Shared) (H : Hp) (C : Addr) (cl : List (Str × Addr)) (fp : List Addr), PTs (X.blk s H scope (compEnvC scope cl C X.env) fp) ifs tt)
    (hk : ∀ (s : Shared) (H : Hp) (C : Addr) (cl : List (Str × Addr)) (fp : List Addr), PE (X.blk s H scope (compEnvC scope cl C X.env) fp) kx tk)
    (he : ∀ (s : Shared) (H : Hp) (C : Addr) (cl : List (Str × Addr)) (fp : List Addr), PE (X.blk s H scope (compEnvC scope cl C X.env) fp) vx tv) (hs : ∀ x, foldedSetIterable iter X.env x = pure x)
    (hnew : NewG X o0) (hst : StoreG X scope st) (h : tDg o0 st wi g tt tk tv (own.map (·.2)) σ H Q)
    (hRR : ∀ D C s' m H', Inv X pins σ H' s' → Q (.ref D) H' → s'.heap.Ns C m → FpOk X pins H' C → compPost (model X.prog X.w) X.A X.xe use Qf (.ref D) C (.ok .next) s') :
    wpAny (model X.prog X.w) X.A (comprehension (.DictComp kx vx [⟨tg, iter, ifs, 0⟩] scope pos) scope X.env pos' newDict false (eval iter X.env) use) Qf X.xe s := by
  have hfree : ∀ y ∈ scope.names, y.2 = .free → ∃ c, X.env.cells.lookup y.1 = some c := fun y hy e => by
    rcases ok.free y hy e with k | k
    · exact I.ok.has _ (.inl k)
    · exact I.ok.has _ (.inr k)
  refine wpAny_comprehension_free (use := use) rfl hs (closure_ok hfree) ok.kind (fun y hy e => by rw [ok.uniq y hy, e])
    (thn (hi.run pins s σ H _ I h) fun xv s1 hx => thn hx fun itv s2 h2 => ?_)
  obtain ⟨it, fp, tn, J, H2, e, I2, T, st2, f2, q⟩ := h2
  subst e
  refine wpAny_newObj_type (newEnv_comp ?_)
  generalize hD : s2.heap.objs.size = D
  have hDn : H2 D = none := I2.hok.fresh (Nat.le_of_eq hD)
  obtain ⟨W, ⟨m0, w0⟩, turn⟩ := q D hDn
  -- the new list
  generalize hs3 : ({ s2 with heap := s2.heap.push { cls := .type "dict", data := .dict #[] } } : Shared) = s3
  have I3 : Inv X pins σ (upd H2 D (o0 D)) s3 := by
    rw [← hs3]
    refine I2.laid (t' := s2.toks) (fun b o e => Heap.get?_push_of_some _ e) (Nat.le_of_eq hD) ?_
    rw [← hD]
    exact hnew H2 s2.heap I2.big
  have h3 : s3.heap = s2.heap.push { cls := .type "dict", data := .dict #[] } := by rw [← hs3]
  have sz : ∀ b ∈ fp, b < s2.heap.objs.size := fun b hb => by
    obtain ⟨o, e, _⟩ := T.obj _ _ st2 b hb
    exact Heap.lt_size e
  have f3 : ∀ b ∈ fp, FpOk X pins (upd H2 D (o0 D)) b ∧ b < s3.heap.objs.size := fun b hb => by
    have hlt := sz b hb
    refine ⟨⟨?_, (f2 b hb).2⟩, by rw [h3, Heap.size_push]; exact Nat.lt_succ_of_lt hlt⟩
    rw [upd_ne (by rw [← hD]; exact Nat.ne_of_lt hlt)]
    exact (f2 b hb).1
  have st3 : tn 0 s3.heap := T.keep _ _ _ st2 fun b _ o e => by rw [h3]; exact Heap.get?_push_of_some _ e
  have I4 := block_start I3 ok hN f3
  have pg := hg s3 (upd H2 D (o0 D)) s3.heap.objs.size (cellsFrom (s3.heap.objs.size + 1) scope.names (cloFrom X.env.cells scope.names [])) fp
  have pt := ht s3 (upd H2 D (o0 D)) s3.heap.objs.size (cellsFrom (s3.heap.objs.size + 1) scope.names (cloFrom X.env.cells scope.names [])) fp
  have pk := hk s3 (upd H2 D (o0 D)) s3.heap.objs.size (cellsFrom (s3.heap.objs.size + 1) scope.names (cloFrom X.env.cells scope.names [])) fp
  have pe := he s3 (upd H2 D (o0 D)) s3.heap.objs.size (cellsFrom (s3.heap.objs.size + 1) scope.names (cloFrom X.env.cells scope.names [])) fp
  show codeAny _ _ (.compStart (.DictComp kx vx [⟨tg, iter, ifs, 0⟩] scope pos) 0 (.ref it) (.ref D) (compEnvC scope (cellsFrom (s3.heap.objs.size + 1) scope.names (cloFrom X.env.cells scope.names [])) s3.heap.objs.size X.env)) (compPost (model X.prog X.w) X.A X.xe use Qf (.ref D) s3.heap.objs.size) { s3 with heap := pushCells (s3.heap.push { cls := .type "dict", data := .dict #[] }) scope.names }
  have nfp : ∀ b ∈ fp, (upd H2 D (o0 D)) b = none := fun b hb => (f3 b hb).1.1
  generalize hce : compEnvC scope (cellsFrom (s3.heap.objs.size + 1) scope.names (cloFrom X.env.cells scope.names [])) s3.heap.objs.size X.env = ce at I4 pg pt pk pe ⊢
  have cL : ce.locals = s3.heap.objs.size := by subst hce; rfl
  generalize hH3 : upd H2 D (o0 D) = H3 at I3 I4 pg pt pk pe w0 nfp f3
  generalize hs4 : ({ s3 with heap := pushCells (s3.heap.push { cls := .type "dict", data := .dict #[] }) scope.names } : Shared) = s4 at I4 ⊢
  have st4 : tn 0 s4.heap := T.keep _ _ _ st3 fun b _ o e => by rw [← hs4]; exact pushCells_keeps _ _ _ _ (Heap.get?_push_of_some _ e)
  have stat : ∀ {σ' : St} {H' : Hp} {s' : Shared}, Inv (X.blk s3 H3 scope ce fp) [] σ' H' s' → (∀ b ∈ fp, H' b = none) → ∀ b ∈ fp, FpOk (X.blk s3 H3 scope ce fp) [] H' b := fun {σ' H' s'} I' hn b hb =>
    ⟨hn b hb, (I'.ok.exf b hb).1, I'.ok.exfs b hb, .inl hb, fun x c e => (I'.ok.exf b hb).2 x c e, fun p hp => absurd (show p ∈ ([] : List (Addr × Obj)) ++ [] from hp) (by simp)⟩
  have loop : codeAny (model X.prog X.w) X.A (.compLoop (.DictComp kx vx [⟨tg, iter, ifs, 0⟩] scope pos) 0 (.ref it) (.ref D) ce) (compPost (model X.prog X.w) X.A X.xe use Qf (.ref D) s3.heap.objs.size) s4 := by
    refine compLoop_anyD (fun n s' => ∃ i H', Inv (X.blk s3 H3 scope ce fp) [] (wipe σ (own.map (·.2))) H' s' ∧ tn i s'.heap ∧ (∀ b ∈ fp, H' b = none) ∧ W i n H') ?_ m0 ⟨0, H3, I4, st4, nfp, w0⟩
    rintro n s5 ⟨i, H5, I5, st5, n5, w5⟩
    rcases turn i n H5 w5 with ⟨stop, qq⟩ | ⟨go, Nx, hNx, step⟩
    · have td := T.done (X.blk s3 H3 scope ce fp) rfl rfl rfl hc i [] s5 _ H5 (fun _ _ => False) I5 (stat I5 n5) st5 stop
      refine thnF td fun r s6 ⟨hr, I6⟩ => ?_
      subst hr
      -- back in the def's context
      have I7 : Inv X pins σ H5 s6 := I3.call' (ch := fp) I6.os I6.base I6.hok I6.bare fun b hb => ⟨(f3 b hb).1.2.2.2.1, (f3 b hb).1.2.1, (f3 b hb).1.2.2.2.2.1, (f3 b hb).1.2.2.2.2.2⟩
      have nC : H5 s3.heap.objs.size = none := by
        have z : H5 ce.locals = none := I6.free
        rw [cL] at z
        exact z
      obtain ⟨m, hn, _⟩ := I6.loc
      have hn : s6.heap.Ns ce.locals m := hn
      rw [cL] at hn
      exact hRR D s3.heap.objs.size s6 m H5 I7 qq hn (I3.fpOk (Nat.le_refl _) nC)
    · have ti := T.item (X.blk s3 H3 scope ce fp) rfl rfl rfl hc i [] s5 _ H5 (fun _ _ => False) I5 (stat I5 n5) st5 go
      refine thnF ti fun r s6 ⟨u, hr, h6⟩ => ?_
      subst hr
      refine thnF h6 fun _ s7 ⟨x, H7, I7, r7, y7, st7, n7⟩ => ?_
      have I7' := I7.pinned (stat I7 n7) (T.obj _ _ st7)
      refine thnF (pg.run _ s7 _ H7 x u _ I7' r7 (step x H7 y7)) fun _ s8 ⟨σ8, H8, I8, hw8, q8⟩ => ?_
      refine thnF (pt.run _ s8 σ8 H8 _ I8 q8) fun b s9 ⟨H9, I9, q9⟩ => ?_
      -- the turn's end
      have fin : ∀ {s' : Shared} {H' : Hp}, Inv (X.blk s3 H3 scope ce fp) ([] ++ pinsAt fp s7.heap) σ8 H' s' → Nx H' → ∃ m, m < n ∧ ∃ i H', Inv (X.blk s3 H3 scope ce fp) [] (wipe σ (own.map (·.2))) H' s' ∧ tn i s'.heap ∧ (∀ b ∈ fp, H' b = none) ∧ W i m H' := fun {s' H'} I' nx => by
        obtain ⟨m', hm, w'⟩ := hNx H' nx
        have pin' : ∀ b ∈ fp, ∀ o, s7.heap.get? b = some o → s'.heap.get? b = some o ∧ H' b = none := fun b hb o e =>
          let z := I'.pin (b, o) (List.mem_append_right _ (List.mem_append_right _ (mem_pinsAt hb e)))
          ⟨z.1, z.2.1⟩
        have hl : (wipe σ (own.map (·.2))).length = σ8.length := by rw [← hw8, wipe_length]
        refine ⟨m', hm, i + 1, H', (I'.unpinned (pins := [])).weak hl (fun j v e => ?_), T.keep _ _ _ st7 fun b hb o e => (pin' b hb o e).1, fun b hb => ?_, w'⟩
        · rw [← hw8] at e
          exact (wipe_some e).1
        · obtain ⟨o, e, _⟩ := T.obj _ _ st7 b hb
          exact (pin' b hb o e).2
      cases b with
      | false =>
        simp only [Bool.false_eq_true, if_false] at q9 ⊢
        exact fin I9 q9
      | true =>
        simp only [if_true] at q9 ⊢
        refine thnF (pk.run _ s9 σ8 H9 _ I9 q9) fun z s10 ⟨yk, H10, I10, r10, q10⟩ => ?_
        refine thnF (pe.run _ s10 σ8 H10 _ I10 q10) fun z2 s11 ⟨yv, H11, I11, r11, nx⟩ => ?_
        exact hst I11 r10 r11 nx fun s12 H12 I12 n12 => fin I12 n12
  exact codeAny_compStart_dict loop (T.self X.A 0 _ _ _ st4 loop)
theorem dg2_core {pins : List (Addr × Obj)} {s : Shared} {σ : St} {H : Hp} {Q : VK} {kx vx tg iter tg1 iter1 : Expr} {ifs ifs1 : List Expr} {scope : Scope} {own : List (Str × Nat)} {vs1 : List Nat} {pos pos' : Pos} {wi wi1 : TI} {g g1 : TG} {tt tt1 : TT} {tk tv : TE} {o0 : Addr → HO} {st : StG} {use : Option (Value → Sem Unit)} {Qf : Value → Shared → Prop}
    (hc : X.calm = true) (hN : X.N.Nodup) (I : Inv X pins σ H s) (hi : PI X tg iter wi) (ok : BlkOk X.N X.env.scope scope own) (hv : ∀ i ∈ vs1, i ∈ own.map (·.2))
    (hg : ∀ (s : Shared) (H : Hp) (C : Addr) (cl : List (Str × Addr)) (fp : List Addr), PG (X.blk s H scope (compEnvC scope cl C X.env) fp) tg g) (ht : ∀ (s : Shared) (H : Hp) (C : Addr) (cl : List (Str × Addr)) (fp : List Addr), PTs (X.blk s H scope (compEnvC scope cl C X.env) fp) ifs tt)
    (hk : ∀ (s : Shared) (H : Hp) (C : Addr) (cl : List (Str × Addr)) (fp : List Addr), PE (X.blk s H scope (compEnvC scope cl C X.env) fp) kx tk) (he : ∀ (s : Shared) (H : Hp) (C : Addr) (cl : List (Str × Addr)) (fp : List Addr), PE (X.blk s H scope (compEnvC scope cl C X.env) fp) vx tv) (hs : ∀ x, foldedSetIterable iter X.env x = pure x)
    (hi1 : ∀ (s : Shared) (H : Hp) (C : Addr) (cl : List (Str × Addr)) (fp : List Addr), PI (X.blk s H scope (compEnvC scope cl C X.env) fp) tg1 iter1 wi1)
    (hg1 : ∀ (s : Shared) (H : Hp) (C : Addr) (cl : List (Str × Addr)) (fp : List Addr), PG (X.blk s H scope (compEnvC scope cl C X.env) fp) tg1 g1)
    (ht1 : ∀ (s : Shared) (H : Hp) (C : Addr) (cl : List (Str × Addr)) (fp : List Addr), PTs (X.blk s H scope (compEnvC scope cl C X.env) fp) ifs1 tt1)
    (hs1 : ∀ env x, foldedSetIterable iter1 env x = pure x)
    (hnew : NewG X o0) (hst : StoreG X scope st) (h : tDg2 o0 st wi g tt wi1 g1 tt1 tk tv (own.map (·.2)) vs1 σ H Q)
    (hRR : ∀ D C s' m H', Inv X pins σ H' s' → Q (.ref D) H' → s'.heap.Ns C m → FpOk X pins H' C → compPost (model X.prog X.w) X.A X.xe use Qf (.ref D) C (.ok .next) s') :
    wpAny (model X.prog X.w) X.A (comprehension (.DictComp kx vx [⟨tg, iter, ifs, 0⟩, ⟨tg1, iter1, ifs1, 0⟩] scope pos) scope X.env pos' newDict false (eval iter X.env) use) Qf X.xe s := by
  have hfree : ∀ y ∈ scope.names, y.2 = .free → ∃ c, X.env.cells.lookup y.1 = some c := fun y hy e => by
    rcases ok.free y hy e with k | k
    · exact I.ok.has _ (.inl k)
    · exact I.ok.has _ (.inr k)
  refine wpAny_comprehension_free (use := use) rfl hs (closure_ok hfree) ok.kind (fun y hy e => by rw [ok.uniq y hy, e])
    (thn (hi.run pins s σ H _ I h) fun xv s1 hx => thn hx fun itv s2 h2 => ?_)
  obtain ⟨it, fp, tn, J, H2, e, I2, T, st2, f2, q⟩ := h2
  subst e
  refine wpAny_newObj_type (newEnv_comp ?_)
  generalize hD : s2.heap.objs.size = D
  have hDn : H2 D = none := I2.hok.fresh (Nat.le_of_eq hD)
  obtain ⟨W, ⟨m0, w0⟩, turn⟩ := q D hDn
  -- the new list
  generalize hs3 : ({ s2 with heap := s2.heap.push { cls := .type "dict", data := .dict #[] } } : Shared) = s3
  have I3 : Inv X pins σ (upd H2 D (o0 D)) s3 := by
    rw [← hs3]
    refine I2.laid (t' := s2.toks) (fun b o e => Heap.get?_push_of_some _ e) (Nat.le_of_eq hD) ?_
    rw [← hD]
    exact hnew H2 s2.heap I2.big
  have h3 : s3.heap = s2.heap.push { cls := .type "dict", data := .dict #[] } := by rw [← hs3]
  have sz : ∀ b ∈ fp, b < s2.heap.objs.size := fun b hb => by
    obtain ⟨o, e, _⟩ := T.obj _ _ st2 b hb
    exact Heap.lt_size e
  have f3 : ∀ b ∈ fp, FpOk X pins (upd H2 D (o0 D)) b ∧ b < s3.heap.objs.size := fun b hb => by
    have hlt := sz b hb
    refine ⟨⟨?_, (f2 b hb).2⟩, by rw [h3, Heap.size_push]; exact Nat.lt_succ_of_lt hlt⟩
    rw [upd_ne (by rw [← hD]; exact Nat.ne_of_lt hlt)]
    exact (f2 b hb).1
  have st3 : tn 0 s3.heap := T.keep _ _ _ st2 fun b _ o e => by rw [h3]; exact Heap.get?_push_of_some _ e
  have I4 := block_start I3 ok hN f3
  have pg := hg s3 (upd H2 D (o0 D)) s3.heap.objs.size (cellsFrom (s3.heap.objs.size + 1) scope.names (cloFrom X.env.cells scope.names [])) fp
  have pt := ht s3 (upd H2 D (o0 D)) s3.heap.objs.size (cellsFrom (s3.heap.objs.size + 1) scope.names (cloFrom X.env.cells scope.names [])) fp
  have pe := he s3 (upd H2 D (o0 D)) s3.heap.objs.size (cellsFrom (s3.heap.objs.size + 1) scope.names (cloFrom X.env.cells scope.names [])) fp
  have pk := hk s3 (upd H2 D (o0 D)) s3.heap.objs.size (cellsFrom (s3.heap.objs.size + 1) scope.names (cloFrom X.env.cells scope.names [])) fp
  have pi1 := hi1 s3 (upd H2 D (o0 D)) s3.heap.objs.size (cellsFrom (s3.heap.objs.size + 1) scope.names (cloFrom X.env.cells scope.names [])) fp
  have pg1 := hg1 s3 (upd H2 D (o0 D)) s3.heap.objs.size (cellsFrom (s3.heap.objs.size + 1) scope.names (cloFrom X.env.cells scope.names [])) fp
  have pt1 := ht1 s3 (upd H2 D (o0 D)) s3.heap.objs.size (cellsFrom (s3.heap.objs.size + 1) scope.names (cloFrom X.env.cells scope.names [])) fp
  show codeAny _ _ (.compStart (.DictComp kx vx [⟨tg, iter, ifs, 0⟩, ⟨tg1, iter1, ifs1, 0⟩] scope pos) 0 (.ref it) (.ref D) (compEnvC scope (cellsFrom (s3.heap.objs.size + 1) scope.names (cloFrom X.env.cells scope.names [])) s3.heap.objs.size X.env)) (compPost (model X.prog X.w) X.A X.xe use Qf (.ref D) s3.heap.objs.size) { s3 with heap := pushCells (s3.heap.push { cls := .type "dict", data := .dict #[] }) scope.names }
  have nfp : ∀ b ∈ fp, (upd H2 D (o0 D)) b = none := fun b hb => (f3 b hb).1.1
  generalize hce : compEnvC scope (cellsFrom (s3.heap.objs.size + 1) scope.names (cloFrom X.env.cells scope.names [])) s3.heap.objs.size X.env = ce at I4 pg pt pk pe pi1 pg1 pt1 ⊢
  have cL : ce.locals = s3.heap.objs.size := by subst hce; rfl
  generalize hH3 : upd H2 D (o0 D) = H3 at I3 I4 pg pt pk pe pi1 pg1 pt1 w0 nfp f3
  generalize hs4 : ({ s3 with heap := pushCells (s3.heap.push { cls := .type "dict", data := .dict #[] }) scope.names } : Shared) = s4 at I4 ⊢
  have st4 : tn 0 s4.heap := T.keep _ _ _ st3 fun b _ o e => by rw [← hs4]; exact pushCells_keeps _ _ _ _ (Heap.get?_push_of_some _ e)
  have stat : ∀ {σ' : St} {H' : Hp} {s' : Shared}, Inv (X.blk s3 H3 scope ce fp) [] σ' H' s' → (∀ b ∈ fp, H' b = none) → ∀ b ∈ fp, FpOk (X.blk s3 H3 scope ce fp) [] H' b := fun {σ' H' s'} I' hn b hb =>
    ⟨hn b hb, (I'.ok.exf b hb).1, I'.ok.exfs b hb, .inl hb, fun x c e => (I'.ok.exf b hb).2 x c e, fun p hp => absurd (show p ∈ ([] : List (Addr × Obj)) ++ [] from hp) (by simp)⟩
  have loop : codeAny (model X.prog X.w) X.A (.compLoop (.DictComp kx vx [⟨tg, iter, ifs, 0⟩, ⟨tg1, iter1, ifs1, 0⟩] scope pos) 0 (.ref it) (.ref D) ce) (compPost (model X.prog X.w) X.A X.xe use Qf (.ref D) s3.heap.objs.size) s4 := by
    refine compLoop2D_out (hs1 ce) (fun n s' => ∃ i H', Inv (X.blk s3 H3 scope ce fp) [] (wipe σ (own.map (·.2))) H' s' ∧ tn i s'.heap ∧ (∀ b ∈ fp, H' b = none) ∧ W i n H') ?_ m0 ⟨0, H3, I4, st4, nfp, w0⟩
    rintro n s5 ⟨i, H5, I5, st5, n5, w5⟩
    rcases turn i n H5 w5 with ⟨stop, qq⟩ | ⟨go, Nx, hNx, step⟩
    · have td := T.done (X.blk s3 H3 scope ce fp) rfl rfl rfl hc i [] s5 _ H5 (fun _ _ => False) I5 (stat I5 n5) st5 stop
      refine thnF td fun r s6 ⟨hr, I6⟩ => ?_
      subst hr
      -- back in the def's context
      have I7 : Inv X pins σ H5 s6 := I3.call' (ch := fp) I6.os I6.base I6.hok I6.bare fun b hb => ⟨(f3 b hb).1.2.2.2.1, (f3 b hb).1.2.1, (f3 b hb).1.2.2.2.2.1, (f3 b hb).1.2.2.2.2.2⟩
      have nC : H5 s3.heap.objs.size = none := by
        have z : H5 ce.locals = none := I6.free
        rw [cL] at z
        exact z
      obtain ⟨m, hn, _⟩ := I6.loc
      have hn : s6.heap.Ns ce.locals m := hn
      rw [cL] at hn
      exact hRR D s3.heap.objs.size s6 m H5 I7 qq hn (I3.fpOk (Nat.le_refl _) nC)
    · have ti := T.item (X.blk s3 H3 scope ce fp) rfl rfl rfl hc i [] s5 _ H5 (fun _ _ => False) I5 (stat I5 n5) st5 go
      refine thnF ti fun r s6 ⟨u, hr, h6⟩ => ?_
      subst hr
      refine thnF h6 fun _ s7 ⟨x, H7, I7, r7, y7, st7, n7⟩ => ?_
      have I7' := I7.pinned (stat I7 n7) (T.obj _ _ st7)
      refine thnF (pg.run _ s7 _ H7 x u _ I7' r7 (step x H7 y7)) fun _ s8 ⟨σ8, H8, I8, hw8, q8⟩ => ?_
      refine thnF (pt.run _ s8 σ8 H8 _ I8 q8) fun b s9 ⟨H9, I9, q9⟩ => ?_
      -- the turn's end, from any slots that know what the block knew at its start
      have fin : ∀ {σ9 : St} {s' : Shared} {H' : Hp}, Inv (X.blk s3 H3 scope ce fp) ([] ++ pinsAt fp s7.heap) σ9 H' s' → (wipe σ (own.map (·.2))).length = σ9.length → (∀ (j : Nat) v, (wipe σ (own.map (·.2)))[j]? = some (some v) → σ9[j]? = some (some v)) → Nx H' →
          ∃ m, m < n ∧ ∃ i H', Inv (X.blk s3 H3 scope ce fp) [] (wipe σ (own.map (·.2))) H' s' ∧ tn i s'.heap ∧ (∀ b ∈ fp, H' b = none) ∧ W i m H' := fun {σ9 s' H'} I' hl hk nx => by
        obtain ⟨m', hm, w'⟩ := hNx H' nx
        have pin' : ∀ b ∈ fp, ∀ o, s7.heap.get? b = some o → s'.heap.get? b = some o ∧ H' b = none := fun b hb o e =>
          let z := I'.pin (b, o) (List.mem_append_right _ (List.mem_append_right _ (mem_pinsAt hb e)))
          ⟨z.1, z.2.1⟩
        refine ⟨m', hm, i + 1, H', (I'.unpinned (pins := [])).weak hl hk, T.keep _ _ _ st7 fun b hb o e => (pin' b hb o e).1, fun b hb => ?_, w'⟩
        obtain ⟨o, e, _⟩ := T.obj _ _ st7 b hb
        exact (pin' b hb o e).2
      have hl8 : (wipe σ (own.map (·.2))).length = σ8.length := by rw [← hw8, wipe_length]
      have hk8 : ∀ (j : Nat) v, (wipe σ (own.map (·.2)))[j]? = some (some v) → σ8[j]? = some (some v) := fun j v e => by
        rw [← hw8] at e
        exact (wipe_some e).1
      have hk9 : ∀ (j : Nat) v, (wipe σ (own.map (·.2)))[j]? = some (some v) → (wipe σ8 vs1)[j]? = some (some v) := fun j v e => by
        rw [← hw8] at e
        obtain ⟨e1, e2⟩ := wipe_some e
        rw [wipe_out fun z => e2 (hv j z)]
        exact e1
      cases b with
      | false =>
        simp only [Bool.false_eq_true, if_false] at q9 ⊢
        exact fin I9 hl8 hk8 q9
      | true =>
        simp only [if_true] at q9 ⊢
        refine thnF (pi1.run _ s9 σ8 H9 _ I9 q9) fun xv s10 hx => thnF hx fun itv s11 h11 => ?_
        obtain ⟨it1, fp1, tn1, J1, H11, e1, I11, T1, st11, f11, W1, ⟨m1, w1⟩, turn1⟩ := h11
        subst e1
        -- the inner loop
        have stat1 : ∀ {H' : Hp}, (∀ b ∈ fp1, H' b = none) → ∀ b ∈ fp1, FpOk (X.blk s3 H3 scope ce fp) ([] ++ pinsAt fp s7.heap) H' b := fun hn b hb => ⟨hn b hb, (f11 b hb).2⟩
        have loop1 : codeAny (model X.prog X.w) X.A (.compLoop (.DictComp kx vx [⟨tg, iter, ifs, 0⟩, ⟨tg1, iter1, ifs1, 0⟩] scope pos) 1 (.ref it1) (.ref D) ce)
            (fun r s' => match r with
              | .ok _ => ∃ m, m < n ∧ ∃ i H', Inv (X.blk s3 H3 scope ce fp) [] (wipe σ (own.map (·.2))) H' s' ∧ tn i s'.heap ∧ (∀ b ∈ fp, H' b = none) ∧ W i m H'
              | .error _ => False) s11 := by
          refine compLoop2D_in (fun k s' => ∃ j H', Inv (X.blk s3 H3 scope ce fp) ([] ++ pinsAt fp s7.heap) (wipe σ8 vs1) H' s' ∧ tn1 j s'.heap ∧ (∀ b ∈ fp1, H' b = none) ∧ W1 j k H') ?_ m1 ⟨0, H11, I11.weak (wipe_length _ _) (fun j v e => (wipe_some e).1), st11, fun b hb => (f11 b hb).1, w1⟩
          rintro k s12 ⟨j, H12, I12, st12, n12, w12⟩
          rcases turn1 j k H12 w12 with ⟨stop1, nx1⟩ | ⟨go1, Nx1, hNx1, step1⟩
          · refine thnF (T1.done (X.blk s3 H3 scope ce fp) rfl rfl rfl hc j _ s12 (wipe σ8 vs1) H12 (fun _ _ => False) I12 (stat1 n12) st12 stop1) fun r s13 ⟨hr, I13⟩ => ?_
            subst hr
            exact fin I13 (hl8.trans (wipe_length σ8 vs1).symm) hk9 nx1
          · refine thnF (T1.item (X.blk s3 H3 scope ce fp) rfl rfl rfl hc j _ s12 (wipe σ8 vs1) H12 (fun _ _ => False) I12 (stat1 n12) st12 go1) fun r s13 ⟨u1, hr, h13⟩ => ?_
            subst hr
            refine thnF h13 fun _ s14 ⟨x1, H14, I14, r14, y14, st14, n14⟩ => ?_
            have I14' := I14.pinned (stat1 n14) (T1.obj _ _ st14)
            refine thnF (pg1.run _ s14 (wipe σ8 vs1) H14 x1 u1 _ I14' r14 (step1 x1 H14 y14)) fun _ s15 ⟨σ15, H15, I15, hw15, q15⟩ => ?_
            refine thnF (pt1.run _ s15 σ15 H15 _ I15 q15) fun b1 s16 ⟨H16, I16, q16⟩ => ?_
            have fin1 : ∀ {s' : Shared} {H' : Hp}, Inv (X.blk s3 H3 scope ce fp) (([] ++ pinsAt fp s7.heap) ++ pinsAt fp1 s14.heap) σ15 H' s' → Nx1 H' → ∃ m, m < k ∧ ∃ j H', Inv (X.blk s3 H3 scope ce fp) ([] ++ pinsAt fp s7.heap) (wipe σ8 vs1) H' s' ∧ tn1 j s'.heap ∧ (∀ b ∈ fp1, H' b = none) ∧ W1 j m H' := fun {s' H'} I' nx => by
              obtain ⟨m', hm, w'⟩ := hNx1 H' nx
              have pin' : ∀ b ∈ fp1, ∀ o, s14.heap.get? b = some o → s'.heap.get? b = some o ∧ H' b = none := fun b hb o e =>
                let z := I'.pin (b, o) (List.mem_append_right _ (List.mem_append_right _ (mem_pinsAt hb e)))
                ⟨z.1, z.2.1⟩
              refine ⟨m', hm, j + 1, H', I'.unpinned.weak (by rw [← hw15, wipe_length]) (fun j v e => by rw [← hw15] at e; exact (wipe_some e).1), T1.keep _ _ _ st14 fun b hb o e => (pin' b hb o e).1, fun b hb => ?_, w'⟩
              obtain ⟨o, e, _⟩ := T1.obj _ _ st14 b hb
              exact (pin' b hb o e).2
            cases b1 with
            | false =>
              simp only [Bool.false_eq_true, if_false] at q16 ⊢
              exact fin1 I16 q16
            | true =>
              simp only [if_true] at q16 ⊢
              refine thnF (pk.run _ s16 σ15 H16 _ I16 q16) fun z s17 ⟨yk, H17, I17, r17, q17⟩ => ?_
              refine thnF (pe.run _ s17 σ15 H17 _ I17 q17) fun z2 s18 ⟨yv, H18, I18, r18, nx⟩ => ?_
              exact hst I18 r17 r18 nx fun s19 H19 I19 n19 => fin1 I19 n19
        exact compStart1D_ok loop1 (T1.self X.A 0 _ _ _ st11 loop1)
  exact codeAny_compStart_dict loop (T.self X.A 0 _ _ _ st4 loop)
end
end Pz
end
section
set_option Elab.async false
set_option linter.all false
set_option maxRecDepth 100000
set_option maxHeartbeats 8000000
/-! PzQ: dict and list comprehensions with one or two fors, by value. -/
namespace Pz
open PySem PySem.Spec PyProof.Rows L2
section
variable {X : Cx}
theorem pe_dg {o0 : Addr → HO} {st : StG} {kx vx tg iter : Expr} {ifs : List Expr} {scope : Scope} {own : List (Str × Nat)} {pos : Pos} {wi : TI} {g : TG} {tt : TT} {tk tv : TE} (hnew : NewG X o0) (hst : StoreG X scope st) (hc : X.calm = true) (hN : X.N.Nodup) (hi : PI X tg iter wi) (ok : BlkOk X.N X.env.scope scope own)
    (hg : ∀ (s : Shared) (H : Hp) (C : Addr) (cl : List (Str × Addr)) (fp : List Addr), PG (X.blk s H scope (compEnvC scope cl C X.env) fp) tg g) (ht : ∀ (s : Shared) (H : Hp) (C : Addr) (cl : List (Str × Addr)) (fp : List Addr), PTs (X.blk s H scope (compEnvC scope cl C X.env) fp) ifs tt)
    (hk : ∀ (s : Shared) (H : Hp) (C : Addr) (cl : List (Str × Addr)) (fp : List Addr), PE (X.blk s H scope (compEnvC scope cl C X.env) fp) kx tk)
    (he : ∀ (s : Shared) (H : Hp) (C : Addr) (cl : List (Str × Addr)) (fp : List Addr), PE (X.blk s H scope (compEnvC scope cl C X.env) fp) vx tv) (hs : ∀ x, foldedSetIterable iter X.env x = pure x := by intro _; rfl) :
    PE X (.DictComp kx vx [⟨tg, iter, ifs, 0⟩] scope pos) (tDg o0 st wi g tt tk tv (own.map (·.2))) := by
  refine ⟨fun pins s σ H Q I h => ?_⟩
  rw [arm_eval_DictComp]
  refine dg_core hc hN I hi ok hg ht hk he hs hnew hst h fun D C s' m H' I' q hn f => ⟨m, hn, fun h'' sb => ?_⟩
  obtain ⟨f0, f1, f2, f3, f4, f5⟩ := f
  exact ⟨.ref D, H', I'.turned (t' := s'.toks) (fun b o hb e => (sb.2 b hb).trans e) f0 f1 f3 f4 f5, rfl, q⟩
theorem ps_setDg {o0 : Addr → HO} {st : StG} {i : Nat} {y : Str} {py : Pos} {kx vx tg iter : Expr} {ifs : List Expr} {scope : Scope} {own : List (Str × Nat)} {pos spos : Pos} {wi : TI} {g : TG} {tt : TT} {tk tv : TE} (hnew : NewG X o0) (hst : StoreG X scope st) (hc : X.calm = true) (hN : X.N.Nodup) (hy : X.N[i]? = some y) (hyl : X.env.scope.names.lookup y = some .local)
    (hsw : swapsWith (.DictComp kx vx [⟨tg, iter, ifs, 0⟩] scope pos) (some (.Name y py)) spos.line X.env = pure true) (hi : PI X tg iter wi) (ok : BlkOk X.N X.env.scope scope own)
    (hg : ∀ (s : Shared) (H : Hp) (C : Addr) (cl : List (Str × Addr)) (fp : List Addr), PG (X.blk s H scope (compEnvC scope cl C X.env) fp) tg g) (ht : ∀ (s : Shared) (H : Hp) (C : Addr) (cl : List (Str × Addr)) (fp : List Addr), PTs (X.blk s H scope (compEnvC scope cl C X.env) fp) ifs tt)
    (hk : ∀ (s : Shared) (H : Hp) (C : Addr) (cl : List (Str × Addr)) (fp : List Addr), PE (X.blk s H scope (compEnvC scope cl C X.env) fp) kx tk)
    (he : ∀ (s : Shared) (H : Hp) (C : Addr) (cl : List (Str × Addr)) (fp : List Addr), PE (X.blk s H scope (compEnvC scope cl C X.env) fp) vx tv) (hs : ∀ x, foldedSetIterable iter X.env x = pure x := by intro _; rfl) :
    PS X (.Assign [.Name y py] (.DictComp kx vx [⟨tg, iter, ifs, 0⟩] scope pos) spos) (tAsg (tDg o0 st wi g tt tk tv (own.map (·.2))) (gName i)) := by
  refine ⟨fun pins s σ H D I h => ?_⟩
  rw [exec_Assign_Name_used _ _ _ _ hsw]
  refine wpAny_bind (wpAny_standAt (wpAny_bind ?_))
  show wpAny _ X.A (do let _ ← comprehension (.DictComp kx vx [⟨tg, iter, ifs, 0⟩] scope pos) scope X.env (firstIterPos [⟨tg, iter, ifs, 0⟩] pos) newDict false (eval iter X.env) (some (assign (.Name y py) X.env))) _ _ s
  have h : tDg o0 st wi g tt tk tv (own.map (·.2)) σ H (fun x H1 => gName i x σ H1 D.nx) := h
  refine wpAny_bind (thn (dg_core (Qf := fun _ s' => SP X pins D .next s') hc hN I hi ok hg ht hk he hs hnew hst h fun L C s' m H' I' q hn f => ?_) fun _ s' hq => wpAny_pure (wpAny_pure hq))
  show wpAny _ _ (assign (.Name y py) X.env (.ref L)) _ _ _
  refine wpAny_assign_Name (store_ok2 (v := V.ref L) I' hN hy (.inl hyl) rfl (fun s2 I2 ⟨a, sb, ha⟩ => ?_) (.inr hyl))
  obtain ⟨f0, f1, f2, f3, f4, f5⟩ := f
  have haC : C ≠ a := by
    rcases ha with z | z
    · rw [z]; exact f1
    · exact fun e => f4 y a z e.symm
  refine ⟨m, hn.sameBut sb haC, fun h3 sb3 => ?_⟩
  exact ⟨_, H', I2.turned (t' := s2.toks) (fun b o hb e => (sb3.2 b hb).trans e) f0 f1 f3 f4 f5, q⟩
theorem ps_setDg2 {o0 : Addr → HO} {st : StG} {i : Nat} {y : Str} {py : Pos} {kx vx tg iter tg1 iter1 : Expr} {ifs ifs1 : List Expr} {scope : Scope} {own : List (Str × Nat)} {vs1 : List Nat} {pos spos : Pos} {wi wi1 : TI} {g g1 : TG} {tt tt1 : TT} {tk tv : TE} (hnew : NewG X o0) (hst : StoreG X scope st) (hc : X.calm = true) (hN : X.N.Nodup) (hy : X.N[i]? = some y) (hyl : X.env.scope.names.lookup y = some .local)
    (hsw : swapsWith (.DictComp kx vx [⟨tg, iter, ifs, 0⟩, ⟨tg1, iter1, ifs1, 0⟩] scope pos) (some (.Name y py)) spos.line X.env = pure true) (hi : PI X tg iter wi) (ok : BlkOk X.N X.env.scope scope own) (hv : ∀ i ∈ vs1, i ∈ own.map (·.2))
    (hg : ∀ (s : Shared) (H : Hp) (C : Addr) (cl : List (Str × Addr)) (fp : List Addr), PG (X.blk s H scope (compEnvC scope cl C X.env) fp) tg g) (ht : ∀ (s : Shared) (H : Hp) (C : Addr) (cl : List (Str × Addr)) (fp : List Addr), PTs (X.blk s H scope (compEnvC scope cl C X.env) fp) ifs tt)
    (hk : ∀ (s : Shared) (H : Hp) (C : Addr) (cl : List (Str × Addr)) (fp : List Addr), PE (X.blk s H scope (compEnvC scope cl C X.env) fp) kx tk)
    (he : ∀ (s : Shared) (H : Hp) (C : Addr) (cl : List (Str × Addr)) (fp : List Addr), PE (X.blk s H scope (compEnvC scope cl C X.env) fp) vx tv) (hs : ∀ x, foldedSetIterable iter X.env x = pure x)
    (hi1 : ∀ (s : Shared) (H : Hp) (C : Addr) (cl : List (Str × Addr)) (fp : List Addr), PI (X.blk s H scope (compEnvC scope cl C X.env) fp) tg1 iter1 wi1)
    (hg1 : ∀ (s : Shared) (H : Hp) (C : Addr) (cl : List (Str × Addr)) (fp : List Addr), PG (X.blk s H scope (compEnvC scope cl C X.env) fp) tg1 g1)
    (ht1 : ∀ (s : Shared) (H : Hp) (C : Addr) (cl : List (Str × Addr)) (fp : List Addr), PTs (X.blk s H scope (compEnvC scope cl C X.env) fp) ifs1 tt1)
    (hs1 : ∀ env x, foldedSetIterable iter1 env x = pure x) :
    PS X (.Assign [.Name y py] (.DictComp kx vx [⟨tg, iter, ifs, 0⟩, ⟨tg1, iter1, ifs1, 0⟩] scope pos) spos) (tAsg (tDg2 o0 st wi g tt wi1 g1 tt1 tk tv (own.map (·.2)) vs1) (gName i)) := by
  refine ⟨fun pins s σ H D I h => ?_⟩
  rw [exec_Assign_Name_used _ _ _ _ hsw]
  refine wpAny_bind (wpAny_standAt (wpAny_bind ?_))
  show wpAny _ X.A (do let _ ← comprehension (.DictComp kx vx [⟨tg, iter, ifs, 0⟩, ⟨tg1, iter1, ifs1, 0⟩] scope pos) scope X.env (firstIterPos [⟨tg, iter, ifs, 0⟩, ⟨tg1, iter1, ifs1, 0⟩] pos) newDict false (eval iter X.env) (some (assign (.Name y py) X.env))) _ _ s
  have h : tDg2 o0 st wi g tt wi1 g1 tt1 tk tv (own.map (·.2)) vs1 σ H (fun x H1 => gName i x σ H1 D.nx) := h
  refine wpAny_bind (thn (dg2_core (Qf := fun _ s' => SP X pins D .next s') hc hN I hi ok hv hg ht hk he hs hi1 hg1 ht1 hs1 hnew hst h fun L C s' m H' I' q hn f => ?_) fun _ s' hq => wpAny_pure (wpAny_pure hq))
  show wpAny _ _ (assign (.Name y py) X.env (.ref L)) _ _ _
  refine wpAny_assign_Name (store_ok2 (v := V.ref L) I' hN hy (.inl hyl) rfl (fun s2 I2 ⟨a, sb, ha⟩ => ?_) (.inr hyl))
  obtain ⟨f0, f1, f2, f3, f4, f5⟩ := f
  have haC : C ≠ a := by
    rcases ha with z | z
    · rw [z]; exact f1
    · exact fun e => f4 y a z e.symm
  refine ⟨m, hn.sameBut sb haC, fun h3 sb3 => ?_⟩
  exact ⟨_, H', I2.turned (t' := s2.toks) (fun b o hb e => (sb3.2 b hb).trans e) f0 f1 f3 f4 f5, q⟩
/-! ### keys that are ints and texts -/
def stK : StG := fun y z D H N => ∃ kvs k, y = kV k ∧ H D = some (.dK kvs) ∧ kvs.length < sizeLine ∧ N (upd H D (.dK (putK kvs k z)))
theorem newK : NewG X (fun _ => .dK []) := fun H h hb => dk_empty h hb
theorem storeK {scope : Scope} : StoreG X scope stK := by
  intro s3 H3 ce fp pins s σ H E D y z u r N Q I ry rz h hq
  obtain ⟨kvs, k, rfl, hD, hz, hn⟩ := h
  exact d_dictSet (X := X.blk s3 H3 scope ce fp) I hD hz ry rz fun s' I' => hq s' _ I' hn
end
def dcAll (kf : D → Key) (vf : D → D) (ds : List D) : List (Key × D) := ds.foldl (fun acc d => putD acc (kf d) (vf d)) []
theorem dcAll_app {kf : D → Key} {vf : D → D} {ds : List D} {d : D} : dcAll kf vf (ds ++ [d]) = putD (dcAll kf vf ds) (kf d) (vf d) := by
  unfold dcAll
  rw [List.foldl_append]
  rfl
theorem putD_len {kvs : List (Key × D)} {k : Key} {v : D} : (putD kvs k v).length ≤ kvs.length + 1 := by
  unfold putD
  split <;> simp
theorem dcAll_len {kf : D → Key} {vf : D → D} : ∀ {ds : List D}, (dcAll kf vf ds).length ≤ ds.length := by
  intro ds
  have : ∀ (ds : List D) (acc : List (Key × D)), (ds.foldl (fun acc d => putD acc (kf d) (vf d)) acc).length ≤ acc.length + ds.length := by
    intro ds
    induction ds with
    | nil => intro acc; simp
    | cons d ds ih =>
      intro acc
      have h1 := ih (putD acc (kf d) (vf d))
      have h2 := putD_len (kvs := acc) (k := kf d) (v := vf d)
      simp only [List.foldl_cons, List.length_cons]
      omega
  simpa [dcAll] using this ds []
section
variable {X : Cx} {F : Fr} {en : En} {tg e : Expr} {ds : List D} {d : D} {pos : Pos} {G : Gx} {M : Addr → Prop} {H : Hp} {σ : St}
/-- the comprehension's own object is written, all else stays -/
theorem RepS.own_upd {H0 H' : Hp} {L : Addr} {o : HO} (R0 : RepS G F M σ H0 en) (hL0 : H0 L = none) (R' : RepS G F (Mp M L) σ H' en) (hfr : F.fresh L) : RepS G F (Mp M L) σ (upd H' L o) en ∧ Kp (Mp M L) (Mp M L) H' (upd H' L o) := by
  have k6 : Kp (Mp M L) (Mp M L) H' (upd H' L o) := ⟨fun b x e hm => by rw [upd_ne fun z => hm (.inr z)]; exact e, fun _ _ h => h⟩
  refine ⟨⟨F.up _ _ _ R'.inv hfr, R'.m0, R'.mf, fun a ha => ?_, fun j d h => ?_, R'.sep, fun j d h => ?_, R'.len⟩, k6⟩
  · by_cases e : a = L
    · rw [e, upd_same]; exact fun z => nomatch z
    · rw [upd_ne e]; exact R'.dom a ha
  · obtain ⟨b, h1, h2, h3, h4, h5⟩ := R'.own j d h
    have nb : b ≠ L := fun e => by
      obtain ⟨b', g1', g2', _⟩ := R0.own j d h
      rw [h1] at g1'
      cases g1'
      exact R0.dom b g2' (e ▸ hL0)
    exact ⟨b, h1, h2, h3, h4, h5.kp k6 fun o e => by rw [upd_ne nb]; exact e⟩
  · obtain ⟨w, h1, h2⟩ := R'.val j d h
    exact ⟨w, h1, h2.kp k6⟩
theorem f_dc {kx vx iter : Expr} {scope : Scope} {is : List Nat} {sp : D → Option (List D)} (own : List (Str × Nat)) (kf : D → Key) (vf : D → D) (hc : X.calm = true) (hN : X.N.Nodup) (ok : BlkOk X.N X.env.scope scope own) (hi : Ei X F tg iter en ds)
    (ht : TgB X F scope tg is sp) (he : ∀ d ∈ ds, ∃ items, sp d = some items ∧ EvB X F scope (setE (wipeE en (own.map (·.2))) is items) kx (D.ofKey (kf d)) ∧ EvB X F scope (setE (wipeE en (own.map (·.2))) is items) vx (vf d)) (hz : ds.length ≤ 1000000) (hown : ∀ i ∈ is, i ∈ own.map (·.2) := by decide)
    (hfs : ∀ x, foldedSetIterable iter X.env x = pure x := by intro _; rfl) : Ef X F en (.DictComp kx vx [⟨tg, iter, [], 0⟩] scope pos) (dk (dcAll kf vf ds)) := by
  let tk : TE := fun σ H Q => ∃ en' d', EvB X F scope en' kx d' ∧ tW (gx X) F en' (fun z => z = d') σ H Q
  let tv : TE := fun σ H Q => ∃ en' d', EvB X F scope en' vx d' ∧ tW (gx X) F en' (fun z => z = d') σ H Q
  let tgg : TG := fun v σ H Q => ∀ (s : Shared) (H0 : Hp) (C : Addr) (cl : List (Str × Addr)) (fp : List Addr), tgR (X.blk s H0 scope (compEnvC scope cl C X.env) fp) tg v σ H Q
  refine PE.wk (pe_dg (tk := tk) (tv := tv) (g := tgg) newK storeK hc hN hi ok (fun s H C cl fp => ⟨fun pins s' σ H' v u Q I r q => q s H C cl fp pins s' u I r⟩) (fun _ _ _ _ _ => pts_nil)
    (fun s H C cl fp => ⟨fun pins s' σ H' Q I ⟨en', d', h, q⟩ => PE.run (h s H C cl fp) pins s' σ H' Q I q⟩) (fun s H C cl fp => ⟨fun pins s' σ H' Q I ⟨en', d', h, q⟩ => PE.run (h s H C cl fp) pins s' σ H' Q I q⟩) hfs) fun σ H Q ⟨M, R, q⟩ => ⟨M, R, fun J H1 i1 g1 jok => ?_⟩
  intro L hL
  have R1 := R.step i1 g1
  have hL0 : H L = none := none_back R i1 g1 hL
  have hfr := F.nw _ _ R.inv hL0
  have i2 : F.I (upd H1 L (.dK [])) := F.up _ _ _ i1 hfr
  have R2 : RepS (gx X) F (Mp M L) σ (upd H1 L (.dK [])) en := R1.more i2 (Gr.new hL) hL hfr (by rw [upd_same]; exact fun z => nomatch z)
  have k12 : Kp M (Mp M L) H1 (upd H1 L (.dK [])) := .more hL fun b o e _ => by rw [upd_ne (ne_of_none e hL)]; exact e
  let St' := fun (i : Nat) (H' : Hp) => RepS (gx X) F (Mp M L) σ H' en ∧ Gr F H H' ∧ Kp M (Mp M L) H1 H' ∧ ∃ acc, H' L = some (.dK acc) ∧ Rpk (gx X) (Mp M L) H' acc (dcAll kf vf (ds.take i))
  refine ⟨fun i m H' => St' i H' ∧ i ≤ ds.length ∧ m = ds.length - i, ⟨ds.length, ⟨R2, g1.trans (Gr.new hL), k12, [], upd_same, .nil⟩, Nat.zero_le _, rfl⟩, ?_⟩
  rintro i m H' ⟨⟨R', gr, k', acc, hacc, racc⟩, hle, rfl⟩
  have jk := jok (Mp M L) H' k' R'.dom i
  by_cases hlt : i < ds.length
  · have hdi : ds[i]? = some ds[i] := List.getElem?_eq_getElem hlt
    have hmem : ds[i] ∈ ds := List.getElem_mem hlt
    obtain ⟨go, yld⟩ := jk.1 _ hdi
    obtain ⟨items, hsp, hek, hev⟩ := he _ hmem
    refine .inr ⟨go, St' (i + 1), fun H3 z => ⟨ds.length - (i + 1), by omega, z, hlt, rfl⟩, fun x H3 y => ?_⟩
    obtain ⟨sm, rx⟩ := yld x H3 y
    have R3 := R'.same sm
    have k3 : Kp (Mp M L) (Mp M L) H' H3 := R'.kp (Gr.same sm)
    have R3w := R3.wipe (own.map (·.2))
    intro s0 H0 C cl fp
    refine ht s0 H0 C cl fp (Mp M L) _ H3 _ x _ items _ R3w rx hsp fun vs rs hl => ⟨?_, ?_⟩
    · rw [wipe_setV hown, wipe_idem]
    · have R4 := R3w.setl (is := is) rs
      refine iteT (B := St' (i + 1) H3) ⟨_, _, hek, Mp M L, R4, fun v H4 d4 i4 g4 rk e4 => ?_⟩
      subst e4
      have ek := ofKey_kV rk
      subst ek
      have R5 := R4.step i4 g4
      refine ⟨_, _, hev, Mp M L, R5, fun v H5 d5 i5 g5 rv e5 => ?_⟩
      subst e5
      have gL5 : H5 L = some (.dK acc) := g5 L _ (g4 L _ (sm L _ hacc) fun z => (F.zf L z).2 hfr) fun z => (F.zf L z).2 hfr
      have k4 := k3.trans (R3.kp g4)
      have R3e := R3.step i4 g4
      have k5 := k4.trans (R3e.kp g5)
      refine ⟨acc, kf ds[i], rfl, gL5, ?_, ?_⟩
      · rw [racc.length]
        exact Nat.lt_of_le_of_lt dcAll_len (Nat.lt_of_le_of_lt (List.length_take_le _ _) (Nat.lt_of_le_of_lt (Nat.le_trans hle hz) (by decide)))
      · obtain ⟨R6, k6⟩ := RepS.own_upd (o := .dK (putK acc (kf ds[i]) v)) R hL0 (R3e.step i5 g5) hfr
        refine ⟨R6, fun b o e z => ?_, k'.trans (k5.trans k6), _, upd_same, ?_⟩
        · rw [upd_ne (ne_of_none e hL0)]
          exact ((gr.trans (Gr.same sm)).trans (g4.trans g5)) b o e z
        · have et : ds.take (i + 1) = ds.take i ++ [ds[i]] := by rw [List.take_add_one, hdi]; rfl
          rw [et, dcAll_app]
          exact Rpk.put (rv.kp k6) (racc.kp (k5.trans k6))
  · have e1 : i = ds.length := by omega
    subst e1
    rw [List.take_length] at racc
    exact .inl ⟨jk.2 (Nat.le_refl _), q L H' _ R'.inv gr hL0 (.dk hacc racc.back) rfl⟩
end
end Pz
end
section
set_option Elab.async false
set_option linter.all false
set_option maxRecDepth 100000
set_option maxHeartbeats 8000000
/-! PzR: name = {k: v for a in x for b in y}, name = [e for a in x for b in y]. -/
namespace Pz
open PySem PySem.Spec PyProof.Rows L2
section
variable {X : Cx} {F : Fr} {en : En} {tg tg1 e : Expr} {ds : List D} {d : D} {pos spos : Pos} {k : KD} {rest : List Stmt}
def EiB (X : Cx) (F : Fr) (scope : Scope) (tg iter : Expr) (en : En) (ds : List D) : Prop := ∀ (s : Shared) (H : Hp) (C : Addr) (cl : List (Str × Addr)) (fp : List Addr), Ei (X.blk s H scope (compEnvC scope cl C X.env) fp) F tg iter en ds
def tgA (X : Cx) (scope : Scope) (tg : Expr) : TG := fun v σ H Q => ∀ (s : Shared) (H0 : Hp) (C : Addr) (cl : List (Str × Addr)) (fp : List Addr), tgR (X.blk s H0 scope (compEnvC scope cl C X.env) fp) tg v σ H Q
theorem tgA_ok {scope : Scope} : ∀ (s : Shared) (H : Hp) (C : Addr) (cl : List (Str × Addr)) (fp : List Addr), PG (X.blk s H scope (compEnvC scope cl C X.env) fp) tg (tgA X scope tg) := fun s H C cl fp => ⟨fun pins s' σ H' v u Q I r q => q s H C cl fp pins s' u I r⟩
def teA (X : Cx) (F : Fr) (scope : Scope) (e : Expr) : TE := fun σ H Q => ∃ en' d', EvB X F scope en' e d' ∧ tW (gx X) F en' (fun z => z = d') σ H Q
theorem teA_ok {scope : Scope} : ∀ (s : Shared) (H : Hp) (C : Addr) (cl : List (Str × Addr)) (fp : List Addr), PE (X.blk s H scope (compEnvC scope cl C X.env) fp) e (teA X F scope e) := fun s H C cl fp => ⟨fun pins s' σ H' Q I ⟨en', d', h, q⟩ => PE.run (h s H C cl fp) pins s' σ H' Q I q⟩
def tiA (X : Cx) (F : Fr) (scope : Scope) (tg iter : Expr) : TI := fun σ H R => ∃ en' ds', EiB X F scope tg iter en' ds' ∧ tI (gx X) F en' ds' σ H R
theorem tiA_ok {scope : Scope} : ∀ (s : Shared) (H : Hp) (C : Addr) (cl : List (Str × Addr)) (fp : List Addr), PI (X.blk s H scope (compEnvC scope cl C X.env) fp) tg e (tiA X F scope tg e) := fun s H C cl fp => ⟨fun pins s' σ H' R I ⟨en', d', h, q⟩ => PI.run (h s H C cl fp) pins s' σ H' R I q⟩
theorem take_flat {f1 : D → List D} {i : Nat} {d : D} (h : ds[i]? = some d) : (ds.take (i + 1)).flatMap f1 = (ds.take i).flatMap f1 ++ f1 d := by
  rw [List.take_add_one, h]
  simp
theorem take_flat_le {f1 : D → List D} (i : Nat) (ds1 : List D) (d : D) (h : ds[i]? = some d) (j : Nat) : ((ds.take i).flatMap f1 ++ (f1 d).take j).length ≤ (ds.flatMap f1).length := by
  have e : ds = ds.take i ++ d :: ds.drop (i + 1) := by
    have hi := (List.getElem?_eq_some_iff.mp h)
    rw [← hi.2, List.getElem_cons_drop, List.take_append_drop]
  conv => rhs; rw [e]
  rw [List.flatMap_append, List.flatMap_cons]
  simp only [List.length_append, List.length_take]
  omega
theorem s_dc2 {kx vx iter iter1 : Expr} {scope : Scope} {is is1 : List Nat} {sp sp1 : D → Option (List D)} {x : Str} {px : Pos} (i0 : Nat) (own : List (Str × Nat)) (f1 : D → List D) (kf : D → Key) (vf : D → D) (hc : X.calm = true) (hN : X.N.Nodup) (ok : BlkOk X.N X.env.scope scope own) (hi : Ei X F tg iter en ds)
    (ht : TgB X F scope tg is sp) (ht1 : TgB X F scope tg1 is1 sp1)
    (he : ∀ d ∈ ds, ∃ items, sp d = some items ∧ EiB X F scope tg1 iter1 (setE (wipeE en (own.map (·.2))) is items) (f1 d) ∧
      ∀ d1 ∈ f1 d, ∃ items1, sp1 d1 = some items1 ∧ EvB X F scope (setE (wipeE (setE (wipeE en (own.map (·.2))) is items) is1) is1 items1) kx (D.ofKey (kf d1)) ∧ EvB X F scope (setE (wipeE (setE (wipeE en (own.map (·.2))) is items) is1) is1 items1) vx (vf d1))
    (hz : (ds.flatMap f1).length ≤ 1000000) (h : Sx X F (en.set i0 (some (.own (dk (dcAll kf vf (ds.flatMap f1)))))) rest k) (hown : ∀ i ∈ is, i ∈ own.map (·.2) := by decide) (hown1 : ∀ i ∈ is1, i ∈ own.map (·.2) := by decide)
    (hx : X.N[i0]? = some x := by rfl) (hxl : X.env.scope.names.lookup x = some .local := by rfl) (hsw : swapsWith (.DictComp kx vx [⟨tg, iter, [], 0⟩, ⟨tg1, iter1, [], 0⟩] scope pos) (some (.Name x px)) spos.line X.env = pure true := by rfl)
    (hfs : ∀ x, foldedSetIterable iter X.env x = pure x := by intro _; rfl) (hfs1 : ∀ env x, foldedSetIterable iter1 env x = pure x := by intro _ _; rfl) :
    Sx X F en (.Assign [.Name x px] (.DictComp kx vx [⟨tg, iter, [], 0⟩, ⟨tg1, iter1, [], 0⟩] scope pos) spos :: rest) k := by
  refine PSs.wk (pss_cons (ps_setDg2 (tk := teA X F scope kx) (tv := teA X F scope vx) (g := tgA X scope tg) (g1 := tgA X scope tg1) (wi1 := tiA X F scope tg1 iter1) (vs1 := is1) newK storeK hc hN hx hxl hsw hi ok hown1 tgA_ok (fun _ _ _ _ _ => pts_nil) teA_ok teA_ok hfs tiA_ok tgA_ok (fun _ _ _ _ _ => pts_nil) hfs1) h) fun E σ H ⟨M, R, q⟩ => ⟨M, R, fun J H1 i1 g1 jok => ?_⟩
  intro L hL
  have R1 := R.step i1 g1
  have hL0 : H L = none := none_back R i1 g1 hL
  have hfr := F.nw _ _ R.inv hL0
  have i2 : F.I (upd H1 L (.dK [])) := F.up _ _ _ i1 hfr
  have R2 : RepS (gx X) F (Mp M L) σ (upd H1 L (.dK [])) en := R1.more i2 (Gr.new hL) hL hfr (by rw [upd_same]; exact fun z => nomatch z)
  have k12 : Kp M (Mp M L) H1 (upd H1 L (.dK [])) := .more hL fun b o e _ => by rw [upd_ne (ne_of_none e hL)]; exact e
  let Ac := fun (dn : List D) (H' : Hp) => RepS (gx X) F (Mp M L) σ H' en ∧ Gr F H H' ∧ Kp M (Mp M L) H1 H' ∧ ∃ acc, H' L = some (.dK acc) ∧ Rpk (gx X) (Mp M L) H' acc (dcAll kf vf dn)
  refine ⟨fun i m H' => Ac ((ds.take i).flatMap f1) H' ∧ i ≤ ds.length ∧ m = ds.length - i, ⟨ds.length, ⟨R2, g1.trans (Gr.new hL), k12, [], upd_same, .nil⟩, Nat.zero_le _, rfl⟩, ?_⟩
  rintro i m H' ⟨⟨R', gr, k', acc, hacc, racc⟩, hle, rfl⟩
  have jk := jok (Mp M L) H' k' R'.dom i
  by_cases hlt : i < ds.length
  · have hdi : ds[i]? = some ds[i] := List.getElem?_eq_getElem hlt
    have hmem : ds[i] ∈ ds := List.getElem_mem hlt
    obtain ⟨go, yld⟩ := jk.1 _ hdi
    obtain ⟨items, hsp, hei, hel⟩ := he _ hmem
    refine .inr ⟨go, fun H3 => Ac ((ds.take (i + 1)).flatMap f1) H3, fun H3 z => ⟨ds.length - (i + 1), by omega, z, hlt, rfl⟩, fun x H3 y => ?_⟩
    obtain ⟨sm, rx⟩ := yld x H3 y
    have R3 := R'.same sm
    have k3 : Kp (Mp M L) (Mp M L) H' H3 := R'.kp (Gr.same sm)
    intro s0 H0 C cl fp
    refine ht s0 H0 C cl fp (Mp M L) _ H3 _ x _ items _ (R3.wipe (own.map (·.2))) rx hsp fun vs rs hl => ⟨?_, ?_⟩
    · rw [wipe_setV hown, wipe_idem]
    · have rs : Rps (gx X) (Mp M L) H3 vs items := rs
      refine iteT (B := Ac ((ds.take (i + 1)).flatMap f1) H3) ⟨_, _, hei, Mp M L, (R3.wipe (own.map (·.2))).setl (is := is) rs, fun J1 H4 i4 g4 jok1 => ?_⟩
      -- the second loop
      have R4 := R3.step i4 g4
      have k34 : Kp (Mp M L) (Mp M L) H3 H4 := R3.kp g4
      have hacc4 : H4 L = some (.dK acc) := g4 L _ (sm L _ hacc) fun z => (F.zf L z).2 hfr
      refine ⟨fun j n H' => (Ac ((ds.take i).flatMap f1 ++ (f1 ds[i]).take j) H' ∧ Kp (Mp M L) (Mp M L) H4 H') ∧ j ≤ (f1 ds[i]).length ∧ n = (f1 ds[i]).length - j, ⟨(f1 ds[i]).length, ⟨⟨R4, (gr.trans (Gr.same sm)).trans g4, k'.trans (k3.trans k34), acc, hacc4, by rw [List.take_zero, List.append_nil]; exact racc.kp (k3.trans k34)⟩, .refl⟩, Nat.zero_le _, rfl⟩, ?_⟩
      rintro j n H5 ⟨⟨⟨R5, gr5, k5', acc5, hacc5, racc5⟩, k45⟩, hle5, rfl⟩
      have jk1 := jok1 (Mp M L) H5 k45 R5.dom j
      by_cases hlt1 : j < (f1 ds[i]).length
      · have hdj : (f1 ds[i])[j]? = some (f1 ds[i])[j] := List.getElem?_eq_getElem hlt1
        have hmem1 : (f1 ds[i])[j] ∈ f1 ds[i] := List.getElem_mem hlt1
        obtain ⟨go1, yld1⟩ := jk1.1 _ hdj
        obtain ⟨items1, hsp1, hek, hev⟩ := hel _ hmem1
        refine .inr ⟨go1, fun H6 => Ac ((ds.take i).flatMap f1 ++ (f1 ds[i]).take (j + 1)) H6 ∧ Kp (Mp M L) (Mp M L) H4 H6, fun H6 z => ⟨(f1 ds[i]).length - (j + 1), by omega, z, hlt1, rfl⟩, fun x1 H6 y1 => ?_⟩
        obtain ⟨sm1, rx1⟩ := yld1 x1 H6 y1
        have R6 := R5.same sm1
        have k56 : Kp (Mp M L) (Mp M L) H5 H6 := R5.kp (Gr.same sm1)
        have rs6 : Rps (gx X) (Mp M L) H6 vs items := rs.kp ((k34.trans k45).trans k56)
        intro s1 H0' C1 cl1 fp1
        refine ht1 s1 H0' C1 cl1 fp1 (Mp M L) _ H6 _ x1 _ items1 _ (((R6.wipe (own.map (·.2))).setl (is := is) rs6).wipe is1) rx1 hsp1 fun vs1 rs1 hl1 => ⟨?_, ?_⟩
        · rw [wipe_setV (fun _ h => h), wipe_idem]
        · have rs1 : Rps (gx X) (Mp M L) H6 vs1 items1 := rs1
          refine iteT (B := Ac ((ds.take i).flatMap f1 ++ (f1 ds[i]).take (j + 1)) H6 ∧ Kp (Mp M L) (Mp M L) H4 H6) ⟨_, _, hek, Mp M L, ((((R6.wipe (own.map (·.2))).setl (is := is) rs6).wipe is1).setl (is := is1) rs1), fun v H7 d7 i7 g7 rk e7 => ?_⟩
          subst e7
          have ek := ofKey_kV rk
          subst ek
          have R7 := R6.step i7 g7
          have k67 : Kp (Mp M L) (Mp M L) H6 H7 := R6.kp g7
          refine ⟨_, _, hev, Mp M L, (((((R6.wipe (own.map (·.2))).setl (is := is) rs6).wipe is1).setl (is := is1) rs1)).step i7 g7, fun v H8 d8 i8 g8 rv e8 => ?_⟩
          subst e8
          have R8 := R7.step i8 g8
          have k78 : Kp (Mp M L) (Mp M L) H7 H8 := R7.kp g8
          have gL8 : H8 L = some (.dK acc5) := g8 L _ (g7 L _ (sm1 L _ hacc5) fun z => (F.zf L z).2 hfr) fun z => (F.zf L z).2 hfr
          refine ⟨acc5, kf (f1 ds[i])[j], rfl, gL8, ?_, ?_⟩
          · rw [racc5.length]
            exact Nat.lt_of_le_of_lt dcAll_len (Nat.lt_of_le_of_lt (Nat.le_trans (take_flat_le i [] _ hdi j) hz) (by decide))
          · obtain ⟨R9, k89⟩ := RepS.own_upd (o := .dK (putK acc5 (kf (f1 ds[i])[j]) v)) R hL0 R8 hfr
            have kk := (k56.trans (k67.trans k78)).trans k89
            refine ⟨⟨R9, fun b o e z => ?_, k5'.trans kk, _, upd_same, ?_⟩, k45.trans kk⟩
            · rw [upd_ne (ne_of_none e hL0)]
              exact ((gr5.trans (Gr.same sm1)).trans (g7.trans g8)) b o e z
            · have et : (f1 ds[i]).take (j + 1) = (f1 ds[i]).take j ++ [(f1 ds[i])[j]] := by rw [List.take_add_one, hdj]; rfl
              rw [et, ← List.append_assoc, dcAll_app]
              exact Rpk.put (rv.kp k89) (racc5.kp kk)
      · have e1 : j = (f1 ds[i]).length := by omega
        subst e1
        refine .inl ⟨jk1.2 (Nat.le_refl _), R5, gr5, k5', acc5, hacc5, ?_⟩
        rw [take_flat hdi]
        rw [List.take_length] at racc5
        exact racc5
  · have e1 : i = ds.length := by omega
    subst e1
    rw [List.take_length] at racc
    refine .inl ⟨jk.2 (Nat.le_refl _), ?_⟩
    obtain ⟨R9, n9⟩ : RepS (gx X) F (Mp M L) σ H' en ∧ NewO (gx X) F (Mp M L) H' σ en L (dk (dcAll kf vf (ds.flatMap f1))) := NewO.of R hL0 R'.inv gr (.dk hacc racc.back)
    exact ⟨_, R9.seto n9, q.step (.more hL0 (R.kp gr).at_)⟩
theorem s_lc2 {elt iter iter1 : Expr} {scope : Scope} {is is1 : List Nat} {sp sp1 : D → Option (List D)} {x : Str} {px : Pos} (i0 : Nat) (own : List (Str × Nat)) (f1 : D → List D) (gf : D → D) (hc : X.calm = true) (hN : X.N.Nodup) (ok : BlkOk X.N X.env.scope scope own) (hi : Ei X F tg iter en ds)
    (ht : TgB X F scope tg is sp) (ht1 : TgB X F scope tg1 is1 sp1)
    (he : ∀ d ∈ ds, ∃ items, sp d = some items ∧ EiB X F scope tg1 iter1 (setE (wipeE en (own.map (·.2))) is items) (f1 d) ∧
      ∀ d1 ∈ f1 d, ∃ items1, sp1 d1 = some items1 ∧ EvB X F scope (setE (wipeE (setE (wipeE en (own.map (·.2))) is items) is1) is1 items1) elt (gf d1))
    (hz : (ds.flatMap f1).length ≤ 1000000) (h : Sx X F (en.set i0 (some (.own (.lst ((ds.flatMap f1).map gf))))) rest k) (hown : ∀ i ∈ is, i ∈ own.map (·.2) := by decide) (hown1 : ∀ i ∈ is1, i ∈ own.map (·.2) := by decide)
    (hx : X.N[i0]? = some x := by rfl) (hxl : X.env.scope.names.lookup x = some .local := by rfl) (hsw : swapsWith (.ListComp elt [⟨tg, iter, [], 0⟩, ⟨tg1, iter1, [], 0⟩] scope pos) (some (.Name x px)) spos.line X.env = pure true := by rfl)
    (hfs : ∀ x, foldedSetIterable iter X.env x = pure x := by intro _; rfl) (hfs1 : ∀ env x, foldedSetIterable iter1 env x = pure x := by intro _ _; rfl) :
    Sx X F en (.Assign [.Name x px] (.ListComp elt [⟨tg, iter, [], 0⟩, ⟨tg1, iter1, [], 0⟩] scope pos) spos :: rest) k := by
  refine PSs.wk (pss_cons (ps_setLc2 (te := teA X F scope elt) (g := tgA X scope tg) (g1 := tgA X scope tg1) (wi1 := tiA X F scope tg1 iter1) (vs1 := is1) hc hN hx hxl hsw hi ok hown1 tgA_ok (fun _ _ _ _ _ => pts_nil) tiA_ok tgA_ok (fun _ _ _ _ _ => pts_nil) teA_ok hfs hfs1) h) fun E σ H ⟨M, R, q⟩ => ⟨M, R, fun J H1 i1 g1 jok => ?_⟩
  intro L hL
  have R1 := R.step i1 g1
  have hL0 : H L = none := none_back R i1 g1 hL
  have hfr := F.nw _ _ R.inv hL0
  have i2 : F.I (upd H1 L (.lst [])) := F.up _ _ _ i1 hfr
  have R2 : RepS (gx X) F (Mp M L) σ (upd H1 L (.lst [])) en := R1.more i2 (Gr.new hL) hL hfr (by rw [upd_same]; exact fun z => nomatch z)
  have k12 : Kp M (Mp M L) H1 (upd H1 L (.lst [])) := .more hL fun b o e _ => by rw [upd_ne (ne_of_none e hL)]; exact e
  let Ac := fun (dn : List D) (H' : Hp) => RepS (gx X) F (Mp M L) σ H' en ∧ Gr F H H' ∧ Kp M (Mp M L) H1 H' ∧ ∃ acc, H' L = some (.lst acc) ∧ Rps (gx X) (Mp M L) H' acc (dn.map gf)
  refine ⟨fun i m H' => Ac ((ds.take i).flatMap f1) H' ∧ i ≤ ds.length ∧ m = ds.length - i, ⟨ds.length, ⟨R2, g1.trans (Gr.new hL), k12, [], upd_same, .nil⟩, Nat.zero_le _, rfl⟩, ?_⟩
  rintro i m H' ⟨⟨R', gr, k', acc, hacc, racc⟩, hle, rfl⟩
  have jk := jok (Mp M L) H' k' R'.dom i
  by_cases hlt : i < ds.length
  · have hdi : ds[i]? = some ds[i] := List.getElem?_eq_getElem hlt
    have hmem : ds[i] ∈ ds := List.getElem_mem hlt
    obtain ⟨go, yld⟩ := jk.1 _ hdi
    obtain ⟨items, hsp, hei, hel⟩ := he _ hmem
    refine .inr ⟨go, fun H3 => Ac ((ds.take (i + 1)).flatMap f1) H3, fun H3 z => ⟨ds.length - (i + 1), by omega, z, hlt, rfl⟩, fun x H3 y => ?_⟩
    obtain ⟨sm, rx⟩ := yld x H3 y
    have R3 := R'.same sm
    have k3 : Kp (Mp M L) (Mp M L) H' H3 := R'.kp (Gr.same sm)
    intro s0 H0 C cl fp
    refine ht s0 H0 C cl fp (Mp M L) _ H3 _ x _ items _ (R3.wipe (own.map (·.2))) rx hsp fun vs rs hl => ⟨?_, ?_⟩
    · rw [wipe_setV hown, wipe_idem]
    · have rs : Rps (gx X) (Mp M L) H3 vs items := rs
      refine iteT (B := Ac ((ds.take (i + 1)).flatMap f1) H3) ⟨_, _, hei, Mp M L, (R3.wipe (own.map (·.2))).setl (is := is) rs, fun J1 H4 i4 g4 jok1 => ?_⟩
      -- the second loop
      have R4 := R3.step i4 g4
      have k34 : Kp (Mp M L) (Mp M L) H3 H4 := R3.kp g4
      have hacc4 : H4 L = some (.lst acc) := g4 L _ (sm L _ hacc) fun z => (F.zf L z).2 hfr
      refine ⟨fun j n H' => (Ac ((ds.take i).flatMap f1 ++ (f1 ds[i]).take j) H' ∧ Kp (Mp M L) (Mp M L) H4 H') ∧ j ≤ (f1 ds[i]).length ∧ n = (f1 ds[i]).length - j, ⟨(f1 ds[i]).length, ⟨⟨R4, (gr.trans (Gr.same sm)).trans g4, k'.trans (k3.trans k34), acc, hacc4, by rw [List.take_zero, List.append_nil]; exact racc.kp (k3.trans k34)⟩, .refl⟩, Nat.zero_le _, rfl⟩, ?_⟩
      rintro j n H5 ⟨⟨⟨R5, gr5, k5', acc5, hacc5, racc5⟩, k45⟩, hle5, rfl⟩
      have jk1 := jok1 (Mp M L) H5 k45 R5.dom j
      by_cases hlt1 : j < (f1 ds[i]).length
      · have hdj : (f1 ds[i])[j]? = some (f1 ds[i])[j] := List.getElem?_eq_getElem hlt1
        have hmem1 : (f1 ds[i])[j] ∈ f1 ds[i] := List.getElem_mem hlt1
        obtain ⟨go1, yld1⟩ := jk1.1 _ hdj
        obtain ⟨items1, hsp1, hev⟩ := hel _ hmem1
        refine .inr ⟨go1, fun H6 => Ac ((ds.take i).flatMap f1 ++ (f1 ds[i]).take (j + 1)) H6 ∧ Kp (Mp M L) (Mp M L) H4 H6, fun H6 z => ⟨(f1 ds[i]).length - (j + 1), by omega, z, hlt1, rfl⟩, fun x1 H6 y1 => ?_⟩
        obtain ⟨sm1, rx1⟩ := yld1 x1 H6 y1
        have R6 := R5.same sm1
        have k56 : Kp (Mp M L) (Mp M L) H5 H6 := R5.kp (Gr.same sm1)
        have rs6 : Rps (gx X) (Mp M L) H6 vs items := rs.kp ((k34.trans k45).trans k56)
        intro s1 H0' C1 cl1 fp1
        refine ht1 s1 H0' C1 cl1 fp1 (Mp M L) _ H6 _ x1 _ items1 _ (((R6.wipe (own.map (·.2))).setl (is := is) rs6).wipe is1) rx1 hsp1 fun vs1 rs1 hl1 => ⟨?_, ?_⟩
        · rw [wipe_setV (fun _ h => h), wipe_idem]
        · have rs1 : Rps (gx X) (Mp M L) H6 vs1 items1 := rs1
          refine iteT (B := Ac ((ds.take i).flatMap f1 ++ (f1 ds[i]).take (j + 1)) H6 ∧ Kp (Mp M L) (Mp M L) H4 H6) ⟨_, _, hev, Mp M L, ((((R6.wipe (own.map (·.2))).setl (is := is) rs6).wipe is1).setl (is := is1) rs1), fun v H8 d8 i8 g8 rv e8 => ?_⟩
          subst e8
          have R8 := R6.step i8 g8
          have k68 : Kp (Mp M L) (Mp M L) H6 H8 := R6.kp g8
          have gL8 : H8 L = some (.lst acc5) := g8 L _ (sm1 L _ hacc5) fun z => (F.zf L z).2 hfr
          refine ⟨acc5, gL8, ?_, ?_⟩
          · rw [racc5.length]
            exact Nat.lt_of_le_of_lt (Nat.le_of_eq (List.length_map _)) (Nat.lt_of_le_of_lt (Nat.le_trans (take_flat_le i [] _ hdi j) hz) (by decide))
          · obtain ⟨R9, k89⟩ := RepS.own_upd (o := .lst (acc5 ++ [v])) R hL0 R8 hfr
            have kk := (k56.trans k68).trans k89
            refine ⟨⟨R9, fun b o e z => ?_, k5'.trans kk, _, upd_same, ?_⟩, k45.trans kk⟩
            · rw [upd_ne (ne_of_none e hL0)]
              exact ((gr5.trans (Gr.same sm1)).trans g8) b o e z
            · have et : (f1 ds[i]).take (j + 1) = (f1 ds[i]).take j ++ [(f1 ds[i])[j]] := by rw [List.take_add_one, hdj]; rfl
              rw [et, ← List.append_assoc, List.map_append]
              exact (racc5.kp kk).append (.cons (rv.kp k89) .nil)
      · have e1 : j = (f1 ds[i]).length := by omega
        subst e1
        refine .inl ⟨jk1.2 (Nat.le_refl _), R5, gr5, k5', acc5, hacc5, ?_⟩
        rw [take_flat hdi]
        rw [List.take_length] at racc5
        exact racc5
  · have e1 : i = ds.length := by omega
    subst e1
    rw [List.take_length] at racc
    refine .inl ⟨jk.2 (Nat.le_refl _), ?_⟩
    obtain ⟨R9, n9⟩ : RepS (gx X) F (Mp M L) σ H' en ∧ NewO (gx X) F (Mp M L) H' σ en L (.lst ((ds.flatMap f1).map gf)) := NewO.of R hL0 R'.inv gr (.lst hacc racc)
    exact ⟨_, R9.seto n9, q.step (.more hL0 (R.kp gr).at_)⟩
end
end Pz
end
section
set_option Elab.async false
set_option linter.all false
set_option maxRecDepth 100000
set_option maxHeartbeats 8000000
/-! PzS: dicts whose keys are nested tuples: in, not in, [], []=, len, {}, {k: v}, walked. -/
namespace Pz
open PySem PySem.Spec PyProof.Rows L2
/-! ### keys -/
inductive Hk : Nat → D → Prop
  | non {n} : Hk n .non
  | int {n i} : Hk n (.int i)
  | str {n x} : Hk n (.str x)
  | tup {n ds} : (∀ d ∈ ds, Hk n d) → Hk (n + 1) (.tup ds)
  | ntp {n ds} : (∀ d ∈ ds, Hk n d) → Hk (n + 1) (.ntp ds)
-- tuples that are known to have no dict are tuples
mutual
def D.er : D → D
  | .tup ds => .tup (ers ds)
  | .ntp ds => .tup (ers ds)
  | d => d
def ers : List D → List D
  | [] => []
  | d :: ds => d.er :: ers ds
end
theorem ers_map : ∀ ds : List D, ers ds = ds.map D.er
  | [] => by simp [ers]
  | d :: ds => by simp [ers, ers_map ds]
mutual
theorem nk_inj : ∀ {x y : D} {m n : Nat}, Hk m x → Hk n y → x.nk = y.nk → x.er = y.er
  | .non, .non, _, _, _, _, _ => rfl
  | .non, .int _, _, _, _, _, h => by simp [D.nk] at h
  | .non, .str _, _, _, _, _, h => by simp [D.nk] at h
  | .non, .tup _, _, _, _, _, h => by simp [D.nk] at h
  | .non, .ntp _, _, _, _, _, h => by simp [D.nk] at h
  | .int _, .non, _, _, _, _, h => by simp [D.nk] at h
  | .int i, .int j, _, _, _, _, h => by simp only [D.nk, NestedKey.num.injEq] at h; rw [h]
  | .int _, .str _, _, _, _, _, h => by simp [D.nk] at h
  | .int _, .tup _, _, _, _, _, h => by simp [D.nk] at h
  | .int _, .ntp _, _, _, _, _, h => by simp [D.nk] at h
  | .str _, .non, _, _, _, _, h => by simp [D.nk] at h
  | .str _, .int _, _, _, _, _, h => by simp [D.nk] at h
  | .str i, .str j, _, _, _, _, h => by simp only [D.nk, NestedKey.text.injEq] at h; rw [h]
  | .str _, .tup _, _, _, _, _, h => by simp [D.nk] at h
  | .str _, .ntp _, _, _, _, _, h => by simp [D.nk] at h
  | .tup _, .non, _, _, _, _, h => by simp [D.nk] at h
  | .tup _, .int _, _, _, _, _, h => by simp [D.nk] at h
  | .tup _, .str _, _, _, _, _, h => by simp [D.nk] at h
  | .tup xs, .tup ys, _, _, .tup h1, .tup h2, h => by
    simp only [D.nk, NestedKey.tup.injEq] at h
    simp only [D.er]
    rw [nks_inj h1 h2 h]
  | .tup xs, .ntp ys, _, _, .tup h1, .ntp h2, h => by
    simp only [D.nk, NestedKey.tup.injEq] at h
    simp only [D.er]
    rw [nks_inj h1 h2 h]
  | .ntp _, .non, _, _, _, _, h => by simp [D.nk] at h
  | .ntp _, .int _, _, _, _, _, h => by simp [D.nk] at h
  | .ntp _, .str _, _, _, _, _, h => by simp [D.nk] at h
  | .ntp xs, .tup ys, _, _, .ntp h1, .tup h2, h => by
    simp only [D.nk, NestedKey.tup.injEq] at h
    simp only [D.er]
    rw [nks_inj h1 h2 h]
  | .ntp xs, .ntp ys, _, _, .ntp h1, .ntp h2, h => by
    simp only [D.nk, NestedKey.tup.injEq] at h
    simp only [D.er]
    rw [nks_inj h1 h2 h]
theorem nks_inj : ∀ {xs ys : List D} {m n : Nat}, (∀ d ∈ xs, Hk m d) → (∀ d ∈ ys, Hk n d) → nks xs = nks ys → ers xs = ers ys
  | [], [], _, _, _, _, _ => rfl
  | [], _ :: _, _, _, _, _, h => by simp [nks] at h
  | _ :: _, [], _, _, _, _, h => by simp [nks] at h
  | x :: xs, y :: ys, _, _, h1, h2, h => by
    simp only [nks, List.cons.injEq] at h
    simp only [ers]
    rw [nk_inj (h1 x (by simp)) (h2 y (by simp)) h.1, nks_inj (fun d hd => h1 d (by simp [hd])) (fun d hd => h2 d (by simp [hd])) h.2]
end
mutual
theorem nk_depth : ∀ {x : D} {n : Nat}, Hk n x → x.nk.depth ≤ n + 1
  | .non, _, _ => by simp [D.nk, NestedKey.depth]
  | .int _, _, _ => by simp [D.nk, NestedKey.depth]
  | .str _, _, _ => by simp [D.nk, NestedKey.depth]
  | .tup xs, _, .tup h => by
    have q := nks_depth h
    simp only [D.nk, NestedKey.depth]
    omega
  | .ntp xs, _, .ntp h => by
    have q := nks_depth h
    simp only [D.nk, NestedKey.depth]
    omega
theorem nks_depth : ∀ {xs : List D} {n : Nat}, (∀ d ∈ xs, Hk n d) → NestedKey.depthAll (nks xs) ≤ n + 1
  | [], _, _ => by simp [nks, NestedKey.depthAll]
  | x :: xs, _, h => by
    have h1 := nk_depth (h x (by simp))
    have h2 := nks_depth (xs := xs) fun d hd => h d (by simp [hd])
    simp only [nks, NestedKey.depthAll]
    omega
end
section
variable {X : Cx} {F : Fr} {en : En} {a b o e tg : Expr} {d x y z k kd : D} {pos p p1 p2 : Pos} {G : Gx} {M M' : Addr → Prop} {H H' : Hp} {σ : St} {es : List (D × D)} {pins : List (Addr × Obj)} {s : Shared}
theorem nested_all (I : Inv X pins σ H s) {n : Nat} (ih : ∀ (v : V) (d : D) (u : Value), Rp (gx X) M H v d → Hk n d → RelV v u → NestedIs s.heap d.nk u) : ∀ (ds : List D) (vs : List V) (us : List Value), Rps (gx X) M H vs ds → (∀ d ∈ ds, Hk n d) → Vals vs us → NestedAll s.heap (nks ds) us := by
  intro ds
  induction ds with
  | nil =>
    intro vs us r _ rv
    have := r.inv_nil
    subst this
    cases rv
    exact .nil
  | cons d ds ihl =>
    intro vs us r h rv
    obtain ⟨v, r', rfl, a, r2⟩ := r.inv_cons
    cases rv with
    | cons ra rr => exact .cons (ih _ _ _ a (h d List.mem_cons_self) ra) (ihl _ _ r2 (fun q hq => h q (List.mem_cons_of_mem _ hq)) rr)
theorem nested_n (I : Inv X pins σ H s) : ∀ (n : Nat) (v : V) (d : D) (u : Value), Rp (gx X) M H v d → Hk n d → RelV v u → NestedIs s.heap d.nk u := by
  intro n
  induction n with
  | zero =>
    intro v d u r h ru
    cases h with
    | non => cases r; obtain rfl : u = Value.none := ru; exact .none
    | int => cases r; obtain ⟨t, rfl⟩ := ru; exact .int _ t
    | str => cases r; obtain ⟨t, rfl⟩ := ru; exact .text _ t
  | succ n ih =>
    intro v d u r h ru
    cases h with
    | non => cases r; obtain rfl : u = Value.none := ru; exact .none
    | int => cases r; obtain ⟨t, rfl⟩ := ru; exact .int _ t
    | str => cases r; obtain ⟨t, rfl⟩ := ru; exact .text _ t
    | tup hk =>
      cases r with
      | tup ht rs =>
        rename_i ad vs
        obtain rfl : u = Value.ref ad := ru
        obtain ⟨its, rv, ⟨o, ho, hc, m, hd⟩, _⟩ := I.tuple ht.sq
        exact .tup ho hc hd (nested_all I ih _ _ _ rs hk (by rw [List.toList_toArray]; exact rv))
    | ntp hk =>
      cases r with
      | ntp ht hdi hm rs =>
        rename_i ad ob vs
        obtain rfl : u = Value.ref ad := ru
        obtain ⟨its, rv, ⟨o, ho, hc, m, hd⟩, _⟩ := I.tuple (show SqT X.K H ad vs from .inl (.inr ⟨_, ht⟩))
        exact .tup ho hc hd (nested_all I ih _ _ _ rs hk (by rw [List.toList_toArray]; exact rv))
theorem Rp.nested (I : Inv X pins σ H s) {v : V} {d : D} {n : Nat} {u : Value} (r : Rp (gx X) M H v d) (h : Hk n d) (ru : RelV v u) : NestedIs s.heap d.nk u := nested_n I n v d u r h ru
/-- a key at an address -/
theorem Rp.isk (I : Inv X pins σ H s) {ad : Addr} {n : Nat} (r : Rp (gx X) M H (.ref ad) kd) (h : Hk n kd) (hn : n ≤ 7) : (nestedKind X.prog X.w).is s.heap kd.nk ad :=
  ⟨r.nested I h rfl, by have := nk_depth h; omega⟩
theorem RpN.keys (I : Inv X pins σ H s) : ∀ {xs : List (NestedKey × Addr × Value)} {es : List (D × D)}, RpN (gx X) M H xs es → (∀ q ∈ es, Hk 7 q.1) → ∀ x ∈ xs, (nestedKind X.prog X.w).is s.heap x.1 x.2.1
  | _, _, .nil, _, _, hx => nomatch hx
  | _, _, .cons rk _ _ r, h, x, hx => by
    rcases List.mem_cons.mp hx with rfl | hx
    · exact rk.isk I (h _ List.mem_cons_self) (Nat.le_refl _)
    · exact RpN.keys I r (fun q hq => h q (List.mem_cons_of_mem _ hq)) x hx
theorem RpN.length : ∀ {xs : List (NestedKey × Addr × Value)} {es : List (D × D)}, RpN G M H xs es → xs.length = es.length
  | _, _, .nil => rfl
  | _, _, .cons _ _ _ r => congrArg (· + 1) r.length
theorem RpN.no {n : Nat} (hk : Hk n kd) : ∀ {xs : List (NestedKey × Addr × Value)} {es : List (D × D)}, RpN G M H xs es → (∀ q ∈ es, Hk 7 q.1) → (∀ q ∈ es, q.1.nk ≠ kd.nk) → atKey xs kd.nk = none
  | _, _, .nil, _, _ => rfl
  | _, _, .cons (k := k') _ _ _ r, h, hne => by
    have ih := RpN.no hk r (fun q hq => h q (List.mem_cons_of_mem _ hq)) fun q hq => hne q (List.mem_cons_of_mem _ hq)
    have e : ¬ k'.nk = kd.nk := hne _ List.mem_cons_self
    unfold atKey at ih ⊢
    rw [List.find?_cons, decide_eq_false e]
    exact ih
theorem RpN.yes {n : Nat} (hk : Hk n kd) : ∀ {xs : List (NestedKey × Addr × Value)} {es : List (D × D)}, RpN G M H xs es → (∀ q ∈ es, Hk 7 q.1) → (∃ q ∈ es, q.1 = kd) → (∀ q ∈ es, q.1.nk = kd.nk → q.2 = d) → ∃ ad u v, atKey xs kd.nk = some (ad, u) ∧ RelV v u ∧ Rp G M H v d
  | _, _, .nil, _, h, _ => by obtain ⟨q, hq, _⟩ := h; cases hq
  | _, _, .cons (a := ad) (v := v) (u := u) (k := k') (d := d') rk ru rv r, h, hm, hf => by
    unfold atKey
    rw [List.find?_cons]
    by_cases e : k'.nk = kd.nk
    · rw [decide_eq_true e]
      have ed : d' = d := hf _ List.mem_cons_self e
      subst ed
      exact ⟨ad, u, v, rfl, ru, rv⟩
    · rw [decide_eq_false e]
      refine RpN.yes hk r (fun q hq => h q (List.mem_cons_of_mem _ hq)) ?_ fun q hq => hf q (List.mem_cons_of_mem _ hq)
      obtain ⟨q, hq, eq⟩ := hm
      rcases List.mem_cons.mp hq with rfl | hq
      · exact absurd (congrArg D.nk eq) e
      · exact ⟨q, hq, eq⟩
theorem RpN.app {ad : Addr} {v : V} {u : Value} (rk : Rp G M H (.ref ad) kd) (ru : RelV v u) (rv : Rp G M H v d) : ∀ {xs : List (NestedKey × Addr × Value)} {es : List (D × D)}, RpN G M H xs es → RpN G M H (xs ++ [(kd.nk, ad, u)]) (es ++ [(kd, d)])
  | _, _, .nil => .cons rk ru rv .nil
  | _, _, .cons a b c r => .cons a b c (RpN.app rk ru rv r)
/-- the dict's facts -/
theorem dn_at (I : Inv X pins σ H s) {ad : Addr} {xs : List (NestedKey × Addr × Value)} (h : Rd H ad (DN (gx X) ad xs)) (r : RpN (gx X) M H xs es) (hk : ∀ q ∈ es, Hk 7 q.1) : s.heap.DictOfH (nestedKind X.prog X.w) ad xs ∧ (ad == sysModules) = false ∧ xs.length ≤ sizeLine := by
  have q : DictN X.prog X.w ad xs s.heap := by
    rcases h with h | ⟨ob, h⟩
    · exact (I.hok ad _ h).1
    · exact (I.hok ad _ h).2.1
  obtain ⟨h1, h2, o, es', ep, h3, h4, h5, h6, h7⟩ := q
  exact ⟨⟨o, es', ep, h3, h4, h5, h6, RpN.keys I r hk, h7⟩, h2, h1⟩
theorem Bw.dn {v : V} (bw : Bw G M σ H en v (.dcn es)) (R : RepS G F M σ H en) : ∃ ad xs, v = .ref ad ∧ Rd H ad (DN G ad xs) ∧ RpN G M H xs es := by
  rcases bw.any R with r | ⟨ad, rfl, o⟩
  · cases r with
    | dn h hm r => exact ⟨_, _, rfl, .inr ⟨_, h⟩, r⟩
  · cases o with
    | dn h r => exact ⟨_, _, rfl, .inl h, r⟩
theorem Bw.tupr {v : V} {ds : List D} (bw : Bw G M σ H en v (.tup ds)) (R : RepS G F M σ H en) : ∃ ad, v = .ref ad ∧ Rp G M H (.ref ad) (.tup ds) := by
  rcases bw.any R with r | ⟨ad, _, o⟩
  · have r' := r
    cases r with
    | tup h rs => exact ⟨_, rfl, r'⟩
  · cases o
theorem o_inN {ds : List D} {n : Nat} {r : Bool} (hu : X.A.units + 64 < cLine) (hk : Hk n (.tup ds)) (hn : n ≤ 7) (hes : ∀ q ∈ es, Hk 7 q.1) (h : (r = true ∧ ∃ q ∈ es, q.1 = .tup ds) ∨ (r = false ∧ ∀ q ∈ es, q.1.nk ≠ (D.tup ds).nk)) : OpD X F en (compareOp .In) (.tup ds) (.dcn es) (.bl r) := by
  intro M σ H vx vy Q R bx by_ q pins s σ' v u I rx ry
  obtain ⟨ka, rfl, rk⟩ := bx.tupr R
  obtain ⟨ad, xs, rfl, hd, rn⟩ := by_.dn R
  cases rx
  cases ry
  obtain ⟨hd', hs, hz⟩ := dn_at I hd rn hes
  refine wpAny_in_heap (k := (D.tup ds).nk) (show X.A.in1.units + 8 < cLine by show X.A.units + 1 + 8 < cLine; omega) (rk.isk I hk hn) hs hd' ?_
  have e : (atKey xs (D.tup ds).nk).isSome = r := by
    rcases h with ⟨rfl, q, hq, eq⟩ | ⟨rfl, hne⟩
    · cases hat : atKey xs (D.tup ds).nk with
      | some p => rfl
      | none =>
        obtain ⟨q', hq', eq'⟩ : ∃ q' ∈ es, q'.1 = .tup ds := ⟨q, hq, eq⟩
        exfalso
        have : ∀ {xs : List (NestedKey × Addr × Value)} {es : List (D × D)}, RpN (gx X) M H xs es → (∃ q ∈ es, q.1 = .tup ds) → atKey xs (D.tup ds).nk ≠ none := by
          intro xs es r
          induction es generalizing xs with
          | nil => rintro ⟨q, hq, _⟩; cases hq
          | cons e0 es ih =>
            rintro ⟨q, hq, eq⟩
            cases r with
            | cons a b c r' =>
              unfold atKey
              rw [List.find?_cons]
              split
              · exact fun z => nomatch z
              · rename_i hf
                rcases List.mem_cons.mp hq with rfl | hq
                · rw [← eq] at hf
                  simp at hf
                · exact ih r' ⟨q, hq, eq⟩
        exact this rn ⟨q, hq, eq⟩ hat
    · rw [RpN.no hk rn hes hne]; rfl
  rw [e]
  exact ⟨.bl r, H, I.tok _, rfl, q _ H R.inv Gr.refl (.bl r)⟩
theorem o_ninN {ds : List D} {n : Nat} {r : Bool} (hu : X.A.units + 64 < cLine) (hk : Hk n (.tup ds)) (hn : n ≤ 7) (hes : ∀ q ∈ es, Hk 7 q.1) (h : (r = false ∧ ∃ q ∈ es, q.1 = .tup ds) ∨ (r = true ∧ ∀ q ∈ es, q.1.nk ≠ (D.tup ds).nk)) : OpD X F en (compareOp .NotIn) (.tup ds) (.dcn es) (.bl r) := by
  intro M σ H vx vy Q R bx by_ q pins s σ' v u I rx ry
  obtain ⟨ka, rfl, rk⟩ := bx.tupr R
  obtain ⟨ad, xs, rfl, hd, rn⟩ := by_.dn R
  cases rx
  cases ry
  obtain ⟨hd', hs, hz⟩ := dn_at I hd rn hes
  have e : (!(atKey xs (D.tup ds).nk).isSome) = r := by
    rcases h with ⟨rfl, q, hq, eq⟩ | ⟨rfl, hne⟩
    · have : ∀ {xs : List (NestedKey × Addr × Value)} {es : List (D × D)}, RpN (gx X) M H xs es → (∃ q ∈ es, q.1 = .tup ds) → atKey xs (D.tup ds).nk ≠ none := by
        intro xs es r
        induction es generalizing xs with
        | nil => rintro ⟨q, hq, _⟩; cases hq
        | cons e0 es ih =>
          rintro ⟨q, hq, eq⟩
          cases r with
          | cons a b c r' =>
            unfold atKey
            rw [List.find?_cons]
            split
            · exact fun z => nomatch z
            · rename_i hf
              rcases List.mem_cons.mp hq with rfl | hq
              · rw [← eq] at hf
                simp at hf
              · exact ih r' ⟨q, hq, eq⟩
      cases hat : atKey xs (D.tup ds).nk with
      | some p => rfl
      | none => exact absurd hat (this rn ⟨q, hq, eq⟩)
    · rw [RpN.no hk rn hes hne]; rfl
  show wpAny _ _ (do return Value.bool (!(← contains (.ref ad) (.ref ka)))) _ _ s
  refine wpAny_bind (wpAny_contains_heap (k := (D.tup ds).nk) (show X.A.in1.units + 8 < cLine by show X.A.units + 1 + 8 < cLine; omega) (rk.isk I hk hn) hs hd' (wpAny_pure ?_))
  rw [e]
  exact ⟨.bl r, H, I.tok _, rfl, q _ H R.inv Gr.refl (.bl r)⟩
/-- d[k] -/
theorem e_ixN {ds : List D} {n : Nat} (hu : X.A.units + 64 < cLine) (ha : Eb X F en a (.dcn es)) (hb : Ev X F en b (.tup ds)) (hk : Hk n (.tup ds)) (hn : n ≤ 7) (hes : ∀ q ∈ es, Hk 7 q.1) (hm : ∃ q ∈ es, q.1 = .tup ds) (hf : ∀ q ∈ es, q.1.nk = (D.tup ds).nk → q.2 = d) (hs : PlainIx b := by intro _ _; rfl) : Ev X F en (.Subscript a b pos) d := by
  refine PE.wk (pe_ix (r := fun x y H Q => ∃ ad xs ka es M u v, x = .ref ad ∧ y = .ref ka ∧ Rd H ad (DN (gx X) ad xs) ∧ RpN (gx X) M H xs es ∧ (∀ q ∈ es, Hk 7 q.1) ∧ Rp (gx X) M H (.ref ka) (.tup ds) ∧ atKey xs (D.tup ds).nk = some u ∧ RelV v u.2 ∧ Q v H) ?_ ha hb.eb hs) ?_
  · intro value slice pins s σ H x y v u Q I rx ry h hsl
    obtain ⟨ad, xs, ka, es, M, uu, w, rfl, rfl, hd, rn, hes, rk, hat, rw_, q⟩ := h
    cases rx
    cases ry
    obtain ⟨hd', hs, hz⟩ := dn_at I hd rn hes
    exact tail_any hd'.typeIs slot_dict_getitem.lookup (wpAny_getItem_heap (k := (D.tup ds).nk) (show X.A.in1.units + 8 < cLine by show X.A.units + 1 + 8 < cLine; omega) (rk.isk I hk hn) hd' hat ⟨w, H, I.tok _, rw_, q⟩) hsl
  · intro σ H Q ⟨M, R, q⟩
    refine ⟨M, R, fun v H1 i1 g1 b1 => ⟨M, R.step i1 g1, fun w H2 i2 g2 b2 => ?_⟩⟩
    have R1 := R.step i1 g1
    have R2 := R1.step i2 g2
    obtain ⟨ad, xs, rfl, hd, rn⟩ := (b1.step R1 i2 g2).dn R2
    obtain ⟨ka, rfl, rk⟩ := b2.tupr R2
    obtain ⟨ad2, u, v, h1, h2, h3⟩ := rn.yes hk hes hm hf
    exact ⟨ad, xs, ka, es, M, _, v, rfl, rfl, hd, rn, hes, rk, h1, h2, q v H2 d i2 (g1.trans g2) h3 rfl⟩
theorem k_lenN (hes : ∀ q ∈ es, Hk 7 q.1) : CallD X F en (.builtin "len") [.dcn es] (.int (es.length : Int)) := by
  intro M σ H vs Q R bw q pins s σ' us I rx
  obtain ⟨v, rfl, b1⟩ := bw.one
  obtain ⟨ad, xs, rfl, hd, rn⟩ := b1.dn R
  obtain ⟨u, rfl, ru⟩ := vals1 rx
  obtain rfl : u = .ref ad := ru
  obtain ⟨hd', hs, hz⟩ := dn_at I hd rn hes
  refine call_len_dictH hs hd' (by rw [sizeLine_eq] at hz; omega) ?_
  rw [rn.length]
  exact ⟨.int (es.length : Int), H, I.tok _, ⟨_, rfl⟩, q _ H R.inv Gr.refl (.int _)⟩
/-- the own dict is written -/
theorem dn_put {ad ka : Addr} {xs : List (NestedKey × Addr × Value)} {v : V} {u : Value} {n : Nat} {E : Value → Shared → Prop} {Q : Unit → Shared → Prop} {ds : List D} (I : Inv X pins σ H s) (hu : X.A.units + 64 < cLine) (hd : H ad = some (DN (gx X) ad xs)) (rn : RpN (gx X) M H xs es) (hes : ∀ q ∈ es, Hk 7 q.1) (rk : Rp (gx X) M H (.ref ka) (.tup ds)) (hk : Hk n (.tup ds)) (hn : n ≤ 7) (hz : es.length < sizeLine)
    (h : ∀ s', Inv X pins σ (upd H ad (DN (gx X) ad (storedH xs (D.tup ds).nk ka u))) s' → Q () s') : wpAny (model X.prog X.w) X.A (setItem (.ref ad) (.ref ka) u) Q E s := by
  obtain ⟨hd', hs, hzz⟩ := dn_at I (.inl hd) rn hes
  refine wpAny_setItem_heap (k := (D.tup ds).nk) (show X.A.in1.units + 8 < cLine by show X.A.units + 1 + 8 < cLine; omega) (rk.isk I hk hn) hd' (fun h' hd2 sb => h _ ?_) hzz
  obtain ⟨o, es', ep, g1, g2, g3, g4, g5, g6⟩ := hd2
  have hl : (storedH xs (D.tup ds).nk ka u).length ≤ sizeLine := by
    have := storedH_length xs (D.tup ds).nk ka u
    have := rn.length
    omega
  exact d_write I (by rw [hd]; exact True.intro) sb ⟨o, g1⟩ (dn_new ⟨hl, hs, o, es', ep, g1, g2, g3, g4, g6⟩)
theorem dn_set {ad ka : Addr} {xs : List (NestedKey × Addr × Value)} {v : V} {u : Value} {n : Nat} {E : Value → Shared → Prop} {Q : Unit → Shared → Prop} {ds : List D} (I : Inv X pins σ H s) (hu : X.A.units + 64 < cLine) (hd : H ad = some (DN (gx X) ad xs)) (rn : RpN (gx X) M H xs es) (hes : ∀ q ∈ es, Hk 7 q.1) (rk : Rp (gx X) M H (.ref ka) (.tup ds)) (hk : Hk n (.tup ds)) (hn : n ≤ 7) (hz : es.length < sizeLine)
    (h : ∀ s', Inv X pins σ (upd H ad (DN (gx X) ad (storedH xs (D.tup ds).nk ka u))) s' → Q () s') : wpAny (model X.prog X.w) X.A (dictSet ad (.ref ka) u) Q E s := by
  obtain ⟨hd', hs, hzz⟩ := dn_at I (.inl hd) rn hes
  refine wpAny_dictSet_heap (k := (D.tup ds).nk) (show X.A.units + 8 < cLine by omega) (rk.isk I hk hn) hd' (fun h' hd2 sb => h _ ?_) hzz
  obtain ⟨o, es', ep, g1, g2, g3, g4, g5, g6⟩ := hd2
  have hl : (storedH xs (D.tup ds).nk ka u).length ≤ sizeLine := by
    have := storedH_length xs (D.tup ds).nk ka u
    have := rn.length
    omega
  exact d_write I (by rw [hd]; exact True.intro) sb ⟨o, g1⟩ (dn_new ⟨hl, hs, o, es', ep, g1, g2, g3, g4, g6⟩)
theorem dn_empty (h : Heap) (hb : sysModules < h.objs.size) {H : Hp} : ObjOk X.prog X.w (upd H h.objs.size (DN (gx X) h.objs.size [])) (h.push { cls := .type "dict", data := .dict #[] }) h.objs.size (DN (gx X) h.objs.size []) :=
  dn_new ⟨Nat.zero_le _, beq_eq_false_iff_ne.mpr (Ne.symm (Nat.ne_of_lt hb)), _, #[], 0, Heap.get?_push_size _ rfl, ⟨rfl, rfl, rfl⟩, rfl, rfl, List.nodup_nil⟩
/-- {}, to have nested keys -/
theorem pe_dnewN : PE X (.Dict [] [] pos) (fun _ H Q => ∀ p, H p = none → Q (.ref p) (upd H p (DN (gx X) p []))) := ⟨fun pins s σ H Q I h =>
  wpAny_Dict_empty ⟨.ref s.heap.objs.size, _, I.laid (a := s.heap.objs.size) (o := DN (gx X) s.heap.objs.size []) (t' := s.toks) (fun _ _ q => Heap.get?_push_of_some _ q) (Nat.le_refl _) (dn_empty s.heap I.big), rfl, h _ (I.hok.fresh (Nat.le_refl _))⟩⟩
theorem f_dnewN : Ef X F en (.Dict [] [] pos) (.dcn []) := PE.wk pe_dnewN fun σ H Q ⟨M, R, q⟩ => fun l hl =>
  q l _ _ (F.up _ _ _ R.inv (F.nw _ _ R.inv hl)) (Gr.new hl) hl (.dn upd_same .nil) rfl
/-- d[k] = v, d an own dict, k new -/
theorem s_dputN (i : Nat) {nm_ : Str} {ds : List D} {n : Nat} {k : KD} {rest : List Stmt} (he : Ev X F en e d) (hb : Ev X F en b (.tup ds)) (h : Sx X F (en.set i (some (.own (.dcn (es ++ [(.tup ds, d)]))))) rest k) (hu : X.A.units + 64 < cLine) (hk : Hk n (.tup ds)) (hn : n ≤ 7) (hes : ∀ q ∈ es, Hk 7 q.1) (hne : ∀ q ∈ es, q.1.nk ≠ (D.tup ds).nk) (hz : es.length ≤ 1000000)
    (hi : en[i]? = some (some (.own (.dcn es))) := by rfl) (hN : X.N[i]? = some nm_ := by rfl)
    (hv : Vis X.env.scope nm_ := by first | exact Or.inl rfl | exact Or.inr (Or.inl rfl) | exact Or.inr (Or.inr rfl)) (hd : (nm_ == ("__debug__" : Str)) = false := by decide) (hcd : (nm_ == ("__classdict__" : Str)) = false := by decide)
    (hs : swapsWithSole [.Subscript (.Name nm_ p1) b p2] e pos.line X.env = pure false := by rfl) (hw : swappedStores [.Subscript (.Name nm_ p1) b p2] e X.env = pure none := by rfl)
    (h1 : (assignEach [.Subscript (.Name nm_ p1) b p2] X.env).map (·.2) = [assign (.Subscript (.Name nm_ p1) b p2) X.env] := by rfl)
    (ha : ∀ v, assign (.Subscript (.Name nm_ p1) b p2) X.env v = (do
      let ov ← holding [v] (eval (.Name nm_ p1) X.env)
      let iv ← holding [v, ov] (eval b X.env)
      standAt p2
      holding [v, ov, iv] (setItem ov iv v)
      release [v, ov, iv] []) := by intro _; rfl) : Sx X F en (.Assign [.Subscript (.Name nm_ p1) b p2] e pos :: rest) k := by
  have hset : PSet X (fun o iv v H Q => ∃ (ad ka : Addr) (xs : List (NestedKey × Addr × Value)) (M : Addr → Prop), o = .ref ad ∧ iv = .ref ka ∧ H ad = some (DN (gx X) ad xs) ∧ RpN (gx X) M H xs es ∧ Rp (gx X) M H (.ref ka) (.tup ds) ∧ ∀ u, RelV v u → Q (upd H ad (DN (gx X) ad (storedH xs (D.tup ds).nk ka u)))) := by
    intro pins s σ H o iv v ov ivv u Q I ro ri rv h
    obtain ⟨ad, ka, xs, M, rfl, rfl, h1, h2, h3, h4⟩ := h
    cases ro
    cases ri
    exact dn_put (v := v) I hu h1 h2 hes h3 hk hn (Nat.lt_of_le_of_lt hz (by decide)) fun s' I' => ⟨_, I', h4 u rv⟩
  exact PSs.wk (pss_cons (ps_asg he (pg_sub (pe_var hN hv hd hcd) hb hset ha) hs hw h1) h) fun E σ H ⟨M, R, q⟩ => ⟨M, R, fun v H1 d' i1 g1 rp ed => by
    subst ed
    obtain ⟨ad, e1, h2, h3, h4, h5⟩ := R.own i _ hi
    have R1 := R.step i1 g1
    refine ⟨.ref ad, e1, M, R1, fun vk H2 z i2 g2 rk ez => ?_⟩
    subst ez
    have R2 := R1.step i2 g2
    have g := g1.trans g2
    cases h5 with
    | dn hv rn =>
      rename_i xs
      have hv2 : H2 ad = some (DN (gx X) ad xs) := g ad _ hv fun z => (F.zf ad z).2 h4
      have rn2 := rn.kp (R.kp g)
      have rk' := rk
      cases rk with
      | tup ht rs =>
        rename_i ka vs
        refine ⟨ad, ka, xs, M, rfl, rfl, hv2, rn2, rk', fun u ru => ?_⟩
        rw [storedH_new (rn2.no hk hes hne)]
        have kk : Kp M M H2 (upd H2 ad (DN (gx X) ad (xs ++ [((D.tup ds).nk, ka, u)]))) := ⟨fun b u e hm => by rw [upd_ne (fun z => hm (by rw [z]; exact h2))]; exact e, fun _ _ hm => hm⟩
        exact ⟨M, R2.chg hi e1 (.dn upd_same ((RpN.app rk' ru (rp.kp (R1.kp g2)) rn2).kp kk)), q.step ((R.kp g).trans kk)⟩⟩
end
end Pz
end
section
set_option Elab.async false
set_option linter.all false
set_option maxRecDepth 100000
set_option maxHeartbeats 4000000
/-! PzT: {k: v} with a nested key; a dict with nested keys walked; a comprehension that makes one. -/
namespace Pz
open PySem PySem.Spec PyProof.Rows L2
section
variable {X : Cx} {F : Fr} {en : En} {a b o e tg : Expr} {d x y z kd : D} {pos p p1 p2 spos : Pos} {G : Gx} {M M' : Addr → Prop} {H H' : Hp} {σ : St} {es : List (D × D)} {k : KD} {rest : List Stmt}
/-! ### {k: v} -/
theorem pe_disp1 {ke ve : Expr} {tk tv : TE} (hu : X.A.units + 64 < cLine) (hk : PE X ke tk) (hv : PE X ve tv) : PE X (.Dict [some ke] [ve] pos) (fun σ H Q => ∀ p, H p = none → tk σ (upd H p (DN (gx X) p [])) fun x H1 => tv σ H1 fun y H2 =>
    ∃ (ka : Addr) (M : Addr → Prop) (ds : List D) (n : Nat), x = .ref ka ∧ H2 p = some (DN (gx X) p []) ∧ Rp (gx X) M H2 (.ref ka) (.tup ds) ∧ Hk n (.tup ds) ∧ n ≤ 7 ∧ ∀ u, RelV y u → Q (.ref p) (upd H2 p (DN (gx X) p [((D.tup ds).nk, ka, u)]))) := by
  refine ⟨fun pins s σ H Q I q => ?_⟩
  have hn := I.hok.fresh (Nat.le_refl s.heap.objs.size)
  have I1 := I.laid (a := s.heap.objs.size) (o := DN (gx X) s.heap.objs.size []) (h' := s.heap.push { cls := .type "dict", data := .dict #[] }) (t' := s.toks) (fun _ _ q => Heap.get?_push_of_some _ q) (Nat.le_refl _) (dn_empty s.heap I.big)
  rw [arm_eval_Dict, zip_pairTrees [some ke] [ve] X.env pos rfl rfl, dictDisplay_pairs _ (by intro z; exact nomatch z) (by rw [pairTrees_length [some ke] [ve] X.env pos rfl rfl]; simp)]
  refine wpAny_bind (wpAny_standAt (wpAny_bind (wpAny_subDictH (knd := nestedKind X.prog X.w) (show X.A.units + 8 < cLine by omega) (by rw [pairTrees_length [some ke] [ve] X.env pos rfl rfl]; simp) ?_)))
  refine thn ((pps_cons (pos := pos) hk hv pps_nil).run pins _ σ _ (fun ps H2 => match ps with | [(x, y)] => ∃ (ka : Addr) (M : Addr → Prop) (ds : List D) (n : Nat), x = .ref ka ∧ H2 s.heap.objs.size = some (DN (gx X) s.heap.objs.size []) ∧ Rp (gx X) M H2 (.ref ka) (.tup ds) ∧ Hk n (.tup ds) ∧ n ≤ 7 ∧ ∀ u, RelV y u → Q (.ref s.heap.objs.size) (upd H2 s.heap.objs.size (DN (gx X) s.heap.objs.size [((D.tup ds).nk, ka, u)])) | _ => False) I1 ?_) fun vs s2 ⟨ps, H2, I2, rel, hq⟩ => ?_
  · exact q s.heap.objs.size hn
  · match ps, rel, hq with
    | [(x, y)], .cons (b := (kv, vv)) hr .nil, ⟨ka, M, ds, n, ex, hd, rk, hkk, hn7, q2⟩ =>
      subst ex
      have r1 : kv = Value.ref ka := hr.1
      have r2 : RelV y vv := hr.2
      subst r1
      obtain ⟨hd', hs, hz⟩ := dn_at (es := []) (M := M) I2 (.inl hd) .nil (fun _ h => nomatch h)
      refine ⟨[((D.tup ds).nk, ka, vv)], ⟨rfl, rfl, rk.isk I2 hkk hn7, trivial⟩, hd', fun h' tk' hd2 sb => wpAny_pure ⟨.ref s.heap.objs.size, _, ?_, rfl, q2 vv r2⟩⟩
      obtain ⟨o, es', ep, g1, g2, g3, g4, g5, g6⟩ := hd2
      exact d_write I2 (by rw [hd]; exact True.intro) sb ⟨o, g1⟩ (dn_new ⟨by show 1 ≤ sizeLine; decide, hs, o, es', ep, g1, g2, g3, g4, g6⟩)
theorem f_disp1 {ke ve : Expr} {ds : List D} {n : Nat} (hu : X.A.units + 64 < cLine) (hk : Ev X F en ke (.tup ds)) (hv : Ev X F en ve d) (hh : Hk n (.tup ds)) (hn : n ≤ 7) : Ef X F en (.Dict [some ke] [ve] pos) (.dcn [(.tup ds, d)]) :=
  PE.wk (pe_disp1 hu hk hv) fun σ H Q ⟨M, R, q⟩ => fun L hL => by
    have hfr := F.nw _ _ R.inv hL
    have i0 : F.I (upd H L (DN (gx X) L [])) := F.up _ _ _ R.inv hfr
    have R0 : RepS (gx X) F (Mp M L) σ (upd H L (DN (gx X) L [])) en := R.more i0 (Gr.new hL) hL hfr (by rw [upd_same]; exact fun z => nomatch z)
    refine ⟨Mp M L, R0, fun v H1 z i1 g1 r1 ez => ?_⟩
    subst ez
    have R1 := R0.step i1 g1
    refine ⟨Mp M L, R1, fun w H2 z2 i2 g2 r2 ez2 => ?_⟩
    subst ez2
    have R2 := R1.step i2 g2
    have gL : H2 L = some (DN (gx X) L []) := g2 L _ (g1 L _ upd_same fun z => (F.zf L z).2 hfr) fun z => (F.zf L z).2 hfr
    have r1' := r1.kp (R1.kp g2)
    have r1'' := r1'
    cases r1' with
    | tup ht rs =>
      rename_i ka vs
      refine ⟨ka, Mp M L, ds, n, rfl, gL, r1'', hh, hn, fun u ru => ?_⟩
      obtain ⟨R3, k3⟩ := RepS.own_upd (o := DN (gx X) L [((D.tup ds).nk, ka, u)]) R hL R2 hfr
      refine q L _ _ R3.inv (fun b x e z => ?_) hL (.dn upd_same (.cons (r1''.kp k3) ru (r2.kp k3) .nil)) rfl
      rw [upd_ne (ne_of_none e hL)]
      refine g2 b x (g1 b x ?_ z) z
      rw [upd_ne (ne_of_none e hL)]
      exact e
/-! ### walked -/
def Itn (P : Program) (w : World) (d : Addr) (ob : Obj) (xs : List (NestedKey × Addr × Value)) : It :=
  ⟨fun i H => H d = some (.frz ob (.ext (DictN P w d xs))) ∧ i < xs.length, fun i H x H' => H' = H ∧ ∃ k a u, xs[i]? = some (k, a, u) ∧ x = .ref a, fun i H => H d = some (.frz ob (.ext (DictN P w d xs))) ∧ xs.length ≤ i⟩
theorem frzN {pins : List (Addr × Obj)} {s : Shared} {d : Addr} {ob : Obj} {xs : List (NestedKey × Addr × Value)} (I : Inv X pins σ H s) (h : H d = some (.frz ob (.ext (DictN X.prog X.w d xs)))) :
    (d == sysModules) = false ∧ s.heap.get? d = some ob ∧ ob.ExactDict ∧ ∃ (es : Array DictEntry) (ep : Nat), ob.data = .dict es ep ∧ es.size = xs.length ∧ ∀ (i : Nat) k a u, xs[i]? = some (k, a, u) → ∃ en : DictEntry, es[i]? = some en ∧ en.key = .ref a := by
  obtain ⟨hd, ⟨hz, hs, o', es, ep, ho, hx, hdt, he, _⟩, _⟩ := I.hok d _ h
  rw [hd] at ho
  cases ho
  refine ⟨hs, hd, hx, es, ep, hdt, size_of_entries he, fun i k a u e => ?_⟩
  have q := entry_at he i
  rw [e] at q
  exact ⟨_, q, rfl⟩
theorem turn_keysN {P : Program} {w : World} {K : PySem.W.Frag} {tg : Expr} {d it : Addr} {ob : Obj} {es : Array DictEntry} {ep : Nat} {xs : List (NestedKey × Addr × Value)} (hod : ob.data = .dict es ep) : Turn P w K tg (Itn P w d ob xs) [it] it (fun i h => h.IsKeyIter it d i xs.length ep) where
  mem := by simp
  obj := fun i h st b hb => by
    have e : b = it := by simpa using hb
    subst e
    obtain ⟨oi, e, c, dd⟩ := st
    exact ⟨oi, e, fun v z => by rw [dd] at z; cases z⟩
  keep := fun i h h' st k => st.at fun oi e => k it (by simp) oi e
  item := by
    intro X hP hw hK hc i pins s σ H E I hf st hg
    subst hP hw hK
    obtain ⟨hd, hi⟩ := hg
    obtain ⟨f0, f1, f2, f3, f4, f5⟩ := hf it (by simp)
    obtain ⟨hs, hgd, hx, es', ep', hdt, hsz, ent⟩ := frzN I hd
    obtain ⟨rfl, rfl⟩ := dict_ep hod hdt
    obtain ⟨⟨k, a, u⟩, hkv⟩ : ∃ p, xs[i]? = some p := ⟨xs[i], List.getElem?_eq_getElem hi⟩
    obtain ⟨en, hen, hkey⟩ := ent i k a u hkv
    refine next_key_item st hgd hdt hsz hen fun h' st' sb => ?_
    have I1 : Inv X pins σ H { s with heap := h' } := I.turned (t' := s.toks) (fun b ob hb e => (sb.2 b hb).trans e) f0 f1 f3 f4 f5
    obtain ⟨oi, e, c, dd⟩ := id st'
    exact ⟨en.key, rfl, go_of (s := { s with heap := h' }) e c dd (by decide) ⟨.ref a, H, I1, hkey, ⟨rfl, k, a, u, hkv, rfl⟩, st', fun b hb => (hf b hb).1⟩⟩
  done := by
    intro X hP hw hK hc i pins s σ H E I hf st hg
    subst hP hw hK
    obtain ⟨hd, hi⟩ := hg
    obtain ⟨f0, f1, f2, f3, f4, f5⟩ := hf it (by simp)
    obtain ⟨hs, hgd, hx, es', ep', hdt, hsz, ent⟩ := frzN I hd
    obtain ⟨rfl, rfl⟩ := dict_ep hod hdt
    exact next_key_end (I.ok.hd hc) st hgd hdt hsz hi fun h' eb => ⟨rfl, I.turned (t' := s.toks) (fun b ob hb e => eb b ob hb e) f0 f1 f3 f4 f5⟩
  self := fun A i s Q E st h => by
    refine wpAny_pyIter_slot st.typeIs F.slot_dict_keyiterator_iter (wpAny_call_entry F.slot_dict_keyiterator_iter st.typeIs F.entry_dict_keyiterator_iter ?_ (F.args_dict_keyiterator_iter_1 _))
    show wpAny _ _ (ret (.ref it)) _ _ s
    exact wpAny_pure ⟨_, rfl, "dict_keyiterator", _, st.typeIs, F.slot_dict_keyiterator_next.lookup, h⟩
theorem pi_keysN {td : TE} (he : PE X e td) : PI X tg e (fun σ H R => td σ H fun x H1 => ∃ d ob xs, x = .ref d ∧ H1 d = some (.frz ob (DN (gx X) d xs)) ∧ R (Itn X.prog X.w d ob xs) H1) := by
  refine ⟨fun pins s σ H R I h => ?_⟩
  refine thn (he.run pins s σ H _ I h) fun u s1 ⟨x, H1, I1, rx, d, ob, xs, ex, hd, q⟩ => ?_
  subst ex
  obtain rfl : u = Value.ref d := rx
  obtain ⟨hs, hgd, hx, es, ep, hdt, hsz, _⟩ := frzN I1 hd
  refine iter_keys hs hgd hx hdt (pi_one (tk := s1.toks) I1 _ (turn_keysN hdt) ⟨_, Heap.get?_push_size _ rfl, rfl, ?_⟩ q)
  rw [hsz] <;> rfl
theorem RpN.getk : ∀ {xs : List (NestedKey × Addr × Value)} {es : List (D × D)} {i : Nat} {d : D}, RpN G M H xs es → (es.map (·.1))[i]? = some d → ∃ k a u, xs[i]? = some (k, a, u) ∧ Rp G M H (.ref a) d
  | _, _, _, _, .nil, h => by simp at h
  | _, _, 0, _, .cons rk _ _ _, h => by simp at h; subst h; exact ⟨_, _, _, rfl, rk⟩
  | _, _, i + 1, _, .cons _ _ _ r, h => by
    obtain ⟨k, a, u, h1, h2⟩ := RpN.getk (i := i) r (by simpa using h)
    exact ⟨k, a, u, by simpa using h1, h2⟩
theorem i_dictN (h : Ev X F en e (.dcn es)) : Ei X F tg e en (es.map (·.1)) := PI.wk (pi_keysN h) fun σ H R ⟨M, RR, q⟩ => ⟨M, RR, fun v H1 z i g rp ez => by
  subst ez
  cases rp with
  | dn hd hm rn =>
    rename_i ad ob xs
    refine ⟨ad, ob, xs, rfl, hd, q _ H1 i g fun M2 H2 kk hdm j => ⟨fun d hj => ?_, fun hj => ⟨(kk.ho hd hm).1, by rw [rn.length]; simpa using hj⟩⟩⟩
    obtain ⟨k', a', u', hx, rk⟩ := rn.getk hj
    refine ⟨⟨(kk.ho hd hm).1, (List.getElem?_eq_some_iff.mp hx).1⟩, fun x H3 ⟨e3, k2, a2, u2, h2, ex⟩ => ?_⟩
    rw [hx] at h2
    cases h2
    subst e3 ex
    exact ⟨Same.refl _, rk.kp kk⟩⟩
/-! ### name = {k: v for ..} with nested keys, all different -/
def stN (X : Cx) : StG := fun y z Dd H N => ∃ (xs : List (NestedKey × Addr × Value)) (ka : Addr) (M : Addr → Prop) (es : List (D × D)) (ds : List D) (n : Nat), y = .ref ka ∧ H Dd = some (DN (gx X) Dd xs) ∧ RpN (gx X) M H xs es ∧ (∀ q ∈ es, Hk 7 q.1) ∧ Rp (gx X) M H (.ref ka) (.tup ds) ∧ Hk n (.tup ds) ∧ n ≤ 7 ∧ es.length < sizeLine ∧ ∀ u, RelV z u → N (upd H Dd (DN (gx X) Dd (storedH xs (D.tup ds).nk ka u)))
theorem newN : NewG X (fun a => DN (gx X) a []) := fun H h hb => dn_empty h hb
theorem storeN {scope : Scope} (hu : X.A.units + 64 < cLine) : StoreG X scope (stN X) := by
  intro s3 H3 ce fp pins s σ H E Dd y z u r N Q I ry rz h hq
  obtain ⟨xs, ka, M, es, ds, n, rfl, hD, rn, hes, rk, hk, hn, hz, hN⟩ := h
  cases ry
  exact dn_set (X := X.blk s3 H3 scope ce fp) (v := z) I hu hD rn hes rk hk hn hz fun s' I' => hq s' _ I' (hN r rz)
theorem s_dcN {kx vx iter : Expr} {scope : Scope} {is : List Nat} {sp : D → Option (List D)} {ds : List D} {xn : Str} {px : Pos} (i0 : Nat) (own : List (Str × Nat)) (kf : D → List D) (vf : D → D) (hu : X.A.units + 64 < cLine) (hc : X.calm = true) (hN : X.N.Nodup) (ok : BlkOk X.N X.env.scope scope own) (hi : Ei X F tg iter en ds)
    (ht : TgB X F scope tg is sp) (he : ∀ d ∈ ds, Hk 7 (.tup (kf d)) ∧ ∃ items, sp d = some items ∧ EvB X F scope (setE (wipeE en (own.map (·.2))) is items) kx (.tup (kf d)) ∧ EvB X F scope (setE (wipeE en (own.map (·.2))) is items) vx (vf d)) (hnd : (ds.map fun d => nks (kf d)).Nodup) (hz : ds.length ≤ 1000000)
    (h : Sx X F (en.set i0 (some (.own (.dcn (ds.map fun d => (.tup (kf d), vf d)))))) rest k) (hown : ∀ i ∈ is, i ∈ own.map (·.2) := by decide) (hx : X.N[i0]? = some xn := by rfl) (hxl : X.env.scope.names.lookup xn = some .local := by rfl) (hsw : swapsWith (.DictComp kx vx [⟨tg, iter, [], 0⟩] scope pos) (some (.Name xn px)) spos.line X.env = pure true := by rfl)
    (hfs : ∀ x, foldedSetIterable iter X.env x = pure x := by intro _; rfl) : Sx X F en (.Assign [.Name xn px] (.DictComp kx vx [⟨tg, iter, [], 0⟩] scope pos) spos :: rest) k := by
  refine PSs.wk (pss_cons (ps_setDg (tk := teA X F scope kx) (tv := teA X F scope vx) (g := tgA X scope tg) newN (storeN hu) hc hN hx hxl hsw hi ok tgA_ok (fun _ _ _ _ _ => pts_nil) teA_ok teA_ok hfs) h) fun E σ H ⟨M, R, q⟩ => ⟨M, R, fun J H1 i1 g1 jok => ?_⟩
  intro L hL
  have R1 := R.step i1 g1
  have hL0 : H L = none := none_back R i1 g1 hL
  have hfr := F.nw _ _ R.inv hL0
  have i2 : F.I (upd H1 L (DN (gx X) L [])) := F.up _ _ _ i1 hfr
  have R2 : RepS (gx X) F (Mp M L) σ (upd H1 L (DN (gx X) L [])) en := R1.more i2 (Gr.new hL) hL hfr (by rw [upd_same]; exact fun z => nomatch z)
  have k12 : Kp M (Mp M L) H1 (upd H1 L (DN (gx X) L [])) := .more hL fun b o e _ => by rw [upd_ne (ne_of_none e hL)]; exact e
  let St' := fun (i : Nat) (H' : Hp) => RepS (gx X) F (Mp M L) σ H' en ∧ Gr F H H' ∧ Kp M (Mp M L) H1 H' ∧ ∃ xs, H' L = some (DN (gx X) L xs) ∧ RpN (gx X) (Mp M L) H' xs ((ds.take i).map fun d => (.tup (kf d), vf d))
  refine ⟨fun i m H' => St' i H' ∧ i ≤ ds.length ∧ m = ds.length - i, ⟨ds.length, ⟨R2, g1.trans (Gr.new hL), k12, [], upd_same, .nil⟩, Nat.zero_le _, rfl⟩, ?_⟩
  rintro i m H' ⟨⟨R', gr, k', acc, hacc, racc⟩, hle, rfl⟩
  have jk := jok (Mp M L) H' k' R'.dom i
  have hes : ∀ q ∈ (ds.take i).map fun d => ((D.tup (kf d), vf d) : D × D), Hk 7 q.1 := fun q hq => by
    obtain ⟨d, hd, rfl⟩ := List.mem_map.mp hq
    exact (he d (List.mem_of_mem_take hd)).1
  by_cases hlt : i < ds.length
  · have hdi : ds[i]? = some ds[i] := List.getElem?_eq_getElem hlt
    have hmem : ds[i] ∈ ds := List.getElem_mem hlt
    obtain ⟨go, yld⟩ := jk.1 _ hdi
    obtain ⟨hkk, items, hsp, hek, hev⟩ := he _ hmem
    refine .inr ⟨go, St' (i + 1), fun H3 z => ⟨ds.length - (i + 1), by omega, z, hlt, rfl⟩, fun x H3 y => ?_⟩
    obtain ⟨sm, rx⟩ := yld x H3 y
    have R3 := R'.same sm
    have k3 : Kp (Mp M L) (Mp M L) H' H3 := R'.kp (Gr.same sm)
    have R3w := R3.wipe (own.map (·.2))
    intro s0 H0 C cl fp
    refine ht s0 H0 C cl fp (Mp M L) _ H3 _ x _ items _ R3w rx hsp fun vs rs hl => ⟨?_, ?_⟩
    · rw [wipe_setV hown, wipe_idem]
    · have R4 := R3w.setl (is := is) rs
      refine iteT (B := St' (i + 1) H3) ⟨_, _, hek, Mp M L, R4, fun v H4 d4 i4 g4 rk e4 => ?_⟩
      subst e4
      have R5 := R4.step i4 g4
      refine ⟨_, _, hev, Mp M L, R5, fun v5 H5 d5 i5 g5 rv e5 => ?_⟩
      subst e5
      have gL5 : H5 L = some (DN (gx X) L acc) := g5 L _ (g4 L _ (sm L _ hacc) fun z => (F.zf L z).2 hfr) fun z => (F.zf L z).2 hfr
      have R3e := R3.step i4 g4
      have k45 : Kp (Mp M L) (Mp M L) H4 H5 := R3e.kp g5
      have k5 := (k3.trans (R3.kp g4)).trans k45
      have rk5 := rk.kp k45
      have rk5' := rk5
      have racc5 := racc.kp k5
      have hne : ∀ q ∈ (ds.take i).map fun d => ((D.tup (kf d), vf d) : D × D), q.1.nk ≠ (D.tup (kf ds[i])).nk := fun q hq z => by
        obtain ⟨d, hd, rfl⟩ := List.mem_map.mp hq
        have e : nks (kf d) = nks (kf ds[i]) := by simpa [D.nk] using z
        obtain ⟨j, hj⟩ := List.mem_iff_getElem?.mp hd
        rw [List.getElem?_take] at hj
        split at hj
        · rename_i hji
          have h1 : (ds.map fun d => nks (kf d))[j]? = some (nks (kf d)) := by rw [List.getElem?_map, hj]; rfl
          have h2 : (ds.map fun d => nks (kf d))[i]? = some (nks (kf ds[i])) := by rw [List.getElem?_map, hdi]; rfl
          have hjl : j < (ds.map fun d => nks (kf d)).length := by simp; omega
          have := (List.getElem?_inj hjl hnd).mp (h1.trans (by rw [e, h2]))
          omega
        · cases hj
      cases rk5' with
      | tup htk rsk =>
        rename_i ka vsk
        refine ⟨acc, ka, Mp M L, _, kf ds[i], 7, rfl, gL5, racc5, hes, rk5, hkk, Nat.le_refl _, ?_, fun u ru => ?_⟩
        · rw [List.length_map]
          exact Nat.lt_of_le_of_lt (List.length_take_le _ _) (Nat.lt_of_le_of_lt (Nat.le_trans hle hz) (by decide))
        · rw [storedH_new (racc5.no hkk hes hne)]
          obtain ⟨R6, k6⟩ := RepS.own_upd (o := DN (gx X) L (acc ++ [((D.tup (kf ds[i])).nk, ka, u)])) R hL0 (R3e.step i5 g5) hfr
          refine ⟨R6, fun b o e z => ?_, k'.trans (k5.trans k6), _, upd_same, ?_⟩
          · rw [upd_ne (ne_of_none e hL0)]
            exact ((gr.trans (Gr.same sm)).trans (g4.trans g5)) b o e z
          · have et : ds.take (i + 1) = ds.take i ++ [ds[i]] := by rw [List.take_add_one, hdi]; rfl
            rw [et, List.map_append]
            exact (RpN.app rk5 ru rv racc5).kp k6
  · have e1 : i = ds.length := by omega
    subst e1
    rw [List.take_length] at racc
    refine .inl ⟨jk.2 (Nat.le_refl _), ?_⟩
    obtain ⟨R9, n9⟩ : RepS (gx X) F (Mp M L) σ H' en ∧ NewO (gx X) F (Mp M L) H' σ en L (.dcn (ds.map fun d => (.tup (kf d), vf d))) := NewO.of R hL0 R'.inv gr (.dn hacc racc)
    exact ⟨_, R9.seto n9, q.step (.more hL0 (R.kp gr).at_)⟩
end
end Pz
end
section
set_option Elab.async false
set_option linter.all false
set_option maxRecDepth 100000
set_option maxHeartbeats 4000000
/-! PzU: defs whose result is told by a relation. -/
namespace Pz
open PySem PySem.Spec PyProof.Rows L2
def spR (G : Gx) (Pre : List D → Prop) (R : List D → D → Prop) : Sp := fun vs H Q _ => ∃ (M : Addr → Prop) (ds : List D), Rps G M H vs ds ∧ (∀ a, M a → H a ≠ none) ∧ Pre ds ∧ ∀ v H' d, Same H H' → R ds d → Rp G M H' v d → Q v H'
def CalW (P : Program) (w : World) (K : PySem.W.Frag) (mg : Str → Option Value) (base : Heap) (k : Nat) (x : Str) (Pre : List D → Prop) (R : List D → D → Prop) : Prop :=
  ∃ (f : Addr) (fd : FuncData) (ps : List Str), mg x = some (.ref f) ∧ PySem.W.keepIn K (.ref f) = true ∧ FnOk P w K mg base CX0 k f fd ps (spR ⟨P, w, K⟩ Pre R) ∧ Binds K fd ps []
section
variable {X : Cx} {F : Fr} {en : En} {e : Expr} {es : List Expr} {ds : List D} {d : D} {p pos : Pos} {k : Nat} {x : Str} {Pre : List D → Prop} {R : List D → D → Prop}
theorem e_callW (C : CalW X.prog X.w X.K X.mg X.base k x Pre R) (hr : Room k X.A) (ha : Ea X F en (e :: es) ds) (hp : Pre ds) (hg : Gl X x := by rfl) (hdb : (x == ("__debug__" : Str)) = false := by decide) (he : starEach (e :: es) X.env = (false, eval e X.env) :: starEach es X.env := by rfl)
    (hpl : (backTo pos (starEach es X.env)).any (·.1) = false := by rfl) : EvW X F en (.Call (.Name x p) (e :: es) [] pos) (R ds) := by
  obtain ⟨f, fd, ps, hm, hk, FF, hb⟩ := C
  exact PE.wk (pe_call FF hr hg hm hk hb .nil pass0 ha hdb he hpl) fun σ H Q ⟨M, R', q⟩ => ⟨M, R', fun vs H1 i g r => ⟨M, ds, by rw [List.append_nil]; exact r, (R'.step i g).dom, hp, fun v H2 d s hd r2 => q v H2 d (F.st _ _ i s) (g.trans (Gr.same s)) r2 hd⟩⟩
end
section
variable {P : Program} {w : World} {K : PySem.W.Frag} {mg : Str → Option Value} {base : Heap}
theorem calW_ok {x : Str} {st : Stmt} {N ps : List Str} {k : Nat} {Pre : List D → Prop} {R : List D → D → Prop} (C : DefAt K mg x st) (S : FnScope N ps (defScope st)) (len : ∀ ds, Pre ds → ds.length = ps.length)
    (hbi : ∀ (kV doc pm : Value) (an : Option Addr) (cdv ct : Value) (us : List Value), us.length = ps.length → bindArgs (PySem.W.fnOf x x (defArgs st) (defBody st) (defScope st) .none kV doc pm an cdv ct) ⟨us, []⟩ = Pure.pure (ps.zip us))
    (hb : ∀ (f : Addr) (cdv : Value) (A : Around) (outer : List Env) (s : Shared) (H : Hp) (E : XK) (Fm : Fr) (ds : List D), Room k (A.deeper (envOfC x (defScope st) s.heap.objs.size f cdv)) → Pre ds →
      Sx ((cxOf CX0 P w K mg base N x (defScope st) f cdv A outer s H E).nox) Fm (startE N ds) (defBody st) { nx := fun _ => R ds .non, rt := fun z => R ds z }) :
    CalW P w K mg base (k + 1) x Pre R := by
  obtain ⟨f, fd, hm, F⟩ := C
  refine ⟨f, fd, ps, hm, F.kp, ?_, F.binds hbi⟩
  refine F.ok S (fun vs H Q E h => ?_) (fun cdv A outer s H vs Q E hr h => ?_)
  · obtain ⟨M, ds, r, _, hR, _⟩ := h
    rw [r.length]
    exact len ds hR
  · obtain ⟨M, ds, r, hM, hR, q⟩ := h
    refine ⟨_, hb f cdv A outer s H E (Fr.pure M H hM) ds hr hR, M, start_rep hM r, ⟨fun M' σ' H' en' R' kp z => ?_, fun v H' z i rp e => q v H' z i e rp, fun _ _ _ _ _ _ z => z.elim, fun _ _ _ _ _ _ z => z.elim, fun _ _ _ _ _ _ _ z => z.elim, fun _ _ _ _ _ _ _ _ _ z => z.elim⟩⟩
    exact q .non H' .non R'.inv z .non
end
end Pz
end
section
set_option Elab.async false
set_option linter.all false
set_option maxRecDepth 100000
set_option maxHeartbeats 4000000
/-! PzV: sorted of one item, list of a dict with nested keys, calls with arguments told by relations. -/
namespace Pz
open PySem PySem.Spec PyProof.Rows L2
section
variable {X : Cx} {F : Fr} {en : En} {e e2 : Expr} {es : List Expr} {ds xs : List D} {d x y : D} {p pos : Pos}
theorem swo_none : SrtO.Swo (fun _ _ : Value => false) := ⟨fun _ _ h => absurd h Bool.false_ne_true, fun _ _ _ _ _ => rfl⟩
/-- sorted(xs), at most one item -/
theorem cr_sort1 : CallR X (.builtin "sorted") (fun vs H Q => ∃ a xs, vs = [V.ref a] ∧ SqL X.K H a xs ∧ xs.length ≤ 1 ∧ ∀ l, H l = none → Q (.ref l) (upd H l (.lst xs))) := by
  intro pins s σ H vs us Q I r h
  obtain ⟨a, xs, rfl, hs, h1, q⟩ := h
  obtain ⟨its, rv, hl, hz⟩ := I.list hs
  rw [Vals.ref1 r]
  have hlen := rv.length
  refine SrtO.sorted_ord swo_none hl.isList (by omega) (fun h2 => by omega) fun out _ hb => ?_
  have eo : out = its := by
    have hp := hb.perm
    cases its with
    | nil => exact hp.eq_nil
    | cons v r =>
      cases r with
      | nil => exact List.perm_singleton.mp hp
      | cons _ _ => simp at hlen; omega
  subst eo
  obtain ⟨ep, he'⟩ := PyProof.Rows.sortedAll_at s.heap out out.toArray
  exact ⟨.ref _, upd H (s.heap.objs.size + 1) (.lst xs), I.laid (t' := s.toks) (fun _ _ => PyProof.Rows.sortedAll_old) (Nat.le_succ _) ⟨hz, out, ep, rv, he'⟩, rfl, q _ (I.hok.fresh (Nat.le_succ _))⟩
theorem k_sort1 (h : xs.length ≤ 1) : CallN X F en (.builtin "sorted") [.lst xs] (.lst xs) := cn_of cr_sort1 fun M σ H v Q R bw q => by
  obtain ⟨ad, vs, rfl, hr, r⟩ := bw.lst R
  refine ⟨ad, vs, rfl, hr, by rw [r.length]; exact h, fun l hl => ?_⟩
  obtain ⟨i2, g2, o⟩ := R.new_lst hl r
  exact q _ _ i2 g2 hl o
/-- list(d), nested keys -/
theorem cr_listN (hc : X.calm = true) : CallR X (.type "list") (fun vs H Q => ∃ d xs, vs = [V.ref d] ∧ Rd H d (DN (gx X) d xs) ∧ ∀ l, H l = none → Q (.ref l) (upd H l (.lst (xs.map fun x => V.ref x.2.1)))) := by
  intro pins s σ H vs us Q I r h
  obtain ⟨d, xs, rfl, hd, q⟩ := h
  obtain ⟨u, rfl, rx⟩ := r.one
  cases rx
  have hq : DictN X.prog X.w d xs s.heap := by
    rcases hd with h | ⟨ob, h⟩
    · exact (I.hok d _ h).1
    · exact (I.hok d _ h).2.1
  obtain ⟨hz, hs, o, es, ep, ho, hx, hdt, he, hn⟩ := hq
  have l1 : es.size = xs.length := size_of_entries he
  refine PySem.W.kdl_call (kdl_raw hs hx hdt) (I.ok.hd hc) ho (by omega) fun h' tk acc' c' kp e it => ?_
  have ea : acc'.toList = xs.map fun x => Value.ref x.2.1 := by
    have hl : acc'.toList.length = xs.length := by rw [Array.length_toList, it.1]; exact l1
    apply List.ext_getElem?
    intro j
    rw [List.getElem?_map]
    cases hj : acc'.toList[j]? with
    | none =>
      have h1 := List.getElem?_eq_none_iff.mp hj
      rw [List.getElem?_eq_none (by omega)]
      all_goals rfl
    | some v =>
      obtain ⟨en, hen, hv⟩ := it.2 j v (by rw [← Array.getElem?_toList]; exact hj)
      have qe := entry_at he j
      rw [hen] at qe
      cases hb : xs[j]? with
      | none =>
        rw [hb] at qe
        exact nomatch (show some en = none from qe)
      | some b =>
        rw [hb] at qe
        have e2 : en = entryOfKey (nestedKind X.prog X.w) b := Option.some.inj qe
        rw [hv, e2]
        all_goals rfl
  have rv : ∀ xs : List (NestedKey × Addr × Value), Vals (xs.map fun x => V.ref x.2.1) (xs.map fun x => Value.ref x.2.1) := by
    intro xs
    induction xs with
    | nil => exact .nil
    | cons a r ih => exact .cons rfl ih
  refine ⟨.ref s.heap.objs.size, _, I.laid (t' := tk) (o := .lst (xs.map fun x => V.ref x.2.1)) kp (Nat.le_refl _) ?_, rfl, q _ (I.hok.fresh (Nat.le_refl _))⟩
  exact ⟨by rw [List.length_map]; exact hz, acc'.toList, c', by rw [ea]; exact rv xs, by rw [Array.toArray_toList]; exact e⟩
theorem RpN.keysV {G : Gx} {M : Addr → Prop} {H : Hp} : ∀ {xs : List (NestedKey × Addr × Value)} {es : List (D × D)}, RpN G M H xs es → Rps G M H (xs.map fun x => V.ref x.2.1) (es.map (·.1))
  | _, _, .nil => .nil
  | _, _, .cons rk _ _ r => .cons rk r.keysV
theorem k_listN {es : List (D × D)} (hc : X.calm = true) : CallN X F en (.type "list") [.dcn es] (.lst (es.map (·.1))) := cn_of (cr_listN hc) fun M σ H v Q R bw q => by
  obtain ⟨ad, xs, rfl, hd, rn⟩ := bw.dn R
  refine ⟨ad, xs, rfl, hd, fun l hl => ?_⟩
  obtain ⟨i2, g2, o⟩ := R.new_lst hl rn.keysV
  exact q _ _ i2 g2 hl o
/-! ### arguments told by a relation -/
def EaW (X : Cx) (F : Fr) (en : En) (es : List Expr) (K : List D → Prop) : Prop := PA X es (fun σ H Q => ∃ M, RepS (gx X) F M σ H en ∧ ∀ vs H' ds, F.I H' → Gr F H H' → Rps (gx X) M H' vs ds → K ds → Q vs H')
theorem aw_nil : EaW X F en [] (fun ds => ds = []) := PA.wk pa_nil fun σ H Q ⟨M, R, q⟩ => q [] H [] R.inv Gr.refl .nil rfl
theorem aw_cons {K : D → Prop} {K2 : List D → Prop} (h : EvW X F en e K) (hr : EaW X F en es K2) (hs : starEach (e :: es) X.env = (false, eval e X.env) :: starEach es X.env := by rfl) : EaW X F en (e :: es) (fun ds => ∃ d r, ds = d :: r ∧ K d ∧ K2 r) :=
  PA.wk (pa_cons h hr hs) fun σ H Q ⟨M, R, q⟩ => ⟨M, R, fun v H1 z i g r ez => ⟨M, R.step i g, fun vs H2 ds i2 g2 r2 k2 => q _ H2 _ i2 (g.trans g2) (.cons (r.kp ((R.step i g).kp g2)) r2) ⟨z, ds, rfl, ez, k2⟩⟩⟩
theorem EaW.to {K K' : List D → Prop} (h : EaW X F en es K) (k : ∀ z, K z → K' z) : EaW X F en es K' := PA.wk h fun σ H Q ⟨M, R, q⟩ => ⟨M, R, fun vs H' ds i g r kk => q vs H' ds i g r (k ds kk)⟩
theorem e_callA {k : Nat} {x : Str} {R : List D → D → Prop} {K : List D → Prop} (C : CalX X k x R) (hr : Room k X.A) (ha : EaW X F en (e :: es) K) (hR : ∀ ds, K ds → R ds d) (hg : Gl X x := by rfl) (hdb : (x == ("__debug__" : Str)) = false := by decide) (he : starEach (e :: es) X.env = (false, eval e X.env) :: starEach es X.env := by rfl)
    (hpl : (backTo pos (starEach es X.env)).any (·.1) = false := by rfl) : Ev X F en (.Call (.Name x p) (e :: es) [] pos) d := by
  obtain ⟨f, fd, ps, hm, hk, FF, hb⟩ := C
  exact PE.wk (pe_call FF hr hg hm hk hb .nil pass0 ha hdb he hpl) fun σ H Q ⟨M, R', q⟩ => ⟨M, R', fun vs H1 ds i g r kk => ⟨M, ds, d, by rw [List.append_nil]; exact r, (R'.step i g).dom, hR ds kk, fun v H2 s r2 => q v H2 d (F.st _ _ i s) (g.trans (Gr.same s)) r2 rfl⟩⟩
end
end Pz
end
section
set_option Elab.async false
set_option linter.all false
set_option maxRecDepth 100000
set_option maxHeartbeats 4000000
/-! PzW: defs at an address; properties; methods. -/
namespace Pz
open PySem PySem.Spec PyProof.Rows L2
/-- the def at f keeps R -/
def CalF (P : Program) (w : World) (K : PySem.W.Frag) (mg : Str → Option Value) (base : Heap) (k : Nat) (f : Addr) (R : List D → D → Prop) : Prop :=
  ∃ (fd : FuncData) (ps : List Str), FnOk P w K mg base CX0 k f fd ps (spF ⟨P, w, K⟩ R) ∧ Binds K fd ps []
section
variable {P : Program} {w : World} {K : PySem.W.Frag} {mg : Str → Option Value} {base : Heap}
theorem calF_ok {x qual : Str} {st : Stmt} {f : Addr} {fd : FuncData} {N ps : List Str} {k : Nat} {R : List D → D → Prop} (C : Fun K x qual st f fd) (S : FnScope N ps (defScope st)) (len : ∀ ds d, R ds d → ds.length = ps.length)
    (hbi : ∀ (kV doc pm : Value) (an : Option Addr) (cdv ct : Value) (us : List Value), us.length = ps.length → bindArgs (PySem.W.fnOf x qual (defArgs st) (defBody st) (defScope st) .none kV doc pm an cdv ct) ⟨us, []⟩ = Pure.pure (ps.zip us))
    (hb : ∀ (cdv : Value) (A : Around) (outer : List Env) (s : Shared) (H : Hp) (E : XK) (Fm : Fr) (ds : List D) (d : D), Room k (A.deeper (envOfC qual (defScope st) s.heap.objs.size f cdv)) → R ds d →
      Sx ((cxOf CX0 P w K mg base N qual (defScope st) f cdv A outer s H E).nox) Fm (startE N ds) (defBody st) { nx := fun _ => d = .non, rt := fun z => z = d }) :
    CalF P w K mg base (k + 1) f R := ⟨fd, ps, def_ok C S len hb, C.binds hbi⟩
end
theorem RpF.none {G : Gx} {M : Addr → Prop} {H : Hp} : ∀ {vs : List (Str × V)} {fs : List (Str × D)} {f : Str}, RpF G M H vs fs → fs.lookup f = none → vs.lookup f = none
  | _, _, _, .nil, _ => rfl
  | _, _, f, .cons (k := k') a r, h => by
    rw [List.lookup_cons] at h ⊢
    cases e : f == k' with
    | true =>
      rw [e] at h
      cases h
    | false =>
      rw [e] at h
      exact r.none h
section
variable {X : Cx} {F : Fr} {en : En} {o e : Expr} {es : List Expr} {ds : List D} {fs : List (Str × D)} {d : D} {p pos apos : Pos} {k : Nat} {f m : Str} {C g pa : Addr} {R : List D → D → Prop}
/-- o.f, a property -/
theorem e_prop (H0 : CalF X.prog X.w X.K X.mg X.base k g R) (hr : Room (k + 1) X.A) (ho : Ev X F en o (.ins C fs)) (cl : Cls X.K C) (hp : PropOf X.K C f pa g) (hR : R [.ins C fs] d) (hb : attributeBase o f X.env (eval o X.env) = eval o X.env := by rfl) : Ev X F en (.Attribute o f pos) d := by
  obtain ⟨fd, ps, FF, bi⟩ := H0
  exact PE.wk (pe_prop ho cl hp FF hr bi .nil pass0 hb) fun σ H Q ⟨M, R, q⟩ => ⟨M, R, fun v H1 d' i g r ed => by
    subst ed
    have R1 := R.step i g
    obtain ⟨a, dx, us, rfl, h, _⟩ := Bw.ins (σ := σ) (en := en) (Or.inl r) R1
    exact ⟨a, dx, us, rfl, h, M, [.ins C fs], d, .cons r .nil, (R.step i g).dom, hR, fun v H2 s r2 => q v H2 d (F.st _ _ i s) (g.trans (Gr.same s)) r2 rfl⟩⟩
/-- o.m(e, ..) -/
theorem e_meth {pl : Sem Bool} (H0 : CalF X.prog X.w X.K X.mg X.base k g R) (hr : Room k X.A) (ho : Ev X F en o (.ins C fs)) (cl : Cls X.K C) (hm : Meth X.K C m g) (hl : fs.lookup m = none) (ha : Ea X F en (e :: es) ds) (hR : R (.ins C fs :: ds) d)
    (hst : starEach (e :: es) X.env = (false, eval e X.env) :: starEach es X.env := by rfl) (hpl : (backTo pos (starEach es X.env)).any (·.1) = false := by rfl)
    (ht : eval (.Call (.Attribute o m apos) (e :: es) [] pos) X.env = (do
      let ov ← eval o X.env
      standAt apos.atName
      let (f, first) ← holding [ov] (getMethod ov m pl)
      callWith pos f first (backTo pos (starEach (e :: es) X.env)) (backToKw pos (keywordEach [] X.env))) := by rfl) : Ev X F en (.Call (.Attribute o m apos) (e :: es) [] pos) d := by
  obtain ⟨fd, ps, FF, bi⟩ := H0
  exact PE.wk (pe_meth ho cl hm FF hr bi .nil pass0 ha hst hpl ht) fun σ H Q ⟨M, R, q⟩ => ⟨M, R, fun v H1 d' i g r ed => by
    subst ed
    have R1 := R.step i g
    obtain ⟨a, dx, us, rfl, h, ru⟩ := Bw.ins (σ := σ) (en := en) (Or.inl r) R1
    exact ⟨a, dx, us, rfl, h, ru.none hl, M, R.step i g, fun vs H2 i2 g2 r2 => ⟨M, .ins C fs :: ds, d, by rw [List.append_nil]; exact .cons (r.kp (R1.kp g2)) r2, ((R.step i g).step i2 g2).dom, hR, fun v H3 s r3 => q v H3 d (F.st _ _ i2 s) (g.trans (g2.trans (Gr.same s))) r3 rfl⟩⟩⟩
end
end Pz
end
section
set_option Elab.async false
set_option linter.all false
set_option maxRecDepth 100000
set_option maxHeartbeats 4000000
/-! PzX: making an instance: fields set at a known address. -/
namespace Pz
open PySem PySem.Spec PyProof.Rows L2
section
variable {X : Cx} {F : Fr} {en : En} {e : Expr} {d : D} {rest : List Stmt} {k : KD} {p1 p2 pos : Pos}
/-- self.f = e, self the own instance at x -/
theorem s_fldA (i : Nat) {x C : Addr} {fs : List (Str × D)} {f nm_ : Str} (he : Ev X F en e d) (h : Sx X F (en.set i (some (.own (.insA x C (putFD f d fs))))) rest k) (cl : Cls X.K C) (n : NoAttr X.K C f) (hl : fs.length < 1000) (hi : en[i]? = some (some (.own (.insA x C fs))) := by rfl) (hN : X.N[i]? = some nm_ := by rfl)
    (hv : Vis X.env.scope nm_ := by first | exact Or.inl rfl | exact Or.inr (Or.inl rfl) | exact Or.inr (Or.inr rfl)) (hd : (nm_ == ("__debug__" : Str)) = false := by decide) (hcd : (nm_ == ("__classdict__" : Str)) = false := by decide)
    (hs : swapsWith e (some (.Attribute (.Name nm_ p1) f p2)) pos.line X.env = pure false := by rfl) : Sx X F en (.Assign [.Attribute (.Name nm_ p1) f p2] e pos :: rest) k :=
  PSs.wk (pss_cons (ps_fld (pe_var hN hv hd hcd) he hs) h) fun E σ H ⟨M, R, q⟩ => ⟨M, R, fun v H1 d' i1 g1 rp ed => by
    subst ed
    obtain ⟨a, e1, h2, h3, h4, h5⟩ := R.own i _ hi
    cases h5 with
    | insA hv rv =>
      rename_i dx vs
      have R1 := R.step i1 g1
      have hv1 : H1 x = some (.ins C dx vs) := g1 x _ hv fun z => (F.zf x z).2 h4
      have kk : Kp M M H1 (upd H1 x (.ins C dx (putF f v vs))) := ⟨fun b u e hm => by rw [upd_ne (fun z => hm (by rw [z]; exact h2))]; exact e, fun _ _ hm => hm⟩
      refine ⟨.ref x, e1, x, C, dx, vs, rfl, hv1, cl, n, by rw [rv.length]; exact hl, M, R1.chg hi e1 (.insA upd_same ((RpF.put rp (rv.kp (R.kp g1))).kp kk)), q.step ((R.kp g1).trans kk)⟩⟩
end
/-- the frame of an __init__ at x -/
def Fr.ini (M : Addr → Prop) (H : Hp) (x : Addr) (hM : ∀ a, M a → H a ≠ none) : Fr where
  M0 := M
  Z := fun _ => False
  I := fun H' => ∀ b o, H b = some o → b ≠ x → H' b = some o
  fresh := fun a => H a = none ∨ a = x
  st := fun _ _ a b c o h z => b c o (a c o h z)
  up := fun H' a o s hn b u hb hx => by
    rw [upd_ne (fun z => by
      rcases hn with hn | hn
      · rw [z, hn] at hb; cases hb
      · exact hx (z.trans hn))]
    exact s b u hb hx
  nw := fun H' a s hn => by
    by_cases hx : a = x
    · exact .inr hx
    · cases e : H a with
      | none => exact .inl rfl
      | some o => rw [s a o e hx] at hn; cases hn
  zf := fun _ z => z.elim
  zi := fun _ _ _ z => z.elim
end Pz
end
section
set_option Elab.async false
set_option linter.all false
set_option maxRecDepth 100000
set_option maxHeartbeats 4000000
/-! PzY: __init__ by data. -/
namespace Pz
open PySem PySem.Spec PyProof.Rows L2
def iniE (N : List Str) (x C : Addr) (ds : List D) : En := some (.own (.insA x C [])) :: ds.map (fun d => some (.v d)) ++ List.replicate (N.length - (ds.length + 1)) none
def spI (G : Gx) (C : Addr) (R : List D → List (Str × D) → Prop) : Sp := fun vs H Q _ => ∃ (M : Addr → Prop) (x dx : Addr) (us : List V) (ds : List D) (fs : List (Str × D)), vs = .ref x :: us ∧ H x = some (.ins C dx []) ∧ Rps G (Mp M x) H us ds ∧ (∀ a, M a → H a ≠ none) ∧ ¬ M x ∧ R ds fs ∧
  ∀ H', (∀ b o, H b = some o → b ≠ x → H' b = some o) → Own G (Mp M x) H' x (.ins C fs) → Q .non H'
theorem ini_sl {N : List Str} {x C : Addr} {ds : List D} {i : Nat} {s : Sl} (h : (iniE N x C ds)[i]? = some (some s)) : (i = 0 ∧ s = .own (.insA x C [])) ∨ ∃ j d, i = j + 1 ∧ ds[j]? = some d ∧ s = .v d := by
  match i, h with
  | 0, h => cases h; exact .inl ⟨rfl, rfl⟩
  | j + 1, h =>
    have h : (ds.map (fun d => some (.v d)) ++ List.replicate (N.length - (ds.length + 1)) none)[j]? = some (some s) := h
    refine .inr ⟨j, ?_⟩
    by_cases hi : j < ds.length
    · rw [List.getElem?_append_left (by simpa using hi), List.getElem?_map, List.getElem?_eq_getElem hi] at h
      exact ⟨ds[j], rfl, List.getElem?_eq_getElem hi, by cases h; rfl⟩
    · rw [List.getElem?_append_right (by simpa using hi), List.getElem?_replicate] at h
      split at h <;> cases h
theorem ini_rep {G : Gx} {M : Addr → Prop} {H : Hp} {N : List Str} {x C dx : Addr} {us : List V} {ds : List D} (hM : ∀ a, M a → H a ≠ none) (hx : ¬ M x) (hi : H x = some (.ins C dx [])) (r : Rps G (Mp M x) H us ds) :
    RepS G (Fr.ini M H x hM) (Mp M x) (L2.start N (.ref x :: us)) H (iniE N x C ds) := by
  have hl := r.length
  refine ⟨fun _ _ h _ => h, fun _ h => .inl h, fun a h => h.elim .inl fun e => .inr (.inr e), fun a h => h.elim (hM a) (fun e => e ▸ hi ▸ (Option.some_ne_none _)), fun i d h => ?_, fun i j a d d' hij h1 h2 => ?_, fun i d h => ?_, by simp [iniE, L2.start, hl]⟩
  · rcases ini_sl h with ⟨rfl, e⟩ | ⟨_, _, _, _, e⟩
    · cases e
      exact ⟨x, rfl, .inr rfl, hx, .inr rfl, .insA hi .nil⟩
    · cases e
  · rcases ini_sl h1 with ⟨rfl, _⟩ | ⟨_, _, _, _, e⟩
    · rcases ini_sl h2 with ⟨rfl, _⟩ | ⟨_, _, _, _, e⟩
      · exact absurd rfl hij
      · cases e
    · cases e
  · rcases ini_sl h with ⟨_, e⟩ | ⟨j, d', rfl, h1, e⟩
    · cases e
    · cases e
      obtain ⟨v, hv, rv⟩ := r.get h1
      refine ⟨v, ?_, rv⟩
      have hj : j < us.length := (List.getElem?_eq_some_iff.mp hv).1
      unfold L2.start
      rw [List.getElem?_append_left (by simpa using hj), List.getElem?_map, List.getElem?_cons_succ, hv]
      rfl
end Pz
end
section
set_option Elab.async false
set_option linter.all false
set_option maxRecDepth 100000
set_option maxHeartbeats 4000000
/-! PzZ: C(..) by data. -/
namespace Pz
open PySem PySem.Spec PyProof.Rows L2
section
variable {P : Program} {w : World} {K : PySem.W.Frag} {mg : Str → Option Value} {base : Heap}
theorem def_okI {x qual : Str} {st : Stmt} {f C : Addr} {fd : FuncData} {N ps : List Str} {k : Nat} {R : List D → List (Str × D) → Prop} (F : Fun K x qual st f fd) (S : FnScope N ps (defScope st)) (len : ∀ ds fs, R ds fs → ds.length + 1 = ps.length)
    (hb : ∀ (cdv : Value) (A : Around) (outer : List Env) (s : Shared) (H : Hp) (E : XK) (Fm : Fr) (y : Addr) (ds : List D) (fs : List (Str × D)), Room k (A.deeper (envOfC qual (defScope st) s.heap.objs.size f cdv)) → R ds fs →
      Sx ((cxOf CX0 P w K mg base N qual (defScope st) f cdv A outer s H E).nox) Fm (iniE N y C ds) (defBody st) { nx := fun en' => en'[0]? = some (some (.own (.insA y C fs))), rt := fun _ => False }) :
    FnOk P w K mg base CX0 (k + 1) f fd ps (spI ⟨P, w, K⟩ C R) := by
  refine F.ok S (fun vs H Q E h => ?_) (fun cdv A outer s H vs Q E hr h => ?_)
  · obtain ⟨M, y, dx, us, ds, fs, rfl, _, r, _, _, hR, _⟩ := h
    rw [List.length_cons, r.length]
    exact len ds fs hR
  · obtain ⟨M, y, dx, us, ds, fs, rfl, hy, r, hM, hn, hR, q⟩ := h
    refine ⟨_, hb cdv A outer s H E (Fr.ini M H y hM) y ds fs hr hR, Mp M y, ini_rep hM hn hy r, ⟨fun M' σ' H' en' R' kp z => ?_, fun v H' z i rp e => e.elim, fun _ _ _ _ _ _ z => z.elim, fun _ _ _ _ _ _ z => z.elim, fun _ _ _ _ _ _ _ z => z.elim, fun _ _ _ _ _ _ _ _ _ z => z.elim⟩⟩
    obtain ⟨a, _, h2, _, _, h5⟩ := R'.own 0 _ z
    cases h5 with
    | insA hv rv => exact q H' R'.inv (.ins hv (rv.kp ⟨fun _ _ h _ => h, fun b _ hm z => hm (z.elim (R'.m0 b) fun e => e ▸ h2)⟩))
/-- the module's name x is a class that makes instances by R -/
def CalI (P : Program) (w : World) (K : PySem.W.Frag) (mg : Str → Option Value) (base : Heap) (k : Nat) (x : Str) (C : Addr) (R : List D → List (Str × D) → Prop) : Prop :=
  ∃ (f : Addr) (fd : FuncData) (ps : List Str), mg x = some (.ref C) ∧ Mk K C f ∧ FnOk P w K mg base CX0 k f fd ps (spI ⟨P, w, K⟩ C R) ∧ Binds K fd ps []
end
theorem f_make {X : Cx} {F : Fr} {en : En} {e : Expr} {es : List Expr} {ds : List D} {fs : List (Str × D)} {p pos : Pos} {k : Nat} {x : Str} {C : Addr} {R : List D → List (Str × D) → Prop} (H0 : CalI X.prog X.w X.K X.mg X.base k x C R) (hr : Room (k + 1) X.A) (ha : Ea X F en (e :: es) ds) (hR : R ds fs) (hg : Gl X x := by rfl) (hdb : (x == ("__debug__" : Str)) = false := by decide) (he : starEach (e :: es) X.env = (false, eval e X.env) :: starEach es X.env := by rfl)
    (hpl : (backTo pos (starEach es X.env)).any (·.1) = false := by rfl) : Ef X F en (.Call (.Name x p) (e :: es) [] pos) (.ins C fs) := by
  obtain ⟨f, fd, ps, hm, mk, FF, hb⟩ := H0
  exact PE.wk (pe_make mk FF hr hg hm hb .nil pass0 ha hdb he hpl) fun σ H Q ⟨M, R, q⟩ => ⟨M, R, fun vs H1 i g r => fun y dx h1 h2 hne => by
    have R1 := R.step i g
    have hM : ¬ M y := R1.notin h1
    have sm : ∀ b o, H1 b = some o → (upd (upd H1 dx (.own y)) y (.ins C dx [])) b = some o := fun b o h => by
      rw [upd_ne (ne_of_none h h1), upd_ne (ne_of_none h h2)]
      exact h
    refine ⟨M, y, dx, vs, ds, fs, by rw [List.append_nil], upd_same, r.kp (Kp.more h1 fun b o h _ => sm b o h), fun a ha z => ?_, hM, hR, fun H' hs o => ⟨rfl, ?_⟩⟩
    · cases e1 : H1 a with
      | none => exact R1.dom a ha e1
      | some u => rw [sm a u e1] at z; cases z
    · have st : Same H1 H' := fun b o h => hs b o (sm b o h) fun z => by rw [z, h1] at h; cases h
      exact q y H' _ (F.st _ _ i st) (g.trans (Gr.same st)) (none_back R i g h1) o rfl⟩
end Pz
end
section
set_option Elab.async false
set_option linter.all false
set_option maxRecDepth 100000
set_option maxHeartbeats 4000000
/-! Qa: three ints by reference; operators, subscripts, loops told by relations. -/
namespace Pz
open PySem PySem.Spec PyProof.Rows L2
/-! ### dice -/
def Dice (H : Hp) (x : Addr) : Prop := ∃ i j k : Int, H x = some (.lst [.int i, .int j, .int k])
def SameB (x : Addr) (H H' : Hp) : Prop := ∀ b o, H b = some o → b ≠ x → H' b = some o
/-- the frame knows the dice at x -/
structure DF (F : Fr) (x : Addr) : Prop where
  z : F.Z x
  chg : ∀ H H', F.I H → SameB x H H' → Dice H' x → F.I H'
  ok : ∀ H, F.I H → Dice H x
theorem DF.gr {F : Fr} {x : Addr} (h : DF F x) {H H' : Hp} (s : SameB x H H') : Gr F H H' := fun b o e nz => s b o e fun z => nz (z ▸ h.z)
def Fr.dice (M : Addr → Prop) (H : Hp) (x : Addr) (hM : ∀ a, M a → H a ≠ none) (hx : M x) : Fr where
  M0 := M
  Z := fun a => a = x
  I := fun H' => SameB x H H' ∧ Dice H' x
  fresh := fun a => H a = none
  st := fun H1 H2 a s => ⟨fun c o h n => s c o (a.1 c o h n), let ⟨i, j, k, e⟩ := a.2; ⟨i, j, k, s _ _ e⟩⟩
  up := fun H' a o z hn => by
    obtain ⟨s, i, j, k, e⟩ := z
    have ne : x ≠ a := fun z => hM x hx (z ▸ hn)
    exact ⟨fun b u hb n => by rw [upd_ne (ne_of_none hb hn)]; exact s b u hb n, i, j, k, by rw [upd_ne ne]; exact e⟩
  nw := fun H' a z hn => by
    obtain ⟨s, i, j, k, e⟩ := z
    by_cases hx : a = x
    · subst hx; rw [e] at hn; cases hn
    · cases e2 : H a with
      | none => rfl
      | some o => rw [s a o e2 hx] at hn; cases hn
  zf := fun a z => ⟨z ▸ hx, fun h => hM x hx (z ▸ h)⟩
  zi := fun H' a y z => by
    obtain ⟨_, i, j, k, e⟩ := y
    rw [z, e]; exact fun q => nomatch q
theorem Fr.dice_df {M : Addr → Prop} {H : Hp} {x : Addr} {hM : ∀ a, M a → H a ≠ none} {hx : M x} : DF (Fr.dice M H x hM hx) x :=
  ⟨rfl, fun _ _ a b d => ⟨fun c o h n => b c o (a.1 c o h n) n, d⟩, fun _ h => h.2⟩
theorem start_repF {G : Gx} {F : Fr} {H : Hp} {N : List Str} {vs : List V} {ds : List D} (hI : F.I H) (hM : ∀ a, F.M0 a → H a ≠ none) (r : Rps G F.M0 H vs ds) : RepS G F F.M0 (L2.start N vs) H (startE N ds) := by
  have R := start_rep (N := N) hM r
  exact ⟨hI, fun _ h => h, fun _ h => .inl h, hM, fun i d h => by
    obtain ⟨a, h1, h2, h3, h4, h5⟩ := R.own i d h
    exact absurd h2 h3, R.sep, R.val, R.len⟩
def spZ (G : Gx) (Pre : List D → Prop) (R : List D → D → Prop) : Sp := fun vs H Q _ => ∃ (M : Addr → Prop) (x : Addr) (us : List V) (ds : List D), vs = .ref x :: us ∧ M x ∧ Dice H x ∧ Rps G M H us ds ∧ (∀ a, M a → H a ≠ none) ∧ Pre ds ∧
  ∀ v H' d, SameB x H H' → Dice H' x → R ds d → Rp G M H' v d → Q v H'
def CalZ (P : Program) (w : World) (K : PySem.W.Frag) (mg : Str → Option Value) (base : Heap) (k : Nat) (x : Str) (Pre : List D → Prop) (R : List D → D → Prop) : Prop :=
  ∃ (f : Addr) (fd : FuncData) (ps : List Str), mg x = some (.ref f) ∧ PySem.W.keepIn K (.ref f) = true ∧ FnOk P w K mg base CX0 k f fd ps (spZ ⟨P, w, K⟩ Pre R) ∧ Binds K fd ps []
section
variable {X : Cx} {F : Fr} {en : En} {e : Expr} {es : List Expr} {p pos : Pos} {k : Nat} {f : Str} {Pre : List D → Prop} {R : List D → D → Prop} {x : Addr}
theorem e_callZ {K : List D → Prop} {K' : D → Prop} (C : CalZ X.prog X.w X.K X.mg X.base k f Pre R) (df : DF F x) (hr : Room k X.A) (ha : EaW X F en (e :: es) K) (hp : ∀ l, K l → ∃ ds, l = .ref x :: ds ∧ Pre ds ∧ ∀ d, R ds d → K' d) (hg : Gl X f := by rfl) (hdb : (f == ("__debug__" : Str)) = false := by decide) (he : starEach (e :: es) X.env = (false, eval e X.env) :: starEach es X.env := by rfl)
    (hpl : (backTo pos (starEach es X.env)).any (·.1) = false := by rfl) : EvW X F en (.Call (.Name f p) (e :: es) [] pos) K' := by
  obtain ⟨f, fd, ps, hm, hk, FF, hb⟩ := C
  exact PE.wk (pe_call FF hr hg hm hk hb .nil pass0 ha hdb he hpl) fun σ H Q ⟨M, R', q⟩ => ⟨M, R', fun vs H1 l i g r kl => by
    obtain ⟨ds, rfl, hpre, hk⟩ := hp l kl
    cases r with
    | cons a r =>
      cases a
      exact ⟨M, x, _, ds, by rw [List.append_nil], R'.m0 x (F.zf x df.z).1, df.ok H1 i, r, (R'.step i g).dom, hpre, fun v H2 d s hd hR r2 => q v H2 d (df.chg H1 H2 i s hd) (g.trans (df.gr s)) r2 (hk d hR)⟩⟩
end
section
variable {P : Program} {w : World} {K : PySem.W.Frag} {mg : Str → Option Value} {base : Heap}
theorem calZ_ok {f : Str} {st : Stmt} {N ps : List Str} {k : Nat} {Pre : List D → Prop} {R : List D → D → Prop} (C : DefAt K mg f st) (S : FnScope N ps (defScope st)) (len : ∀ ds, Pre ds → ds.length + 1 = ps.length)
    (hbi : ∀ (kV doc pm : Value) (an : Option Addr) (cdv ct : Value) (us : List Value), us.length = ps.length → bindArgs (PySem.W.fnOf f f (defArgs st) (defBody st) (defScope st) .none kV doc pm an cdv ct) ⟨us, []⟩ = Pure.pure (ps.zip us))
    (hb : ∀ (a : Addr) (cdv : Value) (A : Around) (outer : List Env) (s : Shared) (H : Hp) (E : XK) (Fm : Fr) (x : Addr) (ds : List D), DF Fm x → Room k (A.deeper (envOfC f (defScope st) s.heap.objs.size a cdv)) → Pre ds →
      Sx ((cxOf CX0 P w K mg base N f (defScope st) a cdv A outer s H E).nox) Fm (startE N (.ref x :: ds)) (defBody st) { nx := fun _ => R ds .non, rt := fun z => R ds z }) :
    CalZ P w K mg base (k + 1) f Pre R := by
  obtain ⟨a, fd, hm, FF⟩ := C
  refine ⟨a, fd, ps, hm, FF.kp, ?_, FF.binds hbi⟩
  refine FF.ok S (fun vs H Q E h => ?_) (fun cdv A outer s H vs Q E hr h => ?_)
  · obtain ⟨M, x, us, ds, rfl, _, _, r, _, hR, _⟩ := h
    rw [List.length_cons, r.length]
    exact len ds hR
  · obtain ⟨M, x, us, ds, rfl, hx, hd, r, hM, hR, q⟩ := h
    refine ⟨_, hb a cdv A outer s H E (Fr.dice M H x hM hx) x ds Fr.dice_df hr hR, M, start_repF (F := Fr.dice M H x hM hx) ⟨fun _ _ h _ => h, hd⟩ hM (.cons (.ref x) r), ⟨fun M' σ' H' en' R' kp z => ?_, fun v H' z i rp e => q v H' z i.1 i.2 e rp, fun _ _ _ _ _ _ z => z.elim, fun _ _ _ _ _ _ z => z.elim, fun _ _ _ _ _ _ _ z => z.elim, fun _ _ _ _ _ _ _ _ _ z => z.elim⟩⟩
    exact q .non H' .non R'.inv.1 R'.inv.2 z .non
end
/-! ### operators, subscripts, loops by relations -/
section
variable {X : Cx} {F : Fr} {en : En} {tg a b c e : Expr} {d x y z : D} {pos p p1 p2 : Pos} {K1 K2 K : D → Prop} {G : Gx} {k : KD} {rest : List Stmt}
theorem opW_read {f : Value → Value → Sem Value} (ha : EvW X F en a K1) (hb : EvW X F en b K2) (ho : ∀ x y, K1 x → K2 y → ∃ z, OpD X F en f x y z ∧ K z) (σ : St) (H : Hp) (Q : VK) (h : tW (gx X) F en K σ H Q) :
    tW (gx X) F en K1 σ H fun vx H1 => tW (gx X) F en K2 σ H1 fun vy H2 => rU X f vx vy H2 Q := by
  obtain ⟨M, R, q⟩ := h
  refine ⟨M, R, fun vx H1 x i1 g1 rx kx => ?_⟩
  have R1 := R.step i1 g1
  refine ⟨M, R1, fun vy H2 y i2 g2 ry ky => ?_⟩
  have R2 := R1.step i2 g2
  obtain ⟨z, o, kz⟩ := ho x y kx ky
  exact o M σ H2 vx vy Q R2 (.inl (rx.kp (R1.kp g2))) (.inl ry) fun v H' i3 g3 r => q v H' z i3 ((g1.trans g2).trans g3) r kz
theorem e_binW {op : Operator} (ha : EvW X F en a K1) (hb : EvW X F en b K2) (ho : ∀ x y, K1 x → K2 y → ∃ z, OpD X F en (binaryOp op) x y z ∧ K z) : EvW X F en (.BinOp a op b pos) K :=
  PE.wk (pe_op rU_ok ha hb) fun σ H Q h => opW_read ha hb ho σ H Q h
theorem t_cmpW {op : CmpOp} {KB : Bool → Prop} (ha : EvW X F en a K1) (hb : EvW X F en b K2) (ho : ∀ x y, K1 x → K2 y → ∃ z : Bool, OpD X F en (compareOp op) x y (.bl z) ∧ KB z) (hm : behindInMarks op b = false := by first | exact nomark _ | rfl) : EtW X F en (.Compare a [op] [b] pos) KB :=
  PT.wk (pt_cmpR rU_ok ha hb hm) fun σ H Q ⟨M, R, q⟩ => opW_read (K := fun d => ∃ z : Bool, d = .bl z ∧ KB z) ha hb (fun x y kx ky => let ⟨z, o, kz⟩ := ho x y kx ky; ⟨.bl z, o, z, rfl, kz⟩) σ H _ ⟨M, R, fun v H' d i g r e => by
    obtain ⟨z, rfl, kz⟩ := e
    cases r
    exact ⟨z, rfl, q z H' i g kz⟩⟩
theorem e_ixW (ha : Ev X F en a x) (hb : EvW X F en b K2) (ho : ∀ y, K2 y → ∃ z, IxD X F en x y z ∧ K z) (hs : PlainIx b := by intro _ _; rfl) : EvW X F en (.Subscript a b pos) K :=
  PE.wk (pe_ix ix_seq ha hb hs) fun σ H Q ⟨M, R, q⟩ => ⟨M, R, fun vx H1 x' i1 g1 rx ex => ⟨M, R.step i1 g1, fun vy H2 y i2 g2 ry ky => by
    subst ex
    have R1 := R.step i1 g1
    obtain ⟨z, o, kz⟩ := ho y ky
    exact o M σ H2 vx vy Q (R1.step i2 g2) (.inl (rx.kp (R1.kp g2))) (.inl ry) fun v H' i3 g3 r => q v H' z i3 ((g1.trans g2).trans g3) r kz⟩⟩
theorem t_boolW {KB : Bool → Prop} (h : EvW X F en a (fun d => ∃ z : Bool, d = .bl z ∧ KB z)) (he : ∀ whole, isTrue a X.env whole = (do let v ← whole; standAt a.pos; holding [v] (truthy v)) := by intro _; rfl) : EtW X F en a KB :=
  PT.wk (pt_val h he) fun σ H Q ⟨M, R, q⟩ => ⟨M, R, fun v H' d i g r e => by
    obtain ⟨z, rfl, kz⟩ := e
    cases r
    exact ⟨z, rfl, q z H' i g kz⟩⟩
/-- one of three ints -/
theorem e_diceIx {a : Addr} {nm_ : Str} {j : Nat} (i : Nat) (df : DF F a) (hb : Ev X F en b (.int (j : Int))) (hj : j < 3) (h : en[i]? = some (some (.v (.ref a))) := by rfl) (hN : X.N[i]? = some nm_ := by rfl)
    (hv : Vis X.env.scope nm_ := by first | exact Or.inl rfl | exact Or.inr (Or.inl rfl) | exact Or.inr (Or.inr rfl)) (hd : (nm_ == ("__debug__" : Str)) = false := by decide) (hcd : (nm_ == ("__classdict__" : Str)) = false := by decide) (hs : PlainIx b := by intro _ _; rfl) :
    EvW X F en (.Subscript (.Name nm_ p1) b pos) (fun d => ∃ n : Int, d = .int n) :=
  PE.wk (pe_ix ix_seq (nm i h hN hv hd hcd) hb hs) fun σ H Q ⟨M, R, q⟩ => ⟨M, R, fun vx H1 x' i1 g1 rx ex => ⟨M, R.step i1 g1, fun vy H2 y i2 g2 ry ky => by
    subst ex ky
    cases rx
    cases ry
    obtain ⟨n0, n1, n2, e⟩ := df.ok H2 i2
    obtain ⟨n, hn⟩ : ∃ n : Int, ([V.int n0, .int n1, .int n2] : List V)[j]? = some (.int n) := by
      match j, hj with
      | 0, _ => exact ⟨n0, rfl⟩
      | 1, _ => exact ⟨n1, rfl⟩
      | 2, _ => exact ⟨n2, rfl⟩
    exact .inl ⟨a, _, (j : Int), .int n, rfl, rfl, .of e, atI_nat hn, q _ H2 (.int n) i2 (g1.trans g2) (.int n) ⟨n, rfl⟩⟩⟩⟩
/-- dice[j] = e -/
theorem s_diceSet {a : Addr} {nm_ : Str} {j : Nat} (i : Nat) (df : DF F a) (he : EvW X F en e (fun d => ∃ n : Int, d = .int n)) (hb : Ev X F en b (.int (j : Int))) (hj : j < 3) (h : Sx X F en rest k) (hi : en[i]? = some (some (.v (.ref a))) := by rfl) (hN : X.N[i]? = some nm_ := by rfl)
    (hv : Vis X.env.scope nm_ := by first | exact Or.inl rfl | exact Or.inr (Or.inl rfl) | exact Or.inr (Or.inr rfl)) (hd : (nm_ == ("__debug__" : Str)) = false := by decide) (hcd : (nm_ == ("__classdict__" : Str)) = false := by decide)
    (hs : swapsWithSole [.Subscript (.Name nm_ p1) b p2] e pos.line X.env = pure false := by rfl) (hw : swappedStores [.Subscript (.Name nm_ p1) b p2] e X.env = pure none := by rfl)
    (h1 : (assignEach [.Subscript (.Name nm_ p1) b p2] X.env).map (·.2) = [assign (.Subscript (.Name nm_ p1) b p2) X.env] := by rfl)
    (ha : ∀ v, assign (.Subscript (.Name nm_ p1) b p2) X.env v = (do
      let ov ← holding [v] (eval (.Name nm_ p1) X.env)
      let iv ← holding [v, ov] (eval b X.env)
      standAt p2
      holding [v, ov, iv] (setItem ov iv v)
      release [v, ov, iv] []) := by intro _; rfl) : Sx X F en (.Assign [.Subscript (.Name nm_ p1) b p2] e pos :: rest) k :=
  PSs.wk (pss_cons (ps_asg he (pg_sub (pe_var hN hv hd hcd) hb set_list ha) hs hw h1) h) fun E σ H ⟨M, R, q⟩ => ⟨M, R, fun v H1 d' i1 g1 rp ed => by
    obtain ⟨n, rfl⟩ := ed
    cases rp
    obtain ⟨v0, e1, r0⟩ := R.val i _ hi
    cases r0
    have R1 := R.step i1 g1
    refine ⟨.ref a, e1, M, R1, fun vj H2 z i2 g2 rj ez => ?_⟩
    subst ez
    cases rj
    obtain ⟨n0, n1, n2, e⟩ := df.ok H2 i2
    have g := g1.trans g2
    obtain ⟨n', hn'⟩ : ∃ n' : Int × Int × Int, ([V.int n0, .int n1, .int n2] : List V).set j (.int n) = [.int n'.1, .int n'.2.1, .int n'.2.2] := by
      match j, hj with
      | 0, _ => exact ⟨(n, n1, n2), rfl⟩
      | 1, _ => exact ⟨(n0, n, n2), rfl⟩
      | 2, _ => exact ⟨(n0, n1, n), rfl⟩
    have sb : SameB a H2 (upd H2 a (.lst (([V.int n0, .int n1, .int n2] : List V).set j (.int n)))) := fun b o h ne => by rw [upd_ne ne]; exact h
    have I2 := df.chg H2 _ i2 sb ⟨n'.1, n'.2.1, n'.2.2, by rw [hn', upd_same]⟩
    have g3 := g.trans (df.gr sb)
    refine ⟨a, _, (j : Int), j, rfl, rfl, e, ?_, M, R.step I2 g3, q.step (R.kp g3)⟩
    show ixN _ _ = some j
    unfold ixN
    simp only [List.length_cons, List.length_nil]
    rw [if_pos (by omega), if_pos (by omega)]
    simp⟩
def EiW (X : Cx) (F : Fr) (tg iter : Expr) (en : En) (K : List D → Prop) : Prop := PI X tg iter (fun σ H R => ∃ M, RepS (gx X) F M σ H en ∧ ∀ J H' ds, F.I H' → Gr F H H' → JOk (gx X) M H' J ds → K ds → R J H')
theorem i_range1W {KL : List D → Prop} {K' : List D → Prop} (h : EaW X F en [e] KL) (hk : ∀ l, KL l → ∃ n : Nat, l = [.int (n : Int)] ∧ n < 2 ^ 62 ∧ K' (rangeD 0 n)) (hm : X.mg "range" = none) (hg : Gl X "range" := by rfl) (hs : starEach [e] X.env = [(false, eval e X.env)] := by rfl) : EiW X F tg (.Call (.Name "range" p) [e] [] pos) en K' :=
  PI.wk (pi_range1 hg hm h hs) fun σ H R ⟨M, RR, q⟩ => ⟨M, RR, fun vs H1 l i g rp kl => by
    obtain ⟨n, rfl, hn, k'⟩ := hk l kl
    cases rp with
    | cons a r =>
      cases a
      cases r
      exact ⟨(n : Int), rfl, by omega, by omega, q _ H1 _ i g (by rw [Int.toNat_natCast]; exact jok_range) k'⟩⟩
theorem s_forW {iter : Expr} {body : List Stmt} {is : List Nat} {sp : D → Option (List D)} {KL : List D → Prop} (P : List D → Nat → En → Prop) (hp : PassesOwn (model X.prog X.w) X.A X.env X.xe) (hc : X.calm = true) (hi : EiW X F tg iter en KL) (ht : Tg X F tg is sp) (h0 : ∀ ds, KL ds → P ds 0 en)
    (hs : ∀ ds, KL ds → ∀ (i : Nat) d e, ds[i]? = some d → P ds i e → ∃ items, sp d = some items ∧ Sx X F (setE e is items) body { nx := P ds (i + 1), ct := P ds (i + 1), bk := fun e' => Sx X F e' rest k, rt := k.rt, ro := k.ro, re := k.re }) (hd : ∀ ds, KL ds → ∀ e, P ds ds.length e → Sx X F e rest k)
    (hfs : ∀ x, foldedSetIterable iter X.env x = pure x := by intro _; rfl) : Sx X F en (.For tg iter body [] pos :: rest) k := by
  refine PSs.wk (pss_cons (ps_for hp hc hi (tgR_ok (tg := tg)) (tU_ok (sts := body)) hfs) (tU_ok (sts := rest))) fun E σ H ⟨M, R, q⟩ => ⟨M, R, fun J H1 ds i1 g1 jok kl => ?_⟩
  have R1 := R.step i1 g1
  have q1 := q.step (R.kp g1)
  refine ⟨fun i m σ' H' => ∃ M' e, RepS (gx X) F M' σ' H' e ∧ Kp M M' H1 H' ∧ P ds i e ∧ i ≤ ds.length ∧ m = ds.length - i, ⟨ds.length, M, en, R1, .refl, h0 ds kl, Nat.zero_le _, rfl⟩, ?_⟩
  rintro i m σ' H' ⟨M', e, R', kp, p, hle, rfl⟩
  have jk := jok M' H' kp R'.dom i
  by_cases hlt : i < ds.length
  · have hdi : ds[i]? = some ds[i] := List.getElem?_eq_getElem hlt
    obtain ⟨go, yld⟩ := jk.1 _ hdi
    obtain ⟨items, hsp, hb⟩ := hs ds kl i _ e hdi p
    refine .inr ⟨go, fun σ3 H3 => ∃ M3 e3, RepS (gx X) F M3 σ3 H3 e3 ∧ Kp M M3 H1 H3 ∧ P ds (i + 1) e3, fun σ3 H3 ⟨M3, e3, R3, k3, p3⟩ => ⟨ds.length - (i + 1), by omega, M3, e3, R3, k3, p3, hlt, rfl⟩, fun x H3 y => ?_⟩
    obtain ⟨sm, rx⟩ := yld x H3 y
    have R3 := R'.same sm
    have k3 := kp.trans (R'.kp (Gr.same sm))
    refine ht M' σ' H3 e x _ items _ R3 rx hsp fun vs rs hl => ?_
    exact hb.u ⟨M', R3.setl rs, ⟨fun M4 σ4 H4 e4 R4 k4 z => ⟨M4, e4, R4, k3.trans k4, z⟩, q.rt, fun M4 σ4 H4 e4 R4 k4 z => z.u ⟨M4, R4, q1.step (k3.trans k4)⟩, fun M4 σ4 H4 e4 R4 k4 z => ⟨M4, e4, R4, k3.trans k4, z⟩, q.ro, fun M4 σ4 H4 e4 v d R4 k4 => q1.re M4 σ4 H4 e4 v d R4 (k3.trans k4)⟩⟩
  · have e1 : i = ds.length := by omega
    exact .inl ⟨jk.2 (by omega), (hd ds kl e (e1 ▸ p)).u ⟨M', R', q1.step kp⟩⟩
end
end Pz
end
section
set_option Elab.async false
set_option linter.all false
set_option maxRecDepth 100000
set_option maxHeartbeats 4000000
/-! Qb: sorted of data of one kind. -/
namespace Pz
open PySem PySem.Spec PyProof.Rows L2
open PySem.W (AllAlike Sortable EachIs dataLe sorted_data)
theorem each_of {α β : Type} {R : α → β → Prop} : ∀ {as : List α} {bs : List β}, as.length = bs.length → (∀ (i : Nat) a b, as[i]? = some a → bs[i]? = some b → R a b) → EachIs R as bs
  | [], [], _, _ => .nil
  | [], _ :: _, h, _ => by cases h
  | _ :: _, [], h, _ => by cases h
  | a :: as, b :: bs, h, q => .cons (q 0 a b rfl rfl) (each_of (Nat.succ.inj h) fun i x y hx hy => q (i + 1) x y (by simpa using hx) (by simpa using hy))
theorem each_vals {β : Type} : ∀ {out : List Value} {zs : List (V × β)}, EachIs (fun v p => RelV p.1 v) out zs → Vals (zs.map (·.1)) out
  | _, _, .nil => .nil
  | _, _, .cons a r => .cons a (each_vals r)
theorem vals_get : ∀ {xs : List V} {us : List Value} {i : Nat} {x : V} {u : Value}, Vals xs us → xs[i]? = some x → us[i]? = some u → RelV x u
  | _, _, _, _, _, .nil, h, _ => by simp at h
  | _, _, 0, _, _, .cons a _, h, g => by simp at h g; subst h g; exact a
  | _, _, i + 1, _, _, .cons _ r, h, g => vals_get (i := i) r (by simpa using h) (by simpa using g)
section
variable {X : Cx} {F : Fr} {en : En}
/-- sorted(xs), the items data of one kind -/
theorem cr_sortE {β : Type} (enc : β → PyData) : CallR X (.builtin "sorted") (fun vs H Q => ∃ (a : Addr) (zs : List (V × β)), vs = [V.ref a] ∧ SqL X.K H a (zs.map (·.1)) ∧ (∀ p ∈ zs, Dp X.K H p.1 (enc p.2)) ∧ AllAlike (zs.map fun p => enc p.2) ∧ Sortable (zs.map fun p => enc p.2) ∧ (∀ p ∈ zs, X.A.units + 2 + (enc p.2).depth < cLine) ∧
    ∀ l, H l = none → Q (.ref l) (upd H l (.lst ((zs.mergeSort (dataLe false fun p => enc p.2)).map (·.1))))) := by
  intro pins s σ H vs us Q I r h
  obtain ⟨a, zs, rfl, hs, hd, h1, h2, h3, q⟩ := h
  obtain ⟨its, rv, hl, hz⟩ := I.list hs
  rw [Vals.ref1 r]
  have hlen := rv.length
  rw [List.length_map] at hlen
  have er : EachIs (fun (v : Value) (p : V × β) => (∃ as, Reads s.heap v (enc p.2) as) ∧ RelV p.1 v) its zs := each_of hlen.symm fun i v p hv hp => by
    have rr : RelV p.1 v := vals_get (i := i) rv (by rw [List.getElem?_map, hp]; rfl) hv
    exact ⟨Dp.reads I _ _ _ (hd p (List.mem_of_getElem? hp)) rr, rr⟩
  refine sorted_data (enc := fun p : V × β => enc p.2) (R := fun v p => RelV p.1 v) hl.isList (er.mono fun _ _ h => h.2) (er.mono fun _ _ h => h.1) h1 h2 (by rw [List.length_map] at hz; exact hz) h3 fun out ho he => ?_
  obtain ⟨ep, he'⟩ := PyProof.Rows.sortedAll_at s.heap its out.toArray
  exact ⟨.ref _, upd H (s.heap.objs.size + 1) (.lst ((zs.mergeSort (dataLe false fun p => enc p.2)).map (·.1))), I.laid (t' := s.toks) (fun _ _ => PyProof.Rows.sortedAll_old) (Nat.le_succ _) ⟨by rw [List.length_map, List.length_mergeSort]; rw [List.length_map] at hz; exact hz, out, ep, each_vals he, he'⟩, rfl, q _ (I.hok.fresh (Nat.le_succ _))⟩
theorem Rps.zipAll {G : Gx} {M : Addr → Prop} {H : Hp} {β : Type} {dd : β → D} : ∀ {vs : List V} {bs : List β}, Rps G M H vs (bs.map dd) → (vs.zip bs).map (·.1) = vs ∧ (vs.zip bs).map (·.2) = bs ∧ ∀ p ∈ vs.zip bs, Rp G M H p.1 (dd p.2)
  | _, [], h => by rw [h.inv_nil]; exact ⟨rfl, rfl, fun _ h => nomatch h⟩
  | _, b :: bs, h => by
    obtain ⟨v, r, rfl, a, t⟩ := h.inv_cons
    obtain ⟨h1, h2, h3⟩ := Rps.zipAll (vs := r) (bs := bs) t
    refine ⟨by simp [h1], by simp [h2], fun p hp => ?_⟩
    rcases List.mem_cons.mp hp with rfl | hp
    · exact a
    · exact h3 p hp
theorem Rps.ofAll {G : Gx} {M : Addr → Prop} {H : Hp} {β : Type} {dd : β → D} : ∀ {zs : List (V × β)}, (∀ p ∈ zs, Rp G M H p.1 (dd p.2)) → Rps G M H (zs.map (·.1)) ((zs.map (·.2)).map dd)
  | [], _ => .nil
  | z :: zs, h => .cons (h z List.mem_cons_self) (Rps.ofAll fun p hp => h p (List.mem_cons_of_mem _ hp))
/-- sorted(xs): items told by a rank -/
theorem k_sortE {β : Type} (dd : β → D) (rank : β → Nat) {bs cs : List β} (hp : cs.Perm bs) (hs : cs.Pairwise fun a b => rank a ≤ rank b) (hinj : ∀ a ∈ bs, ∀ b ∈ bs, rank a = rank b → a = b) (hlay : ∀ b, (dd b).py.canLay0 = true) (hr : ∀ a b : β, dataLe false (fun b => (dd b).py) a b = decide (rank a ≤ rank b))
    (h1 : AllAlike (bs.map fun b => (dd b).py)) (h2 : Sortable (bs.map fun b => (dd b).py)) (h3 : ∀ b ∈ bs, X.A.units + 2 + (dd b).py.depth < cLine) : CallN X F en (.builtin "sorted") [.lst (bs.map dd)] (.lst (cs.map dd)) := cn_of (cr_sortE (X := X) fun b => (dd b).py) fun M σ H v Q R bw q => by
  obtain ⟨ad, vs, rfl, hsq, r⟩ := bw.lst R
  obtain ⟨e1, e2, e3⟩ := r.zipAll
  have hm : ∀ p ∈ vs.zip bs, p.2 ∈ bs := fun p hp => by rw [← e2]; exact List.mem_map.mpr ⟨p, hp, rfl⟩
  have em : (vs.zip bs).map (fun p => (dd p.2).py) = bs.map fun b => (dd b).py := by
    have := congrArg (List.map fun b => (dd b).py) e2
    rw [List.map_map] at this
    exact this
  refine ⟨ad, vs.zip bs, rfl, by rw [e1]; exact hsq, fun p hp => (e3 p hp).dp (hlay _), by rw [em]; exact h1, by rw [em]; exact h2, fun p hp => h3 _ (hm p hp), fun l hl => ?_⟩
  let zs := (vs.zip bs).mergeSort (dataLe false fun p => (dd p.2).py)
  have hperm : zs.Perm (vs.zip bs) := List.mergeSort_perm _ _
  have hle : ∀ p q : V × β, dataLe false (fun p : V × β => (dd p.2).py) p q = decide (rank p.2 ≤ rank q.2) := fun p q => hr p.2 q.2
  have hsrt : zs.Pairwise fun p q => rank p.2 ≤ rank q.2 := by
    have h := List.pairwise_mergeSort (le := dataLe false fun p : V × β => (dd p.2).py) (fun a b c h1 h2 => by
      rw [hle] at h1 h2 ⊢
      have := of_decide_eq_true h1
      have := of_decide_eq_true h2
      exact decide_eq_true (by omega)) (fun a b => by
      rw [hle, hle]
      by_cases h : rank a.2 ≤ rank b.2
      · rw [decide_eq_true h]; rfl
      · rw [decide_eq_true (show rank b.2 ≤ rank a.2 by omega), Bool.or_true]) (vs.zip bs)
    exact h.imp fun {a b} h => by rw [hle] at h; exact of_decide_eq_true h
  have ez : zs.map (·.2) = cs := by
    have hp2 : (zs.map (·.2)).Perm bs := by
      have := hperm.map (·.2)
      rwa [e2] at this
    refine List.Perm.eq_of_pairwise (le := fun a b => rank a ≤ rank b) (fun a b ha hb h1 h2 => hinj a (hp2.mem_iff.mp ha) b (hp.mem_iff.mp hb) (Nat.le_antisymm h1 h2)) (List.Pairwise.map _ (fun _ _ h => h) hsrt) hs (hp2.trans hp.symm)
  have hrz : Rps (gx X) M H (zs.map (·.1)) (cs.map dd) := by
    rw [← ez]
    exact Rps.ofAll fun p hp => e3 p (hperm.mem_iff.mp hp)
  obtain ⟨i2, g2, o⟩ := R.new_lst hl hrz
  exact q _ _ i2 g2 hl o
end
end Pz
end
section
set_option Elab.async false
set_option linter.all false
set_option maxRecDepth 100000
set_option maxHeartbeats 4000000
/-! Qc: d.items() walked by one name; sorted(d.items()); dict(pairs) of a tuple. -/
namespace Pz
open PySem PySem.Spec PyProof.Rows L2
open PySem.W (KdxIt kdx_end_out)
section
variable {prog : Program} {w : World} {K : Type} [DecidableEq K] {knd : KeyKind prog w K} {A : Around} {E : Value → Shared → Prop} {s : Shared}
/-- the next pair, whatever became of the last one -/
theorem kdx_next_any {it d a : Addr} {f : Bool} {i ep : Nat} {kvs : List (K × Value)} {k : K} {v ok ov : Value} {Q : Option Value → Shared → Prop} (hit : KdxIt s.heap it d i kvs.length ep ok ov a f)
    (hm : s.heap.DictAt knd d kvs ep) (hx : kvs[i]? = some (k, v))
    (hQ : ∀ key h' a' f' ok' ov', knd.is k key = true → KdxIt h' it d (i + 1) kvs.length ep ok' ov' a' f' →
      h'.get? s.heap.objs.size = some { cls := .type "tuple", data := .seq #[key, v] } → h'.objs.size = s.heap.objs.size + 1 →
      (∀ b o, b ≠ it → s.heap.get? b = some o → h'.get? b = some o) → Q (some (.ref s.heap.objs.size)) { s with heap := h' }) :
    wpAny (model prog w) A (pyNext (.ref it)) Q E s := by
  obtain ⟨hp, g, dr, tk, os⟩ := s
  obtain ⟨od, es, hod, hcd, hdd, hk, hpr, hn⟩ := id hm
  have hT : Shared.TypeIs ⟨hp, g, dr, tk, os⟩ (.ref it) "dict_itemiterator" := ⟨_, hit, rfl⟩
  unfold pyNext
  refine wpAny_bind (wpAny_attempt (wpAny_callSpecial?_slot (name := Str.ofString "__next__") hT PySem.F.slot_dict_itemiterator_next
    (wpAny_call_entry PySem.F.slot_dict_itemiterator_next hT PySem.F.entry_dict_itemiterator_next ?_ (PySem.F.args_dict_itemiterator_next_1 _))))
  refine wpAny_bind (wpAny_pure ?_)
  refine wpAny_bind ?_
  refine wpAny_bind ?_
  first | refine wpAny_bind (wpAny_typeNameOfWhole_itemiter hT (wpAny_pure ?_)) | refine wpAny_bind (wpAny_typeNameOf_itemiter hT (wpAny_pure ?_))
  refine wpAny_bind (wpAny_fieldsOf hit rfl ?_)
  have hown : Builtin.Dict_items.ownsTuple "dict_itemiterator" = true := by decide
  simp only [hown, if_true]
  show wpAny _ _ (if (Value.ref d == Value.none) = true then _ else _) _ _ _
  rw [if_neg (show ¬ ((Value.ref d == Value.none) = true) from Bool.false_ne_true)]
  refine wpAny_bind (wpAny_pure ?_)
  refine wpAny_bind (wpAny_dictEntries hod hdd ?_)
  have hsz : es.size = kvs.length := by rw [← hpr.length]; simp
  rw [if_neg (by rw [hsz]; simp)]
  refine wpAny_bind (wpAny_pure ?_)
  refine wpAny_bind (wpAny_dictEpoch hod hdd ?_)
  rw [if_neg (by simp)]
  refine wpAny_pure ?_
  have hlt : i < kvs.length := by
    rcases Nat.lt_or_ge i kvs.length with h | h
    · exact h
    · simp [List.getElem?_eq_none h] at hx
  have hlt' : i < es.size := by rw [hsz]; exact hlt
  obtain ⟨hkey, hval⟩ := hpr.get? (e := es[i]) (by simp [hlt']) hx
  simp only [show ¬ ((i : Int) < 0) from by omega, if_false, Int.toNat_natCast, Array.getElem?_eq_getElem hlt']
  refine wpAny_bind ?_
  first | refine wpAny_bind (wpAny_typeNameOfWhole_itemiter hT (wpAny_pure ?_)) | refine wpAny_bind (wpAny_typeNameOf_itemiter hT (wpAny_pure ?_))
  refine wpAny_bind (wpAny_isOneOf_itemiter hT ?_)
  show wpAny _ _ (setField (.ref it) 3 (rawInt ((i : Int) + 1)) >>= _) _ _ ⟨hp, g, dr, tk, os⟩
  refine wpAny_bind (wpAny_setField_rec hit (by simp) fun h₁ he₁ hs₁ => ?_)
  replace hs₁ : Heap.SameBut it hp h₁ := hs₁
  replace he₁ : KdxIt h₁ it d (i + 1) kvs.length ep ok ov a f := by
    have e : ((i + 1 : Nat) : Int) = (i : Int) + 1 := by omega
    unfold KdxIt; rw [e]; simpa [rawInt] using he₁
  have hT₁ : Shared.TypeIs ⟨h₁, g, dr, tk, os⟩ (.ref it) "dict_itemiterator" := ⟨_, he₁, rfl⟩
  refine wpAny_bind (wpAny_holding ?_)
  refine wpAny_bind (wpAny_isOneOf_itemiter hT₁ ?_)
  refine wpAny_bind (wpAny_isOneOf_itemiter hT₁ ?_)
  show wpAny _ _ (Builtin.Dict_items.pairFromOwner (.ref it) 6 es[i].key es[i].val) _ _ ⟨h₁, g, dr, tk, os⟩
  unfold Builtin.Dict_items.pairFromOwner
  refine wpAny_bind (wpAny_newTuple ?_)
  have he₂ : KdxIt (h₁.push { cls := .type "tuple", data := .seq #[es[i].key, es[i].val] }) it d (i + 1) kvs.length ep ok ov a f := Heap.get?_push_of_some _ he₁
  generalize hh₂ : h₁.push { cls := .type "tuple", data := .seq #[es[i].key, es[i].val] } = h₂ at he₂
  have hz₁ : h₁.objs.size = hp.objs.size := hs₁.1
  have hil : it < hp.objs.size := Heap.lt_size hit
  have ht₂ : h₂.get? hp.objs.size = some { cls := .type "tuple", data := .seq #[es[i].key, es[i].val] } := by rw [← hh₂, ← hz₁]; exact Heap.get?_push_size _ rfl
  have hz₂ : h₂.objs.size = hp.objs.size + 1 := by rw [← hh₂, Heap.size_push, hz₁]
  have hk₂ : ∀ b o, b ≠ it → hp.get? b = some o → h₂.get? b = some o := fun b o hb e => by rw [← hh₂]; exact Heap.get?_push_of_some _ (hs₁.extBut b o hb e)
  show wpAny _ _ (Builtin.Dict_items.ownedTupleIsFree (.ref it) >>= _) _ _ ⟨h₂, g, dr, tk, os⟩
  rw [hz₁]
  clear hh₂ he₁ hs₁ hT₁ hz₁ h₁
  refine wpAny_bind ?_
  unfold Builtin.Dict_items.ownedTupleIsFree
  refine wpAny_bind (wpAny_field he₂ rfl (x := rawInt a) rfl ?_)
  show wpAny _ _ (loadIfAlive ((a : Int).toNat) >>= _) _ _ _
  rw [Int.toNat_natCast]
  refine wpAny_bind ?_
  refine (show ∀ {Q' : Option Obj → Shared → Prop} {E' : Value → Shared → Prop}, Q' (h₂.get? a) ⟨h₂, g, dr, tk, os⟩ → wpAny (model prog w) _ (loadIfAlive a) Q' E' ⟨h₂, g, dr, tk, os⟩ from fun q => fun _ _ _ => q) ?_
  cases ha : h₂.get? a with
  | some oa =>
    simp only [Option.isNone_some, Bool.false_eq_true, if_false]
    refine wpAny_bind (wpAny_field he₂ rfl (x := .bool f) rfl ?_)
    have fin : ∀ h₃ : Heap, KdxIt h₃ it d (i + 1) kvs.length ep ok ov a true → Heap.SameBut it h₂ h₃ → Q (some (.ref hp.objs.size)) ⟨h₃, g, dr, tk, os⟩ := fun h₃ he₃ hs₃ =>
      hQ es[i].key h₃ a true ok ov hkey he₃ (by rw [← hval]; exact hs₃.extBut _ _ (Nat.ne_of_gt hil) ht₂) (by show h₃.objs.size = hp.objs.size + 1; rw [hs₃.1, hz₂]) fun b o hb e => hs₃.extBut b o hb (hk₂ b o hb e)
    cases f with
    | true =>
      rw [if_neg (show ¬ ((Value.bool true != Value.bool true) = true) from Bool.false_ne_true)]
      refine wpAny_pure ?_
      simp only [Bool.false_eq_true, if_false]
      exact wpAny_pure (wpAny_pure ⟨_, rfl, wpAny_pure (fin h₂ he₂ (Heap.SameBut.refl _ _))⟩)
    | false =>
      rw [if_pos (show (Value.bool false != Value.bool true) = true from rfl)]
      refine wpAny_bind (wpAny_setField_rec he₂ (by simp) fun h₃ he₃ hs₃ => ?_)
      replace hs₃ : Heap.SameBut it h₂ h₃ := hs₃
      replace he₃ : KdxIt h₃ it d (i + 1) kvs.length ep ok ov a true := he₃
      refine wpAny_pure ?_
      simp only [Bool.false_eq_true, if_false]
      exact wpAny_pure (wpAny_pure ⟨_, rfl, wpAny_pure (fin h₃ he₃ hs₃)⟩)
  | none =>
    simp only [Option.isNone_none, if_true]
    refine wpAny_pure ?_
    simp only [if_true]
    refine wpAny_bind (wpAny_field he₂ rfl (x := ok) rfl ?_)
    refine wpAny_bind (wpAny_field he₂ rfl (x := ov) rfl ?_)
    refine wpAny_bind (wpAny_setField_rec he₂ (by simp) fun h₃ he₃ hs₃ => ?_)
    replace hs₃ : Heap.SameBut it h₂ h₃ := hs₃
    replace he₃ : KdxIt h₃ it d (i + 1) kvs.length ep es[i].key ov a f := he₃
    refine wpAny_bind (wpAny_setField_rec he₃ (by simp) fun h₄ he₄ hs₄ => ?_)
    replace hs₄ : Heap.SameBut it h₃ h₄ := hs₄
    replace he₄ : KdxIt h₄ it d (i + 1) kvs.length ep es[i].key es[i].val a f := he₄
    refine wpAny_bind (wpAny_setField_rec he₄ (by simp) fun h₅ he₅ hs₅ => ?_)
    replace hs₅ : Heap.SameBut it h₄ h₅ := hs₅
    replace he₅ : KdxIt h₅ it d (i + 1) kvs.length ep es[i].key es[i].val hp.objs.size f := he₅
    refine wpAny_bind (wpAny_setField_rec he₅ (by simp) fun h₆ he₆ hs₆ => ?_)
    replace hs₆ : Heap.SameBut it h₅ h₆ := hs₆
    replace he₆ : KdxIt h₆ it d (i + 1) kvs.length ep es[i].key es[i].val hp.objs.size false := he₆
    refine wpAny_bind (wpAny_letGo (wpAny_pure (wpAny_pure ⟨_, rfl, wpAny_pure (hQ es[i].key h₆ _ _ _ _ hkey he₆ ?_ ?_ ?_)⟩)))
    · rw [← hval]; exact hs₆.extBut _ _ (Nat.ne_of_gt hil) (hs₅.extBut _ _ (Nat.ne_of_gt hil) (hs₄.extBut _ _ (Nat.ne_of_gt hil) (hs₃.extBut _ _ (Nat.ne_of_gt hil) ht₂)))
    · show h₆.objs.size = hp.objs.size + 1
      rw [hs₆.1, hs₅.1, hs₄.1, hs₃.1, hz₂]
    · exact fun b o hb e => hs₆.extBut b o hb (hs₅.extBut b o hb (hs₄.extBut b o hb (hs₃.extBut b o hb (hk₂ b o hb e))))
end
end Pz
end
section
set_option Elab.async false
set_option linter.all false
set_option maxRecDepth 100000
set_option maxHeartbeats 4000000
/-! Qd: d.items() walked by one name; sorted(d.items()); dict(pairs) of a tuple. -/
namespace Pz
open PySem PySem.Spec PyProof.Rows L2
open PySem.W (KdxIt kdx_end_out)
section
variable {P : Program} {w : World} {K : PySem.W.Frag} {d : Addr} {o : Obj} {es : Array DictEntry} {ep : Nat}
theorem turn_itemsN {kvs : List (Key × V)} {x : Str} {px : Pos} (it : Addr) (hod : o.data = .dict es ep) :
    Turn P w K (.Name x px) (Iti d o kvs) [it] it (fun i h => (i = 0 ∧ ∃ ok ov, IsItemIter h it d 0 kvs.length ep ok ov) ∨ ∃ ok ov a f, KdxIt h it d i kvs.length ep ok ov a f) where
  mem := by simp
  obj := fun i h st b hb => by
    have e : b = it := by simpa using hb
    subst e
    rcases st with ⟨_, ok, ov, e⟩ | ⟨ok, ov, a, f, e⟩
    · exact ⟨_, e, fun v z => nomatch z⟩
    · exact ⟨_, e, fun v z => nomatch z⟩
  keep := fun i h h' st k => by
    rcases st with ⟨e0, ok, ov, e⟩ | ⟨ok, ov, a, f, e⟩
    · exact .inl ⟨e0, ok, ov, k it (by simp) _ e⟩
    · exact .inr ⟨ok, ov, a, f, k it (by simp) _ e⟩
  item := by
    intro X hP hw hK hc i pins s σ H E I hf st hg
    subst hP hw hK
    obtain ⟨hd, hi⟩ := hg
    obtain ⟨hs, hgd, hx, es', ep', vs, hdt, hsz, kv, hm⟩ := I.frzK hd
    obtain ⟨rfl, rfl⟩ := dict_ep hod hdt
    obtain ⟨⟨k, v⟩, hkv⟩ : ∃ p, kvs[i]? = some p := ⟨kvs[i], List.getElem?_eq_getElem hi⟩
    obtain ⟨u, hu, ru⟩ := kv_get kv hkv
    have hl : kvs.length = vs.length := Paired.length kv
    have fin : ∀ (key : Value) (h' : Heap) a' f' ok' ov', (mixKind X.prog X.w).is k key = true → KdxIt h' it d (i + 1) vs.length ep' ok' ov' a' f' →
        h'.get? s.heap.objs.size = some { cls := .type "tuple", data := .seq #[key, u] } → h'.objs.size = s.heap.objs.size + 1 → (∀ b o, b ≠ it → s.heap.get? b = some o → h'.get? b = some o) → it < s.heap.objs.size →
        (∃ u0, some (Value.ref s.heap.objs.size) = some u0 ∧ wpAny (model X.prog X.w) X.A (letOwnedTupleGo (.Name x px) (.ref it) u0) (fun _ s2 => ∃ y H', Inv X pins σ H' s2 ∧ RelV y u0 ∧ (Iti d o kvs).yld i H y H' ∧ ((i + 1 = 0 ∧ ∃ ok ov, IsItemIter s2.heap it d 0 kvs.length ep' ok ov) ∨ ∃ ok ov a f, KdxIt s2.heap it d (i + 1) kvs.length ep' ok ov a f) ∧ ∀ b ∈ [it], H' b = none) E { s with heap := h' }) := by
      intro key h' a' f' ok' ov' hkey he hT hz hk hlt
      refine ⟨_, rfl, ?_⟩
      show wpAny _ _ (pure ()) _ _ _
      have new : ObjOk X.prog X.w (upd H s.heap.objs.size (.tup [kV k, v])) h' s.heap.objs.size (.tup [kV k, v]) :=
        ⟨by show 2 ≤ sizeLine; decide, [key, u], .cons (relV_key (show keyIs k key = true from hkey)) (.cons ru .nil), ⟨_, hT, rfl, _, rfl⟩⟩
      have I1 : Inv X pins σ (upd H s.heap.objs.size (.tup [kV k, v])) { s with heap := h' } :=
        I.turnedNew (t' := s.toks) (ch := [it]) (fun b ob hb e => hk b ob (by simpa using hb) e) hf (Nat.le_refl _) new
      refine wpAny_pure ⟨.ref s.heap.objs.size, _, I1, rfl, ⟨_, k, v, hkv, rfl, I.hok.fresh (Nat.le_refl _), rfl⟩, .inr ⟨ok', ov', a', f', ?_⟩, fun b hb => ?_⟩
      · rw [hl]; exact he
      · have e : b = it := by simpa using hb
        rw [e, upd_ne (Nat.ne_of_lt hlt)]
        exact (hf it (by simp)).1
    rcases st with ⟨rfl, ok, ov, he⟩ | ⟨ok, ov, a, f, he⟩
    · rw [hl] at he
      have hlt : it < s.heap.objs.size := Heap.lt_size he
      exact wpAny_pyNext_items_item he hm hu fun key h' hkey ho hT hz hk => fin key h' _ _ _ _ hkey ho hT hz hk hlt
    · rw [hl] at he
      have hlt : it < s.heap.objs.size := Heap.lt_size he
      exact kdx_next_any he hm hu fun key h' a' f' ok' ov' hkey ho hT hz hk => fin key h' a' f' ok' ov' hkey ho hT hz hk hlt
  done := by
    intro X hP hw hK hc i pins s σ H E I hf st hg
    subst hP hw hK
    obtain ⟨hd, hi⟩ := hg
    obtain ⟨f0, f1, f2, f3, f4, f5⟩ := hf it (by simp)
    obtain ⟨hs, hgd, hx, es', ep', vs, hdt, hsz, kv, hm⟩ := I.frzK hd
    obtain ⟨rfl, rfl⟩ := dict_ep hod hdt
    have hl : kvs.length = vs.length := Paired.length kv
    rcases st with ⟨rfl, ok, ov, he⟩ | ⟨ok, ov, a, f, he⟩
    · rw [hl] at he
      exact wpAny_pyNext_items_end (I.ok.hd hc) he hm (List.getElem?_eq_none (by omega)) fun h' eb => ⟨rfl, I.turned (t' := s.toks) (fun b ob hb e => eb b ob hb e) f0 f1 f3 f4 f5⟩
    · rw [hl] at he
      exact kdx_end_out (I.ok.hd hc) he hm (List.getElem?_eq_none (by omega)) fun h' eb => ⟨rfl, I.turned (t' := s.toks) (fun b ob hb e => eb b ob hb e) f0 f1 f3 f4 f5⟩
  self := fun A i s Q E st h => by
    rcases st with ⟨_, _, _, e⟩ | ⟨_, _, _, _, e⟩
    · exact PySem.W.kcp_self e h
    · refine wpAny_pyIter_slot (T := "dict_itemiterator") ⟨_, e, rfl⟩ PySem.F.slot_dict_itemiterator_iter (wpAny_call_entry PySem.F.slot_dict_itemiterator_iter ⟨_, e, rfl⟩ PySem.W.kcp_entry ?_ (PySem.F.args_dict_itemiterator_iter_1 _))
      show wpAny _ _ (ret (.ref it)) _ _ s
      exact wpAny_pure ⟨_, rfl, "dict_itemiterator", _, ⟨_, e, rfl⟩, PySem.F.slot_dict_itemiterator_next.lookup, h⟩
end
section
variable {X : Cx} {F : Fr} {en : En} {e : Expr} {td : TE} {apos cpos : Pos} {x : Str} {px : Pos}
theorem pi_itemsN (he : PE X e td) (hbase : attributeBase e "items" X.env (eval e X.env) = eval e X.env := by rfl) (hline : (apos.endLine == cpos.line) = true := by rfl) :
    PI X (.Name x px) (.Call (.Attribute e "items" apos) [] [] cpos) (iItems td) := by
  refine ⟨fun pins s σ H R I h => ?_⟩
  refine wpAny_Call_method (T := "dict") (id := "dict.items") hbase rfl hline PySem.F.plainAttrs_dict PySem.F.slot_dict_items PySem.F.type_dict_items (thn (he.run pins s σ H _ I h) fun u s1 ⟨y, H1, I1, rx, d, o, kvs, ex, hd, q⟩ => ?_)
  subst ex
  obtain rfl : u = Value.ref d := rx
  obtain ⟨hs, hgd, hx, es, ep, vs, hdt, hsz, kv, hm⟩ := I1.frzK hd
  have hl : kvs.length = vs.length := Paired.length kv
  refine ⟨hm.dictOf.typeIs, hm.dictOf.mapOf.noDict, ?_⟩
  have I2 : Inv X pins σ H1 { s1 with heap := s1.heap.push { cls := .type "dict_items", data := .fields #[.ref d] } } := I1.kept (t' := s1.toks) fun b ob q => Heap.get?_push_of_some _ q
  have fin : wpAny (model X.prog X.w) X.A (pyIter (.ref s1.heap.objs.size)) (PIE X pins σ (.Name x px) R) X.xe { s1 with heap := s1.heap.push { cls := .type "dict_items", data := .fields #[.ref d] } } := by
    refine wpAny_pyIter_items (d := d) (knd := mixKind X.prog X.w) ⟨_, Heap.get?_push_size _ rfl, rfl, rfl⟩ (hm.push _) (pi_one (tk := s1.toks) I2 _ (turn_itemsN _ hdt) (.inl ⟨rfl, .none, .none, ?_⟩) q)
    rw [hl]
    exact Heap.get?_push_size _ rfl
  show wpAny _ _ (callWith cpos (.builtin "dict.items") [.ref d] [] []) _ X.xe s1
  exact method_meetsIn PySem.F.slot_dict_items PySem.F.entry_dict_items rfl (PySem.evalArgs_none ⟨rfl, hm.dictOf.typeIs, PySem.F.args_dict_items_1 _, _, meets_dict_items (mixKind X.prog X.w) d hs, ⟨vs, hm.dictOf⟩, fin⟩)
theorem Rpk.get' {G : Gx} {M : Addr → Prop} {H : Hp} : ∀ {vs : List (Key × V)} {kvs : List (Key × D)} {i : Nat} {q : Key × D}, Rpk G M H vs kvs → kvs[i]? = some q → ∃ v, vs[i]? = some (q.1, v) ∧ Rp G M H v q.2
  | _, _, _, _, .nil, e => by simp at e
  | _, _, 0, _, .cons a _, e => by simp at e; subst e; exact ⟨_, rfl, a⟩
  | _, _, i + 1, _, .cons _ r, e => by
    obtain ⟨v, h1, h2⟩ := Rpk.get' (i := i) r (by simpa using e)
    exact ⟨v, by simpa using h1, h2⟩
theorem rp_kV {G : Gx} {M : Addr → Prop} {H : Hp} : ∀ k : Key, Rp G M H (kV k) (D.ofKey k)
  | .inl i => .int i
  | .inr s => .str s
theorem i_items {kvs : List (Key × D)} (h : Ev X F en e (dk kvs)) (hbase : attributeBase e "items" X.env (eval e X.env) = eval e X.env := by rfl) (hline : (apos.endLine == cpos.line) = true := by rfl) : Ei X F (.Name x px) (.Call (.Attribute e "items" apos) [] [] cpos) en (kvs.map pairD) :=
  PI.wk (pi_itemsN h hbase hline) fun σ H R ⟨M, RR, q⟩ => ⟨M, RR, fun v H1 z i g rp ez => by
    subst ez
    generalize hz : dk kvs = z at rp
    cases rp with
    | dk hd hm rn =>
      rename_i ad ob vs es
      have he : es = kvs.map fun q => (D.ofKey q.1, q.2) := (D.dct.inj hz).symm
      subst he
      have rn := rn.to
      refine ⟨ad, ob, vs, rfl, hd, q _ H1 i g fun M2 H2 kk hdm j => ⟨fun d hj => ?_, fun hj => ⟨(kk.ho hd hm).1, by rw [rn.length]; simpa using hj⟩⟩⟩
      rw [List.getElem?_map] at hj
      obtain ⟨q', hq, rfl⟩ := Option.map_eq_some_iff.mp hj
      obtain ⟨v, hv, rv⟩ := rn.get' hq
      refine ⟨⟨(kk.ho hd hm).1, (List.getElem?_eq_some_iff.mp hv).1⟩, fun x H3 ⟨T, k2, v2, h2, ex, hT, eH⟩ => ?_⟩
      rw [hv] at h2
      cases h2
      subst ex eH
      have sm : Same H2 (upd H2 T (.tup [kV q'.1, v])) := Same.new hT
      have nT : ¬ M2 T := fun z => hdm T z hT
      have kp : Kp M2 M2 H2 (upd H2 T (.tup [kV q'.1, v])) := ⟨fun b o h _ => sm b o h, fun _ _ h => h⟩
      exact ⟨sm, .tup (.inl ⟨.inl upd_same, nT⟩) (.cons (rp_kV _) (.cons ((rv.kp kk).kp kp) .nil))⟩
    | _ => exact absurd hz (by intro z; cases z)⟩
end
end Pz
end
section
set_option Elab.async false
set_option linter.all false
set_option maxRecDepth 100000
set_option maxHeartbeats 4000000
/-! Qe: sorted(d.items()), texts to texts. -/
namespace Pz
open PySem PySem.Spec PyProof.Rows L2
open PySem.W (AllAlike Sortable EachIs dataLe list_sort_data)
def prsK (prs : List (Str × Str)) : List (Key × V) := prs.map fun q => (.inr q.1, .str q.2)
theorem each_refs {β : Type} : ∀ {out : List Value} {zs : List (Addr × β)}, EachIs (fun v p => v = Value.ref p.1) out zs → out = zs.map fun z => Value.ref z.1
  | _, _, .nil => rfl
  | _, _, .cons a r => by rw [a, each_refs r]; rfl
section
variable {X : Cx}
theorem mt_itemsF : MtR X "dict.items" (fun x xs H Q => ∃ (a : Addr) (o : Obj) (kvs : List (Key × V)), x = .ref a ∧ xs = [] ∧ H a = some (.frz o (.dK kvs)) ∧ ∀ p, H p = none → Q (.ref p) (upd H p (DX.itemsO p a))) := by
  intro pins s σ H x xs v us Q I rx rxs h
  obtain ⟨a, o, kvs, rfl, rfl, ha, q⟩ := h
  cases rx
  cases rxs
  obtain ⟨hs, hgd, hx, es, ep, vs, hdt, hsz, kv, hm⟩ := I.frzK ha
  refine DT.callItems (es := es) (ep := ep) hs ⟨o, hgd, hx, hdt⟩ ?_
  have hf : H s.heap.objs.size = none := I.hok.fresh (Nat.le_refl _)
  exact ⟨.ref s.heap.objs.size, upd H s.heap.objs.size (DX.itemsO s.heap.objs.size a), I.laid (t' := s.toks) (fun b u e => Heap.get?_push_of_some _ e) (Nat.le_refl _) (DX.itemsO_ok (Heap.get?_push_size _ rfl)), rfl, q _ hf⟩
theorem cr_sortItemsF (hc : X.calm = true) (hu : X.A.units + 64 < cLine) : CallR X (.builtin "sorted") (fun vs H Q => ∃ (p a : Addr) (o : Obj) (prs : List (Str × Str)), vs = [.ref p] ∧ H p = some (DX.itemsO p a) ∧ H a = some (.frz o (.dK (prsK prs))) ∧
    ∀ (H' : Hp) (l : Addr) (zs : List (Addr × Str × Str)), (∀ b u, H b = some u → H' b = some u) → H l = none → (∀ z ∈ zs, H z.1 = none ∧ z.1 ≠ l ∧ H' z.1 = some (.tup [.str z.2.1, .str z.2.2])) → (zs.map (·.2)).Perm prs → H' l = some (.lst (zs.map fun z => V.ref z.1)) → Q (.ref l) H') := by
  intro pins s σ H vs us Q I r h
  obtain ⟨p, a, o, prs, rfl, hp, ha, q⟩ := h
  obtain rfl := Vals.ref1 r
  have view : s.heap.IsItemsView p a := (show ObjOk X.prog X.w H s.heap p (DX.itemsO p a) from I.hok p _ hp).1
  have hzl : (prsK prs).length ≤ sizeLine := (I.hok a _ ha).2.1
  obtain ⟨hs, hgd, hx, es, ep, vs, hdt, hsz, kv, hm⟩ := I.frzK ha
  obtain ⟨od, es', hod, hcd, hdd, hkk, hpr, hnn⟩ := id hm
  rw [hgd] at hod
  cases hod
  have ees : es' = es := by rw [hdt] at hdd; cases hdd; rfl
  subst ees
  have lp : (prsK prs).length = prs.length := by simp [prsK]
  rw [lp] at hsz hzl
  have hh : X.A.handled = none := I.ok.hd hc
  refine DT.sortedI (es := es') (ep := ep) hh view ⟨o, hgd, hx, hdt⟩ (by rw [hsz]; exact hzl) fun h' tk as hk hlt hl hG => ?_
  have lak : as.length = prs.length := by omega
  have nd : as.Nodup := List.Pairwise.imp (fun h => Nat.ne_of_lt h) hG.rise
  have pr : ∀ (j : Nat) (b : Addr), as[j]? = some b → ∃ (e : Str × Str) (t1 t2 : Tok), prs[j]? = some e ∧ h'.get? b = some { cls := .type "tuple", data := .seq #[Value.str e.1 t1, Value.str e.2 t2] } := by
    intro j b hj
    obtain ⟨en, he, hg⟩ := hG.pairs j b hj
    have hjl : j < prs.length := by
      have := (List.getElem?_eq_some_iff.mp hj).1
      omega
    have hkv : (prsK prs)[j]? = some (.inr prs[j].1, .str prs[j].2) := by unfold prsK; rw [List.getElem?_map, List.getElem?_eq_getElem hjl]; rfl
    obtain ⟨u, hu', ru⟩ := kv_get kv hkv
    obtain ⟨hkey, hval⟩ := hpr.get? (e := en) (by rw [Array.getElem?_toList]; exact he) hu'
    obtain ⟨t1, e1⟩ : RelV (.str prs[j].1) en.key := relV_key (k := .inr prs[j].1) (show keyIs _ _ = true from hkey)
    obtain ⟨t2, e2⟩ := ru
    refine ⟨prs[j], t1, t2, List.getElem?_eq_getElem hjl, ?_⟩
    rw [hg, e1, hval, e2]
  have hob : (h'.push { cls := .type "list", data := .seq (as.map Value.ref).toArray }).get? h'.objs.size = some (seqObj "list" (as.map Value.ref).toArray 0) := Heap.get?_push_size _ rfl
  have kb : ∀ b o, s.heap.get? b = some o → (h'.push { cls := .type "list", data := .seq (as.map Value.ref).toArray }).get? b = some o := fun b o e => Heap.get?_push_of_some _ (hk b o e)
  have ne0 : ∀ b o, h'.get? b = some o → b ≠ h'.objs.size := fun b o e => Nat.ne_of_lt (Heap.lt_size e)
  generalize hh2 : h'.push { cls := .type "list", data := .seq (as.map Value.ref).toArray } = h2 at hob kb ⊢
  have ka : ∀ b o, h'.get? b = some o → h2.get? b = some o := fun b o e => by rw [← hh2]; exact Heap.get?_push_of_some _ e
  let enc : Addr × Str × Str → PyData := fun z => .tuple [.str z.2.1, .str z.2.2]
  have hlz : (as.zip prs).length = as.length := by simp [lak]
  have hat : ∀ (i : Nat) v (b : Addr × Str × Str), (as.map Value.ref)[i]? = some v → (as.zip prs)[i]? = some b → v = Value.ref b.1 ∧ as[i]? = some b.1 ∧ prs[i]? = some b.2 := fun i v b hv hb => by
    obtain ⟨h1, h2⟩ := List.getElem?_zip_eq_some.mp hb
    rw [List.getElem?_map, h1] at hv
    exact ⟨(Option.some.inj hv).symm, h1, h2⟩
  have er : EachIs (fun (v : Value) (b : Addr × Str × Str) => v = Value.ref b.1 ∧ ∃ as', Reads h2 v (enc b) as' ∧ h'.objs.size ∉ as') (as.map Value.ref) (as.zip prs) := each_of (by rw [List.length_map, hlz]) fun i v b hv hb => by
    obtain ⟨rfl, e1, e2⟩ := hat i v b hv hb
    obtain ⟨e, t1, t2, he, hg⟩ := pr i _ e1
    have ee : e = b.2 := Option.some.inj (he.symm.trans e2)
    subst ee
    refine ⟨rfl, [] ++ ([] ++ []), Reads.tuple (ka _ _ hg) rfl rfl (ReadsAll.cons (.str _ _) (ReadsAll.cons (.str _ _) .nil)), by simp⟩
  refine list_sort_data (s := { s with heap := h2, toks := tk }) (enc := enc) (R := fun v b => v = Value.ref b.1) (bs := as.zip prs) hob (er.mono fun _ _ h => h.1) (er.mono fun _ _ h => h.2) (AllAlike.of fun b b' => by simp [enc, PySem.W.alike, PySem.W.alikeAll]) (Sortable.tuples fun b => ⟨_, _, rfl⟩) (by rw [hlz]; omega)
    (fun b _ => by
      show X.A.units + 1 + 1 + PyData.depth (.tuple [.str b.2.1, .str b.2.2]) < cLine
      simp only [PyData.depth, PyData.depthAll]
      omega) fun out ho he => ?_
  show EP X pins σ Q (.ref h'.objs.size) { s with heap := sortedHeap h2 h'.objs.size (as.map Value.ref) out.toArray, toks := tk }
  generalize hzs : (as.zip prs).mergeSort (dataLe false enc) = zs at he
  have pz : zs.Perm (as.zip prs) := by rw [← hzs]; exact List.mergeSort_perm _ _
  have hout := each_refs he
  have idx : ∀ z ∈ zs, ∃ j : Nat, as[j]? = some z.1 ∧ prs[j]? = some z.2 := by
    intro z' hz'
    obtain ⟨j, hj⟩ := List.mem_iff_getElem?.mp (pz.mem_iff.mp hz')
    exact ⟨j, List.getElem?_zip_eq_some.mp hj⟩
  have hperm : (zs.map (·.2)).Perm prs := by
    have e := pz.map (·.2)
    have m2 : (as.zip prs).map (·.2) = prs := List.map_snd_zip (by rw [lak]; exact Nat.le_refl _)
    rw [m2] at e
    exact e
  have kF : ∀ b o, b ≠ h'.objs.size → h2.get? b = some o → (sortedHeap h2 h'.objs.size (as.map Value.ref) out.toArray).get? b = some o := fun b o hb e => (PyProof.Rows.sortedHeap_old hb (Heap.lt_size e)).trans e
  have kS : ∀ b o, s.heap.get? b = some o → (sortedHeap h2 h'.objs.size (as.map Value.ref) out.toArray).get? b = some o := fun b o e => kF b o (ne0 _ _ (hk b o e)) (kb b o e)
  obtain ⟨eF, heF⟩ := PyProof.Rows.sortedHeap_at (vs := as.map Value.ref) (out := out.toArray) hob
  have I1 : Inv X pins σ H { s with heap := sortedHeap h2 h'.objs.size (as.map Value.ref) out.toArray, toks := tk } := I.kept (t' := tk) kS
  have hn0 : H h'.objs.size = none := I.hok.fresh (Nat.le_of_lt hlt)
  have hlen : (zs.map fun z => V.ref z.1).length ≤ sizeLine := by
    have e := hperm.length_eq
    rw [List.length_map] at e
    rw [List.length_map]
    omega
  have rv : Vals (zs.map fun z => V.ref z.1) out := by
    rw [hout]
    exact vals_maps (fun z : Addr × Str × Str => V.ref z.1) (fun z => Value.ref z.1) zs fun _ _ => rfl
  have I2 : Inv X pins σ (upd H h'.objs.size (.lst (zs.map fun z => V.ref z.1))) { s with heap := sortedHeap h2 h'.objs.size (as.map Value.ref) out.toArray, toks := tk } :=
    I1.take (h' := sortedHeap h2 h'.objs.size (as.map Value.ref) out.toArray) (t' := tk) (fun b ob _ e => e) (I.fpOk (Nat.le_of_lt hlt) hn0) ⟨hlen, out, eF, rv, heF⟩
  obtain ⟨H2, I3, g, qt⟩ := DX.takeT (P := fun b vs => ∃ (j : Nat) (e : Str × Str), as[j]? = some b ∧ prs[j]? = some e ∧ vs = [.str e.1, .str e.2]) I as _ I2 nd fun b hb => by
    obtain ⟨j, hj⟩ := List.mem_iff_getElem?.mp hb
    obtain ⟨e, t1, t2, he, hg⟩ := pr j b hj
    have hbl : s.heap.objs.size ≤ b := Nat.le_of_lt (hG.above b hb)
    refine ⟨hbl, ?_, [.str e.1, .str e.2], ⟨j, e, hj, he, rfl⟩, fun H3 => ⟨(by rw [sizeLine_eq]; show 2 ≤ 16777216; omega), [Value.str e.1 t1, Value.str e.2 t2], .cons ⟨t1, rfl⟩ (.cons ⟨t2, rfl⟩ .nil), ⟨_, kF _ _ (ne0 _ _ hg) (ka _ _ hg), rfl, 0, rfl⟩⟩⟩
    rw [upd_ne (ne0 _ _ hg)]
    exact I.hok.fresh hbl
  have gr : ∀ b o, H b = some o → H2 b = some o := fun b o e => g b o (by rw [upd_ne (ne_of_none e hn0)]; exact e)
  refine ⟨.ref h'.objs.size, H2, I3, rfl, q H2 h'.objs.size zs gr hn0 (fun z' hz' => ?_) hperm (g _ _ upd_same)⟩
  obtain ⟨i, i1, i2⟩ := idx z' hz'
  obtain ⟨vs, ⟨j, e, j1, j2, ev⟩, hH⟩ := qt z'.1 (List.mem_of_getElem? i1)
  have eij : i = j := (List.getElem?_inj (List.getElem?_eq_some_iff.mp i1).1 nd).mp (i1.trans j1.symm)
  subst eij
  have ee : e = z'.2 := Option.some.inj (j2.symm.trans i2)
  rw [ev, ee] at hH
  obtain ⟨_, _, _, _, hg⟩ := pr i _ i1
  exact ⟨I.hok.fresh (Nat.le_of_lt (hG.above _ (List.mem_of_getElem? i1))), ne0 _ _ hg, hH⟩
end
end Pz
end
section
set_option Elab.async false
set_option linter.all false
set_option maxRecDepth 100000
set_option maxHeartbeats 4000000
/-! Qf: sorted(d.items()) by value; new objects told by relations. -/
namespace Pz
open PySem PySem.Spec PyProof.Rows L2
section
variable {X : Cx} {F : Fr} {en : En} {e : Expr} {td : TE} {p pos apos cpos : Pos} {K K' : D → Prop}
theorem pe_itemsF (he : PE X e td) (hbase : attributeBase e "items" X.env (eval e X.env) = eval e X.env := by rfl) (hline : (apos.endLine == cpos.line) = true := by rfl) :
    PE X (.Call (.Attribute e "items" apos) [] [] cpos) (fun σ H Q => td σ H fun x H1 => ∃ (a : Addr) (o : Obj) (kvs : List (Key × V)), x = .ref a ∧ H1 a = some (.frz o (.dK kvs)) ∧ ∀ p, H1 p = none → Q (.ref p) (upd H1 p (DX.itemsO p a))) := by
  refine ⟨fun pins s σ H Q I h => ?_⟩
  refine wpAny_Call_method (T := "dict") (id := "dict.items") hbase rfl hline PySem.F.plainAttrs_dict PySem.F.slot_dict_items PySem.F.type_dict_items (thn (he.run pins s σ H _ I h) fun u s1 ⟨y, H1, I1, rx, d, o, kvs, ex, hd, q⟩ => ?_)
  subst ex
  obtain rfl : u = Value.ref d := rx
  obtain ⟨hs, hgd, hx, es, ep, vs, hdt, hsz, kv, hm⟩ := I1.frzK hd
  refine ⟨hm.dictOf.typeIs, hm.dictOf.mapOf.noDict, ?_⟩
  have hf : H1 s1.heap.objs.size = none := I1.hok.fresh (Nat.le_refl _)
  have fin : EP X pins σ Q (.ref s1.heap.objs.size) { s1 with heap := s1.heap.push { cls := .type "dict_items", data := .fields #[.ref d] } } :=
    ⟨.ref s1.heap.objs.size, upd H1 s1.heap.objs.size (DX.itemsO s1.heap.objs.size d), I1.laid (t' := s1.toks) (fun b u e => Heap.get?_push_of_some _ e) (Nat.le_refl _) (DX.itemsO_ok (Heap.get?_push_size _ rfl)), rfl, q _ hf⟩
  show wpAny _ _ (callWith cpos (.builtin "dict.items") [.ref d] [] []) _ X.xe s1
  exact method_meetsIn PySem.F.slot_dict_items PySem.F.entry_dict_items rfl (PySem.evalArgs_none ⟨rfl, hm.dictOf.typeIs, PySem.F.args_dict_items_1 _, _, meets_dict_items (mixKind X.prog X.w) d hs, ⟨vs, hm.dictOf⟩, fin⟩)
def EfW (X : Cx) (F : Fr) (en : En) (e : Expr) (K : D → Prop) : Prop := PE X e (tN (gx X) F en K)
theorem Ef.w {d : D} (h : Ef X F en e d) (k : K d) : EfW X F en e K := PE.wk h fun σ H Q ⟨M, R, q⟩ => ⟨M, R, fun a H' z i g n o e => q a H' z i g n o (e ▸ k)⟩
theorem EfW.to (h : EfW X F en e K) (k : ∀ z, K z → K' z) : EfW X F en e K' := PE.wk h fun σ H Q ⟨M, R, q⟩ => ⟨M, R, fun a H' z i g n o e => q a H' z i g n o (k z e)⟩
theorem EfW.ev (h : EfW X F en e K) : EvW X F en e K := ⟨fun pins s σ H Q I ⟨M, R, q⟩ =>
  thn (h.run pins s σ H (fun v H1 => ∃ a d, v = .ref a ∧ F.I H1 ∧ Gr F H H1 ∧ H a = none ∧ Own (gx X) (Mp M a) H1 a d ∧ K d) I ⟨M, R, fun a H1 z i g n r e => ⟨a, z, rfl, i, g, n, r, e⟩⟩) fun u s1 ⟨v, H1, I1, rv, a, d, ev, i, g, n, o, kd⟩ => by
    subst ev
    obtain ⟨w, I2, rp, _⟩ := Own.froze (M' := M) I1 o (.inr rfl) (R.notin n) fun b z => .inl z
    exact ⟨.ref a, _, I2, rv, q _ _ d (F.up _ _ _ i (F.nw _ _ R.inv n)) (fun b u hb hz => by rw [upd_ne (ne_of_none hb n)]; exact g b u hb hz) rp kd⟩⟩
def prD (q : Str × Str) : D := .tup [.str q.1, .str q.2]
def prK (q : Str × Str) : Key × D := (.inr q.1, .str q.2)
theorem rpk_prs {G : Gx} {M : Addr → Prop} {H : Hp} : ∀ {vs : List (Key × V)} {prs : List (Str × Str)}, Rpk G M H vs (prs.map prK) → vs = prsK prs
  | _, [], h => by cases h; rfl
  | _, q :: prs, h => by
    cases h with
    | cons a r => cases a; rw [rpk_prs r]; rfl
/-- sorted(d.items()) -/
theorem f_sortItems {prs : List (Str × Str)} {f : Str} (hc : X.calm = true) (hu : X.A.units + 64 < cLine) (hm : X.mg f = none) (he : Ev X F en e (dk (prs.map prK))) (hbase : attributeBase e "items" X.env (eval e X.env) = eval e X.env := by rfl) (hline : (apos.endLine == cpos.line) = true := by rfl)
    (hg : Gl X f := by rfl) (hv : bootBuiltins f = some (.builtin "sorted") := by decide +kernel) (hn : f ≠ "__name__" := by decide) (hdb : (f == ("__debug__" : Str)) = false := by decide)
    (hs : starEach [.Call (.Attribute e "items" apos) [] [] cpos] X.env = (false, eval (.Call (.Attribute e "items" apos) [] [] cpos) X.env) :: starEach [] X.env := by rfl) :
    EfW X F en (.Call (.Name f p) [.Call (.Attribute e "items" apos) [] [] cpos] [] pos) (fun d => ∃ ps : List (Str × Str), ps.Perm prs ∧ d = .lst (ps.map prD)) :=
  PE.wk (pe_callB (cr_sortItemsF hc hu) hg hm hv (pa_cons (pe_itemsF he hbase hline) pa_nil hs) hn hdb) fun σ H Q ⟨M, R, q⟩ => ⟨M, R, fun v H1 d i g rp ed => by
    subst ed
    generalize hz : dk (prs.map prK) = z at rp
    cases rp with
    | dk hd hm rn =>
      rename_i ad ob vs es
      have he : es = (prs.map prK).map fun q => (D.ofKey q.1, q.2) := (D.dct.inj hz).symm
      subst he
      have ev := rpk_prs rn.to
      subst ev
      have R1 := R.step i g
      refine ⟨ad, ob, _, rfl, hd, fun p hp => ?_⟩
      have R2 := R1.same (Same.new (o := DX.itemsO p ad) hp)
      refine ⟨p, ad, ob, prs, rfl, upd_same, by rw [upd_ne (ne_of_none hd hp)]; exact hd, fun H' l zs hk hl hzs hperm hH => ?_⟩
      have sm : Same H1 H' := fun b o e => hk b o (by rw [upd_ne (ne_of_none e hp)]; exact e)
      have hl1 : H1 l = none := by
        cases e1 : H1 l with
        | none => rfl
        | some o => rw [upd_ne (ne_of_none e1 hp), e1] at hl; cases hl
      have R3 := R1.same sm
      have hnl : H l = none := none_back R i g hl1
      refine q l H' _ R3.inv (g.trans (Gr.same sm)) hnl (.lst hH ?_) ⟨zs.map (·.2), hperm, rfl⟩
      have key : ∀ zs : List (Addr × Str × Str), (∀ z ∈ zs, (upd H1 p (DX.itemsO p ad)) z.1 = none ∧ z.1 ≠ l ∧ H' z.1 = some (.tup [.str z.2.1, .str z.2.2])) → Rps (gx X) (Mp M l) H' (zs.map fun z => V.ref z.1) ((zs.map (·.2)).map prD) := by
        intro zs
        induction zs with
        | nil => intro _; exact .nil
        | cons z zs ih =>
          intro h
          obtain ⟨h1, h2, h3⟩ := h z List.mem_cons_self
          have hz1 : H1 z.1 = none := by
            cases e1 : H1 z.1 with
            | none => rfl
            | some o => rw [upd_ne (ne_of_none e1 hp), e1] at h1; cases h1
          exact .cons (.tup (.inl ⟨.inl h3, fun w => w.elim (R1.notin hz1) h2⟩) (.cons (.str _) (.cons (.str _) .nil))) (ih fun z hz => h z (List.mem_cons_of_mem _ hz))
      exact key zs hzs
    | _ => exact absurd hz (by intro z; cases z)⟩
/-- a built-in type of an argument told by a relation -/
theorem e_callTW {T : String} {f : Str} (ha : EvW X F en e K) (hc : ∀ x, K x → ∃ z, CallD X F en (.type T) [x] z ∧ K' z) (hm : X.mg f = none) (hg : Gl X f := by rfl) (hv : bootBuiltins f = some (.type T) := by decide +kernel) (hn : f ≠ "__name__" := by decide) (hdb : (f == ("__debug__" : Str)) = false := by decide)
    (hs : starEach [e] X.env = (false, eval e X.env) :: starEach [] X.env := by rfl) : EvW X F en (.Call (.Name f p) [e] [] pos) K' :=
  PE.wk (pe_callTy rC_ok hg hm hv (pa_cons ha pa_nil hs) hn hdb hs) fun σ H Q ⟨M, R, q⟩ => ⟨M, R, fun v H1 x i g rp kx => by
    obtain ⟨z, hc, kz⟩ := hc x kx
    exact hc M σ H1 [v] Q (R.step i g) (.cons (.inl rp) .nil) fun v H' i' g' r => q v H' z i' (g.trans g') r kz⟩
end
end Pz
end
section
set_option Elab.async false
set_option linter.all false
set_option maxRecDepth 100000
set_option maxHeartbeats 4000000
/-! Qg: dict(pairs) of a tuple. -/
namespace Pz
open PySem PySem.Spec PyProof.Rows L2
section
variable {X : Cx}
theorem pairs_ofL {pins : List (Addr × Obj)} {σ : St} {H : Hp} {s : Shared} (I : Inv X pins σ H s) : ∀ {ps : List Addr} {kvs : List (Key × V)}, Paired (fun p kv => SqT X.K H p [kV kv.1, kv.2]) ps kvs →
    ∃ (prs : List (Key × Value)) (L : List (Value × Value)), KV kvs prs ∧ prs.length = ps.length ∧ L.length = ps.length ∧ ∀ (j : Nat) (u v : Value), L[j]? = some (u, v) → ∃ (b : Addr) (k : Key), ps[j]? = some b ∧ prs[j]? = some (k, v) ∧ s.heap.IsTuple b #[u, v] ∧ (mixKind X.prog X.w).is k u = true
  | _, _, .nil => ⟨[], [], .nil, rfl, rfl, fun j u v e => by simp at e⟩
  | _, _, .cons (a := p) (b := kv) h t => by
    obtain ⟨prs, L, r, hl, hl2, hp⟩ := pairs_ofL I t
    obtain ⟨its, rv, ht, _⟩ := I.tuple h
    obtain ⟨u, y, ei, ru, ry⟩ := vals2 rv
    subst ei
    refine ⟨(kv.1, y) :: prs, (u, y) :: L, .cons ⟨rfl, ry⟩ r, by rw [List.length_cons, List.length_cons, hl], by rw [List.length_cons, List.length_cons, hl2], fun j u' v' e => ?_⟩
    cases j with
    | zero =>
      have e' : (u, y) = (u', v') := Option.some.inj e
      cases e'
      exact ⟨p, kv.1, rfl, rfl, ht, kV_is (P := X.prog) (w := X.w) ru⟩
    | succ j =>
      obtain ⟨b, k, e1, e2, e3, e4⟩ := hp j u' v' (by simpa using e)
      exact ⟨b, k, by simpa using e1, by simpa using e2, e3, e4⟩
theorem call_dictT (hcalm : X.calm = true) : CallR X (.type "dict") (fun xs H Q => ∃ (a : Addr) (ob : Obj) (ps : List Addr) (kvs : List (Key × V)), xs = [.ref a] ∧ H a = some (.frz ob (.tup (ps.map V.ref))) ∧ ob.dict = none ∧ Paired (fun p kv => SqT X.K H p [kV kv.1, kv.2]) ps kvs ∧
    ∀ p, H p = none → Q (.ref p) (upd H p (.dK (mergeK [] kvs)))) := by
  intro pins s σ H xs us Q I r q
  obtain ⟨a, ob, ps, kvs, ex, hq, hod, hp, q⟩ := q
  subst ex
  obtain ⟨u, eu, rx⟩ := vals1 r
  subst eu
  cases rx
  obtain ⟨hga, hz, its, rv, o', ho', hc, n, hdat⟩ := I.hok a _ hq
  rw [hga] at ho'
  cases ho'
  have ei := refs_at rv
  subst ei
  rw [List.length_map] at hz
  obtain ⟨prs, L, rel, hl, hl2, hpr⟩ := pairs_ofL I hp
  have P := PairArg.tuple (prog := X.prog) (w := X.w) a (ps.map Value.ref).toArray (fun j => ps.getD j 0) L
  refine call_dict_pairs (knd := mixKind X.prog X.w) (kvs := prs) P (I.ok.hd hcalm) ⟨⟨ob, n, hga, hc, hod, hdat⟩, by simp [hl2], fun j k v e => ?_⟩ ⟨by omega, fun i key v e => ?_⟩ (by omega) fun h' tk hd' k => ?_
  · obtain ⟨b, k', e1, e2, e3, e4⟩ := hpr j k v e
    have eb : ps.getD j 0 = b := by rw [List.getD_eq_getElem?_getD, e1]; rfl
    show (List.map Value.ref ps).toArray[j]? = some (Value.ref (ps.getD j 0)) ∧ PairAt s.heap (ps.getD j 0) k v
    rw [eb]
    exact ⟨by simp [e1], .inl e3⟩
  · obtain ⟨b, k', e1, e2, e3, e4⟩ := hpr i key v e
    exact ⟨k', e2, e4⟩
  · have hm : (s.heap.objs.size == sysModules) = false := beq_eq_false_iff_ne.mpr (Nat.ne_of_gt I.big)
    have hlen : (mergeK [] kvs).length ≤ sizeLine := by
      refine Nat.le_trans (length_mergeK kvs []) ?_
      rw [List.length_nil, Nat.zero_add, rel.length, hl]
      exact hz
    exact ⟨.ref s.heap.objs.size, upd H s.heap.objs.size (.dK (mergeK [] kvs)), I.laid (t' := tk) (fun b o e => k b o (by simp) e) (Nat.le_refl _) (show ObjOk X.prog X.w _ _ _ (.dK (mergeK [] kvs)) from ⟨hlen, hm, merged [] prs, KV.merge rel .nil, hd'⟩), rfl, q _ (I.hok.fresh (Nat.le_refl _))⟩
variable {F : Fr} {en : En}
theorem k_dictT {kvs : List (Key × D)} (hc : X.calm = true) (hn : (kvs.map (·.1)).Nodup) : CallN X F en (.type "dict") [.ntp (kvs.map pairD)] (dk kvs) := cn_of (call_dictT hc) fun M σ H v Q R bw q => by
  have key : ∀ {vs : List V} {kvs : List (Key × D)}, Rps (gx X) M H vs (kvs.map pairD) → ∃ (ps : List Addr) (us : List (Key × V)), vs = ps.map V.ref ∧ Paired (fun p kv => SqT X.K H p [kV kv.1, kv.2]) ps us ∧ Rpk (gx X) M H us kvs := by
    intro vs kvs
    induction kvs generalizing vs with
    | nil =>
      intro h
      exact ⟨[], [], h.inv_nil, .nil, .nil⟩
    | cons kd kvs ih =>
      obtain ⟨k, d⟩ := kd
      intro h
      obtain ⟨v, r, rfl, h1, h2⟩ := Rps.inv_cons (by simpa using h)
      obtain ⟨ps, us, e1, e2, e3⟩ := ih h2
      unfold pairD at h1
      cases h1 with
      | tup ht rs =>
        cases rs with
        | cons a r1 =>
          cases r1 with
          | cons b r2 =>
            cases r2
            have ea := ofKey_kV a
            subst ea
            exact ⟨_ :: ps, (k, _) :: us, by rw [e1]; rfl, .cons ht.sq e2, .cons b e3⟩
  rcases bw.any R with r | ⟨_, _, o⟩
  · cases r with
    | ntp ha hod hm r =>
      rename_i ad ob vs
      obtain ⟨ps, us, rfl, h2, h3⟩ := key r
      refine ⟨ad, ob, ps, us, rfl, ha, hod, h2, fun l hl => ?_⟩
      have ek : us.map (·.1) = kvs.map (·.1) := by
        clear h2 ha r q hn hm bw
        induction h3 with
        | nil => rfl
        | cons a _ ih => exact congrArg _ ih
      rw [mergeK_app us [] (by rw [ek]; simpa using hn)]
      exact q l _ (F.up _ _ _ R.inv (F.nw _ _ R.inv hl)) (Gr.new hl) hl (.dk upd_same (Rpk.back (h3.kp (.more hl (R.kp (Gr.new hl)).at_))))
  · cases o
end
end Pz
end
section
set_option Elab.async false
set_option linter.all false
set_option maxRecDepth 100000
set_option maxHeartbeats 4000000
/-! Qh: a list unpacked to names; a, b, .. = [list(x) for x in t]. -/
namespace Pz
open PySem PySem.Spec PyProof.Rows L2
section
variable {prog : Program} {w : World} {A : Around} {E : Value → Shared → Prop} {s : Shared}
theorem draw_list {it t : Addr} {items : Array Value} (hne : t ≠ it) : ∀ (n i : Nat) (s : Shared) (Q : List Value → Shared → Prop), s.heap.IsListIter it t i → s.heap.IsList t items → i + n ≤ items.size →
    (∀ h', h'.IsListIter it t (i + n) → Heap.SameBut it s.heap h' → Q ((items.toList.drop i).take n) { s with heap := h' }) → wpAny (model prog w) A (draw (.ref it) n) Q E s
  | 0, i, s, Q, hit, _, _, hQ => by
    show wpAny _ _ (pure []) Q E s
    exact wpAny_pure (by simpa using hQ s.heap hit (Heap.SameBut.refl ..))
  | n + 1, i, s, Q, hit, ht, hle, hQ => by
    have hlt : i < items.size := by omega
    show wpAny _ _ (pyNext (.ref it) >>= _) Q E s
    refine wpAny_bind (wpAny_pyNext_list_item hit ht (x := items[i]) (by simp [hlt]) fun h₁ hit₁ hs₁ => ?_)
    refine wpAny_bind (wpAny_holding (draw_list hne n (i + 1) _ _ hit₁ (ht.at fun o e => (hs₁.2 t hne).trans e) (by omega) fun h₂ hit₂ hs₂ => wpAny_pure ?_))
    have hd : items.toList.drop i = items[i] :: items.toList.drop (i + 1) := by simp [List.drop_eq_getElem_cons, hlt]
    have := hQ h₂ (by rw [show i + (n + 1) = i + 1 + n by omega]; exact hit₂) (hs₁.trans hs₂)
    rw [hd, List.take_succ_cons] at this
    exact this
theorem unpackItems_list {t : Addr} {items : Array Value} {Q : List Value → Shared → Prop} (hh : A.handled = none) (ht : s.heap.IsList t items)
    (hQ : ∀ h', Heap.ExtBut s.heap.objs.size s.heap h' → Q items.toList { s with heap := h' }) : wpAny (model prog w) A (unpackItems (.ref t) items.size none) Q E s := by
  have hlt : t ≠ s.heap.objs.size := by obtain ⟨o, ho, _⟩ := ht; exact Nat.ne_of_lt (Heap.lt_size ho)
  unfold unpackItems
  refine wpAny_bind ?_
  · unfold notIterableAtAll
    refine wpAny_bind (wpAny_specialOf ht.typeIs slot_list_iter.lookup ?_)
    refine wpAny_pure ?_
    simp only [Bool.false_eq_true, if_false]
    refine wpAny_bind (wpAny_holding (wpAny_pyIter_list ht ?_))
    refine wpAny_bind (wpAny_holding (draw_list hlt items.size 0 _ _ ⟨_, Heap.get?_push_size _ rfl, rfl, rfl⟩ (ht.at fun o e => Heap.get?_push_of_some _ e) (by omega) fun h₁ hit₁ hs₁ => ?_))
    have hall : List.take items.size (List.drop 0 items.toList) = items.toList := by
      rw [List.drop_zero]; exact List.take_of_length_le (by simp)
    rw [hall]
    rw [if_neg (by simp)]
    have ht₁ : h₁.IsList t items := ht.at fun o e => (hs₁.2 t hlt).trans (Heap.get?_push_of_some _ e)
    refine wpAny_bind (wpAny_holding (wpAny_pyNext_list_end hh hit₁ ht₁ (by simp) fun h₂ he₂ => ?_))
    simp only [Option.isSome_none, Bool.false_eq_true, if_false]
    refine wpAny_pure (hQ h₂ fun b o hb e => he₂ b o hb ((hs₁.2 b hb).trans (Heap.get?_push_of_some _ e)))
theorem assign_Tuple_list {env : Env} {elts : List Expr} {x1} {pos : Pos} {t : Addr} {items : Array Value} {Q : Unit → Shared → Prop} (hh : A.handled = none) (ht : s.heap.IsList t items)
    (hn : (assignEach elts env).length = items.size) (hstar : (assignEach elts env).findIdx? (·.1) = none)
    (h : ∀ h', Heap.ExtBut s.heap.objs.size s.heap h' → wpAny (model prog w) A (assignInOrder ((assignEach elts env).map (·.2)) items.toList) Q E { s with heap := h' }) :
    wpAny (model prog w) A (assign (.Tuple elts x1 pos) env (.ref t)) Q E s := by
  rw [PyProof.Rows.assign_Tuple]
  refine wpAny_bind (wpAny_standAt ?_)
  unfold unpack
  rw [hn, hstar]
  exact wpAny_bind (wpAny_holding (unpackItems_list hh ht h))
end
section
variable {X : Cx} {pos : Pos}
theorem pg_tupL {es : List Expr} {k : Nat} {t : TGs} {n : Nat} (hc : X.calm = true) (h : PGs X es t)
    (hn : (assignEach es X.env).length = n := by rfl) (hst : (assignEach es X.env).findIdx? (·.1) = none := by rfl) : PG X (.Tuple es k pos) (fun v σ H Q => ∃ a xs, v = .ref a ∧ SqL X.K H a xs ∧ xs.length = n ∧ t xs σ H Q) := by
  refine ⟨fun pins s σ H v u Q I r hw => ?_⟩
  obtain ⟨a, xs, e1, hq, hl, hw⟩ := hw
  subst e1
  cases r
  obtain ⟨its, rv, ht, hz⟩ := I.list hq
  refine assign_Tuple_list (I.ok.hd hc) ht.isList (by simp [hn, ← hl, rv.length]) hst fun h' hx => ?_
  have I1 : Inv X pins σ H { s with heap := h' } := I.kept (t' := s.toks) fun b o e => hx b o (Nat.ne_of_lt (Heap.lt_size e)) e
  exact h.run pins _ σ H xs _ Q I1 (by simpa using rv) hw
end
section
variable {G : Gx} {F : Fr} {M M' : Addr → Prop} {H H' : Hp} {σ : St} {en : En}
theorem RepS.upd_at {L : Addr} {o : HO} (R : RepS G F M σ H en) (hL : M L) (hfr : F.fresh L) (hap : ∀ (j : Nat) d, en[j]? = some (some (.own d)) → σ[j]? = some (some (.ref L)) → False) : RepS G F M σ (upd H L o) en ∧ Kp M M H (upd H L o) := by
  have kk : Kp M M H (upd H L o) := ⟨fun b u e hm => by rw [upd_ne (fun z => hm (by rw [z]; exact hL))]; exact e, fun _ _ h => h⟩
  refine ⟨⟨F.up _ _ _ R.inv hfr, R.m0, R.mf, fun a ha => ?_, fun j d h => ?_, R.sep, fun j d h => ?_, R.len⟩, kk⟩
  · by_cases e : a = L
    · rw [e, upd_same]; exact fun z => nomatch z
    · rw [upd_ne e]; exact R.dom a ha
  · obtain ⟨b, h1, h2, h3, h4, h5⟩ := R.own j d h
    have nb : b ≠ L := fun e => hap j d h (e ▸ h1)
    exact ⟨b, h1, h2, h3, h4, h5.kp kk fun o e => by rw [upd_ne nb]; exact e⟩
  · obtain ⟨w, h1, h2⟩ := R.val j d h
    exact ⟨w, h1, h2.kp kk⟩
end
def EfB (X : Cx) (F : Fr) (scope : Scope) (en : En) (e : Expr) (d : D) : Prop := ∀ (s : Shared) (H : Hp) (C : Addr) (cl : List (Str × Addr)) (fp : List Addr), Ef (X.blk s H scope (compEnvC scope cl C X.env) fp) F en e d
section
variable {X : Cx} {F : Fr} {en : En} {ds : List D} {tg : Expr} {k : KD} {rest : List Stmt} {pos cpos : Pos}
theorem s_unpL {elt iter : Expr} {scope : Scope} {es : List Expr} {kk : Nat} {tpos : Pos} {is js : List Nat} {sp : D → Option (List D)} (own : List (Str × Nat)) (g : D → D) (hc : X.calm = true) (hN : X.N.Nodup) (ok : BlkOk X.N X.env.scope scope own) (hi : Ei X F tg iter en ds)
    (ht : TgB X F scope tg is sp) (he : ∀ d ∈ ds, ∃ items, sp d = some items ∧ EfB X F scope (setE (wipeE en (own.map (·.2))) is items) elt (g d)) (hz : ds.length ≤ 1000000) (hgs : PGs X es (gAll js)) (hlen : ds.length = js.length)
    (h : Sx X F (setSl en js (ds.map fun d => .own (g d))) rest k) (hn : (assignEach es X.env).length = js.length := by rfl) (hst : (assignEach es X.env).findIdx? (·.1) = none := by rfl) (hown : ∀ i ∈ is, i ∈ own.map (·.2) := by decide)
    (hfs : ∀ x, foldedSetIterable iter X.env x = pure x := by intro _; rfl)
    (hs : swapsWithSole [.Tuple es kk tpos] (.ListComp elt [⟨tg, iter, [], 0⟩] scope cpos) pos.line X.env = pure false := by rfl) (hw : swappedStores [.Tuple es kk tpos] (.ListComp elt [⟨tg, iter, [], 0⟩] scope cpos) X.env = pure none := by rfl)
    (h1 : (assignEach [.Tuple es kk tpos] X.env).map (·.2) = [assign (.Tuple es kk tpos) X.env] := by rfl) :
    Sx X F en (.Assign [.Tuple es kk tpos] (.ListComp elt [⟨tg, iter, [], 0⟩] scope cpos) pos :: rest) k := by
  let te : TE := fun σ H Q => ∃ en' d', EfB X F scope en' elt d' ∧ tN (gx X) F en' (fun z => z = d') σ H Q
  let tgg : TG := fun v σ H Q => ∀ (s : Shared) (H0 : Hp) (C : Addr) (cl : List (Str × Addr)) (fp : List Addr), tgR (X.blk s H0 scope (compEnvC scope cl C X.env) fp) tg v σ H Q
  have hg : ∀ (s : Shared) (H : Hp) (C : Addr) (cl : List (Str × Addr)) (fp : List Addr), PG (X.blk s H scope (compEnvC scope cl C X.env) fp) tg tgg := fun s H C cl fp => ⟨fun pins s' σ H' v u Q I r q => q s H C cl fp pins s' u I r⟩
  have hte : ∀ (s : Shared) (H : Hp) (C : Addr) (cl : List (Str × Addr)) (fp : List Addr), PE (X.blk s H scope (compEnvC scope cl C X.env) fp) elt te := fun s H C cl fp => ⟨fun pins s' σ H' Q I ⟨en', d', h, q⟩ => PE.run (h s H C cl fp) pins s' σ H' Q I q⟩
  refine PSs.wk (pss_cons (ps_asg (pe_lc (own := own) hc hN hi ok hg (fun _ _ _ _ _ => pts_nil) hte hfs) (pg_tupL hc hgs hn hst) hs hw h1) h) fun E σ H ⟨M, R, q⟩ => ⟨M, R, fun J H1 i1 g1 jok => ?_⟩
  intro L hL
  have R1 := R.step i1 g1
  have hL0 : H L = none := none_back R i1 g1 hL
  have hfr := F.nw _ _ R.inv hL0
  have i2 : F.I (upd H1 L (.lst [])) := F.up _ _ _ i1 hfr
  have R2 : RepS (gx X) F (Mp M L) σ (upd H1 L (.lst [])) en := R1.more i2 (Gr.new hL) hL hfr (by rw [upd_same]; exact fun z => nomatch z)
  have k12 : Kp M (Mp M L) H1 (upd H1 L (.lst [])) := .more hL fun b o e _ => by rw [upd_ne (ne_of_none e hL)]; exact e
  have hap : ∀ {a : Addr}, H a = none → ∀ (j : Nat) d, en[j]? = some (some (.own d)) → σ[j]? = some (some (.ref a)) → False := fun {a} ha j d h1 h2 => by
    obtain ⟨b, e1, e2, _⟩ := R.own j d h1
    rw [h2] at e1
    cases e1
    exact R.dom _ e2 ha
  let St' := fun (i : Nat) (H' : Hp) => ∃ (Mi : Addr → Prop) (as : List Addr), RepS (gx X) F Mi σ H' en ∧ Gr F H H' ∧ Kp M Mi H1 H' ∧ Mi L ∧ H' L = some (.lst (as.map V.ref)) ∧ as.length = i ∧ as.Nodup ∧ (∀ a ∈ as, a ≠ L ∧ H a = none ∧ Mi a) ∧ (∀ (j : Nat) a d, as[j]? = some a → ds[j]? = some d → Own (gx X) Mi H' a (g d))
  refine ⟨fun i m H' => St' i H' ∧ i ≤ ds.length ∧ m = ds.length - i, ⟨ds.length, ⟨Mp M L, [], R2, g1.trans (Gr.new hL), k12, .inr rfl, upd_same, rfl, .nil, (fun _ h => absurd h List.not_mem_nil), fun j a d h => by simp at h⟩, Nat.zero_le _, rfl⟩, ?_⟩
  rintro i m H' ⟨⟨Mi, as, R', gr, k', mL, hacc, hal, hnd, hnew, hown'⟩, hle, rfl⟩
  have jk := jok Mi H' k' R'.dom i
  by_cases hlt : i < ds.length
  · have hdi : ds[i]? = some ds[i] := List.getElem?_eq_getElem hlt
    have hmem : ds[i] ∈ ds := List.getElem_mem hlt
    obtain ⟨go, yld⟩ := jk.1 _ hdi
    obtain ⟨items, hsp, hel⟩ := he _ hmem
    refine .inr ⟨go, St' (i + 1), fun H3 z => ⟨ds.length - (i + 1), by omega, z, hlt, rfl⟩, fun x H3 y => ?_⟩
    obtain ⟨sm, rx⟩ := yld x H3 y
    have R3 := R'.same sm
    have k3 : Kp Mi Mi H' H3 := R'.kp (Gr.same sm)
    have R3w := R3.wipe (own.map (·.2))
    intro s0 H0 C cl fp
    refine ht s0 H0 C cl fp Mi _ H3 _ x _ items _ R3w rx hsp fun vs rs hl => ⟨?_, ?_⟩
    · rw [wipe_setV hown, wipe_idem]
    · have R4 := R3w.setl (is := is) rs
      refine iteT (B := St' (i + 1) H3) ⟨_, _, hel, Mi, R4, fun a H5 d i5 g5 hn5 o5 ed => ?_⟩
      subst ed
      have gL5 : H5 L = some (.lst (as.map V.ref)) := g5 L _ (sm L _ hacc) fun z => (F.zf L z).2 hfr
      have grA : Gr F H H5 := (gr.trans (Gr.same sm)).trans g5
      have ha3 : H' a = none := none_back R' R3.inv (Gr.same sm) hn5
      have haH : H a = none := by
        cases e : H a with
        | none => rfl
        | some o =>
          by_cases z : F.Z a
          · exact absurd ha3 (F.zi H' a R'.inv z)
          · rw [gr a o e z] at ha3; cases ha3
      have haL : a ≠ L := fun z => by rw [z, hacc] at ha3; cases ha3
      have R5 : RepS (gx X) F (Mp Mi a) σ H5 en := R3.more i5 g5 hn5 (F.nw _ _ R.inv haH) o5.dom
      have k5 : Kp Mi (Mp Mi a) H3 H5 := .more hn5 (R3.kp g5).at_
      obtain ⟨R6, k6⟩ := R5.upd_at (o := .lst (as.map V.ref ++ [.ref a])) (.inl mL) hfr (hap hL0)
      have kall : Kp Mi (Mp Mi a) H' (upd H5 L (.lst (as.map V.ref ++ [.ref a]))) := k3.trans (k5.trans k6)
      refine ⟨as.map V.ref, gL5, ?_, Mp Mi a, as ++ [a], R6, ?_, k'.trans kall, .inl mL, by rw [upd_same, List.map_append]; rfl, by simp [hal], ?_, fun b hb => ?_, fun j b d hj hd => ?_⟩
      · rw [List.length_map, hal]
        exact Nat.lt_of_le_of_lt (Nat.le_of_lt (Nat.lt_of_lt_of_le hlt hz)) (by decide)
      · exact fun b o e z => by
          rw [upd_ne (ne_of_none e hL0)]
          exact grA b o e z
      · refine List.nodup_append.mpr ⟨hnd, by simp, fun x hx y hy e => ?_⟩
        rw [List.mem_singleton] at hy
        subst hy e
        obtain ⟨_, _, m1⟩ := hnew x hx
        exact R'.dom _ m1 ha3
      · rcases List.mem_append.mp hb with hb | hb
        · obtain ⟨h1, h2, h3⟩ := hnew b hb
          exact ⟨h1, h2, .inl h3⟩
        · rw [List.mem_singleton] at hb
          subst hb
          exact ⟨haL, haH, .inr rfl⟩
      · by_cases hji : j < as.length
        · rw [List.getElem?_append_left hji] at hj
          have hb := List.mem_of_getElem? hj
          obtain ⟨h1, h2, h3⟩ := hnew b hb
          refine (hown' j b d hj hd).kp kall fun o e => ?_
          have hfb := F.nw _ _ R.inv h2
          rw [upd_ne h1]
          exact g5 b _ (sm b _ e) fun z => (F.zf b z).2 hfb
        · rw [List.getElem?_append_right (by omega)] at hj
          have hj0 : j - as.length = 0 := by
            have := (List.getElem?_eq_some_iff.mp hj).1
            simp at this
            omega
          rw [hj0] at hj
          have : b = a := by simpa using hj.symm
          subst this
          have : d = ds[i] := by
            have : j = i := by omega
            subst this
            rw [hdi] at hd
            exact (Option.some.inj hd).symm
          subst this
          exact o5.kp k6 fun o e => by rw [upd_ne haL]; exact e
  · have e1 : i = ds.length := by omega
    subst e1
    refine .inl ⟨jk.2 (by omega), L, as.map V.ref, rfl, .of hacc, by rw [List.length_map, hal, hlen], by rw [List.length_map, hal, hlen], ?_⟩
    have pend : ∀ (as : List Addr) (ss : List D), as.length = ss.length → as.Nodup → (∀ a ∈ as, a ≠ L ∧ H a = none ∧ Mi a) → (∀ (j : Nat) a d, as[j]? = some a → ss[j]? = some d → Own (gx X) Mi H' a (g d)) → Pend (gx X) F Mi H' σ en H (as.map V.ref) (ss.map fun d => .own (g d)) := by
      intro as
      induction as with
      | nil =>
        intro ss h _ _ _
        cases ss with
        | nil => exact .nil
        | cons _ _ => cases h
      | cons a as ih =>
        intro ss h hnd hn ho
        cases ss with
        | nil => cases h
        | cons d ss =>
          obtain ⟨h1, h2, h3⟩ := hn a List.mem_cons_self
          have hnd' := List.nodup_cons.mp hnd
          have hm0 : ¬ F.M0 a := fun z => R.dom a (R.m0 a z) h2
          refine .own ⟨h3, hm0, F.nw _ _ R.inv h2, ho 0 a d rfl rfl, fun j d' e1 e2 => hap h2 j d' e1 e2⟩ h2 (fun j d' e1 e2 => ?_) (ih ss (Nat.succ.inj h) hnd'.2 (fun b hb => hn b (List.mem_cons_of_mem _ hb)) fun j b d' e1 e2 => ho (j + 1) b d' (by simpa using e1) (by simpa using e2))
          rw [List.getElem?_map] at e2
          obtain ⟨b, hb, e⟩ := Option.map_eq_some_iff.mp e2
          cases e
          exact hnd'.1 (List.mem_of_getElem? hb)
    exact ⟨Mi, R'.pend (pend as ds hal hnd hnew hown'), q.step ((R.kp g1).trans k')⟩
end
end Pz
end
section
set_option Elab.async false
set_option linter.all false
set_option maxRecDepth 100000
set_option maxHeartbeats 4000000
/-! Qi: small rules: tuples without a dict displayed, list.extend, in, numbers. -/
namespace Pz
open PySem PySem.Spec PyProof.Rows L2
section
variable {X : Cx} {F : Fr} {en : En} {a b c e o : Expr} {es : List Expr} {ds xs ys : List D} {d x y z : D} {p pos apos p1 p2 p3 : Pos} {k : KD} {rest : List Stmt}
theorem pe_tupN {x1 : Nat} {t : TA} (h : PA X es t) : PE X (.Tuple es x1 pos) (fun σ H Q => t σ H fun xs H1 => xs.length ≤ sizeLine ∧ ∀ p ob, H1 p = none → ob.dict = none → Q (.ref p) (upd H1 p (.frz ob (.tup xs)))) := by
  refine ⟨fun pins s σ H Q I hq => ?_⟩
  refine wpAny_Tuple_spliced (thn (h.run pos pins s σ H _ I hq) fun us s1 ⟨xs, H1, I1, r, z, q⟩ => ⟨by rw [← r.length]; exact z, ?_⟩)
  have hf : H1 s1.heap.objs.size = none := I1.hok.fresh (Nat.le_refl _)
  have I2 : Inv X pins σ (upd H1 s1.heap.objs.size (.frz { cls := .type "tuple", data := .seq us.toArray } (.tup xs))) { s1 with heap := s1.heap.push { cls := .type "tuple", data := .seq us.toArray } } :=
    I1.laid (t' := s1.toks) (fun b o e => Heap.get?_push_of_some _ e) (Nat.le_refl _) (show ObjOk X.prog X.w _ _ _ (.frz _ (.tup xs)) from ⟨Heap.get?_push_size _ rfl, z, us, r, ⟨_, Heap.get?_push_size _ rfl, rfl, _, rfl⟩⟩)
  exact ⟨.ref s1.heap.objs.size, _, I2, rfl, q _ _ hf rfl⟩
theorem e_tupN {x1 : Nat} (h : Ea X F en es ds) (hl : ds.length ≤ sizeLine) : Ev X F en (.Tuple es x1 pos) (.ntp ds) :=
  PE.wk (pe_tupN h) fun σ H Q ⟨M, R, q⟩ => ⟨M, R, fun vs H1 i g r => ⟨by rw [r.length]; exact hl, fun l ob hl hd => by
    have R1 := R.step i g
    exact q _ _ _ (F.up _ _ _ R1.inv (F.nw _ _ R1.inv hl)) (g.trans (Gr.new hl)) (.ntp upd_same hd (R1.notin hl) (r.kp (R1.kp (Gr.new hl)))) rfl⟩⟩
theorem f_ifT (h : Et X F en c true) (ha : Ef X F en a d) : Ef X F en (.IfExp c a b pos) d :=
  PE.wk (pe_ifExp h ha (tb := fun _ _ _ => False) ⟨fun _ _ _ _ _ _ z => z.elim⟩) fun σ H Q ⟨M, R, q⟩ => ⟨M, R, fun k H' i g e => by
    subst e
    exact iteT ⟨M, R.step i g, fun v2 H2 d2 i2 g2 n2 r2 e2 => q _ H2 _ i2 (g.trans g2) (none_back R i g n2) r2 e2⟩⟩
theorem f_ifF (h : Et X F en c false) (hb : Ef X F en b d) : Ef X F en (.IfExp c a b pos) d :=
  PE.wk (pe_ifExp h (ta := fun _ _ _ => False) ⟨fun _ _ _ _ _ _ z => z.elim⟩ hb) fun σ H Q ⟨M, R, q⟩ => ⟨M, R, fun k H' i g e => by
    subst e
    exact iteF ⟨M, R.step i g, fun v2 H2 d2 i2 g2 n2 r2 e2 => q _ H2 _ i2 (g.trans g2) (none_back R i g n2) r2 e2⟩⟩
/-- xs.extend(e), xs an own list, e a new one -/
theorem s_ext (i : Nat) {nm_ : Str} (he : Ef X F en e (.lst ys)) (h : Sx X F (en.set i (some (.own (.lst (xs ++ ys))))) rest k) (hl : xs.length + ys.length < 1000000) (hi : en[i]? = some (some (.own (.lst xs))) := by rfl) (hN : X.N[i]? = some nm_ := by rfl)
    (hv : Vis X.env.scope nm_ := by first | exact Or.inl rfl | exact Or.inr (Or.inl rfl) | exact Or.inr (Or.inr rfl)) (hd : (nm_ == ("__debug__" : Str)) = false := by decide) (hcd : (nm_ == ("__classdict__" : Str)) = false := by decide)
    (hbase : attributeBase (.Name nm_ p1) ("extend" : Str) X.env (eval (.Name nm_ p1) X.env) = eval (.Name nm_ p1) X.env := by rfl)
    (hfew : ((backTo p3 (starEach [e] X.env)).all (fun x => !x.1) && (backToKw p3 (keywordEach [] X.env)).all (fun x => x.1.isSome) && decide (([e] : List Expr).length + ([] : List Keyword).length + (if ([] : List Keyword).isEmpty then 0 else 1) < 30)) = true := by rfl)
    (hline : (p2.endLine == p3.line) = true := by rfl) (hs : starEach [e] X.env = (false, eval e X.env) :: starEach [] X.env := by rfl) (hplain : (backTo p3 (starEach [] X.env)).any (·.1) = false := by rfl)
    (hsw : swapsWith (.Call (.Attribute (.Name nm_ p1) ("extend" : Str) p2) [e] [] p3) none pos.line X.env = pure false := by rfl) :
    Sx X F en (.Expr (.Call (.Attribute (.Name nm_ p1) ("extend" : Str) p2) [e] [] p3) pos :: rest) k :=
  PSs.wk (pss_cons (ps_expr (pe_bm PySem.F.plainAttrs_list PySem.F.slot_list_extend PySem.F.type_list_extend mt_extend (pe_var hN hv hd hcd) (pa_cons he pa_nil hs) hbase hfew hline hs hplain) hsw) h) fun E σ H ⟨M, R, q⟩ => by
    obtain ⟨a, h1, h2, h3, h4, h5⟩ := R.own i _ hi
    cases h5 with
    | lst hv rv =>
      rename_i vs
      refine ⟨.ref a, h1, .inl ⟨rfl, vs, .of hv⟩, M, R, fun l H1 d' i1 g1 n1 o1 ed => ?_⟩
      subst ed
      cases o1 with
      | lst hz rz =>
        rename_i zs
        have R1 := R.step i1 g1
        have hv1 : H1 a = some (.lst vs) := g1 a _ hv fun z => (F.zf a z).2 h4
        have rv1 := rv.kp (R.kp g1)
        refine ⟨a, l, vs, zs, rfl, rfl, hv1, hz, ?_, ?_⟩
        · rw [rv.length, rz.length]; exact Nat.le_of_lt (Nat.lt_trans hl (by decide))
        · have kk : Kp M M H1 (upd H1 a (.lst (vs ++ zs))) := ⟨fun b u e hm => by rw [upd_ne (fun z => hm (by rw [z]; exact h2))]; exact e, fun _ _ hm => hm⟩
          have rz1 : Rps (gx X) M H1 zs ys := rz.kp Kp.less
          exact ⟨M, R1.chg hi h1 (.lst upd_same ((rv1.append rz1).kp kk)), q.step ((R.kp g1).trans kk)⟩
/-- k in d, leaf keys -/
theorem e_inK {kvs : List (Key × D)} {ky : Key} (hu : X.A.units + 64 < cLine) (ha : Ev X F en a (D.ofKey ky)) (hb : Eb X F en b (dk kvs)) (hm : behindInMarks CmpOp.In b = false := by first | exact nomark _ | rfl) : Ev X F en (.Compare a [.In] [b] pos) (.bl (getD_ kvs ky).isSome) :=
  PE.wk (pe_cmp (pc_din (by omega) ha hb) hm) fun σ H Q ⟨M, R, q⟩ => ⟨M, R, fun v H1 d i1 g1 rp ed => ⟨M, R.step i1 g1, fun w H2 i2 g2 bw => by
    subst ed
    have R1 := R.step i1 g1
    have R2 := R1.step i2 g2
    obtain ⟨ad, vs, rfl, hr, r⟩ := bw.dk R2
    have ev := ofKey_kV rp
    subst ev
    refine ⟨ad, valV vs ky, rfl, rd_dget hr, ?_⟩
    have e : (valV vs ky).isSome = (getD_ kvs ky).isSome := by
      have z := r.get (k := ky)
      cases hg : getD_ kvs ky with
      | none => rw [hg] at z; rw [show valV vs ky = none from z]; rfl
      | some d =>
        rw [hg] at z
        obtain ⟨v, hv, _⟩ := z
        rw [hv]; rfl
    rw [e]
    exact q _ H2 _ i2 (g1.trans g2) (.bl _) rfl⟩⟩
/-- n not in ints -/
theorem inV_ints (n : Int) : ∀ ns : List Int, inV (.int n) (ns.map V.int) = ns.any fun m => decide (m = n)
  | [] => rfl
  | m :: ns => by
    unfold inV
    rw [List.map_cons, List.any_cons, List.any_cons]
    have e := inV_ints n ns
    unfold inV at e
    rw [e]
    congr 1
theorem o_ninI {n : Int} {ns : List Int} : OpD X F en (compareOp .NotIn) (.int n) (.tup (ns.map .int)) (.bl (!ns.any fun m => decide (m = n))) := o_of op_notIn_seq fun M σ H vx vy Q R bx by_ q => by
  obtain ⟨a, vs, rfl, ha, ra⟩ := by_.tup R
  have e := ra.ints
  subst e
  refine ⟨a, _, rfl, .inr ha.sq, by rw [bx.int R]; rfl, ?_, ?_⟩
  · rw [List.all_map]; exact List.all_eq_true.mpr fun _ _ => rfl
  · rw [bx.int R, if_pos rfl, inV_ints]
    exact q _ H R.inv Gr.refl (.bl _)
/-! ### numbers -/
theorem o_mul {i j : Int} (h : CMul i j) : OpD X F en (binaryOp .Mult) (.int i) (.int j) (.int (i * j)) := o_intC op_mul h fun _ _ => .int _
theorem o_fdiv {i j : Int} (h : CDivW i j) : OpD X F en (binaryOp .FloorDiv) (.int i) (.int j) (.int (i / j)) := o_intC op_fdivW h fun _ _ => .int _
theorem op_powC : OpR X (binaryOp .Pow) (rI (fun i j => 0 ≤ j ∧ (Builtin.Int.intBits i : Int) * j ≤ 2 ^ 27) fun i j => .int (i ^ j.toNat)) := opI fun _ _ _ _ _ _ _ hc q => pow_int hc.1 hc.2 q
theorem o_pow {i j : Int} (h : 0 ≤ j ∧ (Builtin.Int.intBits i : Int) * j ≤ 2 ^ 27) : OpD X F en (binaryOp .Pow) (.int i) (.int j) (.int (i ^ j.toNat)) := o_intC op_powC h fun _ _ => .int _
theorem cd_of2 {f : Value} {r : List V → Hp → VK → Prop} (hr : CallR X f r) (h : ∀ (M : Addr → Prop) (σ : St) (H : Hp) (v w : V) (Q : VK), RepS (gx X) F M σ H en → Bw (gx X) M σ H en v x → Bw (gx X) M σ H en w y → (∀ v H', F.I H' → Gr F H H' → Rp (gx X) M H' v z → Q v H') → r [v, w] H Q) : CallD X F en f [x, y] z := fun M σ H vs Q R bw q => by
  obtain ⟨v, w, rfl, b1, b2⟩ := bw.two
  exact rC_of hr (h M σ H v w Q R b1 b2 q)
theorem k_max2 {i j : Int} (hc : X.calm = true) : CallD X F en (.builtin "max") [.int i, .int j] (.int (if j > i then j else i)) := cd_of2 (call_max2 hc) fun M σ H v w Q R b1 b2 q => ⟨i, j, by rw [b1.int R, b2.int R], q _ H R.inv Gr.refl (.int _)⟩
theorem k_min2 {i j : Int} (hc : X.calm = true) : CallD X F en (.builtin "min") [.int i, .int j] (.int (if j < i then j else i)) := cd_of2 (call_min2 hc) fun M σ H v w Q R b1 b2 q => ⟨i, j, by rw [b1.int R, b2.int R], q _ H R.inv Gr.refl (.int _)⟩
end
end Pz
end
section
set_option Elab.async false
set_option linter.all false
set_option maxRecDepth 100000
set_option maxHeartbeats 4000000
/-! Qj: an own dict lent to a def. -/
namespace Pz
open PySem PySem.Spec PyProof.Rows L2
/-! ### stores to a dict at a known address -/
section
variable {X : Cx} {F : Fr} {en : En} {a b c e o : Expr} {d x y z : D} {p pos p1 p2 : Pos} {k : KD} {rest : List Stmt} {kvs : List (Key × D)} {ky : Key} {G : Gx} {M M' : Addr → Prop} {H H' : Hp} {σ : St} {es : List (D × D)} {kd : D}
theorem s_dputA (i : Nat) {ad0 : Addr} {nm_ : Str} (he : Ev X F en e d) (hb : Ev X F en b (D.ofKey ky)) (h : Sx X F (en.set i (some (.own (.atA ad0 (dk (putD kvs ky d)))))) rest k) (hl : kvs.length < 1000000) (hu : X.A.units + 64 < cLine) (hi : en[i]? = some (some (.own (.atA ad0 (dk kvs)))) := by rfl) (hN : X.N[i]? = some nm_ := by rfl)
    (hv : Vis X.env.scope nm_ := by first | exact Or.inl rfl | exact Or.inr (Or.inl rfl) | exact Or.inr (Or.inr rfl)) (hd : (nm_ == ("__debug__" : Str)) = false := by decide) (hcd : (nm_ == ("__classdict__" : Str)) = false := by decide)
    (hs : swapsWith e (some (.Subscript (.Name nm_ p1) b p2)) pos.line X.env = pure false := by rfl) : Sx X F en (.Assign [.Subscript (.Name nm_ p1) b p2] e pos :: rest) k :=
  PSs.wk (pss_cons (ps_dput (by omega) (pe_var hN hv hd hcd) hb.eb he hs) h) fun E σ H ⟨M, R, q⟩ => ⟨M, R, fun v H1 d' i1 g1 rp ed => by
    subst ed
    obtain ⟨ad, e1, h2, h3, h4, h5⟩ := R.own i _ hi
    have R1 := R.step i1 g1
    refine ⟨.ref ad, e1, M, R1, fun w H2 i2 g2 bk => ?_⟩
    have R2 := R1.step i2 g2
    have g := g1.trans g2
    unfold dk at h5
    cases h5 with
    | atA h5 =>
      cases h5 with
      | dk hv rv =>
        rename_i vs
        have hv2 : H2 ad0 = some (.dK vs) := g ad0 _ hv fun z => (F.zf ad0 z).2 h4
        have rv2 := (rv.to).kp (R.kp g)
        have kk : Kp M M H2 (upd H2 ad0 (.dK (putK vs ky v))) := ⟨fun b u e hm => by rw [upd_ne (fun z => hm (by rw [z]; exact h2))]; exact e, fun _ _ hm => hm⟩
        refine ⟨ad0, _, rfl, ?_, M, R2.chg hi e1 (.atA (.dk upd_same (Rpk.back ((Rpk.put (rp.kp (R1.kp g2)) rv2).kp kk)))), q.step ((R.kp g).trans kk)⟩
        rw [bk.key R2]
        exact .inl ⟨vs, ky, hv2, rfl, by rw [rv2.length]; exact Nat.lt_trans hl (by decide), rfl⟩⟩
/-- a key's value in a dict with nested keys -/
def putN (es : List (D × D)) (kd d : D) : List (D × D) := if (es.any fun q => decide (q.1.nk = kd.nk)) = true then es.map (fun q => if q.1.nk = kd.nk then (q.1, d) else q) else es ++ [(kd, d)]
theorem RpN.put {ad : Addr} {v : V} {u : Value} (rk : Rp G M H (.ref ad) kd) (ru : RelV v u) (rv : Rp G M H v d) {xs : List (NestedKey × Addr × Value)} {es : List (D × D)} (r : RpN G M H xs es) : RpN G M H (storedH xs kd.nk ad u) (putN es kd d) := by
  have hany : ∀ {xs : List (NestedKey × Addr × Value)} {es : List (D × D)}, RpN G M H xs es → (atKey xs kd.nk).isSome = es.any fun q => decide (q.1.nk = kd.nk) := by
    intro xs es r
    induction es generalizing xs with
    | nil => cases r; rfl
    | cons e0 es ih =>
      cases r with
      | cons a b c r' =>
        rename_i ad' v' u' xs' k' d'
        have := ih r'
        unfold atKey at this ⊢
        rw [List.find?_cons, List.any_cons]
        by_cases e : k'.nk = kd.nk
        · rw [decide_eq_true e]; rfl
        · rw [decide_eq_false e, Bool.false_or]; exact this
  have hmap : ∀ {xs : List (NestedKey × Addr × Value)} {es : List (D × D)}, RpN G M H xs es → RpN G M H (xs.map (putAt kd.nk u)) (es.map (fun q => if q.1.nk = kd.nk then (q.1, d) else q)) := by
    intro xs es r
    induction es generalizing xs with
    | nil => cases r; exact .nil
    | cons e0 es ih =>
      cases r with
      | cons a b c r' =>
        rename_i ad' v' u' xs' k' d'
        have := ih r'
        rw [List.map_cons, List.map_cons]
        show RpN G M H ((if k'.nk = kd.nk then (k'.nk, ad', u) else (k'.nk, ad', u')) :: xs'.map (putAt kd.nk u)) ((if k'.nk = kd.nk then (k', d) else (k', d')) :: _)
        by_cases e : k'.nk = kd.nk
        · rw [if_pos e, if_pos e]
          exact .cons a ru rv this
        · rw [if_neg e, if_neg e]
          exact .cons a b c this
  unfold storedH putN
  rw [hany r]
  split
  · exact hmap r
  · exact RpN.app rk ru rv r
/-- d[k] = v, d an own dict at a known address -/
theorem s_dputNA (i : Nat) {ad0 : Addr} {nm_ : Str} {ds : List D} {n : Nat} (he : Ev X F en e d) (hb : Ev X F en b (.tup ds)) (h : Sx X F (en.set i (some (.own (.atA ad0 (.dcn (putN es (.tup ds) d)))))) rest k) (hu : X.A.units + 64 < cLine) (hk : Hk n (.tup ds)) (hn : n ≤ 7) (hes : ∀ q ∈ es, Hk 7 q.1) (hz : es.length ≤ 1000000)
    (hi : en[i]? = some (some (.own (.atA ad0 (.dcn es)))) := by rfl) (hN : X.N[i]? = some nm_ := by rfl)
    (hv : Vis X.env.scope nm_ := by first | exact Or.inl rfl | exact Or.inr (Or.inl rfl) | exact Or.inr (Or.inr rfl)) (hd : (nm_ == ("__debug__" : Str)) = false := by decide) (hcd : (nm_ == ("__classdict__" : Str)) = false := by decide)
    (hs : swapsWithSole [.Subscript (.Name nm_ p1) b p2] e pos.line X.env = pure false := by rfl) (hw : swappedStores [.Subscript (.Name nm_ p1) b p2] e X.env = pure none := by rfl)
    (h1 : (assignEach [.Subscript (.Name nm_ p1) b p2] X.env).map (·.2) = [assign (.Subscript (.Name nm_ p1) b p2) X.env] := by rfl)
    (ha : ∀ v, assign (.Subscript (.Name nm_ p1) b p2) X.env v = (do
      let ov ← holding [v] (eval (.Name nm_ p1) X.env)
      let iv ← holding [v, ov] (eval b X.env)
      standAt p2
      holding [v, ov, iv] (setItem ov iv v)
      release [v, ov, iv] []) := by intro _; rfl) : Sx X F en (.Assign [.Subscript (.Name nm_ p1) b p2] e pos :: rest) k := by
  have hset : PSet X (fun o iv v H Q => ∃ (ad ka : Addr) (xs : List (NestedKey × Addr × Value)) (M : Addr → Prop), o = .ref ad ∧ iv = .ref ka ∧ H ad = some (DN (gx X) ad xs) ∧ RpN (gx X) M H xs es ∧ Rp (gx X) M H (.ref ka) (.tup ds) ∧ ∀ u, RelV v u → Q (upd H ad (DN (gx X) ad (storedH xs (D.tup ds).nk ka u)))) := by
    intro pins s σ H o iv v ov ivv u Q I ro ri rv h
    obtain ⟨ad, ka, xs, M, rfl, rfl, h1, h2, h3, h4⟩ := h
    cases ro
    cases ri
    exact dn_put (v := v) I hu h1 h2 hes h3 hk hn (Nat.lt_of_le_of_lt hz (by decide)) fun s' I' => ⟨_, I', h4 u rv⟩
  exact PSs.wk (pss_cons (ps_asg he (pg_sub (pe_var hN hv hd hcd) hb hset ha) hs hw h1) h) fun E σ H ⟨M, R, q⟩ => ⟨M, R, fun v H1 d' i1 g1 rp ed => by
    subst ed
    obtain ⟨ad, e1, h2, h3, h4, h5⟩ := R.own i _ hi
    have R1 := R.step i1 g1
    refine ⟨.ref ad, e1, M, R1, fun vk H2 z i2 g2 rk ez => ?_⟩
    subst ez
    have R2 := R1.step i2 g2
    have g := g1.trans g2
    cases h5 with
    | atA h5 =>
      cases h5 with
      | dn hv rn =>
        rename_i xs
        have hv2 : H2 ad0 = some (DN (gx X) ad0 xs) := g ad0 _ hv fun z => (F.zf ad0 z).2 h4
        have rn2 := rn.kp (R.kp g)
        have rk' := rk
        cases rk with
        | tup ht rs =>
          rename_i ka vs
          refine ⟨ad0, ka, xs, M, rfl, rfl, hv2, rn2, rk', fun u ru => ?_⟩
          have kk : Kp M M H2 (upd H2 ad0 (DN (gx X) ad0 (storedH xs (D.tup ds).nk ka u))) := ⟨fun b u e hm => by rw [upd_ne (fun z => hm (by rw [z]; exact h2))]; exact e, fun _ _ hm => hm⟩
          exact ⟨M, R2.chg hi e1 (.atA (.dn upd_same ((RpN.put rk' ru (rp.kp (R1.kp g2)) rn2).kp kk))), q.step ((R.kp g).trans kk)⟩⟩
end
/-! ### defs whose last parameter is lent -/
def lastE (N : List Str) (y : Addr) (ds : List D) (d0 : D) : En := ds.map (fun d => some (.v d)) ++ some (.own (.atA y d0)) :: List.replicate (N.length - (ds.length + 1)) none
theorem last_sl {N : List Str} {y : Addr} {ds : List D} {d0 : D} {i : Nat} {s : Sl} (h : (lastE N y ds d0)[i]? = some (some s)) : (i = ds.length ∧ s = .own (.atA y d0)) ∨ ∃ d, ds[i]? = some d ∧ s = .v d := by
  unfold lastE at h
  by_cases hi : i < ds.length
  · rw [List.getElem?_append_left (by simpa using hi), List.getElem?_map, List.getElem?_eq_getElem hi] at h
    exact .inr ⟨ds[i], List.getElem?_eq_getElem hi, by cases h; rfl⟩
  · rw [List.getElem?_append_right (by simpa using hi), List.length_map] at h
    by_cases e : i = ds.length
    · subst e
      rw [Nat.sub_self] at h
      cases h
      exact .inl ⟨rfl, rfl⟩
    · obtain ⟨m, hm⟩ : ∃ m, i - ds.length = m + 1 := ⟨i - ds.length - 1, by omega⟩
      rw [hm, List.getElem?_cons_succ, List.getElem?_replicate] at h
      split at h <;> cases h
theorem last_rep {G : Gx} {F : Fr} {y : Addr} {H : Hp} {N : List Str} {us : List V} {ds : List D} {d0 : D} (hI : F.I H) (hM : ∀ a, F.M0 a → H a ≠ none) (hy : ¬ F.M0 y) (hf : F.fresh y) (ho : Own G (Mp F.M0 y) H y d0) (r : Rps G (Mp F.M0 y) H us ds) :
    RepS G F (Mp F.M0 y) (L2.start N (us ++ [.ref y])) H (lastE N y ds d0) := by
  have hl := r.length
  refine ⟨hI, fun _ h => .inl h, fun a h => h.elim .inl fun e => .inr (e ▸ hf), fun a h => h.elim (hM a) (fun e => e ▸ ho.dom), fun i d h => ?_, fun i j a d d' hij h1 h2 => ?_, fun i d h => ?_, by simp [lastE, L2.start, hl] <;> omega⟩
  · rcases last_sl h with ⟨rfl, e⟩ | ⟨_, _, e⟩
    · cases e
      refine ⟨y, ?_, .inr rfl, hy, hf, .atA ho⟩
      unfold L2.start
      rw [List.getElem?_append_left (by simp [hl]), List.getElem?_map, List.getElem?_append_right (by omega), hl, Nat.sub_self]
      rfl
    · cases e
  · rcases last_sl h1 with ⟨rfl, _⟩ | ⟨_, _, e⟩
    · rcases last_sl h2 with ⟨rfl, _⟩ | ⟨_, _, e⟩
      · exact absurd rfl hij
      · cases e
    · cases e
  · rcases last_sl h with ⟨_, e⟩ | ⟨d', h1, e⟩
    · cases e
    · cases e
      obtain ⟨v, hv, rv⟩ := r.get h1
      refine ⟨v, ?_, rv⟩
      have hj : i < us.length := (List.getElem?_eq_some_iff.mp hv).1
      unfold L2.start
      rw [List.getElem?_append_left (by simp; omega), List.getElem?_map, List.getElem?_append_left hj, hv]
      rfl
/-- dice first, an own object last -/
def Fr.led (M : Addr → Prop) (H : Hp) (x y : Addr) (hM : ∀ a, M a → H a ≠ none) (hx : M x) (hy : ¬ M y) : Fr where
  M0 := M
  Z := fun a => a = x
  I := fun H' => (∀ b o, H b = some o → b ≠ x → b ≠ y → H' b = some o) ∧ Dice H' x
  fresh := fun a => H a = none ∨ a = y
  st := fun H1 H2 a s => ⟨fun c o h n m => s c o (a.1 c o h n m), let ⟨i, j, k, e⟩ := a.2; ⟨i, j, k, s _ _ e⟩⟩
  up := fun H' a o z hn => by
    obtain ⟨s, i, j, k, e⟩ := z
    have ne : x ≠ a := fun z => hn.elim (fun h => hM x hx (z ▸ h)) fun h => hy (h ▸ z ▸ hx)
    refine ⟨fun b u hb n m => ?_, i, j, k, by rw [upd_ne ne]; exact e⟩
    rw [upd_ne fun z => hn.elim (fun h => by rw [z, h] at hb; cases hb) fun h => m (z.trans h)]
    exact s b u hb n m
  nw := fun H' a z hn => by
    obtain ⟨s, i, j, k, e⟩ := z
    by_cases ha : a = y
    · exact .inr ha
    · by_cases hx' : a = x
      · subst hx'; rw [e] at hn; cases hn
      · cases e2 : H a with
        | none => exact .inl rfl
        | some o => rw [s a o e2 hx' ha] at hn; cases hn
  zf := fun a z => ⟨z ▸ hx, fun h => h.elim (fun h => hM x hx (z ▸ h)) fun h => hy (h ▸ z ▸ hx)⟩
  zi := fun H' a q z => by
    obtain ⟨_, i, j, k, e⟩ := q
    rw [z, e]; exact fun q => nomatch q
theorem Fr.led_df {M : Addr → Prop} {H : Hp} {x y : Addr} {hM : ∀ a, M a → H a ≠ none} {hx : M x} {hy : ¬ M y} : DF (Fr.led M H x y hM hx hy) x :=
  ⟨rfl, fun _ _ a b d => ⟨fun c o h n m => b c o (a.1 c o h n m) n, d⟩, fun _ h => h.2⟩
def spL (G : Gx) (Pre : List D → D → Prop) (R : List D → D → D → D → Prop) : Sp := fun vs H Q _ => ∃ (M : Addr → Prop) (x y : Addr) (us : List V) (ds : List D) (d0 : D), vs = (.ref x :: us) ++ [.ref y] ∧ M x ∧ ¬ M y ∧ Dice H x ∧ Rps G (Mp M y) H us ds ∧ Own G (Mp M y) H y d0 ∧ (∀ a, M a → H a ≠ none) ∧ Pre ds d0 ∧
  ∀ v H' d d1, (∀ b o, H b = some o → b ≠ x → b ≠ y → H' b = some o) → Dice H' x → R ds d0 d d1 → Rp G (Mp M y) H' v d → Own G (Mp M y) H' y d1 → Q v H'
/-- a def that fills its last argument -/
def spT (G : Gx) (Pre : List D → D → Prop) (R : List D → D → D → D → Prop) : Sp := fun vs H Q _ => ∃ (M : Addr → Prop) (y : Addr) (us : List V) (ds : List D) (d0 : D), vs = us ++ [.ref y] ∧ ¬ M y ∧ Rps G (Mp M y) H us ds ∧ Own G (Mp M y) H y d0 ∧ (∀ a, M a → H a ≠ none) ∧ Pre ds d0 ∧
  ∀ v H' d d1, SameB y H H' → R ds d0 d d1 → Rp G (Mp M y) H' v d → Own G (Mp M y) H' y d1 → Q v H'
def CalL (P : Program) (w : World) (K : PySem.W.Frag) (mg : Str → Option Value) (base : Heap) (k : Nat) (x : Str) (Pre : List D → D → Prop) (R : List D → D → D → D → Prop) : Prop :=
  ∃ (f : Addr) (fd : FuncData) (ps : List Str), mg x = some (.ref f) ∧ PySem.W.keepIn K (.ref f) = true ∧ FnOk P w K mg base CX0 k f fd ps (spL ⟨P, w, K⟩ Pre R) ∧ Binds K fd ps []
def CalT (P : Program) (w : World) (K : PySem.W.Frag) (mg : Str → Option Value) (base : Heap) (k : Nat) (x : Str) (Pre : List D → D → Prop) (R : List D → D → D → D → Prop) : Prop :=
  ∃ (f : Addr) (fd : FuncData) (ps : List Str), mg x = some (.ref f) ∧ PySem.W.keepIn K (.ref f) = true ∧ FnOk P w K mg base CX0 k f fd ps (spT ⟨P, w, K⟩ Pre R) ∧ Binds K fd ps []
section
variable {P : Program} {w : World} {K : PySem.W.Frag} {mg : Str → Option Value} {base : Heap}
theorem Own.at_ {G : Gx} {M : Addr → Prop} {H : Hp} {a y : Addr} {d : D} (h : Own G M H a (.atA y d)) : a = y ∧ Own G M H y d := by
  cases h with
  | atA h => exact ⟨rfl, h⟩
theorem calL_ok {f : Str} {st : Stmt} {N ps : List Str} {k : Nat} {Pre : List D → D → Prop} {R : List D → D → D → D → Prop} (C : DefAt K mg f st) (S : FnScope N ps (defScope st)) (len : ∀ ds d0, Pre ds d0 → ds.length + 2 = ps.length)
    (hbi : ∀ (kV doc pm : Value) (an : Option Addr) (cdv ct : Value) (us : List Value), us.length = ps.length → bindArgs (PySem.W.fnOf f f (defArgs st) (defBody st) (defScope st) .none kV doc pm an cdv ct) ⟨us, []⟩ = Pure.pure (ps.zip us))
    (hb : ∀ (a : Addr) (cdv : Value) (A : Around) (outer : List Env) (s : Shared) (H : Hp) (E : XK) (Fm : Fr) (x y : Addr) (ds : List D) (d0 : D), DF Fm x → Room k (A.deeper (envOfC f (defScope st) s.heap.objs.size a cdv)) → Pre ds d0 →
      Sx ((cxOf CX0 P w K mg base N f (defScope st) a cdv A outer s H E).nox) Fm (lastE N y (.ref x :: ds) d0) (defBody st) { nx := fun _ => False, rt := fun _ => False, re := fun en' z => ∃ d1, en'[ds.length + 1]? = some (some (.own (.atA y d1))) ∧ R ds d0 z d1 }) :
    CalL P w K mg base (k + 1) f Pre R := by
  obtain ⟨a, fd, hm, FF⟩ := C
  refine ⟨a, fd, ps, hm, FF.kp, ?_, FF.binds hbi⟩
  refine FF.ok S (fun vs H Q E h => ?_) (fun cdv A outer s H vs Q E hr h => ?_)
  · obtain ⟨M, x, y, us, ds, d0, rfl, _, _, _, r, _, _, hR, _⟩ := h
    have := len ds d0 hR
    simp [r.length]
    omega
  · obtain ⟨M, x, y, us, ds, d0, rfl, hx, hy, hd, r, ho, hM, hR, q⟩ := h
    refine ⟨_, hb a cdv A outer s H E (Fr.led M H x y hM hx hy) x y ds d0 Fr.led_df hr hR, Mp M y, last_rep (F := Fr.led M H x y hM hx hy) ⟨fun _ _ h _ _ => h, hd⟩ hM hy (.inr rfl) ho (.cons (.ref x) r), ⟨fun _ _ _ _ _ _ z => z.elim, fun _ _ _ _ _ z => z.elim, fun _ _ _ _ _ _ z => z.elim, fun _ _ _ _ _ _ z => z.elim, fun _ _ _ _ _ _ _ z => z.elim, fun M' σ' H' en' v d R' kp rp z => ?_⟩⟩
    obtain ⟨d1, h1, h2⟩ := z
    obtain ⟨ad, _, m1, _, _, o1⟩ := R'.own _ _ h1
    obtain ⟨rfl, o2⟩ := o1.at_
    have kk : Kp M' (Mp M ad) H' H' := ⟨fun _ _ h _ => h, fun b _ hm z => hm (z.elim (R'.m0 b) fun e => e ▸ m1)⟩
    exact q v H' d d1 R'.inv.1 R'.inv.2 h2 (rp.kp kk) (o2.kp kk fun _ h => h)
theorem calT_ok {f : Str} {st : Stmt} {N ps : List Str} {k : Nat} {Pre : List D → D → Prop} {R : List D → D → D → D → Prop} (C : DefAt K mg f st) (S : FnScope N ps (defScope st)) (len : ∀ ds d0, Pre ds d0 → ds.length + 1 = ps.length)
    (hbi : ∀ (kV doc pm : Value) (an : Option Addr) (cdv ct : Value) (us : List Value), us.length = ps.length → bindArgs (PySem.W.fnOf f f (defArgs st) (defBody st) (defScope st) .none kV doc pm an cdv ct) ⟨us, []⟩ = Pure.pure (ps.zip us))
    (hb : ∀ (a : Addr) (cdv : Value) (A : Around) (outer : List Env) (s : Shared) (H : Hp) (E : XK) (Fm : Fr) (y : Addr) (ds : List D) (d0 : D), Room k (A.deeper (envOfC f (defScope st) s.heap.objs.size a cdv)) → Pre ds d0 →
      Sx ((cxOf CX0 P w K mg base N f (defScope st) a cdv A outer s H E).nox) Fm (lastE N y ds d0) (defBody st) { nx := fun _ => False, rt := fun _ => False, re := fun en' z => ∃ d1, en'[ds.length]? = some (some (.own (.atA y d1))) ∧ R ds d0 z d1 }) :
    CalT P w K mg base (k + 1) f Pre R := by
  obtain ⟨a, fd, hm, FF⟩ := C
  refine ⟨a, fd, ps, hm, FF.kp, ?_, FF.binds hbi⟩
  refine FF.ok S (fun vs H Q E h => ?_) (fun cdv A outer s H vs Q E hr h => ?_)
  · obtain ⟨M, y, us, ds, d0, rfl, _, r, _, _, hR, _⟩ := h
    have := len ds d0 hR
    simp [r.length]
    omega
  · obtain ⟨M, y, us, ds, d0, rfl, hy, r, ho, hM, hR, q⟩ := h
    refine ⟨_, hb a cdv A outer s H E (Fr.ini M H y hM) y ds d0 hr hR, Mp M y, last_rep (F := Fr.ini M H y hM) (fun _ _ h _ => h) hM hy (.inr rfl) ho r, ⟨fun _ _ _ _ _ _ z => z.elim, fun _ _ _ _ _ z => z.elim, fun _ _ _ _ _ _ z => z.elim, fun _ _ _ _ _ _ z => z.elim, fun _ _ _ _ _ _ _ z => z.elim, fun M' σ' H' en' v d R' kp rp z => ?_⟩⟩
    obtain ⟨d1, h1, h2⟩ := z
    obtain ⟨ad, _, m1, _, _, o1⟩ := R'.own _ _ h1
    obtain ⟨rfl, o2⟩ := o1.at_
    have kk : Kp M' (Mp M ad) H' H' := ⟨fun _ _ h _ => h, fun b _ hm z => hm (z.elim (R'.m0 b) fun e => e ▸ m1)⟩
    exact q v H' d d1 R'.inv h2 (rp.kp kk) (o2.kp kk fun _ h => h)
end
/-! ### r = f(dice, .., own slot) -/
section
variable {X : Cx} {F : Fr} {en : En} {e : Expr} {es : List Expr} {ds : List D} {d d0 : D} {p pos p1 p2 : Pos} {k : KD} {rest : List Stmt}
/-- arguments, the last one an own slot's object -/
def EaL (X : Cx) (F : Fr) (en : En) (es : List Expr) (ds : List D) (i : Nat) : Prop := PA X es (fun σ H Q => ∃ M, RepS (gx X) F M σ H en ∧ ∀ vs H' a, F.I H' → Gr F H H' → Rps (gx X) M H' vs ds → σ[i]? = some (some (.ref a)) → Q (vs ++ [.ref a]) H')
theorem al_last (i : Nat) {x : Str} {px : Pos} (h : en[i]? = some (some (.own d)) := by rfl) (hN : X.N[i]? = some x := by rfl) (hv : Vis X.env.scope x := by first | exact Or.inl rfl | exact Or.inr (Or.inl rfl) | exact Or.inr (Or.inr rfl)) (hd : (x == ("__debug__" : Str)) = false := by decide)
    (hcd : (x == ("__classdict__" : Str)) = false := by decide) (hs : starEach [.Name x px] X.env = (false, eval (.Name x px) X.env) :: starEach [] X.env := by rfl) : EaL X F en [.Name x px] [] i :=
  PA.wk (pa_cons (pe_var hN hv hd hcd) pa_nil hs) fun σ H Q ⟨M, R, q⟩ => by
    obtain ⟨a, h1, _⟩ := R.own i d h
    exact ⟨.ref a, h1, q [] H a R.inv Gr.refl .nil h1⟩
theorem al_cons {i : Nat} (h : Ev X F en e d) (hr : EaL X F en es ds i) (hs : starEach (e :: es) X.env = (false, eval e X.env) :: starEach es X.env := by rfl) : EaL X F en (e :: es) (d :: ds) i :=
  PA.wk (pa_cons h hr hs) fun σ H Q ⟨M, R, q⟩ => ⟨M, R, fun v H1 z i1 g r e => ⟨M, R.step i1 g, fun vs H2 a i2 g2 r2 ha => by
    subst e
    exact q _ H2 a i2 (g.trans g2) (.cons (r.kp ((R.step i1 g).kp g2)) r2) ha⟩⟩
/-- all but an own slot's object and Z stays -/
theorem RepS.chgG {G : Gx} {M : Addr → Prop} {H H' : Hp} {σ : St} {i : Nat} {y : Addr} {d1 : D} (R : RepS G F M σ H en) (hi : en[i]? = some (some (.own d0))) (hy : σ[i]? = some (some (.ref y))) (hI : F.I H') (hk : ∀ b o, H b = some o → ¬ F.Z b → b ≠ y → H' b = some o) (ho : Own G M H' y d1) : RepS G F M σ H' (en.set i (some (.own d1))) ∧ Kp M M H H' := by
  obtain ⟨y', e1, h2, h3, h4, h5⟩ := R.own i _ hi
  rw [hy] at e1
  cases e1
  have kk : Kp M M H H' := ⟨fun b o h hm => hk b o h (fun z => hm (R.m0 b (F.zf b z).1)) fun e => hm (e ▸ h2), fun _ _ h => h⟩
  refine ⟨⟨hI, R.m0, R.mf, fun a ha => ?_, fun j d h => ?_, fun j l a d d' hij h1 h2' g1 g2 => ?_, fun j d h => ?_, by rw [List.length_set]; exact R.len⟩, kk⟩
  · by_cases z : F.Z a
    · exact F.zi H' a hI z
    · by_cases ey : a = y
      · subst ey; exact ho.dom
      · cases e : H a with
        | none => exact absurd e (R.dom a ha)
        | some o => rw [hk a o e z ey]; exact fun q => nomatch q
  · rcases getset h with ⟨rfl, e, _⟩ | ⟨hn, h⟩
    · cases e
      exact ⟨y, hy, h2, h3, h4, ho⟩
    · obtain ⟨b, g1, g2, g3, g4, g5⟩ := R.own j d h
      have nb : b ≠ y := fun e => R.sep j i b d d0 hn h hi g1 (e ▸ hy)
      exact ⟨b, g1, g2, g3, g4, g5.kp kk fun o e => hk b o e (fun z => (F.zf b z).2 g4) nb⟩
  · have back : ∀ {j : Nat} {d : D}, (en.set i (some (.own d1)))[j]? = some (some (.own d)) → ∃ d', en[j]? = some (some (.own d')) := fun {j d} h => by
      rcases getset h with ⟨rfl, _, _⟩ | ⟨_, h⟩
      · exact ⟨d0, hi⟩
      · exact ⟨d, h⟩
    obtain ⟨b1, z1⟩ := back h1
    obtain ⟨b2, z2⟩ := back h2'
    exact R.sep j l a b1 b2 hij z1 z2 g1 g2
  · rcases getset h with ⟨_, e, _⟩ | ⟨_, h⟩
    · cases e
    · obtain ⟨v, g1, g2⟩ := R.val j d h
      exact ⟨v, g1, g2.kp kk⟩
theorem s_lend {f nr : Str} {Pre : List D → D → Prop} {Rl : List D → D → D → D → Prop} {kk : Nat} {x : Addr} (r i : Nat) (C : CalL X.prog X.w X.K X.mg X.base kk f Pre Rl) (df : DF F x) (hr : Room kk X.A) (hN : X.N.Nodup) (ha : EaL X F en (e :: es) (.ref x :: ds) i) (hp : Pre ds d0) (hne : r ≠ i)
    (h : ∀ d d1, Rl ds d0 d d1 → Sx X F ((en.set i (some (.own d1))).set r (some (.v d))) rest k) (hi : en[i]? = some (some (.own d0)) := by rfl) (hn : X.N[r]? = some nr := by rfl) (hx : Loc X.env.scope nr := by first | exact Or.inl rfl | exact Or.inr rfl)
    (hs : swapsWith (.Call (.Name f p) (e :: es) [] pos) (some (.Name nr p1)) p2.line X.env = pure false := by rfl) (hf : X.fn nr = true ∨ X.env.scope.names.lookup nr = some .local := by first | exact .inl rfl | exact .inr rfl)
    (hg : Gl X f := by rfl) (hdb : (f == ("__debug__" : Str)) = false := by decide) (he : starEach (e :: es) X.env = (false, eval e X.env) :: starEach es X.env := by rfl)
    (hpl : (backTo pos (starEach es X.env)).any (·.1) = false := by rfl) : Sx X F en (.Assign [.Name nr p1] (.Call (.Name f p) (e :: es) [] pos) p2 :: rest) k := by
  obtain ⟨f, fd, ps, hm, hk, FF, hb⟩ := C
  refine PSs.wk (pss_cons (ps_set hN hn hx (pe_call FF hr hg hm hk hb .nil pass0 ha hdb he hpl) hs hf) tU_ok) fun E σ H ⟨M, R, q⟩ => ⟨M, R, fun vs H1 y i1 g1 rv hy => ?_⟩
  have R1 := R.step i1 g1
  obtain ⟨y', e1, m1, n1, f1, o1⟩ := R1.own i d0 hi
  rw [hy] at e1
  cases e1
  cases rv with
  | cons a rv =>
    cases a
    rename_i us
    let Ms : Addr → Prop := fun b => M b ∧ b ≠ y
    have hxy : x ≠ y := fun z => n1 (z ▸ (F.zf x df.z).1)
    have k1 : Kp M (Mp Ms y) H1 H1 := ⟨fun _ _ h _ => h, fun b _ hm z => hm (z.elim (·.1) fun e => e ▸ m1)⟩
    have k2 : ∀ {H' : Hp}, Kp (Mp Ms y) M H' H' := ⟨fun _ _ h _ => h, fun b _ hm z => hm (by
      by_cases e : b = y
      · exact .inr e
      · exact .inl ⟨z, e⟩)⟩
    refine ⟨Ms, x, y, us, ds, d0, by rw [List.append_nil], ⟨R.m0 x (F.zf x df.z).1, hxy⟩, fun z => z.2 rfl, df.ok H1 i1, rv.kp k1, o1.kp k1 fun _ h => h, fun a z => R1.dom a z.1, hp, fun v H' d d1 hs hd hR rp ho => ?_⟩
    have ho' : Own (gx X) M H' y d1 := ho.kp k2 fun _ h => h
    obtain ⟨oy, hoy⟩ : ∃ o, H' y = some o := by
      cases e : H' y with
      | none => exact absurd e ho'.dom
      | some o => exact ⟨o, rfl⟩
    have I' : F.I H' := df.chg (upd H1 y oy) H' (F.up H1 y oy i1 f1) (fun b o h hb => by
      by_cases e : b = y
      · subst e; rw [upd_same] at h; cases h; exact hoy
      · rw [upd_ne e] at h; exact hs b o h hb e) hd
    obtain ⟨R2, kp2⟩ := R1.chgG hi hy I' (fun b o h hz hb => hs b o h (fun e => hz (e ▸ df.z)) hb) ho'
    exact (h d d1 hR).u ⟨M, R2.setv (rp.kp k2), q.step ((R.kp g1).trans kp2)⟩
end
end Pz
end
section
set_option Elab.async false
set_option linter.all false
set_option maxRecDepth 100000
set_option maxHeartbeats 4000000
/-! Qk: a list of new objects; dicts locked one after the other. -/
namespace Pz
open PySem PySem.Spec PyProof.Rows L2
section
variable {X : Cx} {F : Fr} {en : En} {ds : List D} {tg : Expr}
def teO (X : Cx) (F : Fr) (scope : Scope) (elt : Expr) : TE := fun σ H Q => ∃ en' d', EfB X F scope en' elt d' ∧ tN (gx X) F en' (fun z => z = d') σ H Q
def tgO (X : Cx) (scope : Scope) (tg : Expr) : TG := fun v σ H Q => ∀ (s : Shared) (H0 : Hp) (C : Addr) (cl : List (Str × Addr)) (fp : List Addr), tgR (X.blk s H0 scope (compEnvC scope cl C X.env) fp) tg v σ H Q
theorem tgO_ok {scope : Scope} (s : Shared) (H : Hp) (C : Addr) (cl : List (Str × Addr)) (fp : List Addr) : PG (X.blk s H scope (compEnvC scope cl C X.env) fp) tg (tgO X scope tg) := ⟨fun pins s' σ H' v u Q I r q => q s H C cl fp pins s' u I r⟩
theorem teO_ok {scope : Scope} {elt : Expr} (s : Shared) (H : Hp) (C : Addr) (cl : List (Str × Addr)) (fp : List Addr) : PE (X.blk s H scope (compEnvC scope cl C X.env) fp) elt (teO X F scope elt) := ⟨fun pins s' σ H' Q I ⟨en', d', h, q⟩ => PE.run (h s H C cl fp) pins s' σ H' Q I q⟩
/-- [e for x in it], each e a new object -/
theorem lcO_rd {elt : Expr} {scope : Scope} {is : List Nat} {sp : D → Option (List D)} (own : List (Str × Nat)) (g : D → D) (ht : TgB X F scope tg is sp) (he : ∀ d ∈ ds, ∃ items, sp d = some items ∧ EfB X F scope (setE (wipeE en (own.map (·.2))) is items) elt (g d)) (hz : ds.length ≤ 1000000) (hown : ∀ i ∈ is, i ∈ own.map (·.2)) (σ : St) (H : Hp) (Q : VK)
    (h : ∃ M, RepS (gx X) F M σ H en ∧ ∀ (L : Addr) (H' : Hp) (Mi : Addr → Prop) (as : List Addr), RepS (gx X) F Mi σ H' en → Gr F H H' → Kp M Mi H H' → Mi L → H L = none → H' L = some (.lst (as.map V.ref)) → as.length = ds.length → as.Nodup → (∀ a ∈ as, a ≠ L ∧ H a = none ∧ Mi a) → (∀ (j : Nat) a d, as[j]? = some a → ds[j]? = some d → Own (gx X) Mi H' a (g d)) → Q (.ref L) H') :
    tLc (tI (gx X) F en ds) (tgO X scope tg) tYes (teO X F scope elt) (own.map (·.2)) σ H Q := by
  obtain ⟨M, R, q⟩ := h
  refine ⟨M, R, fun J H1 i1 g1 jok => ?_⟩
  intro L hL
  have R1 := R.step i1 g1
  have hL0 : H L = none := none_back R i1 g1 hL
  have hfr := F.nw _ _ R.inv hL0
  have i2 : F.I (upd H1 L (.lst [])) := F.up _ _ _ i1 hfr
  have R2 : RepS (gx X) F (Mp M L) σ (upd H1 L (.lst [])) en := R1.more i2 (Gr.new hL) hL hfr (by rw [upd_same]; exact fun z => nomatch z)
  have k12 : Kp M (Mp M L) H1 (upd H1 L (.lst [])) := .more hL fun b o e _ => by rw [upd_ne (ne_of_none e hL)]; exact e
  have hap : ∀ {a : Addr}, H a = none → ∀ (j : Nat) d, en[j]? = some (some (.own d)) → σ[j]? = some (some (.ref a)) → False := fun {a} ha j d h1 h2 => by
    obtain ⟨b, e1, e2, _⟩ := R.own j d h1
    rw [h2] at e1
    cases e1
    exact R.dom _ e2 ha
  let St' := fun (i : Nat) (H' : Hp) => ∃ (Mi : Addr → Prop) (as : List Addr), RepS (gx X) F Mi σ H' en ∧ Gr F H H' ∧ Kp M Mi H1 H' ∧ Mi L ∧ H' L = some (.lst (as.map V.ref)) ∧ as.length = i ∧ as.Nodup ∧ (∀ a ∈ as, a ≠ L ∧ H a = none ∧ Mi a) ∧ (∀ (j : Nat) a d, as[j]? = some a → ds[j]? = some d → Own (gx X) Mi H' a (g d))
  refine ⟨fun i m H' => St' i H' ∧ i ≤ ds.length ∧ m = ds.length - i, ⟨ds.length, ⟨Mp M L, [], R2, g1.trans (Gr.new hL), k12, .inr rfl, upd_same, rfl, .nil, (fun _ h => absurd h List.not_mem_nil), fun j a d h => by simp at h⟩, Nat.zero_le _, rfl⟩, ?_⟩
  rintro i m H' ⟨⟨Mi, as, R', gr, k', mL, hacc, hal, hnd, hnew, hown'⟩, hle, rfl⟩
  have jk := jok Mi H' k' R'.dom i
  by_cases hlt : i < ds.length
  · have hdi : ds[i]? = some ds[i] := List.getElem?_eq_getElem hlt
    have hmem : ds[i] ∈ ds := List.getElem_mem hlt
    obtain ⟨go, yld⟩ := jk.1 _ hdi
    obtain ⟨items, hsp, hel⟩ := he _ hmem
    refine .inr ⟨go, St' (i + 1), fun H3 z => ⟨ds.length - (i + 1), by omega, z, hlt, rfl⟩, fun x H3 y => ?_⟩
    obtain ⟨sm, rx⟩ := yld x H3 y
    have R3 := R'.same sm
    have k3 : Kp Mi Mi H' H3 := R'.kp (Gr.same sm)
    have R3w := R3.wipe (own.map (·.2))
    intro s0 H0 C cl fp
    refine ht s0 H0 C cl fp Mi _ H3 _ x _ items _ R3w rx hsp fun vs rs hl => ⟨?_, ?_⟩
    · rw [wipe_setV hown, wipe_idem]
    · have R4 := R3w.setl (is := is) rs
      refine iteT (B := St' (i + 1) H3) ⟨_, _, hel, Mi, R4, fun a H5 d i5 g5 hn5 o5 ed => ?_⟩
      subst ed
      have gL5 : H5 L = some (.lst (as.map V.ref)) := g5 L _ (sm L _ hacc) fun z => (F.zf L z).2 hfr
      have grA : Gr F H H5 := (gr.trans (Gr.same sm)).trans g5
      have ha3 : H' a = none := none_back R' R3.inv (Gr.same sm) hn5
      have haH : H a = none := by
        cases e : H a with
        | none => rfl
        | some o =>
          by_cases z : F.Z a
          · exact absurd ha3 (F.zi H' a R'.inv z)
          · rw [gr a o e z] at ha3; cases ha3
      have haL : a ≠ L := fun z => by rw [z, hacc] at ha3; cases ha3
      have R5 : RepS (gx X) F (Mp Mi a) σ H5 en := R3.more i5 g5 hn5 (F.nw _ _ R.inv haH) o5.dom
      have k5 : Kp Mi (Mp Mi a) H3 H5 := .more hn5 (R3.kp g5).at_
      obtain ⟨R6, k6⟩ := R5.upd_at (o := .lst (as.map V.ref ++ [.ref a])) (.inl mL) hfr (hap hL0)
      have kall : Kp Mi (Mp Mi a) H' (upd H5 L (.lst (as.map V.ref ++ [.ref a]))) := k3.trans (k5.trans k6)
      refine ⟨as.map V.ref, gL5, ?_, Mp Mi a, as ++ [a], R6, ?_, k'.trans kall, .inl mL, by rw [upd_same, List.map_append]; rfl, by simp [hal], ?_, fun b hb => ?_, fun j b d hj hd => ?_⟩
      · rw [List.length_map, hal]
        exact Nat.lt_of_le_of_lt (Nat.le_of_lt (Nat.lt_of_lt_of_le hlt hz)) (by decide)
      · exact fun b o e z => by
          rw [upd_ne (ne_of_none e hL0)]
          exact grA b o e z
      · refine List.nodup_append.mpr ⟨hnd, by simp, fun x hx y hy e => ?_⟩
        rw [List.mem_singleton] at hy
        subst hy e
        obtain ⟨_, _, m1⟩ := hnew x hx
        exact R'.dom _ m1 ha3
      · rcases List.mem_append.mp hb with hb | hb
        · obtain ⟨h1, h2, h3⟩ := hnew b hb
          exact ⟨h1, h2, .inl h3⟩
        · rw [List.mem_singleton] at hb
          subst hb
          exact ⟨haL, haH, .inr rfl⟩
      · by_cases hji : j < as.length
        · rw [List.getElem?_append_left hji] at hj
          have hb := List.mem_of_getElem? hj
          obtain ⟨h1, h2, h3⟩ := hnew b hb
          refine (hown' j b d hj hd).kp kall fun o e => ?_
          have hfb := F.nw _ _ R.inv h2
          rw [upd_ne h1]
          exact g5 b _ (sm b _ e) fun z => (F.zf b z).2 hfb
        · rw [List.getElem?_append_right (by omega)] at hj
          have hj0 : j - as.length = 0 := by
            have := (List.getElem?_eq_some_iff.mp hj).1
            simp at this
            omega
          rw [hj0] at hj
          have : b = a := by simpa using hj.symm
          subst this
          have : d = ds[i] := by
            have : j = i := by omega
            subst this
            rw [hdi] at hd
            exact (Option.some.inj hd).symm
          subst this
          exact o5.kp k6 fun o e => by rw [upd_ne haL]; exact e
  · have e1 : i = ds.length := by omega
    subst e1
    exact .inl ⟨jk.2 (by omega), q L H' Mi as R' gr ((R.kp g1).trans k') mL hL0 hacc hal hnd hnew hown'⟩
theorem lockAll {pins : List (Addr × Obj)} {σ : St} {s : Shared} : ∀ (as : List Addr) (H : Hp), Inv X pins σ H s → F.I H → as.Nodup → (∀ a ∈ as, F.fresh a ∧ ∃ kvs, H a = some (.dK kvs)) →
    ∃ H', Inv X pins σ H' s ∧ F.I H' ∧ (∀ b, b ∉ as → H' b = H b) ∧ ∀ a ∈ as, ∀ kvs, H a = some (.dK kvs) → ∃ ob, H' a = some (.frz ob (.dK kvs))
  | [], H, I, i, _, _ => ⟨H, I, i, fun _ _ => rfl, fun _ h => absurd h List.not_mem_nil⟩
  | a :: as, H, I, i, hn, h => by
    have hn' := List.nodup_cons.mp hn
    obtain ⟨hf, kvs, ha⟩ := h a List.mem_cons_self
    obtain ⟨od, I1⟩ := I.lock ha trivial
    obtain ⟨H', I2, i2, k, r⟩ := lockAll as (upd H a (.frz od (.dK kvs))) I1 (F.up _ _ _ i hf) hn'.2 fun b hb => by
      obtain ⟨h1, kv, h2⟩ := h b (List.mem_cons_of_mem _ hb)
      exact ⟨h1, kv, by rw [upd_ne (fun z => hn'.1 (by rw [← z]; exact hb))]; exact h2⟩
    refine ⟨H', I2, i2, fun b hb => ?_, fun b hb kv hk => ?_⟩
    · rw [k b fun z => hb (List.mem_cons_of_mem _ z), upd_ne (fun z => hb (by rw [z]; exact List.mem_cons_self))]
    · rcases List.mem_cons.mp hb with rfl | hb
      · rw [ha] at hk
        cases hk
        exact ⟨od, by rw [k b hn'.1, upd_same]⟩
      · exact r b hb kv (by rw [upd_ne (fun z => hn'.1 (by rw [← z]; exact hb))]; exact hk)
end
end Pz
end
section
set_option Elab.async false
set_option linter.all false
set_option maxRecDepth 100000
set_option maxHeartbeats 4000000
/-! Ql: a dict displayed with text keys. -/
namespace Pz
open PySem PySem.Spec PyProof.Rows L2
inductive Eps (X : Cx) (F : Fr) (en : En) : List (Option Expr) → List Expr → List (Str × D) → Prop
  | nil : Eps X F en [] [] []
  | cons {k v : Expr} {key : Str} {d : D} {ks vs kds} : Ev X F en k (.str key) → Ev X F en v d → Eps X F en ks vs kds → Eps X F en (some k :: ks) (v :: vs) ((key, d) :: kds)
inductive Prs (G : Gx) (M : Addr → Prop) (H : Hp) : List (Key × V) → List (Str × D) → Prop
  | nil : Prs G M H [] []
  | cons {key v d vs kds} : Rp G M H v d → Prs G M H vs kds → Prs G M H ((.inr key, v) :: vs) ((key, d) :: kds)
section
variable {X : Cx} {F : Fr} {en : En} {pos : Pos} {G : Gx} {M M' : Addr → Prop} {H H' : Hp}
theorem Prs.kp (k : Kp M M' H H') : ∀ {vs : List (Key × V)} {kds : List (Str × D)}, Prs G M H vs kds → Prs G M' H' vs kds
  | _, _, .nil => .nil
  | _, _, .cons a r => .cons (a.kp k) (r.kp k)
theorem Prs.rpk : ∀ {vs : List (Key × V)} {kds : List (Str × D)}, Prs G M H vs kds → Rpk G M H vs (kds.map fun q => (.inr q.1, q.2))
  | _, _, .nil => .nil
  | _, _, .cons a r => .cons a r.rpk
theorem Prs.keys : ∀ {vs : List (Key × V)} {kds : List (Str × D)}, Prs G M H vs kds → vs.map (·.1) = kds.map (fun q => .inr q.1) ∧ vs.length = kds.length
  | _, _, .nil => ⟨rfl, rfl⟩
  | _, _, .cons a r => ⟨congrArg _ r.keys.1, congrArg (· + 1) r.keys.2⟩
theorem Eps.rd {ks : List (Option Expr)} {vs : List Expr} {kds : List (Str × D)} (h : Eps X F en ks vs kds) : ks.all (·.isSome) = true ∧ ks.length = vs.length ∧ ks.length = kds.length ∧ ∃ trs, PPs X pos ks vs trs ∧ ∀ σ H (Q : List (V × V) → Hp → Prop), (∃ M, RepS (gx X) F M σ H en ∧ ∀ kvs H', F.I H' → Gr F H H' → Prs (gx X) M H' kvs kds → Q (kvs.map fun kv => (kV kv.1, kv.2)) H') → tPairs trs σ H Q := by
  induction h with
  | nil => exact ⟨rfl, rfl, rfl, [], pps_nil, fun σ H Q ⟨M, R, q⟩ => q [] H R.inv Gr.refl .nil⟩
  | cons hk hv _ ih =>
    obtain ⟨a1, a2, a3, trs, hp, ht⟩ := ih
    refine ⟨by simpa using a1, by simp [a2], by simp [a3], _, pps_cons hk hv hp, fun σ H Q ⟨M, R, q⟩ => ?_⟩
    refine ⟨M, R, fun x H1 z i1 g1 r1 e1 => ⟨M, R.step i1 g1, fun y H2 w i2 g2 r2 e2 => ?_⟩⟩
    subst e1 e2
    have R2 := (R.step i1 g1).step i2 g2
    refine ht σ H2 _ ⟨M, R2, fun kvs H3 i3 g3 r3 => ?_⟩
    cases r1
    exact q (_ :: kvs) H3 i3 ((g1.trans g2).trans g3) (.cons (r2.kp (R2.kp g3)) r3)
theorem f_dispK {ks : List (Option Expr)} {vs : List Expr} {kds : List (Str × D)} (h : Eps X F en ks vs kds) (h0 : ks ≠ []) (hl : kds.length ≤ 15) (hn : (kds.map (·.1)).Nodup) : Ef X F en (.Dict ks vs pos) (dk (kds.map fun q => (.inr q.1, q.2))) := by
  obtain ⟨a1, a2, a3, trs, hp, ht⟩ := h.rd (pos := pos)
  refine PE.wk (pe_disp hp a1 a2 h0 (by omega)) fun σ H Q ⟨M, R, q⟩ => fun L hL => ?_
  have hfr := F.nw _ _ R.inv hL
  have i0 : F.I (upd H L (.dK [])) := F.up _ _ _ R.inv hfr
  have R0 : RepS (gx X) F (Mp M L) σ (upd H L (.dK [])) en := R.more i0 (Gr.new hL) hL hfr (by rw [upd_same]; exact fun z => nomatch z)
  refine ht σ _ _ ⟨Mp M L, R0, fun kvs H1 i1 g1 r1 => ?_⟩
  have gL : H1 L = some (.dK []) := g1 L _ upd_same fun z => (F.zf L z).2 hfr
  obtain ⟨e1, e2⟩ := r1.keys
  have em : mergeK [] kvs = kvs := by
    have := mergeK_app kvs [] (by
      rw [List.map_nil, List.nil_append, e1]
      exact List.Pairwise.map _ (fun a b h z => h (Sum.inr.inj z)) (List.pairwise_map.mp hn))
    simpa using this
  refine ⟨gL, kvs, rfl, by omega, ?_⟩
  rw [em]
  obtain ⟨R3, k3⟩ := RepS.own_upd (o := .dK kvs) R hL (R0.step i1 g1) hfr
  refine q L _ _ R3.inv (fun b x e z => ?_) hL (.dk upd_same (Rpk.back (r1.kp k3).rpk)) rfl
  rw [upd_ne (ne_of_none e hL)]
  refine g1 b x ?_ z
  rw [upd_ne (ne_of_none e hL)]
  exact e
end
end Pz
end
section
set_option Elab.async false
set_option linter.all false
set_option maxRecDepth 100000
set_option maxHeartbeats 4000000
/-! Qm: sets of texts (printed by gen_qm.py: the library's proofs about sets of ints, turned to texts). -/
namespace L2
open PySem PySem.Spec PyProof.Rows
theorem strsAt2 : ∀ {us : List Value} {xs : List Str}, StrsAre us xs → ∀ (i : Nat) (v : Value), us[i]? = some v → ∃ t, v = .str (xs.getD i Str.empty) t
  | _, _, .nil, i, v, h => by simp at h
  | _, _, .cons x t r, 0, v, h => by simp at h; subst h; exact ⟨t, rfl⟩
  | _, _, .cons x t r, i + 1, v, h => by
    obtain ⟨t, e⟩ := strsAt2 r i v (by simpa using h)
    exact ⟨t, by simpa using e⟩
def keyS (e : Int × Value) : Str := match e.2 with | .str k _ => k | _ => Str.empty
def GoodS (w : World) (e : Int × Value) : Prop := ∃ k tk, e.2 = Value.str k tk ∧ e.1 = hashStr w k

def SetS (w : World) (h : Heap) (a : Addr) (S : Str → Bool) (n : Nat) : Prop :=
  ∃ o es ep t, h.get? a = some o ∧ o.ExactSet ∧ o.data = .set es ep t ∧ (∀ e ∈ es.toList, GoodS w e) ∧ (es.toList.map keyS).Nodup ∧ (∀ k, S k = true ↔ k ∈ es.toList.map keyS) ∧
    es.size < scanBound ∧ t.fits es.size = true ∧ es.size = n ∧ Ris t.place.toList ∧ (w.params.followText "set-order" = true ∨ t.led = true)

section
variable {P : Program} {w : World} {h h' : Heap} {a : Addr} {S : Str → Bool} {n : Nat}

theorem SetS.at (R : SetS w h a S n) (k : ∀ o, h.get? a = some o → h'.get? a = some o) : SetS w h' a S n := by
  obtain ⟨o, es, ep, t, ho, r⟩ := R
  exact ⟨o, es, ep, t, k o ho, r⟩
theorem SetS.lt (R : SetS w h a S n) : a < h.objs.size := by
  obtain ⟨o, es, ep, t, ho, r⟩ := R
  exact Heap.lt_size ho
theorem SetS.congr {S' : Str → Bool} (R : SetS w h a S n) (e : ∀ k, S' k = S k) : SetS w h a S' n := by
  have q : S' = S := funext e
  rw [q]; exact R
theorem goodS_elems {l : List (Int × Value)} (g : ∀ e ∈ l, GoodS w e) : ElemsOf (strKind P w) l := fun e he => by
  obtain ⟨k, tk, h1, h2⟩ := g e he
  exact ⟨⟨k, by rw [h1]; exact strKind_is P w k tk, h2⟩, by rw [h1] <;> rfl⟩
theorem goodS_is {e : Int × Value} (g : GoodS w e) (k : Str) : (strKind P w).is k e.2 = true ↔ keyS e = k := by
  obtain ⟨k0, tk, h1, _⟩ := g
  unfold keyS
  rw [h1]
  show ((k0 == k) = true) ↔ k0 = k
  exact beq_iff_eq
theorem goodS_mem {l : List (Int × Value)} (g : ∀ e ∈ l, GoodS w e) (k : Str) : k ∈ l.map keyS ↔ ∃ e ∈ l, (strKind P w).is k e.2 = true := by
  rw [List.mem_map]
  constructor
  · rintro ⟨e, he, q⟩
    exact ⟨e, he, (goodS_is (g e he) k).2 q⟩
  · rintro ⟨e, he, q⟩
    exact ⟨e, he, (goodS_is (g e he) k).1 q⟩
theorem SetS.setOf (R : SetS w h a S n) : h.SetOf (strKind P w) a S n := by
  obtain ⟨o, es, ep, t, ho, hx, hd, g, nd, hm, hb, hf, hn, _⟩ := R
  exact ⟨o, es, ep, t, ho, hx, hd, goodS_elems g, fun k => (hm k).trans (goodS_mem g k), hb, hf, hn⟩
end

section
variable {P : Program} {w : World} {A : Around} {E : Value → Shared → Prop} {s : Shared} {a : Addr} {S : Str → Bool} {n : Nat}

theorem setS_add_tail {g : Bool → Sem Unit} (hg : ∀ (b : Bool) (s₁ : Shared) (Q' : Unit → Shared → Prop), Q' () s₁ → wpAny (model P w) A (g b) Q' E s₁)
    {o : Obj} {es : Array (Int × Value)} {ep : Nat} {t : SetTable} (ho : s.heap.get? a = some o) (hex : o.ExactSet) (hd : o.data = .set es ep t)
    {es1 : Array (Int × Value)} {t2 : SetTable} {S' : Str → Bool} (g1 : ∀ e ∈ es1.toList, GoodS w e) (nd1 : (es1.toList.map keyS).Nodup) (m1 : ∀ k, S' k = true ↔ k ∈ es1.toList.map keyS)
    (hb1 : es1.size < scanBound) (hf2 : t2.fits es1.size = true) (hr : Ris t2.place.toList) (hl : w.params.followText "set-order" = true ∨ t2.led = true) {wasDummy : Bool} {R : Option Bool → Shared → Prop}
    (hR : ∀ h', Heap.SameBut a s.heap h' → SetS w h' a S' es1.size → R (some true) { s with heap := h' }) :
    wpAny (model P w) A (do
        storeSet a es1 t2
        if (!wasDummy && t2.tooFull) = true then do
            g (relayAll t2 es1 (SetTable.grown es1.size)).2.2
            storeSet a (relayAll t2 es1 (SetTable.grown es1.size)).1 (relayAll t2 es1 (SetTable.grown es1.size)).2.1
            pure (some true)
          else pure (some true)) R E s := by
  refine wpAny_bind (wpAny_storeSet_of ho hd ?_ (fits_of_scanBound hb1))
  have ho1 := store_at (es' := es1) (t' := t2) ho hd
  have sb1 := Heap.SameBut.update s.heap a (Obj.putSet es1 t2)
  split
  · have pm := relayAll_perm t2 es1 (SetTable.grown es1.size)
    have hf3 := relayAll_fits t2 es1 (SetTable.grown es1.size)
    have hr3 := relayAll_ris t2 es1 (SetTable.grown es1.size)
    have hl3 := relayAll_led t2 es1 (SetTable.grown es1.size)
    generalize relayAll t2 es1 (SetTable.grown es1.size) = Z at pm hf3 hr3 hl3 ⊢
    obtain ⟨es2, t3, gave⟩ := Z
    dsimp only at pm hf3 hr3 hl3 ⊢
    have hsz : es2.size = es1.size := by rw [← Array.length_toList, pm.length_eq, Array.length_toList]
    have hb2 : es2.size < scanBound := by rw [hsz]; exact hb1
    refine wpAny_bind (hg _ _ _ ?_)
    refine wpAny_bind (wpAny_storeSet_of ho1 rfl ?_ (fits_of_scanBound hb2))
    have ho2 := store_at (es' := es2) (t' := t3) ho1 rfl
    refine wpAny_pure (hR _ (sb1.trans (Heap.SameBut.update _ a _)) ?_)
    exact ⟨_, es2, _, t3, ho2, hex, rfl, fun e he => g1 e (pm.mem_iff.mp he), (pm.map keyS).nodup_iff.mpr nd1, fun k => (m1 k).trans (pm.map keyS).mem_iff.symm, hb2, hf3, hsz, hr3,
      hl.imp id fun z => by rw [hl3]; exact z⟩
  · exact wpAny_pure (hR _ sb1 ⟨_, es1, _, t2, ho1, hex, rfl, g1, nd1, m1, hb1, hf2, rfl, hr, hl⟩)

theorem setS_add_hashed {k : Str} {tk : Tok} {Q : Bool → Shared → Prop} (R : SetS w s.heap a S n) (room : n + 1 < scanBound)
    (hQ : ∀ h', Heap.SameBut a s.heap h' → SetS w h' a (fun j => S j || decide (j = k)) (if S k = true then n else n + 1) → Q (!S k) { s with heap := h' }) :
    wpAny (model P w) A (setAddHashed a (.str k tk) ((strKind P w).hash k)) Q E s := by
  obtain ⟨o, es, ep, t, ho, hex, hd, g, nd, hm, hb, hf, hn, hr, hl⟩ := R
  have hkey : (strKind P w).is k (.str k tk) = true := strKind_is P w k tk
  have hsc : (Value.str k tk).scannable = true := rfl
  have hel : ElemsOf (strKind P w) es.toList := goodS_elems g
  unfold setAddHashed setAddHashedIn
  refine wpAny_holding (wpAny_bind (wpAny_setState_of ho hd hf ?_))
  dsimp only
  rw [byScan_of hsc hb hel]
  simp only [↓reduceIte]
  unfold setAddByScan
  refine wpAny_bind ?_
  refine wpAny_bind (wpAny_rule ?_)
  refine wpAny_bind (wpAny_setScan_of hkey ho hd hf hel ?_)
  cases hfi : List.findIdx? (fun e => (strKind P w).is k e.2) es.toList with
  | some j =>
    dsimp only
    obtain ⟨hj, pj, _⟩ := List.findIdx?_eq_some_iff_getElem.mp hfi
    have hSk : S k = true := (hm k).2 ((goodS_mem (P := P) (w := w) g k).2 ⟨es.toList[j], List.getElem_mem hj, pj⟩)
    refine wpAny_pure (wpAny_pure ?_)
    have q := hQ s.heap (Heap.SameBut.refl a s.heap) ⟨o, es, ep, t, ho, hex, hd, g, nd, fun i => by
      rw [Bool.or_eq_true, decide_eq_true_eq, ← hm i]
      exact ⟨fun z => z.elim id (fun e => e ▸ hSk), .inl⟩, hb, hf, by rw [if_pos hSk]; exact hn, hr, hl⟩
    rw [hSk] at q
    exact q
  | none =>
    dsimp only
    have hnk : k ∉ es.toList.map keyS := fun z => by
      obtain ⟨e, he, q⟩ := (goodS_mem (P := P) (w := w) g k).1 z
      have c := List.findIdx?_eq_none_iff.mp hfi e he
      rw [q] at c
      cases c
    have hSk : S k = false := by
      cases q : S k with
      | false => rfl
      | true => exact absurd ((hm k).1 q) hnk
    have hgw : ∀ (b : Bool) {s₁ : Shared} {Q' : Unit → Shared → Prop}, Q' () s₁ → wpAny (model P w) A (match b with | true => rule "set.scan.the-table-gave-way" | false => pure ()) Q' E s₁ :=
      fun b s₁ Q' q => by cases b <;> first | exact wpAny_pure q | exact wpAny_rule q
    have pm := layNew_perm t es ((strKind P w).hash k) (.str k tk)
    have hf1 := layNew_fits t es ((strKind P w).hash k) (.str k tk)
    have hr1 := layNew_ris t es ((strKind P w).hash k) (.str k tk) hr
    have hl1 := layNew_led t es ((strKind P w).hash k) (.str k tk)
    generalize layNew t es ((strKind P w).hash k) (.str k tk) = Z at pm hf1 hr1 hl1 ⊢
    obtain ⟨es1, t1, wasDummy, gave⟩ := Z
    dsimp only at pm hf1 hr1 hl1 ⊢
    rw [Array.toList_push] at pm
    have pc : es1.toList.Perm (((strKind P w).hash k, Value.str k tk) :: es.toList) := pm.trans (List.perm_append_singleton _ _)
    have pk : (es1.toList.map keyS).Perm (k :: es.toList.map keyS) := pc.map keyS
    have g1 : ∀ e ∈ es1.toList, GoodS w e := fun e he => by
      rcases List.mem_cons.mp (pc.mem_iff.mp he) with z | z
      · rw [z]; exact ⟨k, tk, rfl, rfl⟩
      · exact g e z
    have nd1 : (es1.toList.map keyS).Nodup := pk.nodup_iff.mpr (List.nodup_cons.mpr ⟨hnk, nd⟩)
    have m1 : ∀ i, (S i || decide (i = k)) = true ↔ i ∈ es1.toList.map keyS := fun i => by
      rw [Bool.or_eq_true, decide_eq_true_eq, hm i, pk.mem_iff, List.mem_cons]
      exact Or.comm
    have hsz : es1.size = n + 1 := by rw [← Array.length_toList, pc.length_eq, List.length_cons, Array.length_toList, hn]
    have hb1 : es1.size < scanBound := by rw [hsz]; exact room
    have hled : w.params.followText "set-order" = true ∨ t1.led = true := hl.imp id fun z => by rw [hl1]; exact z
    have fin : ∀ h', Heap.SameBut a s.heap h' → SetS w h' a (fun j => S j || decide (j = k)) es1.size → Q true { s with heap := h' } := fun h' sb r => by
      have q := hQ h' sb
      rw [hSk] at q
      rw [hsz] at r
      exact q r
    refine wpAny_bind (hgw _ ?_)
    split
    · refine wpAny_bind ?_
      rw [hashByValue_scannable 8 hsc]
      refine wpAny_pure ?_
      refine setS_add_tail ?_ ho hex hd g1 nd1 m1 hb1 ?_ ?_ ?_ ?_
      · intro b s₁ Q' q; cases b <;> first | exact wpAny_pure q | exact wpAny_rule q
      · first | (split <;> first | exact hf1 | exact SetTable.fits_plain_off hf1) | exact hf1
      · first | (split <;> exact hr1) | exact hr1
      · first | (split <;> exact hled) | exact hled
      · intro h' sb r; dsimp only; exact wpAny_pure (fin h' sb r)
    · refine wpAny_bind (wpAny_pure ?_)
      simp only [↓reduceIte]
      refine setS_add_tail ?_ ho hex hd g1 nd1 m1 hb1 hf1 hr1 hled ?_
      · intro b s₁ Q' q; cases b <;> first | exact wpAny_pure q | exact wpAny_rule q
      · intro h' sb r; dsimp only; exact wpAny_pure (fin h' sb r)

end
theorem setS_new_at {w : World} {h : Heap} {a : Addr} {ns : List Str} (ho : h.get? a = some { cls := .type "set", dict := none, data := .set #[] 0 (.fresh 0 0 (!w.params.followText "set-order")) }) : SetS w h a (fun j => decide (j ∈ ns.take 0)) 0 :=
  ⟨_, #[], 0, _, ho, ⟨rfl, rfl, rfl⟩, rfl, (fun e he => by simp at he), (by simp), (fun k => by simp), (by decide), (by rfl), rfl, List.Pairwise.nil, by
    show _ ∨ (!w.params.followText "set-order") = true
    cases w.params.followText "set-order"
    · exact .inr rfl
    · exact .inl rfl⟩
section
variable {P : Program} {w : World} {A : Around} {E : Value → Shared → Prop} {s : Shared}
theorem set_update_strs {I : Addr} {fp wr : List Addr} {G : Array GenState → Array GenState → Prop} {n : Nat} {Pv : Nat → Value → Prop} {St : Nat → Shared → Prop} {R : Result → Shared → Prop}
    (W : WalksS P w A.in1 I fp wr G n Pv St) (S : Addr) (hSf : S ∉ fp) (ns : List Str) (hn : n = ns.length) (hb : ns.length + 1 < scanBound) (hval : ∀ i v, Pv i v → ∃ k t, ns[i]? = some k ∧ v = .str k t) :
    ∀ (k i : Nat) (s : Shared), n - i = k → i ≤ n → St i s → (∃ c, c ≤ i ∧ SetS w s.heap S (fun j => decide (j ∈ ns.take i)) c) →
      (∀ s' c, Moved (S :: wr) G s s' → c ≤ n → SetS w s'.heap S (fun j => decide (j ∈ ns)) c → R (.ok (.ret .none)) s') →
      codeAny (model P w) A (.builtin "set.update.loop" ⟨[.ref S, .ref I], []⟩) R s := by
  have hSw : S ∉ wr := fun h => hSf (W.sub _ h)
  have hsub : ∀ b ∈ wr, b ∈ S :: wr := fun b hb => List.mem_cons_of_mem _ hb
  intro k
  induction k with
  | zero =>
    intro i s hk' hi hst ⟨c, hc, hS⟩ hR
    have hin : i = n := by omega
    subst hin
    refine codeAny_builtin F.entry_set_update_loop ?_
    rw [Around.under_plainId F.plain_set_update_loop _]
    show wpAny _ A.in1 (pyNext (.ref I) >>= _) _ _ s
    refine wpAny_bind (W.done s _ _ hst fun s' hm => ?_)
    show wpAny _ A.in1 (ret Value.none) _ _ s'
    have e : ns.take i = ns := List.take_of_length_le (by omega)
    rw [e] at hS
    exact wpAny_pure (hR s' c (hm.mono hsub) hc (hS.at fun o e => hm.heap S o hSw e))
  | succ k ih =>
    intro i s hk' hi hst ⟨c, hc, hS⟩ hR
    have hlt : i < n := by omega
    refine codeAny_builtin F.entry_set_update_loop ?_
    rw [Around.under_plainId F.plain_set_update_loop _]
    show wpAny _ A.in1 (pyNext (.ref I) >>= _) _ _ s
    refine wpAny_bind (W.item i s _ _ hlt hst fun v s' hP hst' hm => ?_)
    obtain ⟨z, t, hz, rfl⟩ := hval i v hP
    have hS' : SetS w s'.heap S (fun j => decide (j ∈ ns.take i)) c := hS.at fun o e => hm.heap S o hSw e
    show wpAny _ A.in1 (holding [Value.str z t] (setAdd S (.str z t)) >>= _) _ _ s'
    refine wpAny_bind (wpAny_holding ?_)
    unfold setAdd
    refine wpAny_holding ?_
    refine wpAny_bind ((strKind P w).pyHash (k := z) (strKind_is _ _ _ _) ?_)
    refine setS_add_hashed (s := { s' with toks := s'.toks + 1 }) hS' (by omega) fun h' hsb hS2 => ?_
    have hS3 : SetS w h' S (fun j => decide (j ∈ ns.take (i + 1))) (if decide (z ∈ ns.take i) = true then c else c + 1) := hS2.congr fun j => by
      rw [List.take_add_one, hz]
      simp [List.mem_append]
    have hc3 : (if decide (z ∈ ns.take i) = true then c else c + 1) ≤ i + 1 := by
      split <;> omega
    refine wpAny_pure ⟨plainId_quiet F.plain_set_update_loop _, ih (i + 1) _ (by omega) hlt (W.frame _ s' _ _ hst' (Nat.le_succ _) fun b hb o e => ?_) ⟨_, hc3, hS3⟩ fun s'' c2 hm'' hc'' hS'' => ?_⟩
    · rw [hsb.2 b (fun h : b = S => hSf (by rw [← h]; exact hb))]; exact e
    · refine hR s'' c2 (Moved.trans W.gtrans ((hm.mono hsub).then_heap (Nat.le_succ _) fun b o hb e => ?_) hm'') hc'' hS''
      rw [hsb.2 b (fun h : b = S => hb (by rw [h]; exact List.mem_cons_self))]; exact e

set_option maxRecDepth 100000 in
set_option maxHeartbeats 3200000 in
theorem call_set_listN {l : Addr} {items : Array Value} (ns : List Str) {Q : Value → Shared → Prop} (hh : A.handled = none) (hl : s.heap.IsList l items) (hit : StrsAre items.toList ns) (hb : ns.length + 1 < scanBound)
    (h : ∀ (h' : Heap) (tk c : Nat), SetS w h' s.heap.objs.size (fun j => decide (j ∈ ns)) c → c ≤ ns.length → (∀ b o, s.heap.get? b = some o → h'.get? b = some o) → Q (.ref s.heap.objs.size) { s with heap := h', toks := tk }) :
    wpAny (model P w) A (call (.type "set") [.ref l]) Q E s := by
  have hisz : items.size = ns.length := by
    have q := StrsAre.len_eq hit
    rw [Array.length_toList] at q
    exact q
  obtain ⟨c, tl, hmro⟩ := F.called_set.mro
  have hmade := F.called_set.made
  have hsub := F.called_set.sub
  refine wpAny_call (codeAny_of_tree ?_)
  show wpAny _ _ (callAny (.type "set") _) _ _ _
  refine wpAny_pure ⟨Code.quiet_builtin _ (by decide +kernel), codeAny_builtin F.entry_type_call ?_⟩
  rw [Around.under_plain (weight_type_call_type "set" [.ref l] []) rfl]
  have h1 := F.called_set.notType
  have h2 := F.called_set.canCreate
  have hct := F.typeCall_set_1 (.ref l)
  repeat (any_goals (first | assumption | wp_step))

  refine codeAny_mono (code_set_led1 (.ref l) (E := E) (Q₁ := fun obj s₁ => obj = .ref s.heap.objs.size ∧ s₁ = { s with heap := s.heap.push { cls := .type "set", dict := none, data := .set #[] 0 (.fresh 0 0 (!w.params.followText "set-order")) } }) ⟨rfl, rfl⟩) fun r s₁ hr => ?_
  cases r with
  | error e => exact hr
  | ok fl =>
    cases fl with
    | ret obj =>
      obtain ⟨rfl, rfl⟩ := hr
      have hS : (s.heap.push { cls := .type "set", dict := none, data := .set #[] 0 (.fresh 0 0 (!w.params.followText "set-order")) }).get? s.heap.objs.size = some { cls := .type "set", dict := none, data := .set #[] 0 (.fresh 0 0 (!w.params.followText "set-order")) } := Heap.get?_push_size _ rfl
      have hT : Shared.TypeIs { s with heap := s.heap.push { cls := .type "set", dict := none, data := .set #[] 0 (.fresh 0 0 (!w.params.followText "set-order")) } } (.ref s.heap.objs.size) "set" := ⟨_, hS, rfl⟩
      have hli := F.called_set.init.lookup
      have hbi := F.called_set.init.bind (.ref s.heap.objs.size)
      repeat (any_goals (first | assumption | wp_step))

      refine codeAny_mono (codeAny_call_builtin (R := wants (fun r s₂ => r = .none ∧ ∃ h' tk c, s₂ = { s with heap := h', toks := tk } ∧ SetS w h' s.heap.objs.size (fun j => decide (j ∈ ns)) c ∧ c ≤ ns.length ∧
          (∀ b o, s.heap.get? b = some o → h'.get? b = some o)) E) F.called_set.init.plain F.entry_set_init (check_set_init_1 hT ?_)) fun r₂ s₂ hr₂ => ?_
      · obtain ⟨ol, hol, hcl, nl, hdl⟩ := hl
        obtain ⟨ocls, odict, odata, oslots⟩ := ol
        simp only at hcl hdl
        subst hcl; subst hdl
        have hol' : (s.heap.push { cls := .type "set", dict := none, data := .set #[] 0 (.fresh 0 0 (!w.params.followText "set-order")) }).get? l = some { cls := .type "list", dict := odict, data := .seq items nl, slots := oslots } := Heap.get?_push_of_some _ hol
        have hsls := F.sub_list_set
        have hslf := F.sub_list_frozenset
        have hne : (Value.type "list" == Value.type "dict") = false := by decide
        have hl1 : (s.heap.push { cls := .type "set", dict := none, data := .set #[] 0 (.fresh 0 0 (!w.params.followText "set-order")) }).IsList l items := ⟨_, hol', rfl, nl, rfl⟩
        unfold Builtin.«set.__init__» noKeywords Builtin.Frozenset.updateFrom
        generalize hPI : pyIter = PI
        wp_walk
        subst hPI

        refine wpAny_pyIter_list hl1 ?_
        refine wpAny_bind (wpAny_runValue ?_)
        have hlS : l < s.heap.objs.size := Heap.lt_size hol
        have hh3 : A.in1.in1.in1.handled = none := by simp [hh]
        have hz1 : (s.heap.push { cls := .type "set", dict := none, data := .set #[] 0 (.fresh 0 0 (!w.params.followText "set-order")) }).objs.size = s.heap.objs.size + 1 := Heap.size_push ..
        have hneI : l ≠ (s.heap.push { cls := .type "set", dict := none, data := .set #[] 0 (.fresh 0 0 (!w.params.followText "set-order")) }).objs.size := by
          rw [Heap.size_push]; exact Nat.ne_of_lt (Nat.lt_succ_of_lt hlS)
        have hSf : s.heap.objs.size ∉ [(s.heap.push { cls := .type "set", dict := none, data := .set #[] 0 (.fresh 0 0 (!w.params.followText "set-order")) }).objs.size, l] := by
          rw [Heap.size_push]; simp only [List.mem_cons, List.mem_singleton, List.not_mem_nil, or_false, not_or]
          exact ⟨Nat.ne_of_lt (Nat.lt_succ_self _), Nat.ne_of_gt hlS⟩
        have hval : ∀ (i : Nat) (v : Value), items[i]? = some v → ∃ k t, ns[i]? = some k ∧ v = .str k t := fun i v hv => by
          have hi : i < ns.length := by rw [← hisz]; exact (Array.getElem?_eq_some_iff.mp hv).1
          obtain ⟨t, e⟩ := strsAt2 hit i v (by rw [Array.getElem?_toList]; exact hv)
          refine ⟨ns[i], t, List.getElem?_eq_getElem hi, ?_⟩
          rw [e, List.getD_eq_getElem?_getD, List.getElem?_eq_getElem hi] <;> rfl
        refine set_update_strs ((Walks.list hh3 _ l hneI items).toS) s.heap.objs.size
          hSf ns hisz hb hval (items.size - 0) 0 _ (by omega) (Nat.zero_le _)
          ⟨⟨_, Heap.get?_push_size _ rfl, rfl, rfl⟩, (hl1.push _)⟩ ?hS0 ?hR
        case hS0 =>
          have hget : ((s.heap.push { cls := .type "set", dict := none, data := .set #[] 0 (.fresh 0 0 (!w.params.followText "set-order")) }).push { cls := .type "list_iterator", data := .fields #[.ref l, .int 0 0] }).get? s.heap.objs.size
              = some { cls := .type "set", dict := none, data := .set #[] 0 (.fresh 0 0 (!w.params.followText "set-order")) } := Heap.get?_push_of_some _ hS
          exact ⟨0, Nat.le_refl 0, setS_new_at hget⟩
        case hR =>
          intro s' c' hm hc' hS'
          obtain ⟨h', g2, d', tk', os'⟩ := s'
          have eg : g2 = s.gens := hm.gens
          have ed : d' = s.drawn := hm.drawn
          have eo : os' = s.os := hm.os
          subst eg; subst ed; subst eo
          show wpAny _ _ _ _ _ _
          refine wpAny_pure ?_
          show wpAny _ _ (ret Value.none) _ _ _
          rw [hisz] at hc'
          refine wpAny_pure ⟨rfl, h', tk', c', rfl, hS', hc', fun b o e => ?_⟩
          have hb0 : b < s.heap.objs.size := Heap.lt_size e
          have hb1 : b ≠ s.heap.objs.size := Nat.ne_of_lt hb0
          have hb2 : b ≠ (s.heap.push { cls := .type "set", dict := none, data := .set #[] 0 (.fresh 0 0 (!w.params.followText "set-order")) }).objs.size := by
            rw [Heap.size_push]; exact Nat.ne_of_lt (Nat.lt_succ_of_lt hb0)
          exact hm.heap b o (by simp only [List.mem_cons, List.mem_singleton, List.not_mem_nil, or_false, not_or]; exact ⟨hb1, hb2⟩) (Heap.get?_push_of_some _ (Heap.get?_push_of_some _ e))

      · cases r₂ with
        | error e => exact hr₂
        | ok fl₂ =>
          cases fl₂ with
          | ret r =>
            obtain ⟨rfl, h', tk, c', rfl, hS', hc', hk'⟩ := hr₂
            repeat (any_goals (first | assumption | wp_step))
            exact h _ _ _ hS' hc' hk'
          | _ => exact hr₂.elim
    | _ => exact hr.elim

end
/-! ### sorted(set) of texts -/
section
variable {P : Program} {w : World} {A : Around} {E : Value → Shared → Prop} {s : Shared} {a : Addr}
theorem strsAre_keys : ∀ {l : List (Int × Value)}, (∀ e ∈ l, GoodS w e) → StrsAre (l.map (·.2)) (l.map keyS)
  | [], _ => .nil
  | e :: l, g => by
    obtain ⟨k, tk, h1, _⟩ := g e List.mem_cons_self
    have hk : keyS e = k := by unfold keyS; rw [h1]
    rw [List.map_cons, List.map_cons, h1, hk]
    exact .cons k tk (strsAre_keys fun x hx => g x (List.mem_cons_of_mem _ hx))
theorem strsAre_perm {us vs : List Value} (h : us.Perm vs) : ∀ {ks : List Str}, StrsAre vs ks → ∃ ks', StrsAre us ks' ∧ ks'.Perm ks := by
  induction h with
  | nil => intro ks h; exact ⟨ks, h, .refl _⟩
  | cons x _ ih =>
    intro ks h
    cases h with
    | cons y t r =>
      obtain ⟨k1, h1, h2⟩ := ih r
      exact ⟨y :: k1, .cons y t h1, h2.cons y⟩
  | swap x y l =>
    intro ks h
    cases h with
    | cons y t r =>
      cases r with
      | cons z t2 r => exact ⟨_, .cons z t2 (.cons y t r), .swap _ _ _⟩
  | trans _ _ ih1 ih2 =>
    intro ks h
    obtain ⟨k1, a1, a2⟩ := ih2 h
    obtain ⟨k2, b1, b2⟩ := ih1 a1
    exact ⟨k2, b1, b2.trans a2⟩
theorem sorted_setS {S : Str → Bool} {n : Nat} {Q : Value → Shared → Prop} (R : SetS w s.heap a S n) (hh : A.handled = none) (h64 : n < 64)
    (hQ : ∀ s' p (out : Array Value) (c : Nat) (ns : List Str), (∀ b o, s.heap.get? b = some o → s'.heap.get? b = some o) → s'.gens = s.gens → s'.os = s.os → s.heap.objs.size ≤ p →
      s'.heap.get? p = some (seqObj "list" out c) → StrsAre out.toList ns → sortedS ns = true → ns.Nodup → (∀ k, k ∈ ns ↔ S k = true) → ns.length = n → Q (.ref p) s') :
    wpAny (model P w) A (call (.builtin "sorted") [.ref a]) Q E s := by
  obtain ⟨o, es, ep, t, ho, hex, hd, g, nd, hm, hb, hf, hn, hr, hl⟩ := R
  refine Calls.call_function_entry kind_sorted plain_sorted entry_sorted (args_sorted1 _) ?_
  unfold Builtin.«sorted»
  refine wpAny_bind (m := checkCount "sorted" 1 1 _) (wpAny_pure ?_)
  refine wpAny_bind (collect_set (A := A.in1) hh ⟨o, ho, hex.1, hd⟩ hf hb hr hl fun s1 vs k1 hz g1 o1 pm => ?_)
  have hvl : vs.length = n := by rw [pm.length_eq, List.length_map, Array.length_toList]; exact hn
  obtain ⟨ks, hI, pk⟩ := strsAre_perm pm (strsAre_keys g)
  refine wpAny_bind (wpAny_newList ?_ (by rw [hvl, sizeLine_eq]; omega))
  have hoL : (s1.heap.push (seqObj "list" vs.toArray 0)).get? s1.heap.objs.size = some (seqObj "list" vs.toArray 0) := Heap.get?_push_size _ rfl
  refine wpAny_bind (wpAny_holding (wpAny_call_entry slot_list_sort ⟨_, hoL, rfl⟩ entry_list_sort (list_sort_treeK strKind_oneLt hoL hI.keysOf (fun v₁ v₂ rest e => keyKind_strs (by rw [← e]; exact hI)) (by rw [hvl]; exact h64) fun st' hp hs => ⟨_, rfl, ?_⟩) (args_list_sort _)))
  obtain ⟨ns', a1, a2, a3⟩ := sorted_out_str hI hp hs
  obtain ⟨c, hc⟩ := sortedHeap_at (vs := vs) (out := (arrOf st').map (·.2)) hoL
  have pn : ns'.Perm (es.toList.map keyS) := a2.trans pk
  refine wpAny_pure ⟨_, rfl, hQ _ s1.heap.objs.size _ c ns' (fun b u e => ?_) g1 o1 hz hc a1 a3 (pn.nodup_iff.mpr nd) (fun k => by rw [pn.mem_iff, ← hm k]) ?_⟩
  · have q := k1 b u e
    have hlt := Heap.lt_size q
    show (sortedHeap (s1.heap.push (seqObj "list" vs.toArray 0)) s1.heap.objs.size vs _).get? b = some u
    rw [sortedHeap_old (Nat.ne_of_lt hlt) (by rw [size_push']; exact Nat.lt_succ_of_lt hlt)]
    exact Heap.get?_push_of_some _ q
  · rw [pn.length_eq, List.length_map, Array.length_toList]; exact hn
end
/-! ### readings -/
section
variable {X : Cx}
def SetSO (w : World) (a : Addr) (S : Str → Bool) (n : Nat) : HO := .ext fun h => SetS w h a S n
theorem setSO_new {w : World} {P : Program} {H : Hp} {h : Heap} {a : Addr} {S : Str → Bool} {n : Nat} (R : SetS w h a S n) : ObjOk P w H h a (SetSO w a S n) := ⟨R, let ⟨o, _, _, _, ho, _⟩ := R; ⟨o, ho⟩, fun _ _ r k => SetS.at r k⟩
theorem setSO_get {pins : List (Addr × Obj)} {σ : St} {H : Hp} {s : Shared} {a : Addr} {S : Str → Bool} {n : Nat} (I : Inv X pins σ H s) (ha : H a = some (SetSO X.w a S n)) : SetS X.w s.heap a S n := (I.hok a _ ha).1
def rSetOfS (K : PySem.W.Frag) (w : World) : List V → Hp → VK → Prop := fun xs H Q => ∃ (l : Addr) (ts : List Str), xs = [V.ref l] ∧ SqL K H l (ts.map V.str) ∧ ts.length < 64 ∧
  ∀ a n, H a = none → n ≤ ts.length → Q (.ref a) (upd H a (SetSO w a (fun k => decide (k ∈ ts)) n))
theorem cr_setOfS (hc : X.calm = true) : CallR X (.type "set") (rSetOfS X.K X.w) := by
  intro pins s σ H xs us Q I r h
  obtain ⟨l, ts, rfl, hl, hf, q⟩ := h
  rw [Vals.ref1 r]
  obtain ⟨its, rv, pl, hz⟩ := I.list hl
  have hn : H s.heap.objs.size = none := I.hok.fresh (Nat.le_refl _)
  refine call_set_listN (P := X.prog) (w := X.w) ts (I.ok.hd hc) pl.isList (by simpa using rv.strs) (by unfold scanBound; omega) fun h' tk c R hc' k => ?_
  exact ⟨.ref s.heap.objs.size, upd H s.heap.objs.size (SetSO X.w s.heap.objs.size (fun k => decide (k ∈ ts)) c), I.laid (t' := tk) k (Nat.le_refl _) (setSO_new R), rfl, q _ c hn hc'⟩
def rSortedSS (w : World) : List V → Hp → VK → Prop := fun vs H Q => ∃ (a : Addr) (S : Str → Bool) (n : Nat), vs = [V.ref a] ∧ H a = some (SetSO w a S n) ∧ n < 64 ∧
  ∀ (ns : List Str) (p : Addr), sortedS ns = true → ns.Nodup → (∀ k, k ∈ ns ↔ S k = true) → H p = none → Q (.ref p) (upd H p (.lst (ns.map V.str)))
theorem cr_sortedSS (hc : X.calm = true) : CallR X (.builtin "sorted") (rSortedSS X.w) := by
  intro pins s σ H vs us Q I r h
  obtain ⟨a, S, n, rfl, ha, h64, q⟩ := h
  have R := setSO_get I ha
  rw [Vals.ref1 r]
  refine sorted_setS R (I.ok.hd hc) h64 fun s' p out c ns k g o hp hg hi hs hnd hm hl => ?_
  have hlen : (ns.map V.str).length ≤ sizeLine := by rw [List.length_map, hl, sizeLine_eq]; omega
  have hn : H p = none := I.hok.fresh hp
  have J : Inv X pins σ (upd H p (.lst (ns.map V.str))) { s with heap := s'.heap, gens := s'.gens, drawn := s'.drawn, toks := s'.toks } :=
    I.call (ch := []) (Un.laid k hp hn) (I.hok.laid k hp ⟨hlen, out.toList, c, vals_of_strs hi, hg⟩) (by rw [g]; exact I.bare) (fun _ z => nomatch z)
  have e : s' = { s with heap := s'.heap, gens := s'.gens, drawn := s'.drawn, toks := s'.toks } := by
    cases s'
    cases s
    cases o
    rfl
  rw [e]
  exact ⟨.ref p, _, J, rfl, q ns p hs hnd hm hn⟩
/-! ### star over a dict -/
theorem star_dk {pins : List (Addr × Obj)} {σ : L2.St} {H : Hp} {s : Shared} {a : Addr} {kvs : List (Key × V)} {E : Value → Shared → Prop} {Q : List Value → Shared → Prop} (hcalm : X.calm = true) (I : Inv X pins σ H s) (hd : Rd H a (.dK kvs)) (hQ : ∀ us s', Inv X pins σ H s' → Vals (kvs.map fun kv => kV kv.1) us → Q us s') : PySem.W.StarOf (model X.prog X.w) X.A E (.ref a) Q s := by
  obtain ⟨z, lo, vs, rel, dd⟩ := dk_rd I.hok hd
  obtain ⟨ep, hat⟩ := dd.dictAt
  have ek : (kvs.map fun kv => kV kv.1) = vs.map fun p => kV p.1 := by
    have e := congrArg (List.map kV) rel.keys
    rw [List.map_map, List.map_map] at e
    exact e
  have zz : wpAny (model X.prog X.w) X.A (collect (.ref a)) Q E s := by
    refine PySem.W.kdu_collect (PySem.W.kdl_dict (knd := mixKind X.prog X.w) (kvs := vs) (ep := ep) lo) (I.ok.hd hcalm) hat (by rw [← rel.length]; exact z) fun h' tk acc hk hacc => ?_
    have hv : Vals (vs.map fun p => kV p.1) acc.toList := keys_at (by rw [Array.length_toList]; exact hacc.1) fun j v e => hacc.2 j v (by rw [← Array.getElem?_toList]; exact e)
    exact hQ _ _ (I.kept (t' := tk) hk) (by rw [ek]; exact hv)
  unfold PySem.W.StarOf notIterableAtAll
  exact wpAny_bind (wpAny_specialOf dd.typeIs PySem.F.slot_dict_iter.lookup (wpAny_pure ⟨rfl, zz⟩))
def tStarD (te : TE) (t : TA) : TA := fun σ H Q => te σ H fun x H1 => ∃ p kvs, x = V.ref p ∧ Rd H1 p (.dK kvs) ∧ t σ H1 fun ys H2 => Q ((kvs.map fun kv => kV kv.1) ++ ys) H2
theorem pa_starD {e : Expr} {es : List Expr} {te : TE} {t : TA} {p : Pos} (hc : X.calm = true) (he : PE X e te) (hr : PA X es t) (hs : starEach (.Starred e p :: es) X.env = (true, eval e X.env) :: starEach es X.env := by rfl) : PA X (.Starred e p :: es) (tStarD te t) := by
  refine ⟨fun pos pins s σ H Q I h => ?_⟩
  refine PySem.W.items_star (thn (he.run pins s σ H _ I h) fun v s1 ⟨y, H1, I1, ry, a, kvs, ey, hx, q⟩ => ?_) hs
  subst ey
  obtain rfl : v = Value.ref a := ry
  refine star_dk hc I1 hx fun us s2 I2 rv => ?_
  exact thn (hr.run pos pins s2 σ H1 _ I2 q) fun ws s3 ⟨vs, H3, I3, r3, q3⟩ => ⟨_ ++ vs, H3, I3, rv.append r3, q3⟩
end
end L2
end
section
set_option Elab.async false
set_option linter.all false
set_option maxRecDepth 100000
set_option maxHeartbeats 4000000
/-! Qn: star over a dict, sorted(set(texts)), classes with keyword-only parameters. -/
namespace Pz
open PySem PySem.Spec PyProof.Rows L2
section
variable {X : Cx} {F : Fr} {en : En} {e : Expr} {es : List Expr} {ds : List D} {d : D} {p pos p2 pos2 : Pos}
theorem ofKeys_rep {G : Gx} {M : Addr → Prop} {H : Hp} : ∀ {vs : List (Key × V)} {kvs : List (Key × D)}, Rpk G M H vs kvs → Rps G M H (vs.map fun kv => kV kv.1) (kvs.map fun q => D.ofKey q.1)
  | _, [], h => by cases h; exact .nil
  | _, q :: kvs, h => by
    cases h with
    | cons a r => exact .cons (rp_kV _) (ofKeys_rep r)
theorem a_starD {kvs : List (Key × D)} (hc : X.calm = true) (h : Ev X F en e (dk kvs)) (hr : Ea X F en es ds) (hs : starEach (.Starred e p :: es) X.env = (true, eval e X.env) :: starEach es X.env := by rfl) : Ea X F en (.Starred e p :: es) ((kvs.map fun q => D.ofKey q.1) ++ ds) :=
  PA.wk (pa_starD hc h hr hs) fun σ H Q ⟨M, R, q⟩ => ⟨M, R, fun v H1 z i g r ez => by
    subst ez
    have R1 := R.step i g
    obtain ⟨ad, vs, rfl, hd, rn⟩ := Bw.dk (σ := σ) (en := en) (.inl r) R1
    exact ⟨_, vs, rfl, hd, M, R1, fun ws H2 i2 g2 r2 => q _ H2 i2 (g.trans g2) (((ofKeys_rep rn).kp (R1.kp g2)).append r2)⟩⟩
/-- sorted(set(texts)) -/
theorem f_sortSet {ts us : List Str} {f f2 : Str} (hc : X.calm = true) (h : Ev X F en e (.lst (ts.map .str))) (hl : ts.length < 64) (hu : ∀ ys : List Str, sortedS ys = true → ys.Nodup → (∀ k, k ∈ ys ↔ k ∈ ts) → ys = us) (hm : X.mg f = none) (hm2 : X.mg f2 = none) (hg : Gl X f := by rfl) (hv : bootBuiltins f = some (.builtin "sorted") := by decide +kernel) (hn : f ≠ "__name__" := by decide) (hdb : (f == ("__debug__" : Str)) = false := by decide)
    (hg2 : Gl X f2 := by rfl) (hv2 : bootBuiltins f2 = some (.type "set") := by decide +kernel) (hn2 : f2 ≠ "__name__" := by decide) (hdb2 : (f2 == ("__debug__" : Str)) = false := by decide)
    (hs : starEach [.Call (.Name f2 p2) [e] [] pos2] X.env = (false, eval (.Call (.Name f2 p2) [e] [] pos2) X.env) :: starEach [] X.env := by rfl) (hs2 : starEach [e] X.env = (false, eval e X.env) :: starEach [] X.env := by rfl) :
    Ef X F en (.Call (.Name f p) [.Call (.Name f2 p2) [e] [] pos2] [] pos) (.lst (us.map .str)) :=
  PE.wk (pe_callB (cr_sortedSS hc) hg hm hv (pa_cons (pe_callTy (cr_setOfS hc) hg2 hm2 hv2 (pa_cons h pa_nil hs2) hn2 hdb2 hs2) pa_nil hs) hn hdb) fun σ H Q ⟨M, R, q⟩ => ⟨M, R, fun v H1 d i g rp ed => by
    subst ed
    have R1 := R.step i g
    obtain ⟨ad, vs, rfl, hsq, rs⟩ := Bw.lst (σ := σ) (en := en) (.inl rp) R1
    have ev := rs.strs
    subst ev
    refine ⟨ad, ts, rfl, hsq, hl, fun a n ha hle => ?_⟩
    refine ⟨a, _, n, rfl, upd_same, by omega, fun ns p hns hnd hmem hp => ?_⟩
    have e1 : ns = us := hu ns hns hnd fun k => by rw [hmem k]; exact decide_eq_true_iff
    subst e1
    have hp1 : H1 p = none := by
      cases e1 : H1 p with
      | none => rfl
      | some o => rw [upd_ne (ne_of_none e1 ha), e1] at hp; cases hp
    have i2 : F.I (upd H1 a (SetSO X.w a (fun k => decide (k ∈ ts)) n)) := F.st _ _ R1.inv (Same.new ha)
    have R2 := R1.same (Same.new (o := SetSO X.w a (fun k => decide (k ∈ ts)) n) ha)
    have i3 := F.st _ _ R2.inv (Same.new (o := .lst (ns.map V.str)) hp)
    exact q p _ _ i3 (g.trans (Gr.same fun b o e => Same.new hp _ _ (Same.new ha _ _ e))) (none_back R i g hp1) (.lst upd_same (Rps.of_strs ns)) rfl⟩
/-! ### keyword arguments -/
theorem PK.wk {kws : List Keyword} {t t' : TA} (h : PK X kws t) (w : ∀ σ H Q, t' σ H Q → t σ H Q) : PK X kws t' := ⟨fun pos pins s σ H Q I q => h.run pos pins s σ H Q I (w σ H Q q)⟩
def EaK (X : Cx) (F : Fr) (en : En) (kws : List Keyword) (ds : List D) : Prop := PK X kws (tA (gx X) F en ds)
theorem ak_nil : EaK X F en [] [] := PK.wk pk_nil fun σ H Q ⟨M, R, q⟩ => q [] H R.inv Gr.refl .nil
theorem ak_cons {nm : Option Str} {kpos : Pos} {kws : List Keyword} (h : Ev X F en e d) (hr : EaK X F en kws ds) : EaK X F en (⟨nm, e, kpos⟩ :: kws) (d :: ds) :=
  PK.wk (pk_cons h hr) fun σ H Q ⟨M, R, q⟩ => ⟨M, R, fun v H1 z i g r e => ⟨M, R.step i g, fun vs H2 i2 g2 r2 => by
    subst e
    exact q _ H2 i2 (g.trans g2) (.cons (r.kp ((R.step i g).kp g2)) r2)⟩⟩
end
section
variable {P : Program} {w : World} {K : PySem.W.Frag} {mg : Str → Option Value} {base : Heap}
theorem def_okK {x qual : Str} {st : Stmt} {f C : Addr} {fd : FuncData} {N ps : List Str} {k : Nat} {kws : List (Str × V)} {R : List D → List (Str × D) → Prop} (F : FunD K x qual (defArgs st) (defBody st) (defScope st) [] kws f fd) (S : FnScope N ps (defScope st)) (len : ∀ ds fs, R ds fs → ds.length + 1 = ps.length)
    (hb : ∀ (cdv : Value) (A : Around) (outer : List Env) (s : Shared) (H : Hp) (E : XK) (Fm : Fr) (y : Addr) (ds : List D) (fs : List (Str × D)), Room k (A.deeper (envOfC qual (defScope st) s.heap.objs.size f cdv)) → R ds fs →
      Sx ((cxOf CX0 P w K mg base N qual (defScope st) f cdv A outer s H E).nox) Fm (iniE N y C ds) (defBody st) { nx := fun en' => en'[0]? = some (some (.own (.insA y C fs))), rt := fun _ => False }) :
    FnOk P w K mg base CX0 (k + 1) f fd ps (spI ⟨P, w, K⟩ C R) := by
  refine F.ok S (fun vs H Q E h => ?_) (fun cdv A outer s H vs Q E hr h => ?_)
  · obtain ⟨M, y, dx, us, ds, fs, rfl, _, r, _, _, hR, _⟩ := h
    rw [List.length_cons, r.length]
    exact len ds fs hR
  · obtain ⟨M, y, dx, us, ds, fs, rfl, hy, r, hM, hn, hR, q⟩ := h
    refine ⟨_, PSs.nox (hb cdv A outer s H E (Fr.ini M H y hM) y ds fs hr hR), Mp M y, ini_rep hM hn hy r, ⟨fun M' σ' H' en' R' kp z => ?_, fun v H' z i rp e => e.elim, fun _ _ _ _ _ _ z => z.elim, fun _ _ _ _ _ _ z => z.elim, fun _ _ _ _ _ _ _ z => z.elim, fun _ _ _ _ _ _ _ _ _ z => z.elim⟩⟩
    obtain ⟨a, _, h2, _, _, h5⟩ := R'.own 0 _ z
    cases h5 with
    | insA hv rv => exact q H' R'.inv (.ins hv (rv.kp ⟨fun _ _ h _ => h, fun b _ hm z => hm (z.elim (R'.m0 b) fun e => e ▸ h2)⟩))
/-- the module's name x is a class: one positional parameter, the keyword-only ones ks (None by default) -/
def CalP (P : Program) (w : World) (K : PySem.W.Frag) (mg : Str → Option Value) (base : Heap) (k : Nat) (x : Str) (C : Addr) (ks : List Str) (R : List D → List (Str × D) → Prop) : Prop :=
  ∃ (f : Addr) (fd : FuncData) (ps : List Str), mg x = some (.ref C) ∧ Mk K C f ∧ FnOk P w K mg base CX0 k f fd ps (spI ⟨P, w, K⟩ C R) ∧ (∃ ds, Vals (ks.map fun _ => V.non) ds ∧ Binds K fd ps ds) ∧ KBn K fd ps 2 ks (fun us ws => us ++ ws) (fun vs zs => vs ++ zs)
end
section
variable {X : Cx} {F : Fr} {en : En} {e : Expr} {ds zs : List D} {fs : List (Str × D)} {d : D} {p pos : Pos} {k : Nat} {x : Str} {C : Addr} {ks : List Str} {R : List D → List (Str × D) → Prop}
theorem f_makeD (H0 : CalP X.prog X.w X.K X.mg X.base k x C ks R) (hr : Room (k + 1) X.A) (ha : Ev X F en e d) (hR : R (d :: ks.map fun _ => .non) fs) (hg : Gl X x := by rfl) (hdb : (x == ("__debug__" : Str)) = false := by decide) (he : starEach [e] X.env = (false, eval e X.env) :: starEach [] X.env := by rfl)
    (hpl : (backTo pos (starEach [] X.env)).any (·.1) = false := by rfl) : Ef X F en (.Call (.Name x p) [e] [] pos) (.ins C fs) := by
  obtain ⟨f, fd, ps, hm, mk, FF, ⟨dvs, hd, hb⟩, _⟩ := H0
  exact PE.wk (pe_make mk FF hr hg hm hb hd pass0 (a_cons ha a_nil he) hdb he hpl) fun σ H Q ⟨M, R, q⟩ => ⟨M, R, fun vs H1 i g r => fun y dx h1 h2 hne => by
    have R1 := R.step i g
    have hM : ¬ M y := R1.notin h1
    have sm : ∀ b o, H1 b = some o → (upd (upd H1 dx (.own y)) y (.ins C dx [])) b = some o := fun b o h => by
      rw [upd_ne (ne_of_none h h1), upd_ne (ne_of_none h h2)]
      exact h
    have rn : ∀ ks : List Str, Rps (gx X) (Mp M y) (upd (upd H1 dx (.own y)) y (.ins C dx [])) (ks.map fun _ => V.non) (ks.map fun _ => D.non) := fun ks => by
      induction ks with
      | nil => exact .nil
      | cons a ks ih => exact .cons .non ih
    refine ⟨M, y, dx, _, _, fs, rfl, upd_same, (r.kp (Kp.more h1 fun b o h _ => sm b o h)).append (rn ks), fun a ha z => ?_, hM, hR, fun H' hs o => ⟨rfl, ?_⟩⟩
    · cases e1 : H1 a with
      | none => exact R1.dom a ha e1
      | some u => rw [sm a u e1] at z; cases z
    · have st : Same H1 H' := fun b o h => hs b o (sm b o h) fun z => by rw [z, h1] at h; cases h
      exact q y H' _ (F.st _ _ i st) (g.trans (Gr.same st)) (none_back R i g h1) o rfl⟩
theorem f_makeK {kws : List Keyword} (H0 : CalP X.prog X.w X.K X.mg X.base k x C ks R) (hr : Room (k + 1) X.A) (ha : Ev X F en e d) (hk : EaK X F en kws zs) (hz : zs.length = ks.length) (hR : R (d :: zs) fs) (hg : Gl X x := by rfl)
    (hall : (backToKw pos (keywordEach kws X.env)).all (·.1.isSome) = true := by rfl) (hks : (backToKw pos (keywordEach kws X.env)).filterMap (·.1) = ks := by rfl) (hdb : (x == ("__debug__" : Str)) = false := by decide)
    (he : starEach [e] X.env = (false, eval e X.env) :: starEach [] X.env := by rfl) (hpl : ((backTo pos (starEach [e] X.env)).any (·.1) || (backToKw pos (keywordEach kws X.env)).any (·.1.isNone)) = false := by rfl) :
    Ef X F en (.Call (.Name x p) [e] kws pos) (.ins C fs) := by
  obtain ⟨f, fd, ps, hm, mk, FF, _, hb⟩ := H0
  exact PE.wk (pe_makeK (n := 1) mk FF hr hg hm hb pass0 (a_cons ha a_nil he) hk hall hks hdb he hpl) fun σ H Q ⟨M, R, q⟩ => ⟨M, R, fun vs H1 i g r => ⟨M, R.step i g, fun ws H2 i2 g2 r2 => ⟨r.length, by rw [r2.length]; exact hz, fun y dx h1 h2 hne => by
    have R1 := (R.step i g).step i2 g2
    have hM : ¬ M y := R1.notin h1
    have sm : ∀ b o, H2 b = some o → (upd (upd H2 dx (.own y)) y (.ins C dx [])) b = some o := fun b o h => by
      rw [upd_ne (ne_of_none h h1), upd_ne (ne_of_none h h2)]
      exact h
    have r' := r.kp ((R.step i g).kp g2)
    refine ⟨M, y, dx, _, _, fs, rfl, upd_same, (r'.append r2).kp (Kp.more h1 fun b o h _ => sm b o h), fun a ha z => ?_, hM, hR, fun H' hs o => ⟨rfl, ?_⟩⟩
    · cases e1 : H2 a with
      | none => exact R1.dom a ha e1
      | some u => rw [sm a u e1] at z; cases z
    · have st : Same H2 H' := fun b o h => hs b o (sm b o h) fun z => by rw [z, h1] at h; cases h
      exact q y H' _ (F.st _ _ i2 st) ((g.trans g2).trans (Gr.same st)) (none_back R i2 (g.trans g2) h1) o rfl⟩⟩⟩
end
end Pz
end
section
set_option Elab.async false
set_option linter.all false
set_option maxRecDepth 100000
set_option maxHeartbeats 4000000
/-! Qo: != of lists that hold dicts (printed by gen_qo.py: the library's proof of == of lists turned to !=). -/
namespace PySem.SeqAt
open AutoSeq1 (wpAny_loadPart')
open MeetsSeq MeetsSeq2 MeetsSeq3 SeqRoads2
section
variable {prog : Program} {w : World}
theorem listNe_loop (l b : Addr) (items items2 : Array Value) (n n2 : Nat) (dd dd2 : Option Addr) (sl sl2 : Array (Option Value)) (hsz : items.size = items2.size) (e : Nat → Bool) (k : Nat) :
    ∀ i : Nat, items.size - i = k → MeetsIn prog w (Builtin.«list.__eq__.loop» ⟨[.ref l, .ref b, rawInt i, rawInt 3], []⟩)
      (fun A R s => s.heap.get? l = some { cls := .type "list", dict := dd, data := .seq items n, slots := sl } ∧ s.heap.get? b = some { cls := .type "list", dict := dd2, data := .seq items2 n2, slots := sl2 } ∧
        (∀ j (h1 : j < items.size) (h2 : j < items2.size), EqP prog w A.in1 s items[j] items2[j] (e j)) ∧
        R (.ok (.ret (.bool (!((List.range items.size).drop i).all e)))) s) := by
  induction k with
  | zero =>
    intro i hk A R s h
    obtain ⟨hp, g, d, tk, os⟩ := s; obtain ⟨hl, hb, he, h⟩ := h
    wp_walk using wpAny_loadPart' hl, wpAny_loadPart' hb
    have hi1 : items[((i : Nat) : Int).toNat]? = none := by simp; omega
    have hi2 : items2[((i : Nat) : Int).toNat]? = none := by simp; omega
    have hd : (List.range items.size).drop i = [] := by simp; omega
    rw [hd] at h
    rw [hi1, hi2]
    wp_walk using wpAny_loadPart' hl, wpAny_loadPart' hb
    show R (.ok (.ret (.bool (items.size != items2.size)))) _
    rw [hsz]
    simpa using h
  | succ k ih =>
    intro i hk A R s h
    obtain ⟨hp, g, d, tk, os⟩ := s; obtain ⟨hl, hb, he, h⟩ := h
    wp_walk using wpAny_loadPart' hl, wpAny_loadPart' hb
    have hlt : i < items.size := by omega
    have hlt2 : i < items2.size := by omega
    have hi1 : items[((i : Nat) : Int).toNat]? = some items[i] := by simp [hlt]
    have hi2 : items2[((i : Nat) : Int).toNat]? = some items2[i] := by simp [hlt2]
    have hd : (List.range items.size).drop i = i :: (List.range items.size).drop (i + 1) := by simp [List.drop_eq_getElem_cons, hlt]
    have hc : ((i : Int) + 1) = ((i + 1 : Nat) : Int) := by push_cast; rfl
    rw [hd, List.all_cons] at h
    rw [hi1, hi2]
    refine wpAny_bind (he i hlt hlt2 _ _ ?_)
    cases hb' : e i with
    | true =>
      rw [hb'] at h
      wp_walk
      rw [hc]
      exact ⟨plainId_quiet plain_eq_loop _, codeAny_builtin entry_eq_loop (by
        rw [Around.under_plainId plain_eq_loop _]
        exact ih (i + 1) (by omega) A R _ ⟨hl, hb, he, by simpa using h⟩)⟩
    | false =>
      rw [hb'] at h
      wp_walk using wpAny_loadPart' hl, wpAny_loadPart' hb
      rw [hi1, hi2]
      wp_walk
      simpa using h

theorem listNe_in (l b : Addr) (items items2 : Array Value) (n n2 : Nat) (dd dd2 : Option Addr) (sl sl2 : Array (Option Value)) (hsz : items.size = items2.size) (e : Nat → Bool) :
    MeetsIn prog w (Builtin.«list.__ne__» ⟨[.ref l, .ref b], []⟩)
      (fun A R s => s.heap.get? l = some { cls := .type "list", dict := dd, data := .seq items n, slots := sl } ∧ s.heap.get? b = some { cls := .type "list", dict := dd2, data := .seq items2 n2, slots := sl2 } ∧
        (∀ j (h1 : j < items.size) (h2 : j < items2.size), EqP prog w A.in1 s items[j] items2[j] (e j)) ∧
        R (.ok (.ret (.bool (!(List.range items.size).all e)))) s) := by
  intro A R s h
  obtain ⟨hp, g, d, tk, os⟩ := s; obtain ⟨hl, hb, he, h⟩ := h
  have f3 := AutoSeq1.sub_list_list
  have hne : ¬ (items.size != items2.size) = true := by simp [hsz]
  wp_walk using wpAny_loadPart' hl, wpAny_loadPart' hb
  exact ⟨plainId_quiet plain_eq_loop _, codeAny_builtin entry_eq_loop (by
    rw [Around.under_plainId plain_eq_loop _]
    exact listNe_loop l b items items2 n n2 dd dd2 sl sl2 hsz e _ 0 rfl A R _ ⟨hl, hb, he, by simpa using h⟩)⟩
theorem rcP_listsNe {A : Around} {s : Shared} {l b : Addr} {items items2 : Array Value} {e : Nat → Bool} (hl : s.heap.IsList l items) (hb : s.heap.IsList b items2) (hsz : items.size = items2.size) (hu : A.units < cLine)
    (he : ∀ j (h1 : j < items.size) (h2 : j < items2.size), EqP prog w A.in1 s items[j] items2[j] (e j)) (E Q : Value → Shared → Prop) (h : Q (.bool (!(List.range items.size).all e)) s) : wpAny (model prog w) A (richCompare .NotEq (.ref l) (.ref b)) Q E s := by
  obtain ⟨⟨cls, dd, data, sl⟩, ho, hc, n, hd⟩ := id hl
  obtain ⟨⟨cls2, dd2, data2, sl2⟩, ho2, hc2, n2, hd2⟩ := id hb
  simp only at hc hd hc2 hd2
  subst hc hd hc2 hd2
  have ta : s.TypeIs (.ref l) "list" := ⟨_, ho, rfl⟩
  have tb : s.TypeIs (.ref b) "list" := ⟨_, ho2, rfl⟩
  exact wpAny_richCompare_same_room (op := .NotEq) ta tb F.slot_list_ne (call_meetsIn F.slot_list_ne ta F.entry_list_ne (F.args_list_ne_2 _ _) (listNe_in l b items items2 n n2 dd dd2 sl sl2 hsz e)
    ⟨ho, ho2, he, show Value.bool (!(List.range items.size).all e) ≠ Value.notImplemented ∧ Q (.bool (!(List.range items.size).all e)) s from ⟨(fun x => nomatch x), h⟩⟩) hu
end
end PySem.SeqAt
namespace Pz
open PySem PySem.Spec PyProof.Rows L2
theorem valV_self : ∀ {ks : List (Key × V)}, (ks.map (·.1)).Nodup → ∀ p ∈ ks, valV ks p.1 = some p.2
  | [], _, p, h => by cases h
  | q :: ks, hn, p, h => by
    obtain ⟨h1, h2⟩ := List.nodup_cons.mp hn
    unfold valV
    rcases List.mem_cons.mp h with rfl | h
    · simp
    · have ne : ¬ q.1 = p.1 := fun z => h1 (by show q.1 ∈ _; rw [z]; exact List.mem_map.mpr ⟨p, h, rfl⟩)
      have ih := valV_self h2 p h
      unfold valV at ih
      rw [List.find?_cons]
      simp only [ne, decide_false]
      exact ih
theorem rpk_strs {G : Gx} {M : Addr → Prop} {H : Hp} : ∀ {vs : List (Key × V)} {prs : List (Str × Str)}, Rpk G M H vs (prs.map prK) → vs = prs.map fun q => (.inr q.1, .str q.2)
  | _, [], h => by cases h; rfl
  | _, q :: prs, h => by
    cases h with
    | cons a r => cases a; rw [rpk_strs r]; rfl
section
variable {X : Cx} {F : Fr} {en : En} {x : D} {m : Nat}
theorem o_neDT {prs : List (Str × Str)} (hu : X.A.units + 64 < cLine) (hnd : (prs.map (·.1)).Nodup) (hx : Sh m x) (hm : m ≤ 50) : OpD X F en (compareOp .NotEq) (.lst [dk (prs.map prK), x]) (.lst [dk (prs.map prK), x]) (.bl false) := by
  intro M σ H vx vy Q R bx by_ q pins s σ' v u I rx ry
  obtain ⟨a, vs, rfl, ha, ra⟩ := bx.lst R
  obtain ⟨b, ws, rfl, hb, rb⟩ := by_.lst R
  obtain rfl : v = Value.ref a := rx
  obtain rfl : u = Value.ref b := ry
  obtain ⟨v1, r1, rfl, p1, t1⟩ := ra.inv_cons
  obtain ⟨v2, r2, rfl, p2, t2⟩ := t1.inv_cons
  obtain rfl := t2.inv_nil
  obtain ⟨w1, r3, rfl, p3, t3⟩ := rb.inv_cons
  obtain ⟨w2, r4, rfl, p4, t4⟩ := t3.inv_cons
  obtain rfl := t4.inv_nil
  obtain ⟨us, q1, l1, _⟩ := I.list ha
  obtain ⟨us', q2, l2, _⟩ := I.list hb
  obtain ⟨c1, k1, rfl, d1, e1⟩ := Bw.dk (σ := σ) (en := en) (.inl p1) R
  obtain ⟨c2, k2, rfl, d2, e2⟩ := Bw.dk (σ := σ) (en := en) (.inl p3) R
  have ek1 := rpk_strs e1
  have ek2 := rpk_strs e2
  subst ek1 ek2
  cases q1 with
  | cons a1 q1 =>
    cases q1 with
    | cons a2 q1 =>
      cases q1
      cases q2 with
      | cons b1 q2 =>
        cases q2 with
        | cons b2 q2 =>
          cases q2
          rename_i u1 u2 u3 u4
          obtain rfl : u1 = Value.ref c1 := a1
          obtain rfl : u3 = Value.ref c2 := b1
          have hnk : ((prs.map fun q : Str × Str => ((.inr q.1 : Key), V.str q.2)).map (·.1)).Nodup := by
            rw [List.map_map]
            exact List.Pairwise.of_map (S := fun a b : Str => a ≠ b) (f := fun k : Key => match k with | .inr s => s | .inl _ => Str.empty) (fun a b h z => h (by rw [z])) (by
              rw [List.map_map]
              exact hnd)
          have hdict : SeqAt.EqP X.prog X.w X.A.in1 s (.ref c1) (.ref c2) true := by
            by_cases e : c1 = c2
            · subst e
              exact (SeqAt.EqAt.same _).eqP
            · obtain ⟨_, lo1, m1, rel1, dd1⟩ := dk_rd I.hok d1
              obtain ⟨_, lo2, m2, rel2, dd2⟩ := dk_rd I.hok d2
              refine SeqAt.eqP_refs e fun E Q q => PySem.W.rcP_dicts (knd := mixKind X.prog X.w) (r := true) lo1 lo2 dd1 dd2 (by show X.A.units + 1 < cLine; omega) (fun _ => hits_run (F := fun x y => x = y ∧ flatB x = true) (fun x y v u h rx ry => by obtain ⟨rfl, f⟩ := h; exact (eqAt_same rx ry f).eqP) rel2 rel1 fun p hp => ⟨p.2, valV_self hnk p hp, rfl, ?_⟩) E Q ?_
              · obtain ⟨z, _, rfl⟩ := List.mem_map.mp hp
                rfl
              · have e : m1.length = m2.length := by rw [← rel1.length, ← rel2.length]
                rw [show (m1.length == m2.length && true) = true from by rw [e]; simp]
                exact q
          have hdata : SeqAt.EqP X.prog X.w X.A.in1 s u2 u4 true := by
            obtain ⟨hl, hdp⟩ := sh_ok hx
            obtain ⟨as, g1⟩ := Dp.reads I x.py v2 u2 (p2.dp hl) a2
            obtain ⟨bs, g2⟩ := Dp.reads I x.py w2 u4 (p4.dp hl) b2
            have := SeqAt.eqAt_reads x.py x.py X.A.in1 s u2 u4 as bs g1 g2 hl hl (by show X.A.units + 1 + _ < cLine; rw [Nat.min_self]; omega)
            rw [hx.eqT] at this
            exact this.eqP
          refine SeqAt.rcP_listsNe (e := fun _ => true) l1.isList l2.isList rfl (by omega) (fun j h1 h2 => ?_) _ _ ?_
          · match j, h1 with
            | 0, _ => exact hdict
            | 1, _ => exact hdata
          · rw [show (!(List.range _).all fun _ => true) = false from by rw [show ((List.range _).all fun _ => true) = true from List.all_eq_true.mpr fun _ _ => rfl]; rfl]
            exact ⟨.bl false, H, I, rfl, q _ H R.inv Gr.refl (.bl false)⟩
end
end Pz
end
section
set_option Elab.async false
set_option linter.all false
set_option maxRecDepth 100000
set_option maxHeartbeats 4000000
/-! Qp: own dice lent to a def in a test. -/
namespace Pz
open PySem PySem.Spec PyProof.Rows L2
section
variable {X : Cx} {F : Fr} {en : En} {p pos p2 p3 px : Pos} {k : KD} {rest ba : List Stmt}
/-- if not f(dice): ..; f tells True -/
theorem s_ifDice {f nd : Str} {Pre : List D → Prop} {Rl : List D → D → Prop} {kk : Nat} {a b c : Int} (i : Nat) (C : CalZ X.prog X.w X.K X.mg X.base kk f Pre Rl) (hr : Room kk X.A) (hp : Pre []) (hR : ∀ d, Rl [] d → d = .bl true)
    (h : ∀ a b c : Int, Sx X F (en.set i (some (.own (.lst [.int a, .int b, .int c])))) rest k) (hi : en[i]? = some (some (.own (.lst [.int a, .int b, .int c]))) := by rfl) (hN : X.N[i]? = some nd := by rfl) (hv : Vis X.env.scope nd := by first | exact Or.inl rfl | exact Or.inr (Or.inl rfl) | exact Or.inr (Or.inr rfl)) (hd : (nd == ("__debug__" : Str)) = false := by decide) (hcd : (nd == ("__classdict__" : Str)) = false := by decide)
    (he2 : ∀ whole, isTrue (.Call (.Name f p) [.Name nd px] [] pos) X.env whole = (do let v ← whole; standAt pos; holding [v] (truthy v)) := by intro _; rfl)
    (hg : Gl X f := by rfl) (hdb : (f == ("__debug__" : Str)) = false := by decide) (he : starEach [.Name nd px] X.env = (false, eval (.Name nd px) X.env) :: starEach [] X.env := by rfl)
    (hpl : (backTo pos (starEach [] X.env)).any (·.1) = false := by rfl) : Sx X F en (.If (.UnaryOp .Not (.Call (.Name f p) [.Name nd px] [] pos) p2) ba [] p3 :: rest) k := by
  obtain ⟨fa, fd, ps, hm, hk, FF, hb⟩ := C
  refine PSs.wk (pss_cons (ps_if (pt_not (pt_val (pe_call FF hr hg hm hk hb .nil pass0 (al_last (F := F) (en := en) i hi hN hv hd hcd) hdb he hpl) he2)) (tU_ok (sts := ba)) (tU_ok (sts := []))) (tU_ok (sts := rest))) fun E σ H ⟨M, R, q⟩ => ⟨M, R, fun vs H1 y i1 g1 rv hy => ?_⟩
  have R1 := R.step i1 g1
  obtain ⟨y', e1, m1, n1, f1, o1⟩ := R1.own i _ hi
  rw [hy] at e1
  cases e1
  cases rv
  have hD : Dice H1 y := by
    cases o1 with
    | lst h1 h2 =>
      have : ([.int a, .int b, .int c] : List D) = [a, b, c].map .int := rfl
      rw [this] at h2
      have e := h2.ints
      subst e
      exact ⟨a, b, c, h1⟩
  refine ⟨M, y, [], [], rfl, m1, hD, .nil, R1.dom, hp, fun v H' d hs hd' hRd rp => ?_⟩
  have ed := hR d hRd
  subst ed
  cases rp
  refine ⟨true, rfl, ?_⟩
  obtain ⟨a', b', c', hy'⟩ := hd'
  have I' : F.I H' := F.st (upd H1 y (.lst [.int a', .int b', .int c'])) H' (F.up H1 y _ i1 f1) fun z o h => by
    by_cases e : z = y
    · subst e; rw [upd_same] at h; cases h; exact hy'
    · rw [upd_ne e] at h; exact hs z o h e
  have ho' : Own (gx X) M H' y (.lst [.int a', .int b', .int c']) := .lst hy' (.cons (.int _) (.cons (.int _) (.cons (.int _) .nil)))
  obtain ⟨R2, kp2⟩ := R1.chgG hi hy I' (fun b o h _ hb => hs b o h hb) ho'
  have q2 := (q.step (R.kp g1)).step kp2
  exact iteF ((s_nil (k := { k with nx := fun en' => Sx X F en' rest k }) (h a' b' c')).u ⟨M, R2, ⟨fun M' σ' H' en' R' kp h' => h'.u ⟨M', R', q2.step kp⟩, q2.rt, q2.bk, q2.ct, q2.ro, q2.re⟩⟩)
end
end Pz
end
section
set_option Elab.async false
set_option linter.all false
set_option maxRecDepth 100000
/-! Tp: what the top leaves (printed by gen_top.py). -/
namespace Pt
open PySem PySem.Spec L2 Pz
structure Top (w : World) (K : PySem.W.Frag) (mg : Str → Option Value) : Prop where
  f_isinstance : mg "isinstance" = none
  f_len : mg "len" = none
  f_all : mg "all" = none
  f_sum : mg "sum" = none
  f_int : mg "int" = none
  f_max : mg "max" = none
  f_min : mg "min" = none
  f_abs : mg "abs" = none
  f_range : mg "range" = none
  f_enumerate : mg "enumerate" = none
  f_tuple : mg "tuple" = none
  f_list : mg "list" = none
  f_dict : mg "dict" = none
  f_set : mg "set" = none
  f_sorted : mg "sorted" = none
  f_zip : mg "zip" = none
  f_str : mg "str" = none
  f_bool : mg "bool" = none
  i_MAX_LETTERS : ∃ t, mg "MAX_LETTERS" = some (.int 8 t)
  i_MAX_ARGUMENTS_values : ∃ t, mg "MAX_ARGUMENTS_values" = some (.int 2 t)
  i_MAX_DEEP : ∃ t, mg "MAX_DEEP" = some (.int 3 t)
  i_MAX_ARGUMENTS_stretches : ∃ t, mg "MAX_ARGUMENTS_stretches" = some (.int 2 t)
  i_MAX_THREADS : ∃ t, mg "MAX_THREADS" = some (.int 3 t)
  i_MAX_CODE : ∃ t, mg "MAX_CODE" = some (.int 60 t)
  i_MAX_ASKED : ∃ t, mg "MAX_ASKED" = some (.int 6 t)
  i_MAX_STEPS : ∃ t, mg "MAX_STEPS" = some (.int 200 t)
  i_MAX_STATES : ∃ t, mg "MAX_STATES" = some (.int 4000 t)
  z_GET_values : ∃ t, mg "GET_values" = some (.str "get" t)
  z_FIGURES : ∃ t, mg "FIGURES" = some (.str "0123456789" t)
  z_READ : ∃ t, mg "READ" = some (.str "read" t)
  z_WRITE : ∃ t, mg "WRITE" = some (.str "write" t)
  z_SET : ∃ t, mg "SET" = some (.str "set" t)
  z_COPY : ∃ t, mg "COPY" = some (.str "copy" t)
  z_GET_stretches : ∃ t, mg "GET_stretches" = some (.str "get" t)
  z_PUT : ∃ t, mg "PUT" = some (.str "put" t)
  z_SHOW : ∃ t, mg "SHOW" = some (.str "show" t)
  z_IF : ∃ t, mg "IF" = some (.str "if" t)
  t_WORDS : ∃ a, mg "WORDS" = some (.ref a) ∧ WrT K a ((["else", "end", "get", "if", "put", "show"] : List Str).map V.str)
  t_ACCESSES : ∃ a, mg "ACCESSES" = some (.ref a) ∧ WrT K a ((["read", "write"] : List Str).map V.str)
  t_STEPS : ∃ a, mg "STEPS" = some (.ref a) ∧ WrT K a ((["read", "write", "get", "put", "show"] : List Str).map V.str)
  m_SIZES : ∃ ad, mg "SIZES" = some (.ref ad) ∧ (ad == sysModules) = false ∧ KDct K w ad "read" (.int 3) ∧ KDct K w ad "write" (.int 3) ∧ KDct K w ad "get" (.int 2) ∧ KDct K w ad "put" (.int 2)
  d_wall : DefAt K mg "_wall" s_wall
  d_is_letters : DefAt K mg "is_letters" s_is_letters
  d_is_name : DefAt K mg "is_name" s_is_name
  d_is_index : DefAt K mg "is_index" s_is_index
  d_is_number_text : DefAt K mg "is_number_text" s_is_number_text
  d_is_unknown : DefAt K mg "is_unknown" s_is_unknown
  d_arguments_in : DefAt K mg "arguments_in" s_arguments_in
  d_application : DefAt K mg "application" s_application
  d_is_text : DefAt K mg "is_text" s_is_text
  d_is_value : DefAt K mg "is_value" s_is_value
  d_value_of : DefAt K mg "value_of" s_value_of
  d_are_names : DefAt K mg "are_names" s_are_names
  d_is_plain : DefAt K mg "is_plain" s_is_plain
  d_is_statement : DefAt K mg "is_statement" s_is_statement
  d_is_level : DefAt K mg "is_level" s_is_level
  d_is_body : DefAt K mg "is_body" s_is_body
  d_branches : DefAt K mg "branches" s_branches
  d_size_of : DefAt K mg "size_of" s_size_of
  d_does_count : DefAt K mg "does_count" s_does_count
  d_most_on_path : DefAt K mg "most_on_path" s_most_on_path
  d_paths_fit : DefAt K mg "paths_fit" s_paths_fit
  d_rows_from : DefAt K mg "rows_from" s_rows_from
  d_rows_of : DefAt K mg "rows_of" s_rows_of
  d_is_thread_code : DefAt K mg "is_thread_code" s_is_thread_code
  d_are_contents : DefAt K mg "are_contents" s_are_contents
  d_is_asked : DefAt K mg "is_asked" s_is_asked
  d_are_answers : DefAt K mg "are_answers" s_are_answers
  d_require_threads : DefAt K mg "require_threads" s_require_threads
  d_cell_of : DefAt K mg "cell_of" s_cell_of
  d_cells_in : DefAt K mg "cells_in" s_cells_in
  d_registers_of : DefAt K mg "registers_of" s_registers_of
  d_registers_in : DefAt K mg "registers_in" s_registers_in
  d_require_program : DefAt K mg "require_program" s_require_program
  d_require_thread : DefAt K mg "require_thread" s_require_thread
  d_is_order : DefAt K mg "is_order" s_is_order
  d_settled : DefAt K mg "settled" s_settled
  d_made_value : DefAt K mg "made_value" s_made_value
  d_packed : DefAt K mg "packed" s_packed
  d_registers_at : DefAt K mg "registers_at" s_registers_at
  d_first_state : DefAt K mg "first_state" s_first_state
  d_next_statement : DefAt K mg "next_statement" s_next_statement
  d_step_of : DefAt K mg "step_of" s_step_of
  d_steps_in : DefAt K mg "steps_in" s_steps_in
  d_is_possible : DefAt K mg "is_possible" s_is_possible
  d_ready_in : DefAt K mg "ready_in" s_ready_in
  d_clashes_in : DefAt K mg "clashes_in" s_clashes_in
  d_is_clashing : DefAt K mg "is_clashing" s_is_clashing
  d_replaced : DefAt K mg "replaced" s_replaced
  d_stepped : DefAt K mg "stepped" s_stepped
  d_led : DefAt K mg "led" s_led
  d_reached : DefAt K mg "reached" s_reached
  d_order_to : DefAt K mg "order_to" s_order_to
  d_first_clash : DefAt K mg "first_clash" s_first_clash
  d_ends_in : DefAt K mg "ends_in" s_ends_in
  d_clash : DefAt K mg "clash" s_clash
  d_is_orderly : DefAt K mg "is_orderly" s_is_orderly
  d_ends : DefAt K mg "ends" s_ends
  d_outcome : DefAt K mg "outcome" s_outcome
  d_law_dice : DefAt K mg "_law_dice" s_law_dice
  d_law_roll : DefAt K mg "_law_roll" s_law_roll
  d_law_one_of : DefAt K mg "_law_one_of" s_law_one_of
  d_law_quiet : DefAt K mg "_law_quiet" s_law_quiet
  d_law_size : DefAt K mg "_law_size" s_law_size
  d_law_table : DefAt K mg "_law_table" s_law_table
  d_law_program : DefAt K mg "_law_program" s_law_program
  d_law_ahead : DefAt K mg "_law_ahead" s_law_ahead
  d_law_begin : DefAt K mg "_law_begin" s_law_begin
  d_law_next : DefAt K mg "_law_next" s_law_next
  d_law_can : DefAt K mg "_law_can" s_law_can
  d_law_after : DefAt K mg "_law_after" s_law_after
  d_law_clashes : DefAt K mg "_law_clashes" s_law_clashes
  d_law_states : DefAt K mg "_law_states" s_law_states
  d_law_is_orderly : DefAt K mg "_law_is_orderly" s_law_is_orderly
  d_law_ends : DefAt K mg "_law_ends" s_law_ends
  d_law_built : DefAt K mg "_law_built" s_law_built
  d_law_calm : DefAt K mg "_law_calm" s_law_calm
  d_law_same : DefAt K mg "_law_same" s_law_same
  d_law_led : DefAt K mg "_law_led" s_law_led
  d_law_right : DefAt K mg "_law_right" s_law_right
  d_law : DefAt K mg "law" s_law
end Pt
end
section
set_option Elab.async false
set_option linter.all false
set_option maxRecDepth 100000
/-! Mi: the programs that the law draws, as plain data: names, values, statements, states; what they stand for as data by value. -/
namespace Mi
open PySem L2 Pz

inductive Rg where | a | b | c | r
  deriving DecidableEq
inductive Cl where | x | y | z
  deriving DecidableEq
/-- a value: a register's own name, a cell's unknown -/
inductive Vl where | a | b | c | r | x1 | y1 | z1
  deriving DecidableEq
inductive Sm where
  | rd (r : Rg) (x : Cl) | wr (x : Cl) (r : Rg) | gt (r : Rg) | pt (r : Rg) | sh (r : Rg)
  deriving DecidableEq
def Rg.s : Rg → Str | .a => "a" | .b => "b" | .c => "c" | .r => "r"
def Cl.s : Cl → Str | .x => "x" | .y => "y" | .z => "zz"
def Vl.s : Vl → Str | .a => "a" | .b => "b" | .c => "c" | .r => "r" | .x1 => "x.1" | .y1 => "y.1" | .z1 => "zz.1"
def Rg.v : Rg → Vl | .a => .a | .b => .b | .c => .c | .r => .r
def Cl.v : Cl → Vl | .x => .x1 | .y => .y1 | .z => .z1
theorem Rg.vs (r : Rg) : r.v.s = r.s := by cases r <;> rfl
def Sm.d : Sm → D
  | .rd r x => .tup [.str "read", .str r.s, .str x.s]
  | .wr x r => .tup [.str "write", .str x.s, .str r.s]
  | .gt r => .tup [.str "get", .str r.s]
  | .pt r => .tup [.str "put", .str r.s]
  | .sh r => .tup [.str "show", .str r.s]
def codeD (c : List Sm) : D := .tup (c.map Sm.d)
def Sm.word : Sm → Str | .rd _ _ => "read" | .wr _ _ => "write" | .gt _ => "get" | .pt _ => "put" | .sh _ => "show"
def Sm.reg : Sm → Rg | .rd r _ => r | .wr _ r => r | .gt r => r | .pt r => r | .sh r => r
def Sm.cell : Sm → Option Cl | .rd _ x => some x | .wr x _ => some x | _ => none
/-- the registers of a code, ascending -/
def regsOf (c : List Sm) : List Rg := [Rg.a, .b, .c, .r].filter fun r => c.any fun s => decide (s.reg = r)
def cellsOf (p : List (List Sm)) : List Cl := [Cl.x, .y, .z].filter fun x => p.any fun c => c.any fun s => decide (s.cell = some x)
/-- a row of a code: statement, next row, nothing -/
def rowD (i : Nat) (s : Sm) : D := .tup [s.d, .int ((i : Int) + 1), .non]
def rowsL : Nat → List Sm → List D
  | _, [] => []
  | i, s :: r => rowD i s :: rowsL (i + 1) r
def rowsD (c : List Sm) : D := .lst (rowsL 0 c)
theorem rowsL_len : ∀ (c : List Sm) (i : Nat), (rowsL i c).length = c.length
  | [], _ => rfl
  | _ :: r, i => congrArg (· + 1) (rowsL_len r (i + 1))
theorem rowsL_get : ∀ {c : List Sm} {i j : Nat} {s : Sm}, c[j]? = some s → (rowsL i c)[j]? = some (rowD (i + j) s)
  | [], _, _, _, h => by simp at h
  | x :: r, i, 0, s, h => by
    simp at h
    subst h
    rfl
  | x :: r, i, j + 1, s, h => by
    have e := rowsL_get (i := i + 1) (j := j) (s := s) (by simpa using h)
    show (rowsL (i + 1) r)[j]? = _
    rw [e]
    congr 2
    omega
theorem rowsL_app : ∀ (c : List Sm) (i : Nat) (s : Sm), rowsL i (c ++ [s]) = rowsL i c ++ [rowD (i + c.length) s]
  | [], i, s => rfl
  | x :: r, i, s => by
    show rowD i x :: rowsL (i + 1) (r ++ [s]) = rowD i x :: (rowsL (i + 1) r ++ [_])
    rw [rowsL_app r (i + 1) s]
    have e : i + 1 + r.length = i + (x :: r).length := by simp [Nat.add_assoc, Nat.add_comm 1]
    rw [e]
/-- values in a row, rows of values -/
def valsD (vs : List Vl) : D := .tup (vs.map fun v => .str v.s)
def rowsVD (vs : List (List Vl)) : D := .tup (vs.map valsD)
/-! ### states, told by functions -/
def up {α β : Type} [DecidableEq α] (f : α → β) (a : α) (b : β) : α → β := fun x => if x = a then b else f x
theorem up_same {α β : Type} [DecidableEq α] {f : α → β} {a : α} {b : β} : up f a b a = b := if_pos rfl
theorem up_ne {α β : Type} [DecidableEq α] {f : α → β} {a x : α} {b : β} (h : x ≠ a) : up f a b x = f x := if_neg h
structure Sta where
  pos : Nat → Nat
  reg : Nat → Rg → Vl
  con : Cl → Vl
  lin : Nat → List Vl
  shw : Nat → List Vl
abbrev Prg := List (List Sm)
def code (p : Prg) (t : Nat) : List Sm := (p[t]?).getD []
def strD (v : Vl) : D := .str v.s
def rowsOf (n : Nat) (f : Nat → D) : D := .tup ((List.range n).map f)
def regD (c : List Sm) (f : Rg → Vl) : D := .tup ((regsOf c).map fun r => strD (f r))
def Sta.d (p : Prg) (s : Sta) : D :=
  .tup [rowsOf p.length fun t => .int (s.pos t : Int), rowsOf p.length fun t => regD (code p t) (s.reg t), .tup ((cellsOf p).map fun x => strD (s.con x)), rowsOf p.length fun t => valsD (s.lin t), rowsOf p.length fun t => valsD (s.shw t)]
def Sta.first : Sta := ⟨fun _ => 0, fun _ r => r.v, fun x => x.v, fun _ => [], fun _ => []⟩
/-- the instance of a program -/
def progF (p : Prg) : List (Str × D) :=
  [("own_threads", .tup (p.map codeD)), ("own_cells", dk []), ("own_answers", dk []), ("own_rows", .lst (p.map rowsD)), ("own_registers", .lst (p.map fun c => .tup ((regsOf c).map fun r => .str r.s))), ("own_names", .ntp (((cellsOf p).map Cl.s).map .str))]
def progD (C : Addr) (p : Prg) : D := .ins C (progF p)
structure Okp (p : Prg) : Prop where
  two : 1 ≤ p.length ∧ p.length ≤ 3
  short : ∀ c ∈ p, c.length ≤ 20
theorem Okp.code {p : Prg} (h : Okp p) (t : Nat) : (code p t).length ≤ 20 := by
  unfold Mi.code
  cases e : p[t]? with
  | none => simp
  | some c => exact h.short c (List.mem_of_getElem? e)
theorem code_at {p : Prg} {t : Nat} (h : t < p.length) : p[t]? = some (code p t) := by
  unfold code
  rw [List.getElem?_eq_getElem h]
  rfl
def nxt (p : Prg) (s : Sta) (t : Nat) : Option Sm := (code p t)[s.pos t]?
def smO : Option Sm → D
  | none => .non
  | some m => m.d
def stepD : Option Sm → D
  | none => .non
  | some m => .tup (.str m.word :: (match m.cell with | some x => [.str x.s] | none => []))
def can (p : Prg) (s : Sta) (t : Nat) : Bool :=
  match nxt p s t with
  | none => false
  | some (.gt _) => !(s.lin t).isEmpty
  | some _ => true
def ready (p : Prg) (s : Sta) : List Nat := (List.range p.length).filter (can p s)
def isW : Sm → Bool
  | .wr _ _ => true
  | _ => false
/-- two next statements clash -/
def clash2 : Option Sm → Option Sm → Bool
  | some a, some b => match a.cell, b.cell with
    | some x, some y => decide (x = y) && (isW a || isW b)
    | _, _ => false
  | _, _ => false
def eff (p : Prg) (s : Sta) (t : Nat) (m : Sm) : Sta :=
  match m with
  | .rd r x => { s with reg := up s.reg t (up (s.reg t) r (s.con x)) }
  | .wr x r => { s with con := up s.con x (s.reg t r) }
  | .gt r => { s with reg := up s.reg t (up (s.reg t) r ((s.lin t).headD .a)), lin := up s.lin t ((s.lin t).drop 1) }
  | .pt r => { s with lin := up s.lin ((t + 1) % p.length) (s.lin ((t + 1) % p.length) ++ [s.reg t r]) }
  | .sh r => { s with shw := up s.shw t (s.shw t ++ [s.reg t r]) }
def stp (p : Prg) (s : Sta) (t : Nat) : Sta :=
  match nxt p s t with
  | none => s
  | some m => { eff p s t m with pos := up s.pos t (s.pos t + 1) }
/-- a state that can be met: positions inside the codes, rows not longer than what was done -/
structure Okc (p : Prg) (s : Sta) : Prop where
  pos : ∀ t, t < p.length → s.pos t ≤ (code p t).length
  lin : ∀ t, t < p.length → (s.lin ((t + 1) % p.length)).length ≤ s.pos t
  shw : ∀ t, t < p.length → (s.shw t).length ≤ s.pos t
/-- no two threads clash -/
def Calm (p : Prg) (s : Sta) : Prop := ∀ i j, i < p.length → j < p.length → i ≠ j → clash2 (nxt p s i) (nxt p s j) = false
theorem range_set {α : Type} {n t : Nat} (f : Nat → α) (x : α) (h : t < n) : ((List.range n).map f).set t x = (List.range n).map (up f t x) := by
  refine List.ext_getElem? fun j => ?_
  rw [List.getElem?_map]
  by_cases e : t = j
  · subst e
    rw [List.getElem?_set_self (by simpa using h), List.getElem?_range h]
    simp [up]
  · rw [List.getElem?_set_ne e, List.getElem?_map]
    cases q : (List.range n)[j]? with
    | none => rfl
    | some k =>
      have ek : k = j := by
        by_cases hj : j < n
        · rw [List.getElem?_range hj] at q; exact (Option.some.inj q).symm
        · rw [List.getElem?_eq_none (by simpa using hj)] at q; cases q
      subst ek
      simp [up, Ne.symm e]
theorem range_at {α : Type} {n t : Nat} (f : Nat → α) (h : t < n) : ((List.range n).map f)[t]? = some (f t) := by
  rw [List.getElem?_map, List.getElem?_range h]
  rfl
end Mi
end
section
set_option Elab.async false
set_option linter.all false
set_option maxRecDepth 100000
set_option maxHeartbeats 2000000
/-! Ma: runs of a program: two steps that do not clash swap; equal counts give equal states. -/
namespace Mi
section
variable {α β : Type} [DecidableEq α]
theorem up_comm {f : α → β} {a b : α} {x y : β} (h : a ≠ b) : up (up f a x) b y = up (up f b y) a x := by
  funext z
  unfold up
  by_cases h1 : z = a
  · subst h1
    simp [h]
  · by_cases h2 : z = b
    · subst h2
      simp [h1]
    · simp [h1, h2]
theorem up_up {f : α → β} {a : α} {x y : β} : up (up f a x) a y = up f a y := by
  funext z
  unfold up
  split <;> rfl
end
section
variable {p : Prg} {s s' : Sta} {t u : Nat}
theorem nxt_stp (h : u ≠ t) : nxt p (stp p s t) u = nxt p s u := by
  unfold nxt stp
  cases nxt p s t with
  | none => rfl
  | some m => simp [up_ne h]
theorem stp_at {m : Sm} (h : nxt p s t = some m) : stp p s t = { eff p s t m with pos := up s.pos t (s.pos t + 1) } := by unfold stp; rw [h]
theorem can_some (h : can p s t = true) : ∃ m, nxt p s t = some m := by
  unfold can at h
  cases e : nxt p s t with
  | none => rw [e] at h; cases h
  | some m => exact ⟨m, rfl⟩
theorem mod_ne {n : Nat} (ht : t < n) (hu : u < n) (h : t ≠ u) : (t + 1) % n ≠ (u + 1) % n := by
  have e : ∀ {k : Nat}, k < n → (k + 1) % n = if k + 1 = n then 0 else k + 1 := by
    intro k hk
    by_cases h : k + 1 = n
    · rw [if_pos h, h, Nat.mod_self]
    · rw [if_neg h, Nat.mod_eq_of_lt (by omega)]
  rw [e ht, e hu]
  split <;> split <;> omega
theorem can_get {r : Rg} (h : nxt p s t = some (.gt r)) (c : can p s t = true) : ∃ v vs, s.lin t = v :: vs := by
  unfold can at c
  rw [h] at c
  cases e : s.lin t with
  | nil => simp [e] at c
  | cons v vs => exact ⟨v, vs, rfl⟩
theorem can_keep (hne : t ≠ u) (ct : can p s t = true) (cu : can p s u = true) : can p (stp p s t) u = true := by
  obtain ⟨m, hm⟩ := can_some ct
  obtain ⟨m', hm'⟩ := can_some cu
  have hn : nxt p (stp p s t) u = some m' := by rw [nxt_stp hne.symm, hm']
  cases m' with
  | gt r =>
    obtain ⟨v, vs, hl⟩ := can_get hm' cu
    have : (stp p s t).lin u ≠ [] := by
      rw [stp_at hm]
      cases m with
      | rd r x => simp [eff, hl]
      | wr x r => simp [eff, hl]
      | sh r => simp [eff, hl]
      | gt r => simp [eff, up_ne hne.symm, hl]
      | pt r =>
        by_cases e : u = (t + 1) % p.length
        · simp [eff, ← e, up_same]
        · simp [eff, up_ne e, hl]
    unfold can
    rw [hn]
    cases e : (stp p s t).lin u with
    | nil => exact absurd e this
    | cons a b => simp [e]
  | rd r x => unfold can; rw [hn]
  | wr x r => unfold can; rw [hn]
  | pt r => unfold can; rw [hn]
  | sh r => unfold can; rw [hn]
theorem eff_swap {m m' : Sm} (ht : t < p.length) (hu : u < p.length) (hne : t ≠ u) (hc : clash2 (some m) (some m') = false) (lt : ∀ r, m = .gt r → s.lin t ≠ []) (lu : ∀ r, m' = .gt r → s.lin u ≠ []) (f g : Nat → Nat) :
    let a := { eff p s t m with pos := f }
    let b := { eff p s u m' with pos := g }
    (eff p a u m').reg = (eff p b t m).reg ∧ (eff p a u m').con = (eff p b t m).con ∧ (eff p a u m').lin = (eff p b t m).lin ∧ (eff p a u m').shw = (eff p b t m).shw := by
  have hmod := mod_ne ht hu hne
  have hne' := hne.symm
  cases m with
  | rd r x =>
    cases m' with
    | rd r' x' => simp [eff, up_ne hne, up_ne hne', up_comm hne]
    | wr x' r' =>
      have hx : x ≠ x' := by
        intro e
        subst e
        simp [clash2, Sm.cell, isW] at hc
      simp [eff, up_ne hne, up_ne hne', up_ne hx]
    | gt r' => simp [eff, up_ne hne, up_ne hne', up_comm hne]
    | pt r' => simp [eff, up_ne hne, up_ne hne', up_comm hne]
    | sh r' => simp [eff, up_ne hne, up_ne hne', up_comm hne]
  | wr x r =>
    cases m' with
    | rd r' x' =>
      have hx : x' ≠ x := by
        intro e
        subst e
        simp [clash2, Sm.cell, isW] at hc
      simp [eff, up_ne hne, up_ne hne', up_ne hx]
    | wr x' r' =>
      have hx : x ≠ x' := by
        intro e
        subst e
        simp [clash2, Sm.cell, isW] at hc
      simp [eff, up_comm hx]
    | gt r' => simp [eff, up_ne hne, up_ne hne']
    | pt r' => simp [eff]
    | sh r' => simp [eff]
  | gt r =>
    have l1 := lt r rfl
    cases m' with
    | rd r' x' => simp [eff, up_ne hne, up_ne hne', up_comm hne]
    | wr x' r' => simp [eff, up_ne hne, up_ne hne']
    | gt r' => simp [eff, up_ne hne, up_ne hne', up_comm hne]
    | pt r' =>
      obtain ⟨v, vs, hl⟩ : ∃ v vs, s.lin t = v :: vs := by
        cases e : s.lin t with
        | nil => exact absurd e l1
        | cons v vs => exact ⟨v, vs, rfl⟩
      by_cases e : (u + 1) % p.length = t
      · simp [eff, up_ne hne, up_ne hne', e, up_same, up_up, hl]
      · have e' : t ≠ (u + 1) % p.length := fun z => e z.symm
        simp [eff, up_ne hne, up_ne hne', up_ne e, up_ne e', up_comm e']
    | sh r' => simp [eff, up_ne hne, up_ne hne', up_comm hne]
  | pt r =>
    cases m' with
    | rd r' x' => simp [eff, up_ne hne, up_ne hne', up_comm hne]
    | wr x' r' => simp [eff]
    | gt r' =>
      have l1 := lu r' rfl
      obtain ⟨v, vs, hl⟩ : ∃ v vs, s.lin u = v :: vs := by
        cases e : s.lin u with
        | nil => exact absurd e l1
        | cons v vs => exact ⟨v, vs, rfl⟩
      by_cases e : (t + 1) % p.length = u
      · simp [eff, up_ne hne, up_ne hne', e, up_same, up_up, hl]
      · have e' : u ≠ (t + 1) % p.length := fun z => e z.symm
        simp [eff, up_ne hne, up_ne hne', up_ne e, up_ne e', up_comm e]
    | pt r' => simp [eff, up_ne hmod, up_ne hmod.symm, up_comm hmod]
    | sh r' => simp [eff]
  | sh r =>
    cases m' with
    | rd r' x' => simp [eff, up_ne hne, up_ne hne', up_comm hne]
    | wr x' r' => simp [eff]
    | gt r' => simp [eff, up_ne hne, up_ne hne', up_comm hne]
    | pt r' => simp [eff]
    | sh r' => simp [eff, up_ne hne, up_ne hne', up_comm hne]
theorem sta_ext {a b : Sta} (h1 : a.pos = b.pos) (h2 : a.reg = b.reg) (h3 : a.con = b.con) (h4 : a.lin = b.lin) (h5 : a.shw = b.shw) : a = b := by
  cases a; cases b; simp_all
theorem swap (ht : t < p.length) (hu : u < p.length) (hne : t ≠ u) (hc : clash2 (nxt p s t) (nxt p s u) = false) (ct : can p s t = true) (cu : can p s u = true) : stp p (stp p s t) u = stp p (stp p s u) t := by
  obtain ⟨m, hm⟩ := can_some ct
  obtain ⟨m', hm'⟩ := can_some cu
  have h1 : nxt p (stp p s t) u = some m' := by rw [nxt_stp hne.symm, hm']
  have h2 : nxt p (stp p s u) t = some m := by rw [nxt_stp hne, hm]
  rw [hm, hm'] at hc
  rw [stp_at h1, stp_at h2]
  obtain ⟨q1, q2, q3, q4⟩ := eff_swap (s := s) (m := m) (m' := m') ht hu hne hc (fun r e => by subst e; obtain ⟨v, vs, hl⟩ := can_get hm ct; rw [hl]; simp) (fun r e => by subst e; obtain ⟨v, vs, hl⟩ := can_get hm' cu; rw [hl]; simp) (up s.pos t (s.pos t + 1)) (up s.pos u (s.pos u + 1))
  rw [stp_at hm, stp_at hm']
  refine sta_ext ?_ q1 q2 q3 q4
  show up (up s.pos t _) u ((up s.pos t _) u + 1) = up (up s.pos u _) t ((up s.pos u _) t + 1)
  rw [up_ne hne.symm, up_ne hne, up_comm hne]
end
/-! ### runs -/
inductive Runs (p : Prg) : Sta → List Nat → Sta → Prop
  | nil {s} : Runs p s [] s
  | cons {s t w s'} : t < p.length → can p s t = true → Runs p (stp p s t) w s' → Runs p s (t :: w) s'
section
variable {p : Prg} {s s' : Sta} {t u : Nat}
theorem Runs.app {w v : List Nat} {a b c : Sta} (h : Runs p a w b) (g : Runs p b v c) : Runs p a (w ++ v) c := by
  induction h with
  | nil => exact g
  | cons h1 h2 _ ih => exact .cons h1 h2 (ih g)
theorem Runs.snoc {w : List Nat} {a b : Sta} (h : Runs p a w b) (ht : t < p.length) (c : can p b t = true) : Runs p a (w ++ [t]) (stp p b t) := h.app (.cons ht c .nil)
def Reach (p : Prg) (s : Sta) : Prop := ∃ w, Runs p .first w s
def Orderly (p : Prg) : Prop := ∀ s, Reach p s → Calm p s
theorem Reach.first : Reach p .first := ⟨[], .nil⟩
theorem Reach.stp (h : Reach p s) (ht : t < p.length) (c : can p s t = true) : Reach p (stp p s t) := let ⟨w, r⟩ := h; ⟨w ++ [t], r.snoc ht c⟩
theorem Reach.runs {w : List Nat} (h : Reach p s) (r : Runs p s w s') : Reach p s' := let ⟨v, q⟩ := h; ⟨v ++ w, q.app r⟩
/-- a step that is possible ahead of a run without that thread comes first -/
theorem front (ho : Orderly p) {v : List Nat} {a b : Sta} (ra : Reach p a) (r : Runs p a v b) (ht : t < p.length) (ct : can p a t = true) (hv : t ∉ v) : can p b t = true ∧ Runs p (stp p a t) v (stp p b t) := by
  induction r with
  | nil => exact ⟨ct, .nil⟩
  | @cons a u w b hu cu r ih =>
    have hne : t ≠ u := fun e => hv (e ▸ List.mem_cons_self)
    have rb := ra.stp hu cu
    obtain ⟨h1, h2⟩ := ih rb (can_keep hne.symm cu ct) (fun z => hv (List.mem_cons_of_mem _ z))
    refine ⟨h1, .cons hu (can_keep hne ct cu) ?_⟩
    rw [swap ht hu hne (ho a ra t u ht hu hne) ct cu]
    exact h2
theorem pos_stp (c : can p s t = true) : (stp p s t).pos = up s.pos t (s.pos t + 1) := by
  obtain ⟨m, hm⟩ := can_some c
  rw [stp_at hm]
theorem runs_pos {w : List Nat} {a b : Sta} (r : Runs p a w b) : ∀ u, b.pos u = a.pos u + w.count u := by
  induction r with
  | nil => intro u; simp
  | @cons a t w b ht ct r ih =>
    intro u
    rw [ih u, pos_stp ct, List.count_cons]
    by_cases e : u = t
    · subst e; rw [up_same]; simp; omega
    · rw [up_ne e]
      have : (t == u) = false := by simpa using fun z => e z.symm
      simp [this]
theorem first_split {t : Nat} : ∀ {v : List Nat}, t ∈ v → ∃ v1 v2, v = v1 ++ t :: v2 ∧ t ∉ v1
  | x :: v, h => by
    by_cases e : x = t
    · exact ⟨[], v, by rw [e]; rfl, by simp⟩
    · rcases List.mem_cons.mp h with h | h
      · exact absurd h.symm e
      · obtain ⟨v1, v2, h1, h2⟩ := first_split h
        exact ⟨x :: v1, v2, by rw [h1]; rfl, fun z => (List.mem_cons.mp z).elim (fun q => e q.symm) h2⟩
theorem Runs.split {v w : List Nat} : ∀ {a c : Sta}, Runs p a (v ++ w) c → ∃ m, Runs p a v m ∧ Runs p m w c := by
  induction v with
  | nil => intro a c h; exact ⟨a, .nil, h⟩
  | cons t v ih =>
    intro a c h
    cases h with
    | cons h1 h2 h3 =>
      obtain ⟨m, q1, q2⟩ := ih h3
      exact ⟨m, .cons h1 h2 q1, q2⟩
/-- equal counts: one state -/
theorem same_end (ho : Orderly p) : ∀ {w v : List Nat} {a b c : Sta}, Reach p a → Runs p a w b → Runs p a v c → (∀ u, b.pos u = c.pos u) → b = c := by
  intro w
  induction w with
  | nil =>
    intro v a b c ra r1 r2 h
    cases r1
    cases v with
    | nil => cases r2; rfl
    | cons t v =>
      have h1 := h t
      rw [runs_pos r2 t] at h1
      simp at h1
  | cons t w ih =>
    intro v a b c ra r1 r2 h
    cases r1 with
    | cons ht ct r1 =>
      have hm : t ∈ v := by
        have h1 := h t
        rw [runs_pos r2 t, runs_pos r1 t, pos_stp ct, up_same] at h1
        refine List.count_pos_iff.mp ?_
        omega
      obtain ⟨v1, v2, rfl, hv⟩ := first_split hm
      obtain ⟨m, q1, q2⟩ := r2.split
      cases q2 with
      | cons _ cm q2 =>
        obtain ⟨_, q3⟩ := front ho ra q1 ht ct hv
        exact ih (ra.stp ht ct) r1 (q3.app q2) h
end
end Mi
end
section
set_option Elab.async false
set_option linter.all false
set_option maxRecDepth 100000
set_option maxHeartbeats 2000000
/-! Mb: what holds of all states that are reached; the one end; how many states there are. -/
namespace Mi
open Pz
section
variable {p : Prg} {s s' : Sta} {t u : Nat}
theorem okc_first : Okc p .first := ⟨fun _ _ => Nat.zero_le _, fun _ _ => Nat.le_refl _, fun _ _ => Nat.le_refl _⟩
theorem mod_inj {n t u : Nat} (ht : t < n) (hu : u < n) (h : (t + 1) % n = (u + 1) % n) : t = u := by
  by_cases e : t = u
  · exact e
  · exact absurd h (mod_ne ht hu e)
theorem Okc.stp (h : Okc p s) (ht : t < p.length) (c : can p s t = true) : Okc p (stp p s t) := by
  obtain ⟨m, hm⟩ := can_some c
  have hlt : s.pos t < (code p t).length := (List.getElem?_eq_some_iff.mp hm).1
  rw [stp_at hm]
  have hp : ∀ v, s.pos v ≤ up s.pos t (s.pos t + 1) v := fun v => by
    by_cases e : v = t
    · subst e; rw [up_same]; omega
    · rw [up_ne e]; exact Nat.le_refl _
  refine ⟨fun v hv => ?_, fun v hv => ?_, fun v hv => ?_⟩
  · show up s.pos t (s.pos t + 1) v ≤ _
    by_cases e : v = t
    · subst e; rw [up_same]; omega
    · rw [up_ne e]; exact h.pos v hv
  · have h0 := h.lin v hv
    show ((eff p s t m).lin ((v + 1) % p.length)).length ≤ up s.pos t (s.pos t + 1) v
    have keep : (s.lin ((v + 1) % p.length)).length ≤ up s.pos t (s.pos t + 1) v := Nat.le_trans h0 (hp v)
    cases m with
    | rd r x => exact keep
    | wr x r => exact keep
    | sh r => exact keep
    | gt r =>
      show (up s.lin t ((s.lin t).drop 1) _).length ≤ _
      by_cases e : (v + 1) % p.length = t
      · rw [e, up_same]
        rw [e] at keep
        rw [List.length_drop]
        omega
      · rw [up_ne e]; exact keep
    | pt r =>
      show (up s.lin ((t + 1) % p.length) (s.lin ((t + 1) % p.length) ++ [s.reg t r]) _).length ≤ _
      by_cases e : v = t
      · subst e
        rw [up_same, up_same, List.length_append]
        simp
        exact h0
      · rw [up_ne (fun z => e (mod_inj hv ht z))]; exact keep
  · have h0 := h.shw v hv
    show ((eff p s t m).shw v).length ≤ up s.pos t (s.pos t + 1) v
    have keep : (s.shw v).length ≤ up s.pos t (s.pos t + 1) v := Nat.le_trans h0 (hp v)
    cases m with
    | rd r x => exact keep
    | wr x r => exact keep
    | gt r => exact keep
    | pt r => exact keep
    | sh r =>
      show (up s.shw t (s.shw t ++ [s.reg t r]) v).length ≤ _
      by_cases e : v = t
      · subst e
        rw [up_same, up_same, List.length_append]
        simp
        exact h0
      · rw [up_ne e]; exact keep
theorem runs_okc {w : List Nat} (r : Runs p s w s') : Okc p s → Okc p s' := by
  induction r with
  | nil => exact id
  | cons ht ct _ ih => exact fun h => ih (h.stp ht ct)
theorem Reach.okc (h : Reach p s) : Okc p s := let ⟨_, r⟩ := h; runs_okc r okc_first
theorem runs_high {w : List Nat} (r : Runs p s w s') {u : Nat} (hu : p.length ≤ u) : s'.pos u = s.pos u := by
  induction r with
  | nil => rfl
  | cons ht ct _ ih =>
    rw [ih, pos_stp ct, up_ne]
    intro e
    omega
theorem Reach.high (h : Reach p s) {u : Nat} (hu : p.length ≤ u) : s.pos u = 0 := let ⟨_, r⟩ := h; runs_high r hu
theorem rows_inj {n : Nat} {f g : Nat → D} (h : rowsOf n f = rowsOf n g) {t : Nat} (ht : t < n) : f t = g t := by
  have e := D.tup.inj h
  have h1 := range_at f ht
  have h2 := range_at g ht
  rw [e, h2] at h1
  exact (Option.some.inj h1).symm
theorem d_pos (h : s.d p = s'.d p) {t : Nat} (ht : t < p.length) : s.pos t = s'.pos t := by
  have e := List.cons.inj (D.tup.inj h)
  have := rows_inj e.1 ht
  exact Int.natCast_inj.mp (D.int.inj this)
theorem reach_inj (ho : Orderly p) (h : Reach p s) (h' : Reach p s') (e : ∀ t, t < p.length → s.pos t = s'.pos t) : s = s' := by
  obtain ⟨w, r⟩ := h
  obtain ⟨v, q⟩ := h'
  refine same_end ho .first r q fun u => ?_
  by_cases hu : u < p.length
  · exact e u hu
  · rw [Reach.high ⟨w, r⟩ (by omega), Reach.high ⟨v, q⟩ (by omega)]
theorem d_inj (ho : Orderly p) (h : Reach p s) (h' : Reach p s') (e : s.d p = s'.d p) : s = s' := reach_inj ho h h' fun _ ht => d_pos e ht
/-! ### ends -/
def IsEnd (p : Prg) (s : Sta) : Prop := ∀ t, t < p.length → can p s t = false
theorem end_of_runs {w : List Nat} (r : Runs p s w s') (h : IsEnd p s) : w = [] ∧ s' = s := by
  cases r with
  | nil => exact ⟨rfl, rfl⟩
  | cons ht ct _ => rw [h _ ht] at ct; cases ct
theorem one_end (ho : Orderly p) : ∀ {w v : List Nat} {a b c : Sta}, Reach p a → Runs p a w b → Runs p a v c → IsEnd p b → IsEnd p c → b = c := by
  intro w
  induction w with
  | nil =>
    intro v a b c ra r1 r2 hb hc
    cases r1
    exact (end_of_runs r2 hb).2.symm
  | cons t w ih =>
    intro v a b c ra r1 r2 hb hc
    cases r1 with
    | cons ht ct r1 =>
      by_cases hm : t ∈ v
      · obtain ⟨v1, v2, rfl, hv⟩ := first_split hm
        obtain ⟨m, q1, q2⟩ := r2.split
        cases q2 with
        | cons _ cm q2 =>
          obtain ⟨_, q3⟩ := front ho ra q1 ht ct hv
          exact ih (ra.stp ht ct) r1 (q3.app q2) hb hc
      · obtain ⟨h1, _⟩ := front ho ra r2 ht ct hm
        rw [hc t ht] at h1
        cases h1
theorem ends_eq (ho : Orderly p) (h : Reach p s) (h' : Reach p s') (e : IsEnd p s) (e' : IsEnd p s') : s = s' := by
  obtain ⟨w, r⟩ := h
  obtain ⟨v, q⟩ := h'
  exact one_end ho .first r q e e'
theorem ready_nil : ready p s = [] ↔ IsEnd p s := by
  unfold ready IsEnd
  rw [List.filter_eq_nil_iff]
  constructor
  · intro h t ht
    have := h t (List.mem_range.mpr ht)
    simpa using this
  · intro h t ht
    simp [h t (List.mem_range.mp ht)]
theorem mem_ready {t : Nat} : t ∈ ready p s ↔ t < p.length ∧ can p s t = true := by
  unfold ready
  rw [List.mem_filter, List.mem_range]
/-! ### how many -/
theorem pigeon : ∀ (n : Nat) (l : List Nat), l.Nodup → (∀ x ∈ l, x < n) → l.length ≤ n
  | 0, l, _, h => by
    cases l with
    | nil => exact Nat.le_refl _
    | cons x l => exact absurd (h x List.mem_cons_self) (Nat.not_lt_zero _)
  | n + 1, l, hn, h => by
    by_cases hm : n ∈ l
    · have h1 := pigeon n (l.erase n) (hn.erase n) fun x hx => by
        have := (List.Nodup.mem_erase_iff hn).mp hx
        have h2 := h x this.2
        have := this.1
        omega
      rw [List.length_erase_of_mem hm] at h1
      omega
    · have h1 := pigeon n l hn fun x hx => by
        have h2 := h x hx
        have : x ≠ n := fun e => hm (e ▸ hx)
        omega
      omega
def num (s : Sta) : Nat := s.pos 0 + 10 * s.pos 1 + 100 * s.pos 2
theorem reach_few (ho : Orderly p) (h3 : p.length ≤ 3) (h9 : ∀ c ∈ p, c.length ≤ 9) {l : List Sta} (hl : ∀ s ∈ l, Reach p s) (hn : l.Pairwise fun a b => a ≠ b) : l.length ≤ 1000 := by
  have hb : ∀ s ∈ l, ∀ t, s.pos t ≤ 9 := fun s hs t => by
    by_cases ht : t < p.length
    · refine Nat.le_trans ((hl s hs).okc.pos t ht) ?_
      exact h9 _ (List.mem_of_getElem? (code_at ht))
    · rw [(hl s hs).high (by omega)]; omega
  have q := pigeon 1000 (l.map num) (List.Pairwise.map _ (R := fun a b => num a ≠ num b) (fun _ _ h => h) (List.Pairwise.imp_of_mem (fun {a b} ha hb' hne e => ?_) hn)) fun x hx => ?_
  · simpa using q
  · refine hne (reach_inj ho (hl a ha) (hl b hb') fun t ht => ?_)
    have a0 := hb a ha 0; have a1 := hb a ha 1; have a2 := hb a ha 2
    have b0 := hb b hb' 0; have b1 := hb b hb' 1; have b2 := hb b hb' 2
    unfold num at e
    have e0 : a.pos 0 = b.pos 0 := by omega
    have e1 : a.pos 1 = b.pos 1 := by omega
    have e2 : a.pos 2 = b.pos 2 := by omega
    match t, ht with
    | 0, _ => exact e0
    | 1, _ => exact e1
    | 2, _ => exact e2
    | t + 3, ht => omega
  · obtain ⟨s, hs, rfl⟩ := List.mem_map.mp hx
    have a0 := hb s hs 0; have a1 := hb s hs 1; have a2 := hb s hs 2
    unfold num
    omega
/-- an end is reached from every state -/
theorem has_end (h3 : p.length ≤ 3) : ∀ (k : Nat) (s : Sta), Reach p s → ((code p 0).length - s.pos 0) + ((code p 1).length - s.pos 1) + ((code p 2).length - s.pos 2) ≤ k → ∃ w e, Runs p s w e ∧ IsEnd p e := by
  intro k
  induction k with
  | zero =>
    intro s h hk
    refine ⟨[], s, .nil, fun t ht => ?_⟩
    have hp := h.okc.pos t ht
    have : nxt p s t = none := by
      refine List.getElem?_eq_none ?_
      match t, ht with
      | 0, _ => omega
      | 1, _ => omega
      | 2, _ => omega
      | t + 3, ht => omega
    unfold can
    rw [this]
  | succ k ih =>
    intro s h hk
    by_cases he : IsEnd p s
    · exact ⟨[], s, .nil, he⟩
    · have hx : ∃ t, t < p.length ∧ can p s t = true := by
        refine Classical.byContradiction fun hn => he fun t ht => ?_
        cases e : can p s t with
        | false => rfl
        | true => exact absurd ⟨t, ht, e⟩ hn
      obtain ⟨t, ht, ct⟩ := hx
      have hr := h.stp ht ct
      have hlt := hr.okc.pos t ht
      have hps := pos_stp ct
      obtain ⟨w, e, r, he'⟩ := ih (stp p s t) hr (by
        rw [hps] at hlt ⊢
        rw [up_same] at hlt
        match t, ht with
        | 0, _ => simp only [up_same, up_ne (show (1 : Nat) ≠ 0 by decide), up_ne (show (2 : Nat) ≠ 0 by decide)]; omega
        | 1, _ => simp only [up_same, up_ne (show (0 : Nat) ≠ 1 by decide), up_ne (show (2 : Nat) ≠ 1 by decide)]; omega
        | 2, _ => simp only [up_same, up_ne (show (0 : Nat) ≠ 2 by decide), up_ne (show (1 : Nat) ≠ 2 by decide)]; omega
        | t + 3, ht => omega)
      exact ⟨t :: w, e, .cons ht ct r, he'⟩
end
end Mi
end
section
set_option Elab.async false
set_option linter.all false
set_option maxRecDepth 100000
set_option maxHeartbeats 4000000
/-! Df1: names, statements, rows of a code. -/
namespace Pd
open PySem PySem.Spec L2 Pz Pt Mi
section
variable {P : Program} {w : World} {K : PySem.W.Frag} {mg : Str → Option Value} {base : Heap}
theorem pnever {M : Model} {A : Around} {env : Env} : PassesOwn M A env (fun _ _ => False) := PassesOwn.never
theorem sz_le {n : Nat} (h : n ≤ 1000000) : n ≤ sizeLine := Nat.le_trans h (by decide)
/-! ### names -/
def nameL (s : Str) : Bool := decide (1 ≤ s.length) && decide (s.length ≤ 8) && s.cps.toList.all fun c => decide (97 ≤ c) && decide (c ≤ 122)
def R_is_letters : List D → D → Prop := fun ds d => ∃ s : Str, ds = [.str s] ∧ nameL s = true ∧ d = .bl true
theorem le_a {c : Nat} (h : 97 ≤ c) : (!decide ((⟨#[c]⟩ : Str).cps.toList < ("a" : Str).cps.toList)) = true := by
  have e : ("a" : Str).cps.toList = [97] := by decide +kernel
  rw [e]
  have : ¬ ([c] : List Nat) < [97] := by
    rw [List.cons_lt_cons_iff]
    simp
    omega
  simpa using this
theorem le_z {c : Nat} (h : c ≤ 122) : (!decide (("z" : Str).cps.toList < (⟨#[c]⟩ : Str).cps.toList)) = true := by
  have e : ("z" : Str).cps.toList = [122] := by decide +kernel
  rw [e]
  have : ¬ ([122] : List Nat) < [c] := by
    rw [List.cons_lt_cons_iff]
    simp
    omega
  simpa using this
theorem ok_is_letters (T : Top w K mg) : Cal P w K mg base 1 "is_letters" R_is_letters := by
  refine cal_ok T.d_is_letters c_is_letters (fun ds d h => ?_) (fun _ _ _ _ _ _ us hl => match us, hl with | [_], _ => rfl) (fun f cdv A outer s H E Fm ds d hr h => ?_)
  · obtain ⟨s, rfl, _⟩ := h
    rfl
  · obtain ⟨v, rfl, hn, rfl⟩ := h
    unfold nameL at hn
    simp only [Bool.and_eq_true, decide_eq_true_eq, List.all_eq_true] at hn
    obtain ⟨⟨h1, h2⟩, h3⟩ := hn
    obtain ⟨t, hM⟩ := T.i_MAX_LETTERS
    have hs : v.length ≤ sizeLine := sz_le (by omega)
    refine s_if0 (Ew.t (w_orF (t_notT (t_bool (e_callB (b_cons (nm 0).eb (b_cons (g_ty (n := "str") T.f_str).eb b_nil)) (k_isi (T := "str") rfl) T.f_isinstance)))
      (w_or1 (t_notT (t_chainT c_int.eb (e_callB (b_cons (nm 0).eb b_nil) (k_lenS hs) T.f_len).eb (g_int hM).eb (o_leT (by omega)) (o_leT (by omega))))))) ?_
    refine s_ret (d := .bl true) ?_ rfl
    refine (e_callB (id := "all") (b_cons (f_lc [("letter", 1)] (fun _ => .bl true) rfl c_is_letters.nd (blkOk_by (N := n_is_letters) (sc := defScope s_is_letters) (by decide +kernel)) (i_str (nm 0)) (fun _ _ _ _ _ => tg_nm 1 c_is_letters.nd) (fun d hd => ⟨[d], rfl, ?_⟩) ?_).ev.eb b_nil) ?_ T.f_all).is (d := .bl ((List.replicate v.cps.toList.length true).all id)) ?_
    · unfold signsD at hd
      obtain ⟨c, hc, rfl⟩ := List.mem_map.mp hd
      obtain ⟨h4, h5⟩ := h3 c hc
      exact fun _ _ _ _ _ => e_chainT c_str.eb (nm 1).eb c_str.eb (o_leS.is (by rw [le_a h4])) (o_leS.is (by rw [le_z h5]))
    · unfold signsD
      rw [List.length_map]
      have : v.cps.toList.length = v.length := by simp [Str.length]
      omega
    · have e : (signsD v).map (fun _ => D.bl true) = (List.replicate v.cps.toList.length true).map .bl := by
        unfold signsD
        simp [List.map_const', Function.comp_def]
      rw [e]
      exact k_all rfl
    · congr 1
      simp [List.all_replicate]
end
end Pd
end
section
set_option Elab.async false
set_option linter.all false
set_option maxRecDepth 100000
set_option maxHeartbeats 4000000
/-! Df2: names, statements. -/
namespace Pd
open PySem PySem.Spec L2 Pz Pt Mi
section
variable {P : Program} {w : World} {K : PySem.W.Frag} {mg : Str → Option Value} {base : Heap}
def nm7 : List Str := ["a", "b", "c", "r", "x", "y", "zz"]
theorem nm7_len {s : Str} (h : s ∈ nm7) : nameL s = true := by
  have : ∀ s ∈ nm7, nameL s = true := by decide +kernel
  exact this s h
theorem nm7_words {s : Str} (h : s ∈ nm7) : ((["else", "end", "get", "if", "put", "show"] : List Str).any fun x => decide (x = s)) = false := by
  have : ∀ s ∈ nm7, ((["else", "end", "get", "if", "put", "show"] : List Str).any fun x => decide (x = s)) = false := by decide +kernel
  exact this s h
theorem nm7_rg (r : Rg) : r.s ∈ nm7 := by cases r <;> decide +kernel
theorem nm7_cl (r : Cl) : r.s ∈ nm7 := by cases r <;> decide +kernel
def R_is_name : List D → D → Prop := fun ds d => ∃ s ∈ nm7, ds = [.str s] ∧ d = .bl true
theorem ok_is_name (T : Top w K mg) : Cal P w K mg base 2 "is_name" R_is_name := by
  refine cal_ok T.d_is_name c_is_name (fun ds d h => ?_) (fun _ _ _ _ _ _ us hl => match us, hl with | [_], _ => rfl) (fun f cdv A outer s H E Fm ds d hr h => ?_)
  · obtain ⟨s, _, rfl, _⟩ := h
    rfl
  · obtain ⟨v, hv, rfl, rfl⟩ := h
    obtain ⟨a, ha, hw⟩ := T.t_WORDS
    exact s_ret (e_andT (e_call (ok_is_letters T) hr (a_cons (nm 0) a_nil) ⟨v, rfl, nm7_len hv, rfl⟩) (e_one (e_cmp (nm 0).eb (g_strs ha hw).eb (o_ninSk (k := true) (nm7_words hv))))) rfl
def R_is_index : List D → D → Prop := fun ds d => ∃ i n : Int, ds = [.int i, .int n] ∧ 0 ≤ i ∧ i < n ∧ d = .bl true
theorem ok_is_index (T : Top w K mg) : Cal P w K mg base 1 "is_index" R_is_index := by
  refine cal_ok T.d_is_index c_is_index (fun ds d h => ?_) (fun _ _ _ _ _ _ us hl => match us, hl with | [_, _], _ => rfl) (fun f cdv A outer s H E Fm ds d hr h => ?_)
  · obtain ⟨s, _, rfl, _⟩ := h
    rfl
  · obtain ⟨i, n, rfl, h1, h2, rfl⟩ := h
    refine s_ret (e_andT (e_callB (b_cons (nm 0).eb (b_cons (g_ty (n := "int") T.f_int).eb b_nil)) (k_isi (T := "int") rfl) T.f_isinstance)
      (e_andT (e_notF (e_callB (b_cons (nm 0).eb (b_cons (g_ty (n := "bool") T.f_bool).eb b_nil)) (k_isi (T := "int") rfl) T.f_isinstance)) (e_one (e_chainT c_int.eb (nm 0).eb (nm 1).eb (o_leT h1) (o_ltT h2))))) rfl
def R_are_names : List D → D → Prop := fun ds d => ∃ (ss : List Str) (l m : Int), ds = [.tup (ss.map .str), .int l, .int m] ∧ (∀ s ∈ ss, s ∈ nm7) ∧ l ≤ ss.length ∧ ss.length ≤ m ∧ ss.length ≤ 20 ∧ d = .bl true
theorem allT {α : Type} (g : α → D) (hg : ∀ x, g x = .bl true) (xs : List α) : xs.map g = (List.replicate xs.length true).map .bl := by
  rw [show g = fun _ => .bl true from funext hg]
  simp [List.map_const', Function.comp_def]
theorem replT (n : Nat) : (List.replicate n true).all id = true := by simp [List.all_replicate]
theorem k_allT {X : Cx} {F : Fr} {en : En} {ds : List D} (hc : X.calm = true) : CallD X F en (.builtin "all") [.lst (ds.map fun _ => .bl true)] (.bl true) := by
  have e : ds.map (fun _ => D.bl true) = (List.replicate ds.length true).map .bl := allT _ (fun _ => rfl) ds
  rw [e]
  have q := k_all (X := X) (F := F) (en := en) (bs := List.replicate ds.length true) hc
  rwa [replT] at q
theorem ok_are_names (T : Top w K mg) : Cal P w K mg base 3 "are_names" R_are_names := by
  refine cal_ok T.d_are_names c_are_names (fun ds d h => ?_) (fun _ _ _ _ _ _ us hl => match us, hl with | [_, _, _], _ => rfl) (fun f cdv A outer s H E Fm ds d hr h => ?_)
  · obtain ⟨ss, l, m, rfl, _⟩ := h
    rfl
  · obtain ⟨ss, l, m, rfl, hs, h1, h2, h3, rfl⟩ := h
    refine s_ret (e_andT (e_callB (b_cons (nm 0).eb (b_cons (g_ty (n := "tuple") T.f_tuple).eb b_nil)) (k_isi (T := "tuple") rfl) T.f_isinstance)
      (e_andT (e_chainT (nm 1).eb (e_callB (b_cons (nm 0).eb b_nil) k_lenT T.f_len).eb (nm 2).eb (o_leT (by simpa using h1)) (o_leT (by simpa using h2)))
      (e_one (e_callB (id := "all") (b_cons (f_lc [("name", 3)] (fun _ => .bl true) rfl c_are_names.nd (blkOk_by (N := n_are_names) (sc := defScope s_are_names) (by decide +kernel)) (i_tup (nm 0)) (fun _ _ _ _ _ => tg_nm 3 c_are_names.nd) (fun d hd => ⟨[d], rfl, ?_⟩) ?_).ev.eb b_nil) (k_allT rfl) T.f_all)))) rfl
    · obtain ⟨s, hs', rfl⟩ := List.mem_map.mp hd
      exact fun _ _ _ _ _ => e_call (ok_is_name T) (hr : Room 2 _) (a_cons (nm 3) a_nil) ⟨s, hs s hs', rfl, rfl⟩
    · simp; omega
end
end Pd
end
section
set_option Elab.async false
set_option linter.all false
set_option maxRecDepth 100000
set_option maxHeartbeats 4000000
/-! Df3: statements are well formed. -/
namespace Pd
open PySem PySem.Spec L2 Pz Pt Mi
section
variable {P : Program} {w : World} {K : PySem.W.Frag} {mg : Str → Option Value} {base : Heap}
theorem word5 (s : Sm) (p : Str → Prop) (h : ∀ u ∈ (["read", "write", "get", "put", "show"] : List Str), p u) : p s.word := h _ (by cases s <;> simp [Sm.word])
theorem wne {s : Sm} {t : Str} (h : ∀ u ∈ (["read", "write", "get", "put", "show"] : List Str), u ≠ t := by decide +kernel) : s.word ≠ t := h _ (by cases s <;> simp [Sm.word])
def rest (s : Sm) : List Str := match s with | .rd r x => [r.s, x.s] | .wr x r => [x.s, r.s] | .gt r => [r.s] | .pt r => [r.s] | .sh r => [r.s]
theorem sm_d (s : Sm) : s.d = .tup (.str s.word :: (rest s).map .str) := by cases s <;> rfl
theorem nm7_ok {s : Str} (h : s ∈ nm7) : PyData.strOk s = true := by
  have : ∀ s ∈ nm7, PyData.strOk s = true := by decide +kernel
  exact this s h
theorem rest_nm {s : Sm} : ∀ t ∈ rest s, t ∈ nm7 := by
  intro t h
  cases s <;> simp [rest] at h
  · rcases h with rfl | rfl; exact nm7_rg _; exact nm7_cl _
  · rcases h with rfl | rfl; exact nm7_cl _; exact nm7_rg _
  all_goals subst h; exact nm7_rg _
theorem sh_sm (s : Sm) : Sh 1 s.d := by rw [sm_d]; exact sh_strs (s.word :: rest s) (fun x hx => by
    rcases List.mem_cons.mp hx with rfl | hx
    · exact word5 s (fun u => PyData.strOk u = true) (by decide +kernel)
    · exact nm7_ok (rest_nm x hx))
theorem x_tup0 {X : Cx} {F : Fr} {en : En} {d : D} {xs : List D} : IxD X F en (.tup (d :: xs)) (.int 0) d := x_tup (j := 0) rfl
theorem x_tup1 {X : Cx} {F : Fr} {en : En} {c d : D} {xs : List D} : IxD X F en (.tup (c :: d :: xs)) (.int 1) d := x_tup (j := 1) rfl
theorem x_tup2 {X : Cx} {F : Fr} {en : En} {b c d : D} {xs : List D} : IxD X F en (.tup (b :: c :: d :: xs)) (.int 2) d := x_tup (j := 2) rfl
theorem cut1 (x : D) (xs : List D) : cutD (x :: xs) (some 1) none = xs := cut_hi (x :: xs) 1 (by simp)
def R_is_plain : List D → D → Prop := fun ds d => ∃ s : Sm, ds = [s.d, .bl true] ∧ d = .bl true
theorem ok_is_plain (T : Top w K mg) : Cal P w K mg base 4 "is_plain" R_is_plain := by
  refine cal_ok T.d_is_plain c_is_plain (fun ds d h => ?_) (fun _ _ _ _ _ _ us hl => match us, hl with | [_, _], _ => rfl) (fun f cdv A outer s H E Fm ds d hr h => ?_)
  · obtain ⟨s, rfl, _⟩ := h
    rfl
  · obtain ⟨v, rfl, rfl⟩ := h
    obtain ⟨t1, hSET⟩ := T.z_SET
    obtain ⟨t2, hSHOW⟩ := T.z_SHOW
    obtain ⟨ad, hM, hn, k1, k2, k3, k4⟩ := T.m_SIZES
    rw [sm_d]
    refine s_par2 2 3 rfl c_is_plain.nd (as_v (e_ix (nm 0).eb c_int x_tup0) (as_v ((e_slT (nm 0) (o_some c_int) o_none).is (by rw [cut1])) as_nil)) ?_
    refine s_if0 (t_cmp (nm 2).eb (g_str hSET).eb (o_eqSF wne)) ?_
    have fin : ∀ (n m : Int), (n = (rest v).length) → (m = (rest v).length) → R_are_names [.tup ((rest v).map .str), .int n, .int m] (.bl true) := fun n m h1 h2 => ⟨rest v, n, m, rfl, rest_nm, by omega, by omega, by cases v <;> simp [rest], rfl⟩
    cases v with
    | sh r =>
      refine s_ifT (t_cmp (nm 2).eb (g_str hSHOW).eb (o_eqST rfl)) (s_ret (e_andT (nm 1) (e_one (e_call (ok_are_names T) hr (a_cons (nm 3) (a_cons c_int (a_cons c_int a_nil))) (fin 1 1 rfl rfl)))) rfl)
    | rd r x =>
      refine s_if0 (t_cmp (nm 2).eb (g_str hSHOW).eb (o_eqSF (show ("read" : Str) ≠ "show" by decide))) (s_ret (e_andT (e_cmp (nm 2).eb (g_ref hM).eb (o_inM ⟨_, k1⟩ hn)) (e_one (e_call (ok_are_names T) hr (a_cons (nm 3) (a_cons (e_bin (e_ixM (g_ref hM) (nm 2) k1).eb c_int.eb o_sub) (a_cons (e_bin (e_ixM (g_ref hM) (nm 2) k1).eb c_int.eb o_sub) a_nil))) (fin _ _ rfl rfl)))) rfl)
    | wr x r =>
      refine s_if0 (t_cmp (nm 2).eb (g_str hSHOW).eb (o_eqSF (show ("write" : Str) ≠ "show" by decide))) (s_ret (e_andT (e_cmp (nm 2).eb (g_ref hM).eb (o_inM ⟨_, k2⟩ hn)) (e_one (e_call (ok_are_names T) hr (a_cons (nm 3) (a_cons (e_bin (e_ixM (g_ref hM) (nm 2) k2).eb c_int.eb o_sub) (a_cons (e_bin (e_ixM (g_ref hM) (nm 2) k2).eb c_int.eb o_sub) a_nil))) (fin _ _ rfl rfl)))) rfl)
    | gt r =>
      refine s_if0 (t_cmp (nm 2).eb (g_str hSHOW).eb (o_eqSF (show ("get" : Str) ≠ "show" by decide))) (s_ret (e_andT (e_cmp (nm 2).eb (g_ref hM).eb (o_inM ⟨_, k3⟩ hn)) (e_one (e_call (ok_are_names T) hr (a_cons (nm 3) (a_cons (e_bin (e_ixM (g_ref hM) (nm 2) k3).eb c_int.eb o_sub) (a_cons (e_bin (e_ixM (g_ref hM) (nm 2) k3).eb c_int.eb o_sub) a_nil))) (fin _ _ rfl rfl)))) rfl)
    | pt r =>
      refine s_if0 (t_cmp (nm 2).eb (g_str hSHOW).eb (o_eqSF (show ("put" : Str) ≠ "show" by decide))) (s_ret (e_andT (e_cmp (nm 2).eb (g_ref hM).eb (o_inM ⟨_, k4⟩ hn)) (e_one (e_call (ok_are_names T) hr (a_cons (nm 3) (a_cons (e_bin (e_ixM (g_ref hM) (nm 2) k4).eb c_int.eb o_sub) (a_cons (e_bin (e_ixM (g_ref hM) (nm 2) k4).eb c_int.eb o_sub) a_nil))) (fin _ _ rfl rfl)))) rfl)
def R_is_statement : List D → D → Prop := fun ds d => ∃ (s : Sm) (i : Int), ds = [s.d, .bl true, .int i] ∧ d = .bl true
theorem ok_is_statement (T : Top w K mg) : Cal P w K mg base 5 "is_statement" R_is_statement := by
  refine cal_ok T.d_is_statement c_is_statement (fun ds d h => ?_) (fun _ _ _ _ _ _ us hl => match us, hl with | [_, _, _], _ => rfl) (fun f cdv A outer s H E Fm ds d hr h => ?_)
  · obtain ⟨s, _, rfl, _⟩ := h
    rfl
  · obtain ⟨v, i, rfl, rfl⟩ := h
    obtain ⟨t1, hIF⟩ := T.z_IF
    have hu := hr.units
    have e0 := sm_d v
    have hC : R_is_plain [v.d, .bl true] (.bl true) := ⟨v, rfl, rfl⟩
    rw [e0] at hC ⊢
    refine s_if0 (Ew.t (w_orF (t_notT (t_bool (e_callB (b_cons (nm 0).eb (b_cons (g_ty (n := "tuple") T.f_tuple).eb b_nil)) (k_isi (T := "tuple") rfl) T.f_isinstance)))
      (w_orF (t_cmp (nm 0).eb (e_tup a_nil (by decide)).eb (o_eq_F hu (by rw [← e0]; exact sh_sm v) (sh_strs [] (by simp)) (by simp))) (w_or1 (t_notT (t_bool (e_callB (b_cons (e_ix (nm 0).eb c_int x_tup0).eb (b_cons (g_ty (n := "str") T.f_str).eb b_nil)) (k_isi (T := "str") rfl) T.f_isinstance))))))) ?_
    exact s_ifT (t_cmp (e_ix (nm 0).eb c_int x_tup0).eb (g_str hIF).eb (o_neST wne)) (s_ret (e_call (ok_is_plain T) hr (a_cons (nm 0) (a_cons (nm 1) a_nil)) hC) rfl)
def R_is_level : List D → D → Prop := fun ds d => ∃ (c : List Sm) (i : Int), ds = [codeD c, .bl true, .int i] ∧ c.length ≤ 20 ∧ d = .bl true
theorem ok_is_level (T : Top w K mg) : Cal P w K mg base 6 "is_level" R_is_level := by
  refine cal_ok T.d_is_level c_is_level (fun ds d h => ?_) (fun _ _ _ _ _ _ us hl => match us, hl with | [_, _, _], _ => rfl) (fun f cdv A outer s H E Fm ds d hr h => ?_)
  · obtain ⟨s, _, rfl, _⟩ := h
    rfl
  · obtain ⟨c, i, rfl, hl, rfl⟩ := h
    unfold codeD
    refine s_ret (e_andT (e_callB (b_cons (nm 0).eb (b_cons (g_ty (n := "tuple") T.f_tuple).eb b_nil)) (k_isi (T := "tuple") rfl) T.f_isinstance)
      (e_one (e_callB (id := "all") (b_cons (f_lc [("row", 3)] (fun _ => .bl true) rfl c_is_level.nd (blkOk_by (N := n_is_level) (sc := defScope s_is_level) (by decide +kernel)) (i_tup (nm 0)) (fun _ _ _ _ _ => tg_nm 3 c_is_level.nd) (fun d hd => ⟨[d], rfl, ?_⟩) ?_).ev.eb b_nil) (k_allT rfl) T.f_all))) rfl
    · obtain ⟨s, hs', rfl⟩ := List.mem_map.mp hd
      exact fun _ _ _ _ _ => e_call (ok_is_statement T) (hr : Room 5 _) (a_cons (nm 3) (a_cons (nm 1) (a_cons (nm 2) a_nil))) ⟨s, _, rfl, rfl⟩
    · simp; omega
def R_is_body : List D → D → Prop := fun ds d => ∃ (c : List Sm), ds = [codeD c, .bl true] ∧ c.length ≤ 20 ∧ d = .bl true
theorem ok_is_body (T : Top w K mg) : Cal P w K mg base 7 "is_body" R_is_body := by
  refine cal_ok T.d_is_body c_is_body (fun ds d h => ?_) (fun _ _ _ _ _ _ us hl => match us, hl with | [_, _], _ => rfl) (fun f cdv A outer s H E Fm ds d hr h => ?_)
  · obtain ⟨s, rfl, _⟩ := h
    rfl
  · obtain ⟨c, rfl, hl, rfl⟩ := h
    obtain ⟨t1, hD⟩ := T.i_MAX_DEEP
    exact s_ret (e_call (ok_is_level T) hr (a_cons (nm 0) (a_cons (nm 1) (a_cons (g_int hD) a_nil))) ⟨c, 3, rfl, hl, rfl⟩) rfl
def R_branches : List D → D → Prop := fun ds d => ∃ s : Sm, ds = [s.d] ∧ d = .tup []
theorem ok_branches (T : Top w K mg) : Cal P w K mg base 1 "branches" R_branches := by
  refine cal_ok T.d_branches c_branches (fun ds d h => ?_) (fun _ _ _ _ _ _ us hl => match us, hl with | [_], _ => rfl) (fun f cdv A outer s H E Fm ds d hr h => ?_)
  · obtain ⟨s, rfl, _⟩ := h
    rfl
  · obtain ⟨v, rfl, rfl⟩ := h
    obtain ⟨t1, hIF⟩ := T.z_IF
    rw [sm_d]
    exact s_ret (e_ifF (t_cmp (e_ix (nm 0).eb c_int x_tup0).eb (g_str hIF).eb (o_eqSF wne)) (e_tup a_nil (by decide))) rfl
end
end Pd
end
section
set_option Elab.async false
set_option linter.all false
set_option maxRecDepth 100000
set_option maxHeartbeats 4000000
/-! Df4: sizes, rows. -/
namespace Pd
open PySem PySem.Spec L2 Pz Pt Mi
section
variable {P : Program} {w : World} {K : PySem.W.Frag} {mg : Str → Option Value} {base : Heap}
theorem sum_ones : ∀ n : Nat, (List.replicate n (1 : Int)).sum = (n : Int)
  | 0 => rfl
  | n + 1 => by
    rw [List.replicate_succ, List.sum_cons, sum_ones n]
    omega
def R_size_of : List D → D → Prop := fun ds d => ∃ c : List Sm, ds = [codeD c] ∧ c.length ≤ 20 ∧ d = .int (c.length : Int)
theorem ok_size_of (T : Top w K mg) : Cal P w K mg base 2 "size_of" R_size_of := by
  refine cal_ok T.d_size_of c_size_of (fun ds d h => ?_) (fun _ _ _ _ _ _ us hl => match us, hl with | [_], _ => rfl) (fun f cdv A outer s H E Fm ds d hr h => ?_)
  · obtain ⟨c, rfl, _⟩ := h
    rfl
  · obtain ⟨c, rfl, hl, rfl⟩ := h
    unfold codeD
    refine s_ret (d := .int (c.length : Int)) ?_ rfl
    refine (e_callB (id := "sum") (b_cons (f_lc [("row", 1)] (fun _ => .int 1) rfl c_size_of.nd (blkOk_by (N := n_size_of) (sc := defScope s_size_of) (by decide +kernel)) (i_tup (nm 0)) (fun _ _ _ _ _ => tg_nm 1 c_size_of.nd) (fun d hd => ⟨[d], rfl, ?_⟩) ?_).ev.eb b_nil) ?_ T.f_sum).is (d := .int ((List.replicate c.length (1 : Int)).sum)) ?_
    · obtain ⟨s, hs', rfl⟩ := List.mem_map.mp hd
      exact fun _ _ _ _ _ => (e_bin c_int.eb (e_callB (id := "sum") (b_cons (f_lc (ds := []) [("branch", 2)] (fun d => d) rfl c_size_of.nd (blkOk_by (N := n_size_of) (sc := relS _ (defScope s_size_of)) (by decide +kernel)) (i_tup (e_call (ok_branches T) (hr.mono (by decide) : Room 1 _) (a_cons (nm 1) a_nil) ⟨s, rfl, rfl⟩)) (fun _ _ _ _ _ => tg_nm 2 c_size_of.nd) (fun d hd => absurd hd List.not_mem_nil) (by simp)).ev.eb b_nil) (k_sum (ns := []) rfl) T.f_sum).eb o_add)
    · simp; omega
    · have e : (c.map Sm.d).map (fun _ => D.int 1) = (List.replicate c.length (1 : Int)).map .int := by simp [List.map_const', Function.comp_def]
      rw [e]
      exact k_sum rfl
    · rw [sum_ones]
def R_does_count : List D → D → Prop := fun ds d => ∃ (s : Sm) (ws : List Str), ds = [s.d, .tup (ws.map .str)] ∧ (ws.any fun x => decide (x = s.word)) = false ∧ d = .bl false
theorem ok_does_count (T : Top w K mg) : Cal P w K mg base 1 "does_count" R_does_count := by
  refine cal_ok T.d_does_count c_does_count (fun ds d h => ?_) (fun _ _ _ _ _ _ us hl => match us, hl with | [_, _], _ => rfl) (fun f cdv A outer s H E Fm ds d hr h => ?_)
  · obtain ⟨s, ws, rfl, _⟩ := h
    rfl
  · obtain ⟨v, ws, rfl, hw, rfl⟩ := h
    rw [sm_d]
    exact s_ret (e_andF (e_cmp (e_ix (nm 0).eb c_int x_tup0).eb (nm 1).eb (o_inSk hw))) rfl
def R_most : List D → D → Prop := fun ds d => ∃ (c : List Sm) (t : Str), ds = [codeD c, .tup [.str t]] ∧ c.length ≤ 20 ∧ (∀ u ∈ (["read", "write", "get", "put", "show"] : List Str), u ≠ t) ∧ d = .int 0
theorem ok_most (T : Top w K mg) : Cal P w K mg base 2 "most_on_path" R_most := by
  refine cal_ok T.d_most_on_path c_most_on_path (fun ds d h => ?_) (fun _ _ _ _ _ _ us hl => match us, hl with | [_, _], _ => rfl) (fun f cdv A outer s H E Fm ds d hr h => ?_)
  · obtain ⟨c, t, rfl, _⟩ := h
    rfl
  · obtain ⟨c, t, rfl, hl, ht, rfl⟩ := h
    unfold codeD
    refine s_set 2 c_most_on_path.nd c_int ?_
    refine s_for (fun _ e => e[0]? = some (some (.v (.tup (c.map Sm.d)))) ∧ e[1]? = some (some (.v (.tup [.str t]))) ∧ e[2]? = some (some (.v (.int 0))) ∧ e.length = 6) pnever rfl (i_tup (nm 0)) (tg_nm 3 c_most_on_path.nd) ⟨rfl, rfl, rfl, rfl⟩ (fun i d e hd hP => ?_) (fun e hP => ?_)
    · obtain ⟨e0, e1, e2, e3⟩ := hP
      obtain ⟨v, hv, rfl⟩ := List.mem_map.mp (List.mem_of_getElem? hd)
      match e, e3 with
      | [x0, x1, x2, x3, x4, x5], _ =>
        simp at e0 e1 e2
        subst e0 e1 e2
        refine ⟨_, rfl, ?_⟩
        refine s_lc 4 (ds := []) [("branch", 5)] (fun d => d) rfl c_most_on_path.nd (blkOk_by (N := n_most_on_path) (sc := defScope s_most_on_path) (by decide +kernel)) (i_tup (e_call (ok_branches T) (hr.mono (by decide) : Room 1 _) (a_cons (nm 3) a_nil) ⟨v, rfl, rfl⟩)) (fun _ _ _ _ _ => tg_nm 5 c_most_on_path.nd) (fun d hd => absurd hd List.not_mem_nil) (by simp) ?_
        refine s_frz 4 ?_
        refine s_set 2 c_most_on_path.nd (d := .int (0 + (if false then 1 else 0) + 0)) (e_bin (e_bin (nm 2).eb (e_callT (T := "int") (b_cons (e_call (ok_does_count T) (hr.mono (by decide) : Room 1 _) (a_cons (nm 3) (a_cons (nm 1) a_nil)) ⟨v, [t], rfl, by simpa using fun e => wne (s := v) ht e.symm, rfl⟩).eb b_nil) k_intB T.f_int).eb o_add).eb (e_maxV rfl (nm 4) c_int T.f_max).eb o_add) ?_
        exact s_nil ⟨rfl, rfl, rfl, rfl⟩
    · obtain ⟨e0, e1, e2, e3⟩ := hP
      exact s_ret (nm 2 e2) rfl
end
end Pd
end
section
set_option Elab.async false
set_option linter.all false
set_option maxRecDepth 100000
set_option maxHeartbeats 4000000
/-! Df5: rows of a code, code of threads. -/
namespace Pd
open PySem PySem.Spec L2 Pz Pt Mi
section
variable {P : Program} {w : World} {K : PySem.W.Frag} {mg : Str → Option Value} {base : Heap}
theorem x_sm0 {X : Cx} {F : Fr} {en : En} (s : Sm) : IxD X F en s.d (.int 0) (.str s.word) := by rw [sm_d]; exact x_tup0
def R_paths_fit : List D → D → Prop := fun ds d => ∃ c : List Sm, ds = [codeD c, .non, .int 6, .int 6] ∧ c.length ≤ 20 ∧ d = .bl true
theorem ok_paths_fit (T : Top w K mg) : Cal P w K mg base 3 "paths_fit" R_paths_fit := by
  refine cal_ok T.d_paths_fit c_paths_fit (fun ds d h => ?_) (fun _ _ _ _ _ _ us hl => match us, hl with | [_, _, _, _], _ => rfl) (fun f cdv A outer s H E Fm ds d hr h => ?_)
  · obtain ⟨c, rfl, _⟩ := h
    rfl
  · obtain ⟨c, rfl, hl, rfl⟩ := h
    obtain ⟨t1, hG⟩ := T.z_GET_stretches
    obtain ⟨t2, hP⟩ := T.z_PUT
    obtain ⟨t3, hI⟩ := T.z_IF
    obtain ⟨t4, hS⟩ := T.z_SET
    refine s_for (ds := [.tup [.non, .tup [.str "get", .str "put"]], .tup [.int 6, .tup [.str "if"]], .tup [.int 6, .tup [.str "set"]]]) (fun _ e => e[0]? = some (some (.v (codeD c))) ∧ e.length = 6) pnever rfl
      (i_tup (e_tup (a_cons (e_tup (a_cons (nm 1) (a_cons (e_tup (a_cons (g_str hG) (a_cons (g_str hP) a_nil)) (by decide)) a_nil)) (by decide)) (a_cons (e_tup (a_cons (nm 2) (a_cons (e_tup (a_cons (g_str hI) a_nil) (by decide)) a_nil)) (by decide))
        (a_cons (e_tup (a_cons (nm 3) (a_cons (e_tup (a_cons (g_str hS) a_nil) (by decide)) a_nil)) (by decide)) a_nil))) (by decide)))
      (tg_tup (is := [4, 5]) rfl (gs_cons 4 c_paths_fit.nd (gs_cons 5 c_paths_fit.nd gs_nil))) ⟨rfl, rfl⟩ (fun i d e hd hP => ?_) (fun e hP => ?_)
    · obtain ⟨e0, e3⟩ := hP
      match e, e3 with
      | [x0, x1, x2, x3, x4, x5], _ =>
        simp at e0
        subst e0
        match i, hd with
        | 0, hd =>
          cases hd
          exact ⟨_, rfl, s_if0 (Ew.t (w_andF (t_cmp (nm 4).eb c_non.eb o_notNn))) (s_nil ⟨rfl, rfl⟩)⟩
        | 1, hd =>
          cases hd
          exact ⟨_, rfl, s_if0 (Ew.t (w_andT (t_cmp (nm 4).eb c_non.eb (o_notN (by simp))) (w_and1 (t_cmp (e_call (ok_most T) (hr : Room 2 _) (a_cons (nm 0) (a_cons (nm 5) a_nil)) ⟨c, _, rfl, hl, by decide +kernel, rfl⟩).eb (nm 4).eb (o_gtF (by decide)))))) (s_nil ⟨rfl, rfl⟩)⟩
        | 2, hd =>
          cases hd
          exact ⟨_, rfl, s_if0 (Ew.t (w_andT (t_cmp (nm 4).eb c_non.eb (o_notN (by simp))) (w_and1 (t_cmp (e_call (ok_most T) (hr : Room 2 _) (a_cons (nm 0) (a_cons (nm 5) a_nil)) ⟨c, _, rfl, hl, by decide +kernel, rfl⟩).eb (nm 4).eb (o_gtF (by decide)))))) (s_nil ⟨rfl, rfl⟩)⟩
    · exact s_ret c_bl rfl
def R_rows_from : List D → D → Prop := fun ds d => ∃ c : List Sm, ds = [codeD c, .int 0, .int (c.length : Int)] ∧ c.length ≤ 20 ∧ d = rowsD c
theorem ok_rows_from (T : Top w K mg) : Cal P w K mg base 3 "rows_from" R_rows_from := by
  refine cal_ok T.d_rows_from c_rows_from (fun ds d h => ?_) (fun _ _ _ _ _ _ us hl => match us, hl with | [_, _, _], _ => rfl) (fun f cdv A outer s H E Fm ds d hr h => ?_)
  · obtain ⟨c, rfl, _⟩ := h
    rfl
  · obtain ⟨c, rfl, hl, rfl⟩ := h
    obtain ⟨t3, hI⟩ := T.z_IF
    refine s_par2 3 4 rfl c_rows_from.nd (as_o (f_lst a_nil (by decide)) (as_v (nm 1) as_nil)) ?_
    refine s_for (ds := enumD 0 (c.map Sm.d)) (fun i e => e[0]? = some (some (.v (codeD c))) ∧ e[2]? = some (some (.v (.int (c.length : Int)))) ∧ e[3]? = some (some (.own (.lst (rowsL 0 (c.take i))))) ∧ e[4]? = some (some (.v (.int (i : Int)))) ∧ e.length = 10) pnever rfl
      (i_enumT (a_cons (nm 0) a_nil) T.f_enumerate) (tg_tup (is := [5, 6]) rfl (gs_cons 5 c_rows_from.nd (gs_cons 6 c_rows_from.nd gs_nil))) ⟨rfl, rfl, rfl, rfl, rfl⟩ (fun i d e hd hP => ?_) (fun e hP => ?_)
    · obtain ⟨e0, e1, e2, e4, e3⟩ := hP
      obtain ⟨x, hx, rfl⟩ := enumD_get hd
      rw [List.getElem?_map] at hx
      obtain ⟨v, hv, rfl⟩ := Option.map_eq_some_iff.mp hx
      have hi : i < c.length := (List.getElem?_eq_some_iff.mp hv).1
      match e, e3 with
      | [x0, x1, x2, x3, x4, x5, x6, x7, x8, x9], _ =>
        simp at e0 e1 e2 e4
        subst e0 e1 e2 e4
        refine ⟨_, rfl, ?_⟩
        have q1 : ((i : Int) + (([v].length : Nat) : Int)) = (i : Int) + 1 := rfl
        refine s_set 7 c_rows_from.nd (d := .int ((i : Int) + 1)) (e_bin (nm 4).eb (e_call (ok_size_of T) (hr : Room 2 _) (a_cons (e_tup (a_cons (nm 6) a_nil) (sz_le (by simp))) a_nil) ⟨[v], rfl, by simp, rfl⟩).eb (o_add.is (by rw [q1]))) ?_
        refine s_set 8 c_rows_from.nd (d := .int ((i : Int) + 1)) ?_ ?_
        · by_cases hz : i + 1 = c.length
          · refine (e_ifT (t_cmp (e_bin (nm 5).eb c_int.eb o_add).eb (e_callB (b_cons (nm 0).eb b_nil) k_lenT T.f_len).eb (o_eqIT ?_)) (nm 2)).is ?_
            · simp; omega
            · congr 1; omega
          · refine e_ifF (t_cmp (e_bin (nm 5).eb c_int.eb o_add).eb (e_callB (b_cons (nm 0).eb b_nil) k_lenT T.f_len).eb (o_eqIF ?_)) (nm 7)
            simp; omega
        · refine s_ifF (t_cmp (e_ix (nm 6).eb c_int (x_sm0 v)).eb (g_str hI).eb (o_eqSF wne)) ?_
          refine s_app (xs := rowsL 0 (c.take i)) 3 (e_tup (a_cons (nm 6) (a_cons (nm 8) (a_cons c_non a_nil))) (sz_le (by simp))) ?_ (by rw [rowsL_len, List.length_take]; omega)
          refine s_nil (s_set 4 c_rows_from.nd (nm 7) (s_nil ⟨rfl, rfl, ?_, ?_, rfl⟩))
          · have et : c.take (i + 1) = c.take i ++ [v] := by rw [List.take_add_one, hv]; rfl
            show some (some (Sl.own (D.lst (rowsL 0 (c.take i) ++ [D.tup [v.d, D.int ((i : Int) + 1), D.non]])))) = _
            rw [et, rowsL_app]
            simp [rowD, Nat.min_eq_left (Nat.le_of_lt hi)]
          · exact congrArg (fun z => some (some (Sl.v (D.int z)))) (Int.natCast_succ i).symm
    · obtain ⟨e0, e1, e2, e4, e3⟩ := hP
      match e, e3 with
      | [x0, x1, x2, x3, x4, x5, x6, x7, x8, x9], _ =>
        simp at e0 e1 e2 e4
        rw [enumD_len, List.length_map, List.take_length] at e2
        subst e2
        exact s_frz 3 (s_ret (nm 3) rfl)
def R_rows_of : List D → D → Prop := fun ds d => ∃ c : List Sm, ds = [codeD c] ∧ c.length ≤ 20 ∧ d = rowsD c
theorem ok_rows_of (T : Top w K mg) : Cal P w K mg base 4 "rows_of" R_rows_of := by
  refine cal_ok T.d_rows_of c_rows_of (fun ds d h => ?_) (fun _ _ _ _ _ _ us hl => match us, hl with | [_], _ => rfl) (fun f cdv A outer s H E Fm ds d hr h => ?_)
  · obtain ⟨c, rfl, _⟩ := h
    rfl
  · obtain ⟨c, rfl, hl, rfl⟩ := h
    exact s_ret (e_call (ok_rows_from T) hr (a_cons (nm 0) (a_cons c_int (a_cons (e_call (ok_size_of T) (hr.mono (by decide)) (a_cons (nm 0) a_nil) ⟨c, rfl, hl, rfl⟩) a_nil))) ⟨c, rfl, hl, rfl⟩) rfl
def R_thread_code : List D → D → Prop := fun ds d => ∃ c : List Sm, ds = [codeD c] ∧ c.length ≤ 20 ∧ d = .bl true
theorem ok_thread_code (T : Top w K mg) : Cal P w K mg base 8 "is_thread_code" R_thread_code := by
  refine cal_ok T.d_is_thread_code c_is_thread_code (fun ds d h => ?_) (fun _ _ _ _ _ _ us hl => match us, hl with | [_], _ => rfl) (fun f cdv A outer s H E Fm ds d hr h => ?_)
  · obtain ⟨c, rfl, _⟩ := h
    rfl
  · obtain ⟨c, rfl, hl, rfl⟩ := h
    obtain ⟨t1, hC⟩ := T.i_MAX_CODE
    obtain ⟨t2, hA⟩ := T.i_MAX_ASKED
    refine s_if0 (Ew.t (w_orF (t_notT (t_bool (e_call (ok_is_body T) hr (a_cons (nm 0) (a_cons c_bl a_nil)) ⟨c, rfl, hl, rfl⟩))) (w_or1 (t_cmp (e_call (ok_size_of T) (hr.mono (by decide)) (a_cons (nm 0) a_nil) ⟨c, rfl, hl, rfl⟩).eb (g_int hC).eb (o_gtF (by omega)))))) ?_
    exact s_ret (e_call (ok_paths_fit T) (hr.mono (by decide)) (a_cons (nm 0) (a_cons c_non (a_cons (g_int hA) (a_cons (g_int hA) a_nil)))) ⟨c, rfl, hl, rfl⟩) rfl
def R_empty : List D → D → Prop := fun ds d => ds = [dk []] ∧ d = .bl true
theorem ok_are_contents (T : Top w K mg) : Cal P w K mg base 1 "are_contents" R_empty := by
  refine cal_ok T.d_are_contents c_are_contents (fun ds d h => ?_) (fun _ _ _ _ _ _ us hl => match us, hl with | [_], _ => rfl) (fun f cdv A outer s H E Fm ds d hr h => ?_)
  · obtain ⟨rfl, _⟩ := h
    rfl
  · obtain ⟨rfl, rfl⟩ := h
    refine s_if0 (t_notT (t_bool (e_callB (b_cons (nm 0).eb (b_cons (g_ty (n := "dict") T.f_dict).eb b_nil)) (k_isi (T := "dict") rfl) T.f_isinstance))) ?_
    exact s_ret (e_callB (id := "all") (b_cons (f_lc (ds := []) [("cell", 1)] (fun d => d) rfl c_are_contents.nd (blkOk_by (N := n_are_contents) (sc := defScope s_are_contents) (by decide +kernel)) (i_dict (kvs := []) (nm 0)) (fun _ _ _ _ _ => tg_nm 1 c_are_contents.nd) (fun d hd => absurd hd List.not_mem_nil) (by simp)).ev.eb b_nil) (k_all (bs := []) rfl) T.f_all) rfl
theorem ok_are_answers (T : Top w K mg) : Cal P w K mg base 1 "are_answers" R_empty := by
  refine cal_ok T.d_are_answers c_are_answers (fun ds d h => ?_) (fun _ _ _ _ _ _ us hl => match us, hl with | [_], _ => rfl) (fun f cdv A outer s H E Fm ds d hr h => ?_)
  · obtain ⟨rfl, _⟩ := h
    rfl
  · obtain ⟨rfl, rfl⟩ := h
    refine s_if0 (t_notT (t_bool (e_callB (b_cons (nm 0).eb (b_cons (g_ty (n := "dict") T.f_dict).eb b_nil)) (k_isi (T := "dict") rfl) T.f_isinstance))) ?_
    exact s_ret (e_callB (id := "all") (b_cons (f_lc (ds := []) [("asked", 1)] (fun d => d) rfl c_are_answers.nd (blkOk_by (N := n_are_answers) (sc := defScope s_are_answers) (by decide +kernel)) (i_dict (kvs := []) (nm 0)) (fun _ _ _ _ _ => tg_nm 1 c_are_answers.nd) (fun d hd => absurd hd List.not_mem_nil) (by simp)).ev.eb b_nil) (k_all (bs := []) rfl) T.f_all) rfl
def R_require_threads : List D → D → Prop := fun ds d => ∃ p : List (List Sm), ds = [.tup (p.map codeD)] ∧ Okp p ∧ d = .non
theorem ok_require_threads (T : Top w K mg) : Cal P w K mg base 9 "require_threads" R_require_threads := by
  refine cal_ok T.d_require_threads c_require_threads (fun ds d h => ?_) (fun _ _ _ _ _ _ us hl => match us, hl with | [_], _ => rfl) (fun f cdv A outer s H E Fm ds d hr h => ?_)
  · obtain ⟨c, rfl, _⟩ := h
    rfl
  · obtain ⟨p, rfl, hp, rfl⟩ := h
    obtain ⟨t1, hM⟩ := T.i_MAX_THREADS
    refine s_if0 (Ew.t (w_orF (t_notT (t_bool (e_callB (b_cons (nm 0).eb (b_cons (g_ty (n := "tuple") T.f_tuple).eb b_nil)) (k_isi (T := "tuple") rfl) T.f_isinstance)))
      (w_or1 (t_notT (t_chainT c_int.eb (e_callB (b_cons (nm 0).eb b_nil) k_lenT T.f_len).eb (g_int hM).eb (o_leT ?_) (o_leT ?_)))))) ?_
    · have := hp.two.1; simp; omega
    · have := hp.two.2; simp; omega
    · refine s_if0 (t_notT (t_bool (e_callB (id := "all") (b_cons (f_lc [("code", 1)] (fun _ => .bl true) rfl c_require_threads.nd (blkOk_by (N := n_require_threads) (sc := defScope s_require_threads) (by decide +kernel)) (i_tup (nm 0)) (fun _ _ _ _ _ => tg_nm 1 c_require_threads.nd) (fun d hd => ⟨[d], rfl, ?_⟩) ?_).ev.eb b_nil) (k_allT rfl) T.f_all))) (s_nil rfl)
      · obtain ⟨c, hc, rfl⟩ := List.mem_map.mp hd
        exact fun _ _ _ _ _ => e_call (ok_thread_code T) (hr : Room 8 _) (a_cons (nm 1) a_nil) ⟨c, rfl, hp.short c hc, rfl⟩
      · have := hp.two.2; simp; omega
end
end Pd
end
section
set_option Elab.async false
set_option linter.all false
set_option maxRecDepth 100000
set_option maxHeartbeats 4000000
/-! Df6: what stands next in a state; clashes. -/
namespace Pd
open PySem PySem.Spec L2 Pz Pt Mi
/-- the class Program over the written part -/
structure PCls (K : PySem.W.Frag) (C : Addr) : Prop where
  cls : Cls K C
  ha : PySem.W.findIn K (.ref C) "__class__" = some (some (.builtin "object.__class__"))
  hn : PySem.W.specialIn K (.builtin "object.__class__") "__get__" = some (some (.builtin "getset_descriptor.__get__"))
  htk : PySem.W.takesIn K (.builtin "object.__class__") = some true
  hm : PySem.W.mroIn K C (.type "object") = some true
  kit : PySem.W.kitOne K (.ref C) (.ref C) = some true
  no : ∀ f ∈ (["own_threads", "own_cells", "own_answers", "own_rows", "own_registers", "own_names"] : List Str), NoAttr K C f
section
variable {P : Program} {w : World} {K : PySem.W.Frag} {mg : Str → Option Value} {base : Heap} {CP : Addr}
theorem Ev.cast {X : Cx} {F : Fr} {en : En} {e : Expr} {d d' : D} (h : Ev X F en e d) (k : d = d') : Ev X F en e d' := k ▸ h
section
variable {X : Cx} {F : Fr} {en : En} {o : Expr} {p : Prg} {pos : Pos}
theorem e_threads (hC : PCls X.K CP) (h : Eb X F en o (progD CP p)) (hb : attributeBase o "own_threads" X.env (eval o X.env) = eval o X.env := by rfl) : Ev X F en (.Attribute o "own_threads" pos) (.tup (p.map codeD)) := e_fld h rfl hC.cls (hC.no _ (by decide +kernel)) hb
theorem e_cells (hC : PCls X.K CP) (h : Eb X F en o (progD CP p)) (hb : attributeBase o "own_cells" X.env (eval o X.env) = eval o X.env := by rfl) : Ev X F en (.Attribute o "own_cells" pos) (dk []) := e_fld h rfl hC.cls (hC.no _ (by decide +kernel)) hb
theorem e_rows (hC : PCls X.K CP) (h : Eb X F en o (progD CP p)) (hb : attributeBase o "own_rows" X.env (eval o X.env) = eval o X.env := by rfl) : Ev X F en (.Attribute o "own_rows" pos) (.lst (p.map rowsD)) := e_fld h rfl hC.cls (hC.no _ (by decide +kernel)) hb
theorem e_regs (hC : PCls X.K CP) (h : Eb X F en o (progD CP p)) (hb : attributeBase o "own_registers" X.env (eval o X.env) = eval o X.env := by rfl) : Ev X F en (.Attribute o "own_registers" pos) (.lst (p.map fun c => .tup ((regsOf c).map fun r => .str r.s))) := e_fld h rfl hC.cls (hC.no _ (by decide +kernel)) hb
theorem e_names (hC : PCls X.K CP) (h : Eb X F en o (progD CP p)) (hb : attributeBase o "own_names" X.env (eval o X.env) = eval o X.env := by rfl) : Ev X F en (.Attribute o "own_names" pos) (.ntp (((cellsOf p).map Cl.s).map .str)) := e_fld h rfl hC.cls (hC.no _ (by decide +kernel)) hb
theorem x_rows {t : Nat} (h : t < p.length) : IxD X F en (.lst (p.map rowsD)) (.int (t : Int)) (rowsD (code p t)) := x_lst (by rw [List.getElem?_map, code_at h]; rfl)
theorem x_regs {t : Nat} (h : t < p.length) : IxD X F en (.lst (p.map fun c => .tup ((regsOf c).map fun r => .str r.s))) (.int (t : Int)) (.tup ((regsOf (code p t)).map fun r => .str r.s)) := x_lst (by rw [List.getElem?_map, code_at h]; rfl)
theorem x_rng {n t : Nat} {f : Nat → D} (h : t < n) : IxD X F en (rowsOf n f) (.int (t : Int)) (f t) := x_tup (range_at f h)
theorem x_st0 {s : Sta} : IxD X F en (s.d p) (.int 0) (rowsOf p.length fun t => .int (s.pos t : Int)) := x_tup (j := 0) rfl
theorem x_st1 {s : Sta} : IxD X F en (s.d p) (.int 1) (rowsOf p.length fun t => regD (code p t) (s.reg t)) := x_tup (j := 1) rfl
theorem x_st2 {s : Sta} : IxD X F en (s.d p) (.int 2) (.tup ((cellsOf p).map fun x => strD (s.con x))) := x_tup (j := 2) rfl
theorem x_st3 {s : Sta} : IxD X F en (s.d p) (.int 3) (rowsOf p.length fun t => valsD (s.lin t)) := x_tup (j := 3) rfl
theorem x_st4 {s : Sta} : IxD X F en (s.d p) (.int 4) (rowsOf p.length fun t => valsD (s.shw t)) := x_tup (j := 4) rfl
end
def R_next (CP : Addr) : List D → D → Prop := fun ds d => ∃ (p : Prg) (s : Sta) (t : Nat), ds = [progD CP p, s.d p, .int (t : Int)] ∧ t < p.length ∧ d = smO (nxt p s t)
theorem ok_next (T : Top w K mg) (hC : PCls K CP) : Cal P w K mg base 1 "next_statement" (R_next CP) := by
  refine cal_ok T.d_next_statement c_next_statement (fun ds d h => ?_) (fun _ _ _ _ _ _ us hl => match us, hl with | [_, _, _], _ => rfl) (fun f cdv A outer s H E Fm ds d hr h => ?_)
  · obtain ⟨p, s, t, rfl, _⟩ := h
    rfl
  · obtain ⟨p, st, t, rfl, ht, rfl⟩ := h
    refine s_par2 3 4 rfl c_next_statement.nd (as_v (e_ix (e_rows hC (nm 0).eb).eb (nm 2) (x_rows ht)) (as_v (e_ix (e_ix (nm 1).eb c_int x_st0).eb (nm 2) (x_rng ht)) as_nil)) ?_
    by_cases hlt : st.pos t < (code p t).length
    · have e1 : nxt p st t = some (code p t)[st.pos t] := List.getElem?_eq_getElem hlt
      rw [e1]
      refine s_ret (e_ifT (t_cmp (nm 4).eb (e_callB (b_cons (nm 3).eb b_nil) k_len T.f_len).eb (o_ltT ?_)) (e_ix (e_ix (nm 3).eb (nm 4) (x_lst (rowsL_get (i := 0) e1))).eb c_int x_tup0)) rfl
      rw [rowsL_len]; omega
    · have e1 : nxt p st t = none := List.getElem?_eq_none (by omega)
      rw [e1]
      refine s_ret (e_ifF (t_cmp (nm 4).eb (e_callB (b_cons (nm 3).eb b_nil) k_len T.f_len).eb (o_ltF ?_)) c_non) rfl
      rw [rowsL_len]; omega
def R_cell_of : List D → D → Prop := fun ds d => ∃ m : Sm, ds = [m.d] ∧ d = (match m.cell with | some x => .str x.s | none => .non)
theorem ok_cell_of (T : Top w K mg) : Cal P w K mg base 1 "cell_of" R_cell_of := by
  refine cal_ok T.d_cell_of c_cell_of (fun ds d h => ?_) (fun _ _ _ _ _ _ us hl => match us, hl with | [_], _ => rfl) (fun f cdv A outer s H E Fm ds d hr h => ?_)
  · obtain ⟨m, rfl, _⟩ := h
    rfl
  · obtain ⟨m, rfl, rfl⟩ := h
    cases m with
    | rd r x => exact s_ifT (t_cmp (e_ix (nm 0).eb c_int (x_sm0 (.rd r x))).eb c_str.eb (o_eqST rfl)) (s_ret (e_ix (nm 0).eb c_int x_tup2) rfl)
    | wr x r => exact s_if0 (t_cmp (e_ix (nm 0).eb c_int (x_sm0 (.wr x r))).eb c_str.eb (o_eqSF (show ("write" : Str) ≠ "read" by decide))) (s_ret (e_ifT (t_cmp (e_ix (nm 0).eb c_int (x_sm0 (.wr x r))).eb c_str.eb (o_eqST rfl)) (e_ix (nm 0).eb c_int x_tup1)) rfl)
    | gt r => exact s_if0 (t_cmp (e_ix (nm 0).eb c_int (x_sm0 (.gt r))).eb c_str.eb (o_eqSF (show ("get" : Str) ≠ "read" by decide))) (s_ret (e_ifF (t_cmp (e_ix (nm 0).eb c_int (x_sm0 (.gt r))).eb c_str.eb (o_eqSF (show ("get" : Str) ≠ "write" by decide))) c_non) rfl)
    | pt r => exact s_if0 (t_cmp (e_ix (nm 0).eb c_int (x_sm0 (.pt r))).eb c_str.eb (o_eqSF (show ("put" : Str) ≠ "read" by decide))) (s_ret (e_ifF (t_cmp (e_ix (nm 0).eb c_int (x_sm0 (.pt r))).eb c_str.eb (o_eqSF (show ("put" : Str) ≠ "write" by decide))) c_non) rfl)
    | sh r => exact s_if0 (t_cmp (e_ix (nm 0).eb c_int (x_sm0 (.sh r))).eb c_str.eb (o_eqSF (show ("show" : Str) ≠ "read" by decide))) (s_ret (e_ifF (t_cmp (e_ix (nm 0).eb c_int (x_sm0 (.sh r))).eb c_str.eb (o_eqSF (show ("show" : Str) ≠ "write" by decide))) c_non) rfl)
theorem acc_any (m : Sm) : ((["read", "write"] : List Str).any fun x => decide (x = m.word)) = m.cell.isSome := by
  have h : (((["read", "write"] : List Str).any fun x => decide (x = "read")) = true) ∧ (((["read", "write"] : List Str).any fun x => decide (x = "write")) = true) ∧ (((["read", "write"] : List Str).any fun x => decide (x = "get")) = false) ∧ (((["read", "write"] : List Str).any fun x => decide (x = "put")) = false) ∧ (((["read", "write"] : List Str).any fun x => decide (x = "show")) = false) := by decide +kernel
  cases m
  · exact h.1
  · exact h.2.1
  · exact h.2.2.1
  · exact h.2.2.2.1
  · exact h.2.2.2.2
def R_step_of : List D → D → Prop := fun ds d => ∃ m : Option Sm, ds = [smO m] ∧ d = stepD m
theorem smO_non {m : Sm} : smO (some m) ≠ .non := by cases m <;> exact fun h => nomatch h
theorem x_smo {X : Cx} {F : Fr} {en : En} (m : Sm) : IxD X F en (smO (some m)) (.int 0) (.str m.word) := x_sm0 m
theorem ok_step_of (T : Top w K mg) : Cal P w K mg base 2 "step_of" R_step_of := by
  refine cal_ok T.d_step_of c_step_of (fun ds d h => ?_) (fun _ _ _ _ _ _ us hl => match us, hl with | [_], _ => rfl) (fun f cdv A outer s H E Fm ds d hr h => ?_)
  · obtain ⟨m, rfl, _⟩ := h
    rfl
  · obtain ⟨m, rfl, rfl⟩ := h
    obtain ⟨a, ha, hw⟩ := T.t_ACCESSES
    cases m with
    | none => exact s_ifT (t_cmp (nm 0).eb c_non.eb o_isNn) (s_ret c_non rfl)
    | some m =>
      refine s_if0 (t_cmp (nm 0).eb c_non.eb (o_isN smO_non)) ?_
      cases hc : m.cell with
      | none =>
        refine s_ret ((e_ifF (t_cmp (e_ix (nm 0).eb c_int (x_smo m)).eb (g_strs ha hw).eb (o_inSk (by rw [acc_any, hc]; rfl))) (e_tup (a_cons (e_ix (nm 0).eb c_int (x_smo m)) a_nil) (sz_le (by simp))))) ?_
        show _ = stepD (some m)
        unfold stepD
        simp only [hc]
      | some x =>
        refine s_ret ((e_ifT (t_cmp (e_ix (nm 0).eb c_int (x_smo m)).eb (g_strs ha hw).eb (o_inSk (by rw [acc_any, hc]; rfl))) (e_tup (a_cons (e_ix (nm 0).eb c_int (x_smo m)) (a_cons (e_call (ok_cell_of T) hr (a_cons (nm 0) a_nil) ⟨m, rfl, rfl⟩) a_nil)) (sz_le (by simp))))) ?_
        show _ = stepD (some m)
        unfold stepD
        simp only [hc]
def R_steps_in (CP : Addr) : List D → D → Prop := fun ds d => ∃ (p : Prg) (s : Sta), ds = [progD CP p, s.d p] ∧ p.length ≤ 3 ∧ d = rowsOf p.length fun t => stepD (nxt p s t)
theorem rangeD_map (n : Nat) (g : D → D) : (rangeD 0 n).map g = (List.range n).map fun t : Nat => g (.int (t : Int)) := by
  unfold rangeD
  rw [List.map_map]
  exact List.map_congr_left fun t _ => by simp
theorem rangeD_mem {n : Nat} {d : D} (h : d ∈ rangeD 0 n) : ∃ t : Nat, t < n ∧ d = .int (t : Int) := by
  obtain ⟨i, hi⟩ := List.mem_iff_getElem?.mp h
  obtain ⟨h1, h2⟩ := rangeD_get hi
  exact ⟨i, h1, by rw [h2]; simp⟩
theorem rangeD_len (lo : Int) (n : Nat) : (rangeD lo n).length = n := by simp [rangeD]
/-- what stands for a number -/
def ofInt (f : Nat → D) : D → D
  | .int i => f i.toNat
  | d => d
theorem ok_steps_in (T : Top w K mg) (hC : PCls K CP) : Cal P w K mg base 3 "steps_in" (R_steps_in CP) := by
  refine cal_ok T.d_steps_in c_steps_in (fun ds d h => ?_) (fun _ _ _ _ _ _ us hl => match us, hl with | [_, _], _ => rfl) (fun f cdv A outer s H E Fm ds d hr h => ?_)
  · obtain ⟨p, s, rfl, _⟩ := h
    rfl
  · obtain ⟨p, st, rfl, hp, rfl⟩ := h
    refine s_ret (e_callT (T := "tuple") (b_cons (f_lc (ds := rangeD 0 p.length) [("at", 2)] (ofInt fun t => stepD (nxt p st t)) rfl c_steps_in.nd (blkOk_by (N := n_steps_in) (sc := defScope s_steps_in) (by decide +kernel)) (i_range1 (a_cons ((e_callB (b_cons (e_threads hC (nm 0).eb).eb b_nil) k_lenT T.f_len).is (by rw [List.length_map])) a_nil) T.f_range (by omega)) (fun _ _ _ _ _ => tg_nm 2 c_steps_in.nd) (fun d hd => ⟨[d], rfl, ?_⟩) ?_).ev.eb b_nil) k_tuple T.f_tuple) ?_
    · obtain ⟨t, ht, rfl⟩ := rangeD_mem hd
      exact fun _ _ _ _ _ => e_call (ok_step_of T) (hr : Room 2 _) (a_cons (e_call (ok_next T hC) (hr.mono (by decide) : Room 1 _) (a_cons (nm 0) (a_cons (nm 1) (a_cons (nm 2) a_nil))) ⟨p, st, t, rfl, ht, rfl⟩) a_nil) ⟨_, rfl, rfl⟩
    · rw [rangeD_len]; omega
    · unfold rowsOf
      rw [rangeD_map]
      rfl
def R_is_possible (CP : Addr) : List D → D → Prop := fun ds d => ∃ (p : Prg) (s : Sta) (t : Nat), ds = [progD CP p, s.d p, .int (t : Int)] ∧ t < p.length ∧ d = .bl (can p s t)
theorem vl_ok (v : Vl) : PyData.strOk v.s = true := by cases v <;> decide +kernel
theorem sh_vals (vs : List Vl) : Sh 1 (valsD vs) := .tup fun d hd => by
  obtain ⟨v, _, rfl⟩ := List.mem_map.mp hd
  exact .str (vl_ok v)
theorem sh_nil : Sh 1 (.tup []) := .tup fun _ h => nomatch h
theorem ok_is_possible (T : Top w K mg) (hC : PCls K CP) : Cal P w K mg base 2 "is_possible" (R_is_possible CP) := by
  refine cal_ok T.d_is_possible c_is_possible (fun ds d h => ?_) (fun _ _ _ _ _ _ us hl => match us, hl with | [_, _, _], _ => rfl) (fun f cdv A outer s H E Fm ds d hr h => ?_)
  · obtain ⟨p, s, t, rfl, _⟩ := h
    rfl
  · obtain ⟨p, st, t, rfl, ht, rfl⟩ := h
    have hu := hr.units
    refine s_set 3 c_is_possible.nd (e_call (ok_next T hC) hr (a_cons (nm 0) (a_cons (nm 1) (a_cons (nm 2) a_nil))) ⟨p, st, t, rfl, ht, rfl⟩) ?_
    cases hm : nxt p st t with
    | none =>
      refine s_ret (e_andF (e_cmp (nm 3).eb c_non.eb o_notNn)) ?_
      simp [can, hm]
    | some m =>
      by_cases hw : m.word = "get"
      · cases m with
        | gt r =>
          have hc : can p st t = !(st.lin t).isEmpty := by simp [can, hm]
          rw [hc]
          refine s_ret (e_andT (e_cmp (nm 3).eb c_non.eb (o_notN smO_non)) (e_one (e_orF (e_cmp (e_ix (nm 3).eb c_int (x_smo (.gt r))).eb c_str.eb (o_neSF rfl)) (e_one (e_cmp (z := .bl (!(st.lin t).isEmpty)) (e_ix (e_ix (nm 1).eb c_int x_st3).eb (nm 2) (x_rng ht)).eb (e_tup a_nil (by decide)).eb ?_))))) rfl
          cases hl : st.lin t with
          | nil => exact o_ne_F hu (sh_vals []) rfl
          | cons v vs => exact o_ne_T hu (sh_vals (v :: vs)) sh_nil (by simp [valsD])
        | rd r x => exact absurd hw (show ("read" : Str) ≠ "get" by decide)
        | wr r x => exact absurd hw (show ("write" : Str) ≠ "get" by decide)
        | pt r => exact absurd hw (show ("put" : Str) ≠ "get" by decide)
        | sh r => exact absurd hw (show ("show" : Str) ≠ "get" by decide)
      · refine s_ret (e_andT (e_cmp (nm 3).eb c_non.eb (o_notN smO_non)) (e_one (e_orT (e_cmp (e_ix (nm 3).eb c_int (x_smo m)).eb c_str.eb (o_neST hw))))) ?_
        cases m with
        | gt r => exact absurd rfl hw
        | _ => simp [can, hm]
def intsD (ns : List Nat) : D := .tup (ns.map fun n : Nat => .int (n : Int))
def R_ready_in (CP : Addr) : List D → D → Prop := fun ds d => ∃ (p : Prg) (s : Sta), ds = [progD CP p, s.d p] ∧ p.length ≤ 3 ∧ d = intsD (ready p s)
theorem picked_range {n : Nat} {q : Nat → Bool} : picked (fun d => match d with | .int i => q i.toNat | _ => false) (fun d => d) (rangeD 0 n) = ((List.range n).filter q).map fun t : Nat => .int (t : Int) := by
  unfold picked rangeD
  rw [List.map_id', List.filter_map]
  have e : ((fun d : D => match d with | .int i => q i.toNat | _ => false) ∘ fun i : Nat => D.int (0 + (i : Int))) = q := by
    funext i
    simp
  rw [e]
  exact List.map_congr_left fun t _ => by simp
theorem ok_ready_in (T : Top w K mg) (hC : PCls K CP) : Cal P w K mg base 3 "ready_in" (R_ready_in CP) := by
  refine cal_ok T.d_ready_in c_ready_in (fun ds d h => ?_) (fun _ _ _ _ _ _ us hl => match us, hl with | [_, _], _ => rfl) (fun f cdv A outer s H E Fm ds d hr h => ?_)
  · obtain ⟨p, s, rfl, _⟩ := h
    rfl
  · obtain ⟨p, st, rfl, hp, rfl⟩ := h
    refine s_ret (e_callT (T := "tuple") (b_cons (f_lcIf (ds := rangeD 0 p.length) [("at", 2)] (fun d => match d with | .int i => can p st i.toNat | _ => false) (fun d => d) rfl c_ready_in.nd (blkOk_by (N := n_ready_in) (sc := defScope s_ready_in) (by decide +kernel)) (i_range1 (a_cons ((e_callB (b_cons (e_threads hC (nm 0).eb).eb b_nil) k_lenT T.f_len).is (by rw [List.length_map])) a_nil) T.f_range (by omega)) (fun _ _ _ _ _ => tg_nm 2 c_ready_in.nd) (fun d hd => ⟨[d], rfl, ?_⟩) ?_).ev.eb b_nil) k_tuple T.f_tuple) ?_
    · obtain ⟨t, ht, rfl⟩ := rangeD_mem hd
      exact ⟨fun _ _ _ _ _ => t_bool (e_call (ok_is_possible T hC) (hr : Room 2 _) (a_cons (nm 0) (a_cons (nm 1) (a_cons (nm 2) a_nil))) ⟨p, st, t, rfl, ht, rfl⟩), fun _ _ _ _ _ _ => nm 2⟩
    · rw [rangeD_len]; omega
    · rw [picked_range]
      rfl
end
end Pd
end
section
set_option Elab.async false
set_option linter.all false
set_option maxRecDepth 100000
set_option maxHeartbeats 4000000
/-! Df7: clashes, registers, settled, replaced. -/
namespace Pd
open PySem PySem.Spec L2 Pz Pt Mi
section
variable {P : Program} {w : World} {K : PySem.W.Frag} {mg : Str → Option Value} {base : Heap} {CP : Addr}
theorem clNe {x y : Cl} (h : x ≠ y) : x.s ≠ y.s := by
  have : ∀ x y : Cl, x ≠ y → x.s ≠ y.s := by
    intro x y h
    cases x <;> cases y <;> first | exact absurd rfl h | decide
  exact this x y h
theorem rgNe {x y : Rg} (h : x ≠ y) : x.s ≠ y.s := by
  have : ∀ x y : Rg, x ≠ y → x.s ≠ y.s := by
    intro x y h
    cases x <;> cases y <;> first | exact absurd rfl h | decide
  exact this x y h
def R_clashing : List D → D → Prop := fun ds d => ∃ a b : Sm, ds = [stepD (some a), stepD (some b)] ∧ clash2 (some a) (some b) = false ∧ d = .bl false
theorem x_step0 {X : Cx} {F : Fr} {en : En} (m : Sm) : IxD X F en (stepD (some m)) (.int 0) (.str m.word) := x_tup (j := 0) rfl
theorem x_step1 {X : Cx} {F : Fr} {en : En} (m : Sm) {x : Cl} (h : m.cell = some x) : IxD X F en (stepD (some m)) (.int 1) (.str x.s) := by
  unfold stepD
  simp only [h]
  exact x_tup (j := 1) rfl
theorem not_write {m : Sm} (h : isW m = false) : m.word ≠ "write" := by
  cases m with
  | wr x r => cases h
  | rd r x => exact (show ("read" : Str) ≠ "write" by decide)
  | gt r => exact (show ("get" : Str) ≠ "write" by decide)
  | pt r => exact (show ("put" : Str) ≠ "write" by decide)
  | sh r => exact (show ("show" : Str) ≠ "write" by decide)
theorem ok_clashing (T : Top w K mg) : Cal P w K mg base 1 "is_clashing" R_clashing := by
  refine cal_ok T.d_is_clashing c_is_clashing (fun ds d h => ?_) (fun _ _ _ _ _ _ us hl => match us, hl with | [_, _], _ => rfl) (fun f cdv A outer s H E Fm ds d hr h => ?_)
  · obtain ⟨a, b, rfl, _⟩ := h
    rfl
  · obtain ⟨a, b, rfl, hc, rfl⟩ := h
    obtain ⟨ad, ha, hw⟩ := T.t_ACCESSES
    cases ea : a.cell with
    | none => exact s_ifT (Ew.t (w_orT (t_cmp (e_ix (nm 0).eb c_int (x_step0 a)).eb (g_strs ha hw).eb (o_ninSk (k := true) (by rw [acc_any, ea]; rfl))))) (s_ret c_bl rfl)
    | some x =>
      cases eb : b.cell with
      | none => exact s_ifT (Ew.t (w_orF (t_cmp (e_ix (nm 0).eb c_int (x_step0 a)).eb (g_strs ha hw).eb (o_ninSk (k := false) (by rw [acc_any, ea]; rfl))) (w_or1 (t_cmp (e_ix (nm 1).eb c_int (x_step0 b)).eb (g_strs ha hw).eb (o_ninSk (k := true) (by rw [acc_any, eb]; rfl)))))) (s_ret c_bl rfl)
      | some y =>
        refine s_if0 (Ew.t (w_orF (t_cmp (e_ix (nm 0).eb c_int (x_step0 a)).eb (g_strs ha hw).eb (o_ninSk (k := false) (by rw [acc_any, ea]; rfl))) (w_or1 (t_cmp (e_ix (nm 1).eb c_int (x_step0 b)).eb (g_strs ha hw).eb (o_ninSk (k := false) (by rw [acc_any, eb]; rfl)))))) ?_
        by_cases hxy : x = y
        · subst hxy
          unfold clash2 at hc
          simp only [ea, eb, decide_true, Bool.true_and, Bool.or_eq_false_iff] at hc
          refine s_ret (e_andT (e_cmp (e_ix (nm 0).eb c_int (x_step1 a ea)).eb (e_ix (nm 1).eb c_int (x_step1 b eb)).eb (o_eqST rfl)) (e_one (e_cmp c_str.eb (e_tup (a_cons (e_ix (nm 0).eb c_int (x_step0 a)) (a_cons (e_ix (nm 1).eb c_int (x_step0 b)) a_nil)) (sz_le (by simp))).eb (o_inSk (ts := [a.word, b.word]) ?_)))) rfl
          simp [not_write hc.1, not_write hc.2]
        · exact s_ret (e_andF (e_cmp (e_ix (nm 0).eb c_int (x_step1 a ea)).eb (e_ix (nm 1).eb c_int (x_step1 b eb)).eb (o_eqSF (clNe hxy)))) rfl
theorem stepD_non {m : Sm} : stepD (some m) ≠ .non := fun h => nomatch h
def R_clashes (CP : Addr) : List D → D → Prop := fun ds d => ∃ (p : Prg) (s : Sta), ds = [progD CP p, s.d p] ∧ p.length ≤ 3 ∧ Calm p s ∧ d = .tup []
theorem ok_clashes (T : Top w K mg) (hC : PCls K CP) : Cal P w K mg base 4 "clashes_in" (R_clashes CP) := by
  refine cal_ok T.d_clashes_in c_clashes_in (fun ds d h => ?_) (fun _ _ _ _ _ _ us hl => match us, hl with | [_, _], _ => rfl) (fun f cdv A outer s H E Fm ds d hr h => ?_)
  · obtain ⟨p, s, rfl, _⟩ := h
    rfl
  · obtain ⟨p, st, rfl, hp, hcalm, rfl⟩ := h
    let sd : D := rowsOf p.length fun t => stepD (nxt p st t)
    refine s_set 2 c_clashes_in.nd (d := sd) (e_call (ok_steps_in T hC) hr (a_cons (nm 0) (a_cons (nm 1) a_nil)) ⟨p, st, rfl, hp, rfl⟩) ?_
    refine s_setO 3 c_clashes_in.nd (f_lst a_nil (by decide)) ?_
    refine s_for (ds := enumD 0 ((List.range p.length).map fun t => stepD (nxt p st t))) (fun _ e => ∃ x4 x5 x6, e = [some (.v (progD CP p)), some (.v (st.d p)), some (.v sd), some (.own (.lst [])), x4, x5, x6]) pnever rfl (i_enumT (a_cons (nm 2) a_nil) T.f_enumerate)
      (tg_tup (is := [4, 5]) rfl (gs_cons 4 c_clashes_in.nd (gs_cons 5 c_clashes_in.nd gs_nil))) ⟨_, _, _, rfl⟩ (fun i d e hd hP => ?_) (fun e hP => ?_)
    · obtain ⟨x4, x5, x6, rfl⟩ := hP
      obtain ⟨x, hx, rfl⟩ := enumD_get hd
      rw [Nat.zero_add] at *
      have hi : i < p.length := by
        have := (List.getElem?_eq_some_iff.mp hx).1
        simpa using this
      rw [range_at _ hi] at hx
      cases hx
      refine ⟨_, rfl, ?_⟩
      refine s_for (ds := rangeD ((i : Int) + 1) (((p.length : Int)) - ((i : Int) + 1)).toNat) (fun _ e => ∃ x6, e = [some (.v (progD CP p)), some (.v (st.d p)), some (.v sd), some (.own (.lst [])), some (.v (.int (i : Int))), some (.v (stepD (nxt p st i))), x6]) pnever rfl
        (i_range2 (a_cons (e_bin (nm 4).eb c_int.eb o_add) (a_cons ((e_callB (b_cons (nm (d := sd) 2).eb b_nil) k_lenT T.f_len).is (by simp)) a_nil)) T.f_range (by omega)) (tg_nm 6 c_clashes_in.nd) ⟨_, rfl⟩ (fun j d e hd hP => ?_) (fun e hP => ?_)
      · obtain ⟨x6, rfl⟩ := hP
        obtain ⟨hj, rfl⟩ := rangeD_get hd
        refine ⟨_, rfl, ?_⟩
        have hk : i + 1 + j < p.length := by omega
        have ej : (i : Int) + 1 + (j : Int) = ((i + 1 + j : Nat) : Int) := by omega
        rw [ej]
        have hcl := hcalm i (i + 1 + j) hi hk (by omega)
        have x2 : ∀ {X : Cx} {F : Fr} {en : En}, IxD X F en sd (.int ((i + 1 + j : Nat) : Int)) (stepD (nxt p st (i + 1 + j))) := x_rng hk
        generalize hn1 : nxt p st i = n1 at *
        generalize hn2 : nxt p st (i + 1 + j) = n2 at *
        cases n1 with
        | none => exact s_if0 (Ew.t (w_andF (t_cmp (nm 5).eb c_non.eb o_notNn))) (s_nil ⟨_, rfl⟩)
        | some a =>
          cases n2 with
          | none => exact s_if0 (Ew.t (w_andT (t_cmp (nm 5).eb c_non.eb (o_notN stepD_non)) (w_andF (t_cmp (e_ix (nm 2).eb (nm 6) x2).eb c_non.eb o_notNn)))) (s_nil ⟨_, rfl⟩)
          | some b =>
            refine s_if0 (Ew.t (w_andT (t_cmp (nm 5).eb c_non.eb (o_notN stepD_non)) (w_andT (t_cmp (e_ix (nm 2).eb (nm 6) x2).eb c_non.eb (o_notN stepD_non)) (w_and1 (t_bool (e_call (ok_clashing T) (hr.mono (by decide) : Room 1 _) (a_cons (nm 5) (a_cons (e_ix (nm 2).eb (nm 6) x2) a_nil)) ⟨a, b, rfl, hcl, rfl⟩)))))) (s_nil ⟨_, rfl⟩)
      · obtain ⟨x6, rfl⟩ := hP
        exact s_nil ⟨_, _, _, rfl⟩
    · obtain ⟨x4, x5, x6, rfl⟩ := hP
      exact s_ret (e_callT (T := "tuple") (b_cons (no 3) b_nil) k_tuple T.f_tuple) rfl
def R_replaced : List D → D → Prop := fun ds d => ∃ (xs : List D) (i : Nat) (x : D), ds = [.tup xs, .int (i : Int), x] ∧ i < xs.length ∧ xs.length ≤ 1000 ∧ d = .tup (xs.set i x)
theorem ok_replaced (T : Top w K mg) : Cal P w K mg base 1 "replaced" R_replaced := by
  refine cal_ok T.d_replaced c_replaced (fun ds d h => ?_) (fun _ _ _ _ _ _ us hl => match us, hl with | [_, _, _], _ => rfl) (fun f cdv A outer s H E Fm ds d hr h => ?_)
  · obtain ⟨xs, i, x, rfl, _⟩ := h
    rfl
  · obtain ⟨xs, i, x, rfl, hi, hl, rfl⟩ := h
    have e1 : xs.set i x = cutD xs none (some (i : Int)) ++ (x :: (cutD xs (some ((i : Int) + 1)) none ++ [])) := by
      rw [cut_lo xs i (by omega), show ((i : Int) + 1) = ((i + 1 : Nat) : Int) by omega, cut_hi xs (i + 1) (by omega), List.append_nil]
      exact List.set_eq_take_append_cons_drop.trans (if_pos hi)
    have e2 : (xs.set i x).length = xs.length := List.length_set
    rw [e1] at e2 ⊢
    exact s_ret (e_tup (a_star (e_slT (nm 0) o_none (o_some (nm 1))) (a_cons (nm 2) (a_star (e_slT (nm 0) (o_some (e_bin (nm 1).eb c_int.eb o_add)) o_none) a_nil))) (sz_le (by rw [e2]; omega))) rfl
def dkv (c : List Sm) (f : Rg → Vl) : List (Key × D) := (regsOf c).map fun r => (.inr r.s, strD (f r))
theorem find_map {α : Type} {l : List Rg} {g : Rg → α} {r : Rg} (h : r ∈ l) : ((l.map fun r => ((.inr r.s : Key), g r)).find? fun kv => decide (kv.1 = .inr r.s)).map (·.2) = some (g r) := by
  induction l with
  | nil => cases h
  | cons a l ih =>
    rw [List.map_cons, List.find?_cons]
    by_cases e : a = r
    · subst e; simp
    · have e2 : ¬ ((.inr a.s : Key) = .inr r.s) := fun z => rgNe e (Sum.inr.inj z)
      rw [decide_eq_false e2]
      rcases List.mem_cons.mp h with h | h
      · exact absurd h.symm e
      · exact ih h
theorem dkv_get {c : List Sm} {f : Rg → Vl} {r : Rg} (h : r ∈ regsOf c) : getD_ (dkv c f) (.inr r.s) = some (strD (f r)) := find_map h
theorem dkv_put {c : List Sm} {f : Rg → Vl} {r : Rg} {v : Vl} (h : r ∈ regsOf c) : putD (dkv c f) (.inr r.s) (strD v) = dkv c (up f r v) := by
  unfold putD
  rw [if_pos]
  · unfold dkv
    rw [List.map_map]
    refine List.map_congr_left fun a _ => ?_
    by_cases e : a = r
    · subst e; simp [up]
    · simp [up, e, rgNe e]
  · refine List.any_eq_true.mpr ⟨(.inr r.s, strD (f r)), List.mem_map.mpr ⟨r, h, rfl⟩, by simp⟩
def rgOf (x : Str) : Rg := if x = "a" then .a else if x = "b" then .b else if x = "c" then .c else .r
theorem rgOf_s (r : Rg) : rgOf r.s = r := by cases r <;> decide
def onR (f : Rg → D) : D → D
  | .str x => f (rgOf x)
  | d => d
theorem onR_s {f : Rg → D} {r : Rg} : onR f (.str r.s) = f r := by
  show f (rgOf r.s) = f r
  rw [rgOf_s]
def R_packed (CP : Addr) : List D → D → Prop := fun ds d => ∃ (p : Prg) (t : Nat) (f : Rg → Vl), ds = [progD CP p, .int (t : Int), dk (dkv (code p t) f)] ∧ t < p.length ∧ d = regD (code p t) f
theorem regs_len (c : List Sm) : (regsOf c).length ≤ 4 := by
  unfold regsOf
  exact Nat.le_trans (List.length_filter_le _ _) (by decide)
theorem cells_len (p : Prg) : (cellsOf p).length ≤ 3 := by
  unfold cellsOf
  exact Nat.le_trans (List.length_filter_le _ _) (by decide)
theorem ok_packed (T : Top w K mg) (hC : PCls K CP) : Cal P w K mg base 1 "packed" (R_packed CP) := by
  refine cal_ok T.d_packed c_packed (fun ds d h => ?_) (fun _ _ _ _ _ _ us hl => match us, hl with | [_, _, _], _ => rfl) (fun f cdv A outer s H E Fm ds d hr h => ?_)
  · obtain ⟨p, t, f, rfl, _⟩ := h
    rfl
  · obtain ⟨p, t, g, rfl, ht, rfl⟩ := h
    have hu := hr.units
    refine s_ret (e_callT (T := "tuple") (b_cons (f_lc (ds := (regsOf (code p t)).map fun r => .str r.s) [("name", 3)] (onR fun r => strD (g r)) rfl c_packed.nd (blkOk_by (N := n_packed) (sc := defScope s_packed) (by decide +kernel)) (i_tup (e_ix (e_regs hC (nm 0).eb).eb (nm 1) (x_regs ht))) (fun _ _ _ _ _ => tg_nm 3 c_packed.nd) (fun d hd => ⟨[d], rfl, ?_⟩) ?_).ev.eb b_nil) k_tuple T.f_tuple) ?_
    · obtain ⟨r, hr', rfl⟩ := List.mem_map.mp hd
      rw [onR_s]
      exact fun _ _ _ _ _ => e_dix (kvs := dkv (code p t) g) (ky := .inr r.s) (nm 2).eb (nm 3) (dkv_get hr') hu
    · have := regs_len (code p t); simp; omega
    · show D.tup _ = regD (code p t) g
      unfold regD
      rw [List.map_map]
      congr 1
      exact List.map_congr_left fun r _ => onR_s
theorem regs_nodup (c : List Sm) : (regsOf c).Nodup := by
  unfold regsOf
  exact List.Pairwise.filter _ (show List.Nodup _ by decide)
theorem cells_nodup (p : Prg) : (cellsOf p).Nodup := by
  unfold cellsOf
  exact List.Pairwise.filter _ (show List.Nodup _ by decide)
def R_regs_at (CP : Addr) : List D → D → Prop := fun ds d => ∃ (p : Prg) (s : Sta) (t : Nat), ds = [progD CP p, s.d p, .int (t : Int)] ∧ t < p.length ∧ d = dk (dkv (code p t) (s.reg t))
theorem ok_regs_at (T : Top w K mg) (hC : PCls K CP) : CalN P w K mg base 1 "registers_at" (R_regs_at CP) := by
  refine calN_ok T.d_registers_at c_registers_at (fun ds d h => ?_) (fun _ _ _ _ _ _ us hl => match us, hl with | [_, _, _], _ => rfl) (fun f cdv A outer s H E Fm ds d hr h => ?_)
  · obtain ⟨p, s, t, rfl, _⟩ := h
    rfl
  · obtain ⟨p, st, t, rfl, ht, rfl⟩ := h
    let ks : List Key := (regsOf (code p t)).map fun r => .inr r.s
    let vs : List D := (regsOf (code p t)).map fun r => strD (st.reg t r)
    have ez : ks.zip vs = dkv (code p t) (st.reg t) := by
      show List.zip (List.map _ _) (List.map _ _) = _
      rw [List.zip_map']
      rfl
    have ek : (regsOf (code p t)).map (fun r => D.str r.s) = ks.map D.ofKey := by
      show _ = List.map _ (List.map _ _)
      rw [List.map_map]
      rfl
    have e1 : ∀ {X : Cx} {F : Fr} {en : En}, IxD X F en (.lst (p.map fun c => .tup ((regsOf c).map fun r => .str r.s))) (.int (t : Int)) (.tup (ks.map D.ofKey)) := by
      intro X F en
      rw [← ek]
      exact x_regs ht
    refine s_retF (d := dk (ks.zip vs)) (f_callT (T := "dict") (b_cons (f_listZip (ks := ks) (ds := vs) rfl T.f_list T.f_zip (a_cons (e_ix (e_regs hC (nm 0).eb).eb (nm 2) e1) (a_cons (e_ix (e_ix (nm 1).eb c_int x_st1).eb (nm 2) (x_rng ht)) a_nil)) (by show List.length (List.map _ _) = List.length (List.map _ _); simp)).ev.eb b_nil) (k_dictP rfl ?_) T.f_dict) (by rw [ez])
    rw [ez]
    unfold dkv
    rw [List.map_map]
    exact List.Pairwise.map _ (fun a b h => by
      intro z
      exact rgNe h (Sum.inr.inj z)) (regs_nodup (code p t))
def R_settled (CP : Addr) : List D → D → Prop := fun ds d => ∃ (p : Prg) (t n : Nat) (kvs : List (Key × D)), ds = [progD CP p, .int (t : Int), .int (n : Int), dk kvs] ∧ t < p.length ∧ n ≤ (code p t).length ∧ d = .tup [.int (n : Int), dk kvs]
theorem steps_any (m : Sm) : ((["read", "write", "get", "put", "show"] : List Str).any fun x => decide (x = m.word)) = true :=
  word5 m (fun u => ((["read", "write", "get", "put", "show"] : List Str).any fun x => decide (x = u)) = true) (by decide +kernel)
theorem ok_settled (T : Top w K mg) (hC : PCls K CP) : Cal P w K mg base 1 "settled" (R_settled CP) := by
  refine cal_ok T.d_settled c_settled (fun ds d h => ?_) (fun _ _ _ _ _ _ us hl => match us, hl with | [_, _, _, _], _ => rfl) (fun f cdv A outer s H E Fm ds d hr h => ?_)
  · obtain ⟨p, t, n, kvs, rfl, _⟩ := h
    rfl
  · obtain ⟨p, t, n, kvs, rfl, ht, hn, rfl⟩ := h
    obtain ⟨ad, ha, hw⟩ := T.t_STEPS
    refine s_set 4 c_settled.nd (e_ix (e_rows hC (nm 0).eb).eb (nm 1) (x_rows ht)) ?_
    refine s_setO 5 c_settled.nd (f_callT (T := "dict") (b_cons (nm 3).eb b_nil) k_dictD T.f_dict) ?_
    refine s_set 6 c_settled.nd (nm 2) ?_
    refine s_while (fun e => e = [some (.v (progD CP p)), some (.v (.int (t : Int))), some (.v (.int (n : Int))), some (.v (dk kvs)), some (.v (rowsD (code p t))), some (.own (dk kvs)), some (.v (.int (n : Int))), none, none, none, none]) (fun _ => 0) pnever rfl (fun e he => ?_)
    subst he
    refine ⟨false, ?_, ⟨fun z => absurd z Bool.false_ne_true, fun _ => ?_⟩⟩
    · by_cases hlt : n < (code p t).length
      · have e1 : (code p t)[n]? = some (code p t)[n] := List.getElem?_eq_getElem hlt
        refine Ew.t (w_andT (t_cmp (nm 6).eb (e_callB (b_cons (nm 4).eb b_nil) k_len T.f_len).eb (o_ltT (by rw [rowsL_len]; omega))) (w_and1 (t_cmp (e_ix (e_ix (e_ix (nm 4).eb (nm 6) (x_lst (rowsL_get (i := 0) e1))).eb c_int x_tup0).eb c_int (x_sm0 _)).eb (g_strs ha hw).eb (o_ninSk (k := false) (steps_any _)))))
      · exact Ew.t (w_andF (t_cmp (nm 6).eb (e_callB (b_cons (nm 4).eb b_nil) k_len T.f_len).eb (o_ltF (by rw [rowsL_len]; omega))))
    · exact s_frz 5 (s_ret (e_tup (a_cons (nm 6) (a_cons (nm 5) a_nil)) (sz_le (by simp))) rfl)
end
end Pd
end
section
set_option Elab.async false
set_option linter.all false
set_option maxRecDepth 100000
set_option maxHeartbeats 4000000
/-! Df8: one step. -/
namespace Pd
open PySem PySem.Spec L2 Pz Pt Mi
theorem mem_regs {c : List Sm} {m : Sm} (h : m ∈ c) : m.reg ∈ regsOf c := by
  unfold regsOf
  refine List.mem_filter.mpr ⟨by cases m.reg <;> simp, List.any_eq_true.mpr ⟨m, h, by simp⟩⟩
theorem mem_cells {p : Prg} {t : Nat} {m : Sm} {x : Cl} (ht : t < p.length) (h : m ∈ code p t) (hx : m.cell = some x) : x ∈ cellsOf p := by
  unfold cellsOf
  refine List.mem_filter.mpr ⟨by cases x <;> simp, List.any_eq_true.mpr ⟨code p t, List.mem_of_getElem? (code_at ht), List.any_eq_true.mpr ⟨m, h, by simp [hx]⟩⟩⟩
theorem idx_at {l : List Cl} {x : Cl} (h : x ∈ l) : l[l.idxOf x]? = some x := by
  have h1 : l.idxOf x < l.length := List.idxOf_lt_length_iff.mpr h
  rw [List.getElem?_eq_getElem h1]
  simp
theorem idx_first {x : Cl} : ∀ {l : List Cl} {m : Nat}, m < l.idxOf x → l[m]? ≠ some x
  | [], m, h => by simp
  | a :: l, 0, h => by
    intro z
    simp at z
    subst z
    simp at h
  | a :: l, m + 1, h => by
    rw [List.idxOf_cons] at h
    cases e : a == x with
    | true => rw [e] at h; simp at h
    | false =>
      rw [e] at h
      simp at h
      simpa using idx_first (l := l) (m := m) h
theorem cl_inj {x y : Cl} (h : x.s = y.s) : x = y := by
  by_cases e : x = y
  · exact e
  · exact absurd h (clNe e)
theorem names_at {p : Prg} {x : Cl} (h : x ∈ cellsOf p) : ((cellsOf p).map Cl.s)[(cellsOf p).idxOf x]? = some x.s := by rw [List.getElem?_map, idx_at h]; rfl
theorem names_first {p : Prg} {x : Cl} : ∀ m, m < (cellsOf p).idxOf x → ((cellsOf p).map Cl.s)[m]? ≠ some x.s := fun m hm z => by
  rw [List.getElem?_map] at z
  obtain ⟨y, hy, e⟩ := Option.map_eq_some_iff.mp z
  exact idx_first hm (by rw [hy, cl_inj e])
theorem map_set {x : Cl} {y : D} {g : Cl → D} : ∀ {l : List Cl}, l.Nodup → x ∈ l → (l.map g).set (l.idxOf x) y = l.map (up g x y)
  | a :: l, hn, h => by
    have hn' := List.nodup_cons.mp hn
    rw [List.idxOf_cons]
    by_cases e : a = x
    · subst e
      simp only [beq_self_eq_true, cond_true, List.map_cons, List.set_cons_zero, up_same]
      congr 1
      refine List.map_congr_left fun b hb => ?_
      rw [up_ne]
      intro z
      exact hn'.1 (z ▸ hb)
    · have e2 : (a == x) = false := by simpa using e
      rcases List.mem_cons.mp h with h | h
      · exact absurd h.symm e
      · rw [e2]
        simp only [cond_false, List.map_cons, List.set_cons_succ]
        rw [map_set hn'.2 h, up_ne e]
def conD (p : Prg) (g : Cl → Vl) : D := .tup ((cellsOf p).map fun x => strD (g x))
theorem con_set {p : Prg} {x : Cl} {v : Vl} {g : Cl → Vl} (h : x ∈ cellsOf p) : D.tup (((cellsOf p).map fun x => strD (g x)).set ((cellsOf p).idxOf x) (strD v)) = conD p (up g x v) := by
  rw [map_set (cells_nodup p) h]
  unfold conD
  congr 1
  refine List.map_congr_left fun a _ => ?_
  unfold up
  split <;> rfl
theorem rows_up {n t : Nat} {f : Nat → D} {x : D} (h : t < n) : D.tup (((List.range n).map f).set t x) = rowsOf n (up f t x) := by
  rw [range_set f x h]
  rfl
section
variable {P : Program} {w : World} {K : PySem.W.Frag} {mg : Str → Option Value} {base : Heap} {CP : Addr}
theorem x_row {X : Cx} {F : Fr} {en : En} {p : Prg} {st : Sta} {t : Nat} {m : Sm} (hm : nxt p st t = some m) : IxD X F en (rowsD (code p t)) (.int (st.pos t : Int)) (rowD (st.pos t) m) := by
  have h := x_lst (X := X) (F := F) (en := en) (rowsL_get (i := 0) hm)
  rwa [Nat.zero_add] at h
def R_stepped (CP : Addr) : List D → D → Prop := fun ds d => ∃ (p : Prg) (s : Sta) (t : Nat), ds = [progD CP p, s.d p, .int (t : Int)] ∧ t < p.length ∧ Okp p ∧ Okc p s ∧ can p s t = true ∧ d = (stp p s t).d p
theorem up_comp {α β : Type} {f : Nat → α} {g : Nat → α → β} {t : Nat} {x : α} {y : β} (h : y = g t x) : (fun j => g j (up f t x j)) = up (fun j => g j (f j)) t y := by
  funext j
  unfold up
  split
  · rename_i e; subst e; exact h.symm
  · rfl
theorem ok_stepped (T : Top w K mg) (hC : PCls K CP) : Cal P w K mg base 2 "stepped" (R_stepped CP) := by
  refine cal_ok T.d_stepped c_stepped (fun ds d h => ?_) (fun _ _ _ _ _ _ us hl => match us, hl with | [_, _, _], _ => rfl) (fun f cdv A outer s H E Fm ds d hr h => ?_)
  · obtain ⟨p, s, t, rfl, _⟩ := h
    rfl
  · obtain ⟨p, st, t, rfl, ht, hp, hok, hcan, rfl⟩ := h
    have hu := hr.units
    obtain ⟨m, hm⟩ : ∃ m, nxt p st t = some m := by
      cases e : nxt p st t with
      | none => unfold can at hcan; rw [e] at hcan; cases hcan
      | some m => exact ⟨m, rfl⟩
    have hmem : m ∈ code p t := List.mem_of_getElem? hm
    have hpos : st.pos t < (code p t).length := (List.getElem?_eq_some_iff.mp hm).1
    have h20 := hp.code t
    have hn3 := hp.two.2
    have hr1 : Room 1 _ := hr
    -- the tail
    have fin : ∀ (s' : Sta) (g : Rg → Vl) (x12 : Option Sl), s'.pos = st.pos → s'.reg = up st.reg t g →
        Sx ((cxOf CX0 P w K mg base n_stepped "stepped" (defScope s_stepped) f cdv A outer s H E).nox) Fm
          [some (.v (progD CP p)), some (.v (st.d p)), some (.v (.int (t : Int))), some (.v (rowsOf p.length fun t => .int (st.pos t : Int))), some (.v (rowsOf p.length fun t => regD (code p t) (st.reg t))), some (.v (conD p s'.con)), some (.v (rowsOf p.length fun t => valsD (s'.lin t))), some (.v (rowsOf p.length fun t => valsD (s'.shw t))),
            some (.own (dk (dkv (code p t) g))), some (.v m.d), some (.v (.int ((st.pos t : Int) + 1))), some (.v .non), x12, none] ((defBody s_stepped).drop 4)
          { nx := fun _ => Sta.d p { s' with pos := up s'.pos t (s'.pos t + 1) } = .non, rt := fun z => z = Sta.d p { s' with pos := up s'.pos t (s'.pos t + 1) } } := by
      intro s' g x12 e1 e2
      have ei : ((st.pos t : Int) + 1) = ((st.pos t + 1 : Nat) : Int) := by omega
      rw [ei]
      refine s_frz 8 ?_
      refine s_asgT (e_call (ok_settled T hC) hr1 (a_cons (nm 0) (a_cons (nm 2) (a_cons (nm 10) (a_cons (nm 8) a_nil)))) ⟨p, t, st.pos t + 1, dkv (code p t) g, rfl, ht, hpos, rfl⟩) (tg_tup (is := [13, 8]) rfl (gs_cons 13 c_stepped.nd (gs_cons 8 c_stepped.nd gs_nil))) rfl ?_
      refine s_set 4 c_stepped.nd (e_call (ok_replaced T) hr1 (a_cons (nm 4) (a_cons (nm 2) (a_cons (e_call (ok_packed T hC) hr1 (a_cons (nm 0) (a_cons (nm 2) (a_cons (nm 8) a_nil))) ⟨p, t, g, rfl, ht, rfl⟩) a_nil))) ⟨_, t, _, rfl, by simp; exact ht, by simp; omega, rfl⟩) ?_
      refine s_ret (e_tup (a_cons (e_call (ok_replaced T) hr1 (a_cons (nm 3) (a_cons (nm 2) (a_cons (nm 13) a_nil))) ⟨_, t, _, rfl, by simp; exact ht, by simp; omega, rfl⟩) (a_cons (nm 4) (a_cons (nm 5) (a_cons (nm 6) (a_cons (nm 7) a_nil))))) (sz_le (by simp))) ?_
      show D.tup _ = Sta.d p _
      unfold Sta.d
      rw [rows_up ht, rows_up ht]
      simp only [e1, e2]
      rw [up_comp (f := st.pos) (g := fun _ (n : Nat) => D.int (n : Int)) (y := D.int ((st.pos t + 1 : Nat) : Int)) rfl, up_comp (f := st.reg) (g := fun j h => regD (code p j) h) rfl]
      rfl
    have fin' : stp p st t = { eff p st t m with pos := up st.pos t (st.pos t + 1) } := by unfold stp; rw [hm]
    refine s_asgT (nm 1) (tg_tup (is := [3, 4, 5, 6, 7]) rfl (gs_cons 3 c_stepped.nd (gs_cons 4 c_stepped.nd (gs_cons 5 c_stepped.nd (gs_cons 6 c_stepped.nd (gs_cons 7 c_stepped.nd gs_nil)))))) rfl ?_
    refine s_setO 8 c_stepped.nd (f_call (ok_regs_at T hC) hr1 (a_cons (nm 0) (a_cons (nm 1) (a_cons (nm 2) a_nil))) ⟨p, st, t, rfl, ht, rfl⟩) ?_
    refine s_asgT (e_ix (e_ix (e_rows hC (nm 0).eb).eb (nm 2) (x_rows ht)).eb (e_ix (nm 3).eb (nm 2) (x_rng ht)) (x_row hm)) (tg_tup (is := [9, 10, 11]) rfl (gs_cons 9 c_stepped.nd (gs_cons 10 c_stepped.nd (gs_cons 11 c_stepped.nd gs_nil)))) rfl ?_
    have hself : st.reg = up st.reg t (st.reg t) := by
      funext j
      unfold up
      split
      · rename_i e; rw [e]
      · rfl
    rw [fin']
    cases m with
    | rd r x =>
      have hx : x ∈ cellsOf p := mem_cells ht hmem rfl
      have hrg : r ∈ regsOf (code p t) := mem_regs hmem
      refine s_ifT (t_cmp (e_ix (nm 9).eb c_int (x_sm0 (.rd r x))).eb c_str.eb (o_eqST rfl)) ?_
      refine s_dput (kvs := dkv (code p t) (st.reg t)) (ky := .inr r.s) 8 (e_ix (nm 5).eb (e_idx (e_names hC (nm 0).eb) (e_ix (nm 9).eb c_int x_tup2) (names_at hx) names_first) (x_tup (d := strD (st.con x)) (by rw [List.getElem?_map, idx_at hx]; rfl))) (e_ix (nm 9).eb c_int x_tup1) ?_ (by unfold dkv; have := regs_len (code p t); simp; omega) hu
      rw [dkv_put hrg]
      exact s_nil (fin (eff p st t (.rd r x)) (up (st.reg t) r (st.con x)) _ rfl rfl)
    | wr x r =>
      have hx : x ∈ cellsOf p := mem_cells ht hmem rfl
      have hrg : r ∈ regsOf (code p t) := mem_regs hmem
      refine s_ifF (t_cmp (e_ix (nm 9).eb c_int (x_sm0 (.wr x r))).eb c_str.eb (o_eqSF (show ("write" : Str) ≠ "read" by decide))) ?_
      refine s_ifT (t_cmp (e_ix (nm 9).eb c_int (x_sm0 (.wr x r))).eb c_str.eb (o_eqST rfl)) ?_
      refine s_set 5 c_stepped.nd (e_call (ok_replaced T) hr1 (a_cons (nm 5) (a_cons (e_idx (e_names hC (nm 0).eb) (e_ix (nm 9).eb c_int x_tup1) (names_at hx) names_first) (a_cons (e_dix (kvs := dkv (code p t) (st.reg t)) (ky := .inr r.s) (no 8) (e_ix (nm 9).eb c_int x_tup2) (dkv_get hrg) hu) a_nil))) ⟨_, (cellsOf p).idxOf x, _, rfl, by simpa using List.idxOf_lt_length_iff.mpr hx, by have := cells_len p; simp; omega, rfl⟩) ?_
      rw [con_set hx]
      exact s_nil (s_nil (fin (eff p st t (.wr x r)) (st.reg t) _ rfl hself))
    | gt r =>
      have hrg : r ∈ regsOf (code p t) := mem_regs hmem
      obtain ⟨v, vs, hl⟩ : ∃ v vs, st.lin t = v :: vs := by
        unfold can at hcan
        rw [hm] at hcan
        cases e : st.lin t with
        | nil => simp [e] at hcan
        | cons v vs => exact ⟨v, vs, rfl⟩
      have xl : ∀ {X : Cx} {F : Fr} {en : En}, IxD X F en (rowsOf p.length fun t => valsD (st.lin t)) (.int (t : Int)) (valsD (v :: vs)) := by
        intro X F en
        rw [← hl]
        exact x_rng ht
      refine s_ifF (t_cmp (e_ix (nm 9).eb c_int (x_sm0 (.gt r))).eb c_str.eb (o_eqSF (show ("get" : Str) ≠ "read" by decide))) ?_
      refine s_ifF (t_cmp (e_ix (nm 9).eb c_int (x_sm0 (.gt r))).eb c_str.eb (o_eqSF (show ("get" : Str) ≠ "write" by decide))) ?_
      refine s_ifT (t_cmp (e_ix (nm 9).eb c_int (x_sm0 (.gt r))).eb c_str.eb (o_eqST rfl)) ?_
      refine s_dput (kvs := dkv (code p t) (st.reg t)) (ky := .inr r.s) (d := strD v) 8 (e_ix (e_ix (nm 6).eb (nm 2) xl).eb c_int x_tup0) (e_ix (nm 9).eb c_int x_tup1) ?_ (by unfold dkv; have := regs_len (code p t); simp; omega) hu
      rw [dkv_put hrg]
      refine s_set 6 c_stepped.nd (e_call (ok_replaced T) hr1 (a_cons (nm 6) (a_cons (nm 2) (a_cons ((e_slT (e_ix (nm 6).eb (nm 2) xl) (o_some c_int) o_none).is (d := .tup _) (by rw [List.map_cons, cut1])) a_nil))) ⟨_, t, _, rfl, by simp; exact ht, by simp; omega, rfl⟩) ?_
      rw [rows_up ht]
      have e3 : eff p st t (.gt r) = { st with reg := up st.reg t (up (st.reg t) r v), lin := up st.lin t vs } := by
        unfold eff
        simp [hl]
      have q := fin (eff p st t (.gt r)) (up (st.reg t) r v) none rfl (by rw [e3])
      rw [e3] at q ⊢
      simp only at q
      rw [up_comp (f := st.lin) (g := fun _ l => valsD l) (y := D.tup (List.map (fun v => D.str v.s) vs)) rfl] at q
      exact s_nil (s_nil (s_nil q))
    | pt r =>
      have hrg : r ∈ regsOf (code p t) := mem_regs hmem
      have hk : (t + 1) % p.length < p.length := Nat.mod_lt _ (by omega)
      have hlen := hok.lin t ht
      refine s_ifF (t_cmp (e_ix (nm 9).eb c_int (x_sm0 (.pt r))).eb c_str.eb (o_eqSF (show ("put" : Str) ≠ "read" by decide))) ?_
      refine s_ifF (t_cmp (e_ix (nm 9).eb c_int (x_sm0 (.pt r))).eb c_str.eb (o_eqSF (show ("put" : Str) ≠ "write" by decide))) ?_
      refine s_ifF (t_cmp (e_ix (nm 9).eb c_int (x_sm0 (.pt r))).eb c_str.eb (o_eqSF (show ("put" : Str) ≠ "get" by decide))) ?_
      refine s_ifT (t_cmp (e_ix (nm 9).eb c_int (x_sm0 (.pt r))).eb c_str.eb (o_eqST rfl)) ?_
      have em : (((t : Int) + 1).fmod (((List.range p.length).map fun t => valsD (st.lin t)).length : Int)) = (((t + 1) % p.length : Nat) : Int) := by
        rw [List.length_map, List.length_range, Int.fmod_eq_emod_of_nonneg _ (by omega), Int.natCast_emod]
        rfl
      refine s_set 12 c_stepped.nd (d := .int (((t + 1) % p.length : Nat) : Int)) ((e_bin (e_bin (nm 2).eb c_int.eb o_add).eb (e_callB (b_cons (nm 6).eb b_nil) k_lenT T.f_len).eb (o_mod (Int.ofNat_ne_zero.mpr (by rw [List.length_map, List.length_range]; omega)))).is (by rw [em])) ?_
      refine s_set 6 c_stepped.nd (e_call (ok_replaced T) hr1 (a_cons (nm 6) (a_cons (nm 12) (a_cons (e_tup (a_star (e_ix (nm 6).eb (nm 12) (x_rng hk)) (a_cons (e_dix (kvs := dkv (code p t) (st.reg t)) (ky := .inr r.s) (no 8) (e_ix (nm 9).eb c_int x_tup1) (dkv_get hrg) hu) a_nil)) (sz_le (by simp; exact Nat.le_trans hlen (by omega)))) a_nil))) ⟨_, (t + 1) % p.length, _, rfl, by simp; exact hk, by simp; omega, rfl⟩) ?_
      rw [rows_up hk]
      have q := fin (eff p st t (.pt r)) (st.reg t) (some (.v (.int (((t + 1) % p.length : Nat) : Int)))) rfl hself
      have e3 : (eff p st t (.pt r)).lin = up st.lin ((t + 1) % p.length) (st.lin ((t + 1) % p.length) ++ [st.reg t r]) := rfl
      simp only [e3] at q
      rw [up_comp (f := st.lin) (g := fun _ l => valsD l) (y := D.tup (List.map (fun v => D.str v.s) (st.lin ((t + 1) % p.length)) ++ [strD (st.reg t r)])) (by simp [valsD, strD])] at q
      exact s_nil (s_nil (s_nil (s_nil q)))
    | sh r =>
      have hrg : r ∈ regsOf (code p t) := mem_regs hmem
      have hlen := hok.shw t ht
      refine s_ifF (t_cmp (e_ix (nm 9).eb c_int (x_sm0 (.sh r))).eb c_str.eb (o_eqSF (show ("show" : Str) ≠ "read" by decide))) ?_
      refine s_ifF (t_cmp (e_ix (nm 9).eb c_int (x_sm0 (.sh r))).eb c_str.eb (o_eqSF (show ("show" : Str) ≠ "write" by decide))) ?_
      refine s_ifF (t_cmp (e_ix (nm 9).eb c_int (x_sm0 (.sh r))).eb c_str.eb (o_eqSF (show ("show" : Str) ≠ "get" by decide))) ?_
      refine s_ifF (t_cmp (e_ix (nm 9).eb c_int (x_sm0 (.sh r))).eb c_str.eb (o_eqSF (show ("show" : Str) ≠ "put" by decide))) ?_
      refine s_set 7 c_stepped.nd (e_call (ok_replaced T) hr1 (a_cons (nm 7) (a_cons (nm 2) (a_cons (e_tup (a_star (e_ix (nm 7).eb (nm 2) (x_rng ht)) (a_cons (e_dix (kvs := dkv (code p t) (st.reg t)) (ky := .inr r.s) (no 8) (e_ix (nm 9).eb c_int x_tup1) (dkv_get hrg) hu) a_nil)) (sz_le (by simp; exact Nat.le_trans hlen (by omega)))) a_nil))) ⟨_, t, _, rfl, by simp; exact ht, by simp; omega, rfl⟩) ?_
      rw [rows_up ht]
      have q := fin (eff p st t (.sh r)) (st.reg t) none rfl hself
      have e3 : (eff p st t (.sh r)).shw = up st.shw t (st.shw t ++ [st.reg t r]) := rfl
      simp only [e3] at q
      rw [up_comp (f := st.shw) (g := fun _ l => valsD l) (y := D.tup (List.map (fun v => D.str v.s) (st.shw t) ++ [strD (st.reg t r)])) (by simp [valsD, strD])] at q
      exact s_nil (s_nil (s_nil (s_nil q)))
end
end Pd
end
section
set_option Elab.async false
set_option linter.all false
set_option maxRecDepth 100000
set_option maxHeartbeats 4000000
/-! Df9: registers and cells of codes, the first state. -/
namespace Pd
open PySem PySem.Spec L2 Pz Pt Mi
/-! ### sorted texts -/
def rank (s : Str) : Nat := if s = "a" then 0 else if s = "b" then 1 else if s = "c" then 2 else if s = "r" then 3 else if s = "x" then 4 else if s = "y" then 5 else 6
theorem rank_lt : ∀ x ∈ nm7, ∀ y ∈ nm7, (!ltCps y.cps.toList x.cps.toList) = decide (rank x ≤ rank y) := by decide +kernel
theorem rank_inj : ∀ x ∈ nm7, ∀ y ∈ nm7, rank x = rank y → x = y := by decide +kernel
theorem rising_rank : ∀ {l : List Str} {p : Str}, p ∈ nm7 → (∀ s ∈ l, s ∈ nm7) → PyProof.Rows.risingS p l = true → (p :: l).Pairwise fun a b => rank a ≤ rank b
  | [], p, _, _, _ => List.pairwise_singleton _ _
  | x :: r, p, hp, hl, h => by
    unfold PyProof.Rows.risingS at h
    rw [Bool.and_eq_true] at h
    have hx := hl x List.mem_cons_self
    have h1 : rank p ≤ rank x := by
      have q := rank_lt p hp x hx
      rw [h.1] at q
      exact of_decide_eq_true q.symm
    have ih := rising_rank hx (fun s hs => hl s (List.mem_cons_of_mem _ hs)) h.2
    refine List.pairwise_cons.mpr ⟨fun y hy => ?_, ih⟩
    rcases List.mem_cons.mp hy with rfl | hy
    · exact h1
    · exact Nat.le_trans h1 ((List.pairwise_cons.mp ih).1 y hy)
theorem sorted_rank {l : List Str} (hl : ∀ s ∈ l, s ∈ nm7) (h : PyProof.Rows.sortedS l = true) : l.Pairwise fun a b => rank a ≤ rank b := by
  cases l with
  | nil => exact .nil
  | cons x r => exact rising_rank (hl x List.mem_cons_self) (fun s hs => hl s (List.mem_cons_of_mem _ hs)) h
theorem sorted_uniq {ys us : List Str} (hu : ∀ s ∈ us, s ∈ nm7) (hp : us.Pairwise fun a b => rank a ≤ rank b) (p : ys.Perm us) (h : PyProof.Rows.sortedS ys = true) : ys = us :=
  List.Perm.eq_of_pairwise (le := fun a b => rank a ≤ rank b) (fun a b ha hb h1 h2 => rank_inj a (hu a (p.mem_iff.mp ha)) b (hu b hb) (Nat.le_antisymm h1 h2)) (sorted_rank (fun s hs => hu s (p.mem_iff.mp hs)) h) hp p
theorem regs_rank (c : List Sm) : ((regsOf c).map Rg.s).Pairwise fun a b => rank a ≤ rank b := by
  unfold regsOf
  exact List.Pairwise.map _ (R := fun a b : Rg => rank a.s ≤ rank b.s) (fun _ _ h => h) (List.Pairwise.filter _ (by decide +kernel))
theorem cells_rank (p : Prg) : ((cellsOf p).map Cl.s).Pairwise fun a b => rank a ≤ rank b := by
  unfold cellsOf
  exact List.Pairwise.map _ (R := fun a b : Cl => rank a.s ≤ rank b.s) (fun _ _ h => h) (List.Pairwise.filter _ (by decide +kernel))
theorem regs_nm (c : List Sm) : ∀ s ∈ (regsOf c).map Rg.s, s ∈ nm7 := fun s h => by
  obtain ⟨r, _, rfl⟩ := List.mem_map.mp h
  exact nm7_rg r
theorem cells_nm (p : Prg) : ∀ s ∈ (cellsOf p).map Cl.s, s ∈ nm7 := fun s h => by
  obtain ⟨r, _, rfl⟩ := List.mem_map.mp h
  exact nm7_cl r
/-! ### keys of a comprehension's dict -/
theorem any_key {kvs : List (Key × D)} {k : Key} : (kvs.any fun kv => decide (kv.1 = k)) = true ↔ k ∈ kvs.map (·.1) := by
  rw [List.any_eq_true, List.mem_map]
  constructor
  · rintro ⟨q, h1, h2⟩; exact ⟨q, h1, of_decide_eq_true h2⟩
  · rintro ⟨q, h1, h2⟩; exact ⟨q, h1, decide_eq_true h2⟩
theorem putD_in {kvs : List (Key × D)} {k : Key} {v : D} (h : k ∈ kvs.map (·.1)) : (putD kvs k v).map (·.1) = kvs.map (·.1) := by
  unfold putD
  rw [if_pos (any_key.mpr h), List.map_map]
  refine List.map_congr_left fun q _ => ?_
  by_cases hq : q.1 = k <;> simp [hq]
theorem putD_out {kvs : List (Key × D)} {k : Key} {v : D} (h : k ∉ kvs.map (·.1)) : (putD kvs k v).map (·.1) = kvs.map (·.1) ++ [k] := by
  unfold putD
  rw [if_neg (fun z => h (any_key.mp z)), List.map_append]
  rfl
theorem dcAll_keys {kf : D → Key} {vf : D → D} : ∀ (ds : List D), ((dcAll kf vf ds).map (·.1)).Nodup ∧ ∀ k, k ∈ (dcAll kf vf ds).map (·.1) ↔ k ∈ ds.map kf := by
  have key : ∀ (ds : List D) (acc : List (Key × D)), (acc.map (·.1)).Nodup → (((ds.foldl (fun acc d => putD acc (kf d) (vf d)) acc)).map (·.1)).Nodup ∧ ∀ k, k ∈ (ds.foldl (fun acc d => putD acc (kf d) (vf d)) acc).map (·.1) ↔ k ∈ acc.map (·.1) ∨ k ∈ ds.map kf := by
    intro ds
    induction ds with
    | nil => intro acc h; exact ⟨h, fun k => by simp⟩
    | cons d ds ih =>
      intro acc h
      have h1 : ((putD acc (kf d) (vf d)).map (·.1)).Nodup := by
        by_cases hm : kf d ∈ acc.map (·.1)
        · rw [putD_in hm]; exact h
        · rw [putD_out hm]
          refine List.nodup_append.mpr ⟨h, by simp, fun a ha b hb e => ?_⟩
          rw [List.mem_singleton] at hb
          exact hm (hb ▸ e ▸ ha)
      obtain ⟨g1, g2⟩ := ih _ h1
      refine ⟨g1, fun k => ?_⟩
      rw [List.foldl_cons, g2 k, List.map_cons, List.mem_cons]
      by_cases hm : kf d ∈ acc.map (·.1)
      · rw [putD_in hm]
        constructor
        · rintro (z | z)
          · exact .inl z
          · exact .inr (.inr z)
        · rintro (z | rfl | z)
          · exact .inl z
          · exact .inl hm
          · exact .inr z
      · rw [putD_out hm, List.mem_append, List.mem_singleton]
        constructor
        · rintro ((z | z) | z)
          · exact .inl z
          · exact .inr (.inl z)
          · exact .inr (.inr z)
        · rintro (z | z | z)
          · exact .inl (.inl z)
          · exact .inl (.inr z)
          · exact .inr z
  intro ds
  have h := key ds [] .nil
  exact ⟨h.1, fun k => by rw [show dcAll kf vf ds = ds.foldl (fun acc d => putD acc (kf d) (vf d)) [] from rfl, h.2 k]; simp⟩
theorem dcAll_nodup {kf : D → Key} {vf : D → D} {ds : List D} (h : (ds.map kf).Nodup) : dcAll kf vf ds = ds.map fun d => (kf d, vf d) := by
  have key : ∀ (ds : List D) (acc : List (Key × D)), (acc.map (·.1) ++ ds.map kf).Nodup → ds.foldl (fun acc d => putD acc (kf d) (vf d)) acc = acc ++ ds.map fun d => (kf d, vf d) := by
    intro ds
    induction ds with
    | nil => intro acc _; simp
    | cons d ds ih =>
      intro acc h
      have hn : kf d ∉ acc.map (·.1) := fun z => (List.nodup_append.mp h).2.2 _ z _ (by simp) rfl
      have e : putD acc (kf d) (vf d) = acc ++ [(kf d, vf d)] := by
        unfold putD
        rw [if_neg]
        intro z
        obtain ⟨q, hq, e⟩ := List.any_eq_true.mp z
        exact hn (List.mem_map.mpr ⟨q, hq, of_decide_eq_true e⟩)
      rw [List.foldl_cons, e, ih _ (by simpa using h)]
      simp
  have q := key ds [] (by simpa using h)
  simpa [dcAll] using q
section
variable {P : Program} {w : World} {K : PySem.W.Frag} {mg : Str → Option Value} {base : Heap} {CP : Addr}
def R_registers_of : List D → D → Prop := fun ds d => ∃ m : Sm, ds = [m.d] ∧ d = .lst [.str m.reg.s]
theorem ok_registers_of (T : Top w K mg) : Cal P w K mg base 1 "registers_of" R_registers_of := by
  refine cal_ok T.d_registers_of c_registers_of (fun ds d h => ?_) (fun _ _ _ _ _ _ us hl => match us, hl with | [_], _ => rfl) (fun f cdv A outer s H E Fm ds d hr h => ?_)
  · obtain ⟨m, rfl, _⟩ := h
    rfl
  · obtain ⟨m, rfl, rfl⟩ := h
    refine s_if0 (t_cmp (e_ix (nm 0).eb c_int (x_sm0 m)).eb c_str.eb (o_eqSF wne)) ?_
    refine s_if0 (t_cmp (e_ix (nm 0).eb c_int (x_sm0 m)).eb c_str.eb (o_eqSF wne)) ?_
    have hin : ∀ {b : Bool}, (((["write", "if"] : List Str).any fun x => decide (x = m.word)) = b) → ∀ {X : Cx} {F : Fr} {en : En}, OpD X F en (compareOp .In) (.str m.word) (.tup [.str "write", .str "if"]) (.bl b) := fun h => o_inSk (ts := ["write", "if"]) h
    cases m with
    | wr x r => exact s_ret (e_ifT (t_cmp (e_ix (nm 0).eb c_int (x_sm0 (.wr x r))).eb (e_tup (a_cons c_str (a_cons c_str a_nil)) (by decide)).eb (hin (show ((["write", "if"] : List Str).any fun x => decide (x = "write")) = true by decide))) (f_lst (a_cons (e_ix (nm 0).eb c_int x_tup2) a_nil) (sz_le (by simp))).ev) rfl
    | rd r x => exact s_ret (e_ifF (t_cmp (e_ix (nm 0).eb c_int (x_sm0 (.rd r x))).eb (e_tup (a_cons c_str (a_cons c_str a_nil)) (by decide)).eb (hin (show ((["write", "if"] : List Str).any fun x => decide (x = "read")) = false by decide))) (f_lst (a_cons (e_ix (nm 0).eb c_int x_tup1) a_nil) (sz_le (by simp))).ev) rfl
    | gt r => exact s_ret (e_ifF (t_cmp (e_ix (nm 0).eb c_int (x_sm0 (.gt r))).eb (e_tup (a_cons c_str (a_cons c_str a_nil)) (by decide)).eb (hin (show ((["write", "if"] : List Str).any fun x => decide (x = "get")) = false by decide))) (f_lst (a_cons (e_ix (nm 0).eb c_int x_tup1) a_nil) (sz_le (by simp))).ev) rfl
    | pt r => exact s_ret (e_ifF (t_cmp (e_ix (nm 0).eb c_int (x_sm0 (.pt r))).eb (e_tup (a_cons c_str (a_cons c_str a_nil)) (by decide)).eb (hin (show ((["write", "if"] : List Str).any fun x => decide (x = "put")) = false by decide))) (f_lst (a_cons (e_ix (nm 0).eb c_int x_tup1) a_nil) (sz_le (by simp))).ev) rfl
    | sh r => exact s_ret (e_ifF (t_cmp (e_ix (nm 0).eb c_int (x_sm0 (.sh r))).eb (e_tup (a_cons c_str (a_cons c_str a_nil)) (by decide)).eb (hin (show ((["write", "if"] : List Str).any fun x => decide (x = "show")) = false by decide))) (f_lst (a_cons (e_ix (nm 0).eb c_int x_tup1) a_nil) (sz_le (by simp))).ev) rfl
theorem rowsL_mem : ∀ {c : List Sm} {i : Nat} {d : D}, d ∈ rowsL i c → ∃ j m, m ∈ c ∧ d = rowD j m
  | m :: r, i, d, h => by
    rcases List.mem_cons.mp h with rfl | h
    · exact ⟨i, m, List.mem_cons_self, rfl⟩
    · obtain ⟨j, x, h1, h2⟩ := rowsL_mem h
      exact ⟨j, x, List.mem_cons_of_mem _ h1, h2⟩
/-- the statement's register, from a row -/
def regOfRow : D → List D
  | .tup (.tup [.str a, b, c] :: _) => if a = "write" then [c] else [b]
  | .tup (.tup [_, b] :: _) => [b]
  | _ => []
theorem regOfRow_d (j : Nat) (m : Sm) : regOfRow (rowD j m) = [.str m.reg.s] := by
  cases m with
  | wr x r => exact if_pos (e := [D.str x.s]) (rfl : ("write" : Str) = "write")
  | rd r x => exact if_neg (t := [D.str x.s]) (show ("read" : Str) ≠ "write" by decide)
  | gt r => rfl
  | pt r => rfl
  | sh r => rfl
def keyS : D → Key
  | .str s => .inr s
  | _ => .inl 0
theorem rows_regs : ∀ (c : List Sm) (i : Nat), (rowsL i c).flatMap regOfRow = c.map fun m => .str m.reg.s
  | [], _ => rfl
  | m :: c, i => by
    show List.flatMap regOfRow (rowD i m :: rowsL (i + 1) c) = _
    rw [List.flatMap_cons, regOfRow_d, rows_regs c (i + 1)]
    rfl
def R_registers_in : List D → D → Prop := fun ds d => ∃ c : List Sm, ds = [rowsD c] ∧ c.length ≤ 20 ∧ d = .tup ((regsOf c).map fun r => .str r.s)
def unk : Key → Str
  | .inr s => s
  | .inl _ => ""
theorem ok_registers_in (T : Top w K mg) : Cal P w K mg base 2 "registers_in" R_registers_in := by
  refine cal_ok T.d_registers_in c_registers_in (fun ds d h => ?_) (fun _ _ _ _ _ _ us hl => match us, hl with | [_], _ => rfl) (fun f cdv A outer s H E Fm ds d hr h => ?_)
  · obtain ⟨m, rfl, _⟩ := h
    rfl
  · obtain ⟨c, rfl, hl, rfl⟩ := h
    let kvs := dcAll keyS (fun _ => .bl true) ((rowsL 0 c).flatMap regOfRow)
    have hk := dcAll_keys (kf := keyS) (vf := fun _ => .bl true) ((rowsL 0 c).flatMap regOfRow)
    have hmem : ∀ k, k ∈ kvs.map (·.1) ↔ ∃ r ∈ regsOf c, k = .inr r.s := by
      intro k
      rw [hk.2 k, rows_regs, List.map_map, List.mem_map]
      constructor
      · rintro ⟨m, hm, rfl⟩
        exact ⟨m.reg, mem_regs hm, rfl⟩
      · rintro ⟨r, hr', rfl⟩
        unfold regsOf at hr'
        obtain ⟨m, hm, e⟩ := List.any_eq_true.mp (List.mem_filter.mp hr').2
        exact ⟨m, hm, by rw [← of_decide_eq_true e]; rfl⟩
    let ts : List Str := (kvs.map (·.1)).map unk
    have ets : kvs.map (fun q => D.ofKey q.1) = ts.map .str := by
      show _ = List.map _ (List.map unk (List.map _ kvs))
      rw [List.map_map, List.map_map]
      refine List.map_congr_left fun q hq => ?_
      obtain ⟨r, _, e⟩ := (hmem q.1).mp (List.mem_map.mpr ⟨q, hq, rfl⟩)
      show D.ofKey q.1 = D.str (unk q.1)
      rw [e]
      rfl
    have hperm : ts.Perm ((regsOf c).map Rg.s) := by
      refine (List.perm_ext_iff_of_nodup ?_ ?_).mpr fun s => ?_
      · refine List.Pairwise.map _ ?_ (List.Pairwise.and_mem.mp hk.1)
        rintro a b ⟨ha, hb, hne⟩ e
        obtain ⟨r1, _, e1⟩ := (hmem a).mp ha
        obtain ⟨r2, _, e2⟩ := (hmem b).mp hb
        subst e1 e2
        exact hne (congrArg Sum.inr e)
      · exact List.Pairwise.map _ (fun a b h => rgNe h) (regs_nodup c)
      · show s ∈ List.map unk _ ↔ _
        rw [List.mem_map, List.mem_map]
        constructor
        · rintro ⟨k, hk', rfl⟩
          obtain ⟨r, h1, rfl⟩ := (hmem k).mp hk'
          exact ⟨r, h1, rfl⟩
        · rintro ⟨r, h1, rfl⟩
          exact ⟨.inr r.s, (hmem _).mpr ⟨r, h1, rfl⟩, rfl⟩
    refine s_dc2 1 [("row", 2), ("name", 3)] regOfRow keyS (fun _ => .bl true) rfl c_registers_in.nd (blkOk_by (N := n_registers_in) (sc := defScope s_registers_in) (by decide +kernel)) (i_list (nm 0)) (fun _ _ _ _ _ => tg_nm 2 c_registers_in.nd) (fun _ _ _ _ _ => tg_nm 3 c_registers_in.nd) (fun d hd => ?_) ?_ ?_
    · obtain ⟨j, m, hm, rfl⟩ := rowsL_mem hd
      rw [regOfRow_d]
      refine ⟨[rowD j m], rfl, fun _ _ _ _ _ => i_list (e_call (ok_registers_of T) (hr : Room 1 _) (a_cons (e_ix (nm 2).eb c_int x_tup0) a_nil) ⟨m, rfl, rfl⟩), fun d1 h1 => ?_⟩
      rw [List.mem_singleton] at h1
      subst h1
      exact ⟨[.str m.reg.s], rfl, fun _ _ _ _ _ => nm 3, fun _ _ _ _ _ => c_bl⟩
    · rw [rows_regs]
      simp; omega
    · refine s_ret (e_callT (T := "tuple") (b_cons (f_callB (id := "sorted") (b_cons ((f_callT (T := "list") (b_cons (no 1) b_nil) (k_listD rfl) T.f_list).is ?_).ev.eb b_nil) (k_sortS (ts := ts) (us := (regsOf c).map Rg.s) ?_ (fun ys p h => sorted_uniq (regs_nm c) (regs_rank c) (p.trans hperm) h)) T.f_sorted).ev.eb b_nil) k_tuple T.f_tuple) ?_
      · exact congrArg D.lst ets
      · rw [hperm.length_eq, List.length_map]
        have := regs_len c
        omega
      · rw [List.map_map]
        rfl
def R_cells_in : List D → D → Prop := fun ds d => ∃ c : List Sm, ds = [rowsD c] ∧ c.length ≤ 20 ∧ d = .lst ((c.filterMap Sm.cell).map fun x => .str x.s)
/-- from a row: does it ask a cell; the cell -/
def hasCell : D → Bool
  | .tup (.tup (.str a :: _) :: _) => (["read", "write"] : List Str).any fun x => decide (x = a)
  | _ => false
def cellRow : D → D
  | .tup (.tup [.str a, b, c] :: _) => if a = "read" then c else b
  | d => d
theorem cells_picked : ∀ (c : List Sm) (i : Nat), picked hasCell cellRow (rowsL i c) = (c.filterMap Sm.cell).map fun x => .str x.s
  | [], _ => rfl
  | m :: c, i => by
    have ih := cells_picked c (i + 1)
    have h1 : hasCell (rowD i m) = m.cell.isSome := by rw [← acc_any]; unfold rowD; rw [sm_d]; rfl
    show picked hasCell cellRow (rowD i m :: rowsL (i + 1) c) = _
    unfold picked at ih ⊢
    rw [List.filter_cons, h1]
    cases m with
    | rd r x => simp only [Sm.cell, Option.isSome_some, if_true, List.map_cons, List.filterMap_cons]; rw [ih]; rfl
    | wr x r =>
      simp only [Sm.cell, Option.isSome_some, if_true, List.map_cons, List.filterMap_cons]; rw [ih]
      congr 1
    | gt r => simp only [Sm.cell, Option.isSome_none, if_false, List.filterMap_cons]; simpa using ih
    | pt r => simp only [Sm.cell, Option.isSome_none, if_false, List.filterMap_cons]; simpa using ih
    | sh r => simp only [Sm.cell, Option.isSome_none, if_false, List.filterMap_cons]; simpa using ih
theorem ok_cells_in (T : Top w K mg) : Cal P w K mg base 2 "cells_in" R_cells_in := by
  refine cal_ok T.d_cells_in c_cells_in (fun ds d h => ?_) (fun _ _ _ _ _ _ us hl => match us, hl with | [_], _ => rfl) (fun f cdv A outer s H E Fm ds d hr h => ?_)
  · obtain ⟨m, rfl, _⟩ := h
    rfl
  · obtain ⟨c, rfl, hl, rfl⟩ := h
    obtain ⟨ad, ha, hw⟩ := T.t_ACCESSES
    refine s_ret ((f_lcIf [("row", 1)] hasCell cellRow rfl c_cells_in.nd (blkOk_by (N := n_cells_in) (sc := defScope s_cells_in) (by decide +kernel)) (i_list (nm 0)) (fun _ _ _ _ _ => tg_nm 1 c_cells_in.nd) (fun d hd => ⟨[d], rfl, ?_⟩) (by rw [rowsL_len]; omega)).ev.is (by rw [cells_picked])) rfl
    obtain ⟨j, m, hm, rfl⟩ := rowsL_mem hd
    have h1 : hasCell (rowD j m) = m.cell.isSome := by rw [← acc_any]; unfold rowD; rw [sm_d]; rfl
    rw [h1]
    refine ⟨fun _ _ _ _ _ => t_cmp (e_ix (e_ix (nm 1).eb c_int x_tup0).eb c_int (x_sm0 m)).eb (g_strs ha hw).eb (o_inSk (acc_any m)), fun hc _ _ _ _ _ => (e_call (ok_cell_of T) (hr : Room 1 _) (a_cons (e_ix (nm 1).eb c_int x_tup0) a_nil) ⟨m, rfl, rfl⟩).is ?_⟩
    cases m with
    | rd r x => exact (if_pos (e := D.str r.s) (rfl : ("read" : Str) = "read")).symm
    | wr x r => exact (if_neg (t := D.str r.s) (show ("write" : Str) ≠ "read" by decide)).symm
    | gt r => cases hc
    | pt r => cases hc
    | sh r => cases hc
def R_first (CP : Addr) : List D → D → Prop := fun ds d => ∃ p : Prg, ds = [progD CP p] ∧ Okp p ∧ d = Sta.first.d p
theorem ok_first (T : Top w K mg) (hC : PCls K CP) : Cal P w K mg base 2 "first_state" (R_first CP) := by
  refine cal_ok T.d_first_state c_first_state (fun ds d h => ?_) (fun _ _ _ _ _ _ us hl => match us, hl with | [_], _ => rfl) (fun f cdv A outer s H E Fm ds d hr h => ?_)
  · obtain ⟨m, rfl, _⟩ := h
    rfl
  · obtain ⟨p, rfl, hp, rfl⟩ := h
    have hn3 := hp.two.2
    have hu := hr.units
    have hr1 : Room 1 _ := hr
    refine s_setO 1 c_first_state.nd (f_lst a_nil (by decide)) ?_
    refine s_setO 2 c_first_state.nd (f_lst a_nil (by decide)) ?_
    refine s_for (ds := rangeD 0 p.length) (fun i e => ∃ x3 x4 x5, e = [some (.v (progD CP p)), some (.own (.lst ((List.range i).map fun _ => .int 0))), some (.own (.lst ((List.range i).map fun t => regD (code p t) Rg.v))), x3, x4, x5, none, none, none, none, none]) pnever rfl
      (i_range1 (a_cons ((e_callB (b_cons (e_threads hC (nm 0).eb).eb b_nil) k_lenT T.f_len).is (by rw [List.length_map])) a_nil) T.f_range (by omega)) (tg_nm 3 c_first_state.nd) ⟨_, _, _, rfl⟩ (fun i d e hd hP => ?_) (fun e hP => ?_)
    · obtain ⟨x3, x4, x5, rfl⟩ := hP
      obtain ⟨hi, rfl⟩ := rangeD_get hd
      rw [Int.zero_add]
      refine ⟨_, rfl, ?_⟩
      have ekv : dcAll keyS (fun d => d) ((regsOf (code p i)).map fun r => .str r.s) = dkv (code p i) Rg.v := by
        rw [dcAll_nodup]
        · unfold dkv
          rw [List.map_map]
          refine List.map_congr_left fun r _ => ?_
          show ((keyS (.str r.s)), D.str r.s) = _
          rw [← Rg.vs]
          rfl
        · rw [List.map_map]
          exact List.Pairwise.map _ (fun a b h z => rgNe h (Sum.inr.inj z)) (regs_nodup (code p i))
      refine s_asgT (ds := [.int ((0 : Nat) : Int), dk (dkv (code p i) Rg.v)]) (e_call (ok_settled T hC) hr1 (a_cons (nm 0) (a_cons (nm 3) (a_cons c_int (a_cons ((f_dc [("name", 8)] keyS (fun d => d) rfl c_first_state.nd (blkOk_by (N := n_first_state) (sc := defScope s_first_state) (by decide +kernel)) (i_tup (e_ix (e_regs hC (nm 0).eb).eb (nm 3) (x_regs hi))) (fun _ _ _ _ _ => tg_nm 8 c_first_state.nd) (fun d hd => ⟨[d], rfl, ?_⟩) ?_).ev.is (by rw [ekv])) a_nil)))) ⟨p, i, 0, _, rfl, hi, Nat.zero_le _, rfl⟩)
        (tg_tup (is := [4, 5]) rfl (gs_cons 4 c_first_state.nd (gs_cons 5 c_first_state.nd gs_nil))) rfl ?_
      · obtain ⟨r, _, rfl⟩ := List.mem_map.mp hd
        exact ⟨fun _ _ _ _ _ => nm 8, fun _ _ _ _ _ => nm 8⟩
      · have := regs_len (code p i); simp; omega
      · refine s_app (xs := (List.range i).map fun _ => .int 0) 1 (nm 4) ?_ (by simp; omega)
        refine s_app (xs := (List.range i).map fun t => regD (code p t) Rg.v) 2 (e_call (ok_packed T hC) hr1 (a_cons (nm 0) (a_cons (nm 3) (a_cons (nm 5) a_nil))) ⟨p, i, _, rfl, hi, rfl⟩) ?_ (by simp; omega)
        refine s_nil ⟨some (.v (.int (i : Int))), some (.v (.int ((0 : Nat) : Int))), some (.v (dk (dkv (code p i) Rg.v))), ?_⟩
        rw [List.range_succ, List.map_append, List.map_append]
        rfl
    · obtain ⟨x3, x4, x5, rfl⟩ := hP
      rw [rangeD_len]
      have ename : ∀ x : Cl, (D.str ((Str.empty ++ x.s) ++ ".1")) = strD x.v := by
        intro x
        cases x <;> exact congrArg D.str (by decide +kernel)
      let nmc : D → D := fun d => match d with | .str s => if s = "x" then strD .x1 else if s = "y" then strD .y1 else strD .z1 | d => d
      have hnmc : ∀ x : Cl, nmc (.str x.s) = strD x.v := by
        intro x
        cases x
        · exact if_pos rfl
        · exact (if_neg (show ("y" : Str) ≠ "x" by decide)).trans (if_pos rfl)
        · exact (if_neg (show ("zz" : Str) ≠ "x" by decide)).trans (if_neg (show ("zz" : Str) ≠ "y" by decide))
      refine s_set 6 c_first_state.nd (d := .tup ((cellsOf p).map fun x => strD x.v)) ((e_callT (T := "tuple") (b_cons (f_lc (ds := ((cellsOf p).map Cl.s).map .str) [("cell", 9)] nmc rfl c_first_state.nd (blkOk_by (N := n_first_state) (sc := defScope s_first_state) (by decide +kernel)) (i_tup (e_names hC (nm 0).eb).nt) (fun _ _ _ _ _ => tg_nm 9 c_first_state.nd) (fun d hd => ⟨[d], rfl, ?_⟩) ?_).ev.eb b_nil) k_tuple T.f_tuple).is ?_) ?_
      · obtain ⟨s, hs, rfl⟩ := List.mem_map.mp hd
        obtain ⟨x, _, rfl⟩ := List.mem_map.mp hs
        rw [hnmc, ← ename]
        intro _ _ _ _ _
        have hlen : (Str.empty ++ x.s).length ≤ 10 ∧ ((Str.empty ++ x.s) ++ ".1").length ≤ 10 := by cases x <;> decide +kernel
        exact e_dget2 (kvs := []) (ky := .inr x.s) (e_cells hC (nm 0).eb).eb (nm 9) (e_join2 (e_fmt (nm 9) (sz_le (by cases x <;> decide))) c_str (sz_le (by omega)) (sz_le (by omega))) hu ⟨rfl, rfl, rfl, rfl⟩
      · have := cells_len p; simp; omega
      · rw [List.map_map, List.map_map]
        exact congrArg D.tup (List.map_congr_left fun x _ => hnmc x)
      · refine s_set 7 c_first_state.nd (d := rowsOf p.length fun _ => .tup []) ((e_callT (T := "tuple") (b_cons (f_lc (ds := p.map codeD) [("code", 10)] (fun _ => .tup []) rfl c_first_state.nd (blkOk_by (N := n_first_state) (sc := defScope s_first_state) (by decide +kernel)) (i_tup (e_threads hC (nm 0).eb)) (fun _ _ _ _ _ => tg_nm 10 c_first_state.nd) (fun d hd => ⟨[d], rfl, fun _ _ _ _ _ => e_tup a_nil (by decide)⟩) (by simp; omega)).ev.eb b_nil) k_tuple T.f_tuple).is ?_) ?_
        · unfold rowsOf
          rw [List.map_map]
          refine congrArg D.tup (List.ext_getElem? fun j => ?_)
          rw [List.getElem?_map, List.getElem?_map]
          by_cases hj : j < p.length
          · rw [List.getElem?_eq_getElem hj, List.getElem?_range hj]
            rfl
          · rw [List.getElem?_eq_none (by simpa using hj), List.getElem?_eq_none (by simpa using hj)]
            rfl
        · refine s_ret (e_tup (a_cons (e_callT (T := "tuple") (b_cons (no 1) b_nil) k_tuple T.f_tuple) (a_cons (e_callT (T := "tuple") (b_cons (no 2) b_nil) k_tuple T.f_tuple) (a_cons (nm 6) (a_cons (nm 7) (a_cons (nm 7) a_nil))))) (sz_le (by simp))) ?_
          rfl
end
end Pd
end
section
set_option Elab.async false
set_option linter.all false
set_option maxRecDepth 100000
set_option maxHeartbeats 4000000
/-! Df10: all states that are reached. -/
namespace Pd
open PySem PySem.Spec L2 Pz Pt Mi
section
variable {P : Program} {w : World} {K : PySem.W.Frag} {mg : Str → Option Value} {base : Heap} {CP : Addr}
theorem k_isP {X : Cx} {F : Fr} {en : En} {C : Addr} {fs : List (Str × D)} (hC : PCls X.K C) : CallD X F en (.builtin "isinstance") [.ins C fs, .ref C] (.bl true) := fun M σ H vs Q R bw q => by
  obtain ⟨w, u, rfl, b1, b2⟩ := bw.two
  have e : u = .ref C := by
    rcases b2.any R with r | ⟨a, _, o⟩
    · cases r; rfl
    · cases o
  subst e
  obtain ⟨a, dx, us, rfl, h, _⟩ := b1.ins R
  exact rC_of call_isi ⟨.ref a, .ref C, .ref C, .ref C, true, rfl, .own C, .base (.ins h hC.cls hC.ha hC.hn hC.htk hC.hm), hC.kit, q _ H R.inv Gr.refl (.bl true)⟩
def R_reqP (CP : Addr) : List D → D → Prop := fun ds d => ∃ p : Prg, ds = [progD CP p] ∧ d = .non
theorem ok_reqP (T : Top w K mg) (hC : PCls K CP) (hP : mg "Program" = some (.ref CP)) : Cal P w K mg base 1 "require_program" (R_reqP CP) := by
  refine cal_ok T.d_require_program c_require_program (fun ds d h => ?_) (fun _ _ _ _ _ _ us hl => match us, hl with | [_], _ => rfl) (fun f cdv A outer s H E Fm ds d hr h => ?_)
  · obtain ⟨p, rfl, _⟩ := h
    rfl
  · obtain ⟨p, rfl, rfl⟩ := h
    exact s_if0 (t_notT (t_bool (e_callB (b_cons (nm (d := progD CP p) 0).eb (b_cons (g_ref hP).eb b_nil)) (k_isP hC) T.f_isinstance))) (s_nil rfl)
/-! ### what is found -/
def esOf (p : Prg) : List Sta → List D → List (D × D)
  | s :: L, d :: lk => (s.d p, d) :: esOf p L lk
  | _, _ => []
theorem esOf_app {p : Prg} {s : Sta} {d : D} : ∀ {L : List Sta} {lk : List D}, lk.length = L.length → esOf p (L ++ [s]) (lk ++ [d]) = esOf p L lk ++ [(s.d p, d)]
  | [], [], _ => rfl
  | a :: L, b :: lk, h => congrArg _ (esOf_app (Nat.succ.inj h))
  | [], _ :: _, h => by cases h
  | _ :: _, [], h => by cases h
theorem esOf_mem {p : Prg} : ∀ {L : List Sta} {lk : List D} {q : D × D}, q ∈ esOf p L lk → ∃ s ∈ L, q.1 = s.d p
  | [], _, _, h => by cases h
  | _ :: _, [], _, h => by cases h
  | a :: L, b :: lk, q, h => by
    rcases List.mem_cons.mp h with rfl | h
    · exact ⟨a, List.mem_cons_self, rfl⟩
    · obtain ⟨s, h1, h2⟩ := esOf_mem h
      exact ⟨s, List.mem_cons_of_mem _ h1, h2⟩
theorem esOf_has {p : Prg} : ∀ {L : List Sta} {lk : List D} {s : Sta}, lk.length = L.length → s ∈ L → ∃ q ∈ esOf p L lk, q.1 = s.d p
  | [], _, _, _, h => by cases h
  | _ :: _, [], _, e, _ => by cases e
  | a :: L, b :: lk, s, e, h => by
    rcases List.mem_cons.mp h with rfl | h
    · exact ⟨_, List.mem_cons_self, rfl⟩
    · obtain ⟨q, h1, h2⟩ := esOf_has (Nat.succ.inj e) h
      exact ⟨q, List.mem_cons_of_mem _ h1, h2⟩
theorem esOf_len {p : Prg} : ∀ {L : List Sta} {lk : List D}, lk.length = L.length → (esOf p L lk).length = L.length
  | [], [], _ => rfl
  | a :: L, b :: lk, h => congrArg (· + 1) (esOf_len (Nat.succ.inj h))
  | [], _ :: _, h => by cases h
  | _ :: _, [], h => by cases h
theorem esOf_keys {p : Prg} : ∀ {L : List Sta} {lk : List D}, lk.length = L.length → (esOf p L lk).map (·.1) = L.map (Sta.d p)
  | [], [], _ => rfl
  | a :: L, b :: lk, h => congrArg _ (esOf_keys (Nat.succ.inj h))
  | [], _ :: _, h => by cases h
  | _ :: _, [], h => by cases h
theorem hk_vals (vs : List Vl) : Hk 1 (valsD vs) := .tup fun d hd => by
  obtain ⟨v, _, rfl⟩ := List.mem_map.mp hd
  exact .str
theorem hk_rows {n m : Nat} {f : Nat → D} (h : ∀ t, Hk m (f t)) : Hk (m + 1) (rowsOf n f) := .tup fun d hd => by
  obtain ⟨t, _, rfl⟩ := List.mem_map.mp hd
  exact h t
theorem hk_reg (c : List Sm) (f : Rg → Vl) : Hk 1 (regD c f) := .tup fun d hd => by
  obtain ⟨v, _, rfl⟩ := List.mem_map.mp hd
  exact .str
theorem hk_sta (p : Prg) (s : Sta) : Hk 3 (s.d p) := .tup fun d hd => by
  simp only [List.mem_cons, List.not_mem_nil, or_false] at hd
  rcases hd with rfl | rfl | rfl | rfl | rfl
  · exact hk_rows fun t => .int
  · exact hk_rows fun t => hk_reg _ _
  · exact .tup fun d hd => by
      obtain ⟨v, _, rfl⟩ := List.mem_map.mp hd
      exact .str
  · exact hk_rows fun t => hk_vals _
  · exact hk_rows fun t => hk_vals _
theorem er_strs {α : Type} (f : α → D) (hf : ∀ a, (f a).er = f a) (l : List α) : ers (l.map f) = l.map f := by
  rw [ers_map, List.map_map]
  exact List.map_congr_left fun a _ => hf a
theorem er_rows (n : Nat) {f : Nat → D} (hf : ∀ t, (f t).er = f t) : (rowsOf n f).er = rowsOf n f := by
  unfold rowsOf
  rw [D.er, er_strs f hf]
theorem er_sta (p : Prg) (s : Sta) : (s.d p).er = s.d p := by
  have hv : ∀ vs : List Vl, (valsD vs).er = valsD vs := fun vs => by unfold valsD; rw [D.er, er_strs _ fun v => by simp [D.er]]
  have hs : ∀ v, (strD v).er = strD v := fun v => by unfold strD; simp [D.er]
  unfold Sta.d
  rw [D.er]
  simp only [ers]
  rw [er_rows _ fun t => by simp [D.er], er_rows _ fun t => by unfold regD; rw [D.er, er_strs _ fun v => hs _], D.er, er_strs _ fun v => hs _, er_rows _ fun t => hv _, er_rows _ fun t => hv _]
theorem sta_nk {p : Prg} {s s' : Sta} (h : (s.d p).nk = (s'.d p).nk) : s.d p = s'.d p := by
  have := nk_inj (hk_sta p s) (hk_sta p s') h
  rwa [er_sta, er_sta] at this
theorem hk_up {m n : Nat} {d : D} (h : Hk m d) : m ≤ n → Hk n d := by
  intro hmn
  induction n generalizing m d with
  | zero =>
    have : m = 0 := by omega
    subst this
    exact h
  | succ n ih =>
    cases h with
    | non => exact .non
    | int => exact .int
    | str => exact .str
    | tup hd => exact .tup fun d hd' => ih (hd d hd') (by omega)
    | ntp hd => exact .ntp fun d hd' => ih (hd d hd') (by omega)
theorem hes_of {p : Prg} {L : List Sta} {lk : List D} : ∀ q ∈ esOf p L lk, Hk 7 q.1 := fun q hq => by
  obtain ⟨s, _, e⟩ := esOf_mem hq
  rw [e]
  exact hk_up (hk_sta p s) (by decide)
/-- a program that may be looked through -/
structure Good (p : Prg) : Prop where
  ok : Okp p
  ord : Orderly p
  nine : ∀ c ∈ p, c.length ≤ 9
/-- the list of all states, each once -/
structure AllS (p : Prg) (L : List Sta) : Prop where
  nd : L.Pairwise fun a b => a ≠ b
  re : ∀ s ∈ L, Reach p s
  fst : Sta.first ∈ L
  cl : ∀ s ∈ L, ∀ t, t < p.length → can p s t = true → stp p s t ∈ L
theorem AllS.all {p : Prg} {L : List Sta} (h : AllS p L) {s : Sta} (r : Reach p s) : s ∈ L := by
  obtain ⟨w, r⟩ := r
  have : ∀ {a b : Sta} {w : List Nat}, Runs p a w b → a ∈ L → b ∈ L := by
    intro a b w r
    induction r with
    | nil => exact id
    | cons ht ct _ ih => exact fun ha => ih (h.cl _ ha _ ht ct)
  exact this r h.fst
/-- on the way: the first n are done -/
structure Som (p : Prg) (L : List Sta) (lk : List D) (n : Nat) : Prop where
  nd : L.Pairwise fun a b => a ≠ b
  re : ∀ s ∈ L, Reach p s
  fst : Sta.first ∈ L
  le : n ≤ L.length
  ll : lk.length = L.length
  cl : ∀ (i : Nat) s, i < n → L[i]? = some s → ∀ t, t < p.length → can p s t = true → stp p s t ∈ L
theorem Som.app {p : Prg} {L : List Sta} {lk : List D} {n : Nat} {s : Sta} {d : D} (h : Som p L lk n) (hs : Reach p s) (hn : s ∉ L) : Som p (L ++ [s]) (lk ++ [d]) n := by
  refine ⟨List.pairwise_append.mpr ⟨h.nd, List.pairwise_singleton _ _, fun a ha b hb e => ?_⟩, fun a ha => ?_, List.mem_append_left _ h.fst, by have := h.le; simp; omega, by simp [h.ll], fun i a hi ha t ht ct => ?_⟩
  · rw [List.mem_singleton] at hb
    exact hn (hb ▸ e ▸ ha)
  · rcases List.mem_append.mp ha with ha | ha
    · exact h.re a ha
    · rw [List.mem_singleton] at ha; exact ha ▸ hs
  · have hl := h.le
    rw [List.getElem?_append_left (by omega)] at ha
    exact List.mem_append_left _ (h.cl i a hi ha t ht ct)
def R_reached (p : Prg) : List D → D → Prop := fun _ d => ∃ L lk, d = .dcn (esOf p L lk) ∧ lk.length = L.length ∧ AllS p L
def muAt (e : En) : Nat := match e[4]? with
  | some (some (Sl.v (D.int n))) => 1000 - n.toNat
  | _ => 0
theorem ok_reached (T : Top w K mg) (hC : PCls K CP) {p : Prg} (hp : Good p) : CalW P w K mg base 5 "reached" (fun ds => ds = [progD CP p]) (R_reached p) := by
  refine calW_ok T.d_reached c_reached (fun ds h => by subst h; rfl) (fun _ _ _ _ _ _ us hl => match us, hl with | [_], _ => rfl) (fun f cdv A outer s H E Fm ds hr h => ?_)
  subst h
  have hu := hr.units
  have hn3 := hp.ok.two.2
  obtain ⟨tM, hM⟩ := T.i_MAX_STATES
  refine s_set 1 c_reached.nd (e_call (ok_first T hC) (hr.mono (by decide)) (a_cons (nm 0) a_nil) ⟨p, rfl, hp.ok, rfl⟩) ?_
  refine s_par3 2 3 4 rfl c_reached.nd (as_o (f_disp1 hu (nm 1) c_non (hk_up (hk_sta p .first) (by decide : 3 ≤ 7)) (Nat.le_refl _)) (as_o (f_lst (a_cons (nm 1) a_nil) (sz_le (by simp))) (as_v c_int as_nil))) ?_
  let Inv := fun (L : List Sta) (lk : List D) (n : Nat) (e : En) => ∃ x5 x6 x7, e = [some (.v (progD CP p)), some (.v (Sta.first.d p)), some (.own (.dcn (esOf p L lk))), some (.own (.lst (L.map (Sta.d p)))), some (.v (.int (n : Int))), x5, x6, x7]
  refine s_while (fun e => ∃ L lk n, Som p L lk n ∧ Inv L lk n e) muAt pnever ⟨[.first], [.non], 0, ⟨List.pairwise_singleton _ _, fun s hs => by rw [List.mem_singleton] at hs; subst hs; exact .first, List.mem_singleton.mpr rfl, Nat.zero_le _, rfl, fun i s hi => absurd hi (Nat.not_lt_zero _)⟩, _, _, _, rfl⟩ (fun e he => ?_)
  obtain ⟨L, lk, n, hS, x5, x6, x7, rfl⟩ := he
  have hfew := reach_few hp.ord hn3 hp.nine hS.re hS.nd
  by_cases hlt : n < L.length
  · refine ⟨true, t_cmp (nm 4).eb (e_callB (b_cons (no 3) b_nil) k_len T.f_len).eb (o_ltT (by simp; omega)), ⟨fun _ => ?_, fun z => absurd z.symm Bool.false_ne_true⟩⟩
    obtain ⟨st, hst⟩ : ∃ st, L[n]? = some st := ⟨L[n], List.getElem?_eq_getElem hlt⟩
    have hre := hS.re st (List.mem_of_getElem? hst)
    refine s_set 5 c_reached.nd (e_ix (no 3) (nm 4) (x_lst (d := st.d p) (by rw [List.getElem?_map, hst]; rfl))) ?_
    let Inn := fun (L' : List Sta) (lk' : List D) (e : En) => ∃ x6 x7, e = [some (.v (progD CP p)), some (.v (Sta.first.d p)), some (.own (.dcn (esOf p L' lk'))), some (.own (.lst (L'.map (Sta.d p)))), some (.v (.int (n : Int))), some (.v (st.d p)), x6, x7]
    refine s_for (ds := (ready p st).map fun t : Nat => .int (t : Int)) (fun j e => ∃ L' lk', Som p L' lk' n ∧ L'[n]? = some st ∧ (∀ t ∈ (ready p st).take j, stp p st t ∈ L') ∧ Inn L' lk' e) pnever rfl
      (i_tup (e_call (ok_ready_in T hC) (hr.mono (by decide)) (a_cons (nm 0) (a_cons (nm 5) a_nil)) ⟨p, st, rfl, hn3, rfl⟩)) (tg_nm 6 c_reached.nd) ⟨L, lk, hS, hst, fun _ h => by simp at h, _, _, rfl⟩ (fun j d e hd hP => ?_) (fun e hP => ?_)
    · obtain ⟨L', lk', hS', hst', hin, x6, x7, rfl⟩ := hP
      rw [List.getElem?_map] at hd
      obtain ⟨t, htj, rfl⟩ := Option.map_eq_some_iff.mp hd
      obtain ⟨ht, ct⟩ := mem_ready.mp (List.mem_of_getElem? htj)
      have hre' := hre.stp ht ct
      have hfew' := reach_few hp.ord hn3 hp.nine hS'.re hS'.nd
      refine ⟨_, rfl, ?_⟩
      refine s_set 7 c_reached.nd (e_call (ok_stepped T hC) (hr.mono (by decide)) (a_cons (nm 0) (a_cons (nm 5) (a_cons (nm 6) a_nil))) ⟨p, st, t, rfl, ht, hp.ok, hre.okc, ct, rfl⟩) ?_
      have hk7 := hk_up (hk_sta p (stp p st t)) (by decide : 3 ≤ 7)
      have htake : ∀ (M : List Sta), (∀ u ∈ L', u ∈ M) → stp p st t ∈ M → ∀ u ∈ (ready p st).take (j + 1), stp p st u ∈ M := fun M h1 h2 u hu' => by
        rw [List.take_add_one, htj] at hu'
        rcases List.mem_append.mp hu' with hu' | hu'
        · exact h1 _ (hin u hu')
        · have : u = t := by simpa using hu'
          subst this
          exact h2
      by_cases hm : stp p st t ∈ L'
      · refine s_if0 (t_cmp (nm 7).eb (no 2) (o_ninN (r := false) hu hk7 (Nat.le_refl _) hes_of (.inl ⟨rfl, esOf_has hS'.ll hm⟩))) (s_nil ⟨L', lk', hS', hst', htake L' (fun _ h => h) hm, _, _, rfl⟩)
      · have hne : ∀ q ∈ esOf p L' lk', q.1.nk ≠ ((stp p st t).d p).nk := fun q hq z => by
          obtain ⟨s', h1, h2⟩ := esOf_mem hq
          rw [h2] at z
          have := d_inj hp.ord (hS'.re s' h1) hre' (sta_nk z)
          exact hm (this ▸ h1)
        refine s_ifT (t_cmp (nm 7).eb (no 2) (o_ninN (r := true) hu hk7 (Nat.le_refl _) hes_of (.inr ⟨rfl, hne⟩))) ?_
        refine s_dputN (es := esOf p L' lk') (d := .tup [st.d p, .int (t : Int)]) 2 (e_tup (a_cons (nm 5) (a_cons (nm 6) a_nil)) (sz_le (by simp))) (nm 7) ?_ hu hk7 (Nat.le_refl _) hes_of hne (by rw [esOf_len hS'.ll]; omega)
        refine s_app (xs := L'.map (Sta.d p)) 3 (nm 7) ?_ (by simp; omega)
        refine s_nil (s_nil ⟨L' ++ [stp p st t], lk' ++ [.tup [st.d p, .int (t : Int)]], hS'.app hre' hm, ?_, htake _ (fun u hu' => List.mem_append_left _ hu') (List.mem_append_right _ List.mem_cons_self), some (.v (.int (t : Int))), some (.v ((stp p st t).d p)), ?_⟩)
        · rw [List.getElem?_append_left (List.getElem?_eq_some_iff.mp hst').1]; exact hst'
        · rw [esOf_app hS'.ll, List.map_append]
          rfl
    · obtain ⟨L', lk', hS', hst', hin, x6, x7, rfl⟩ := hP
      have hfew' := reach_few hp.ord hn3 hp.nine hS'.re hS'.nd
      have hn' : n < L'.length := (List.getElem?_eq_some_iff.mp hst').1
      refine s_if0 (t_cmp (e_callB (b_cons (no 2) b_nil) (k_lenN hes_of) T.f_len).eb (g_int hM).eb (o_gtF (by rw [esOf_len hS'.ll]; omega))) ?_
      refine s_addI 4 c_reached.nd c_int ?_
      refine s_nil ⟨⟨L', lk', n + 1, ⟨hS'.nd, hS'.re, hS'.fst, hn', hS'.ll, fun i s hi hs t ht ct => ?_⟩, some (.v (st.d p)), _, _, rfl⟩, ?_⟩
      · by_cases hin' : i < n
        · exact hS'.cl i s hin' hs t ht ct
        · have : i = n := by omega
          subst this
          rw [hst'] at hs
          cases hs
          rw [List.length_map, List.take_length] at hin
          exact hin t (mem_ready.mpr ⟨ht, ct⟩)
      · show 1000 - ((n : Int) + 1).toNat < 1000 - ((n : Int)).toNat
        omega
  · refine ⟨false, t_cmp (nm 4).eb (e_callB (b_cons (no 3) b_nil) k_len T.f_len).eb (o_ltF (by simp; omega)), ⟨fun z => absurd z Bool.false_ne_true, fun _ => ?_⟩⟩
    have hle := hS.le
    have hnl : n = L.length := by omega
    refine s_frz 2 (s_ret (nm 2) ⟨L, lk, rfl, hS.ll, ⟨hS.nd, hS.re, hS.fst, fun s hs t ht ct => ?_⟩⟩)
    obtain ⟨i, hi⟩ := List.mem_iff_getElem?.mp hs
    exact hS.cl i s (by rw [hnl]; exact (List.getElem?_eq_some_iff.mp hi).1) hi t ht ct
end
end Pd
end
section
set_option Elab.async false
set_option linter.all false
set_option maxRecDepth 100000
set_option maxHeartbeats 4000000
/-! Df11: clashes and ends of all states. -/
namespace Pd
open PySem PySem.Spec L2 Pz Pt Mi
section
variable {P : Program} {w : World} {K : PySem.W.Frag} {mg : Str → Option Value} {base : Heap} {CP : Addr}
def R_first_clash (CP : Addr) : List D → D → Prop := fun ds d => ∃ (p : Prg) (L : List Sta) (lk : List D), ds = [progD CP p, .dcn (esOf p L lk)] ∧ Good p ∧ lk.length = L.length ∧ AllS p L ∧ d = .non
theorem ok_first_clash (T : Top w K mg) (hC : PCls K CP) : Cal P w K mg base 5 "first_clash" (R_first_clash CP) := by
  refine cal_ok T.d_first_clash c_first_clash (fun ds d h => ?_) (fun _ _ _ _ _ _ us hl => match us, hl with | [_, _], _ => rfl) (fun f cdv A outer s H E Fm ds d hr h => ?_)
  · obtain ⟨p, L, lk, rfl, _⟩ := h
    rfl
  · obtain ⟨p, L, lk, rfl, hp, hl, hA, rfl⟩ := h
    have hu := hr.units
    refine s_for (fun _ e => ∃ x2, e = [some (.v (progD CP p)), some (.v (.dcn (esOf p L lk))), x2]) pnever rfl (i_dictN (nm 1)) (tg_nm 2 c_first_clash.nd) ⟨_, rfl⟩ (fun i d e hd hP => ?_) (fun e hP => ?_)
    · obtain ⟨x2, rfl⟩ := hP
      rw [esOf_keys hl, List.getElem?_map] at hd
      obtain ⟨st, hst, rfl⟩ := Option.map_eq_some_iff.mp hd
      refine ⟨_, rfl, ?_⟩
      exact s_if0 (t_cmp (e_call (ok_clashes T hC) hr (a_cons (nm 0) (a_cons (nm 2) a_nil)) ⟨p, st, rfl, hp.ok.two.2, hp.ord st (hA.re st (List.mem_of_getElem? hst)), rfl⟩).eb (e_tup a_nil (by decide)).eb (o_ne_F hu sh_nil rfl)) (s_nil ⟨_, rfl⟩)
    · obtain ⟨x2, rfl⟩ := hP
      exact s_ret c_non rfl
theorem sh_ints (ns : List Nat) : Sh 1 (intsD ns) := .tup fun d hd => by
  obtain ⟨v, _, rfl⟩ := List.mem_map.mp hd
  exact .int
open Classical in
noncomputable def isD (x : D) : D → Bool := fun d => decide (d = x)
theorem pick_one {p : Prg} (ho : Orderly p) {e : Sta} (re : Reach p e) : ∀ {L : List Sta}, (∀ s ∈ L, Reach p s) → L.Pairwise (fun a b => a ≠ b) → (e ∈ L → picked (isD (e.d p)) (fun d => d) (L.map (Sta.d p)) = [e.d p]) ∧ (e ∉ L → picked (isD (e.d p)) (fun d => d) (L.map (Sta.d p)) = [])
  | [], _, _ => ⟨fun h => absurd h List.not_mem_nil, fun _ => rfl⟩
  | a :: L, hr, hn => by
    obtain ⟨h1, h2⟩ := pick_one ho re (L := L) (fun s hs => hr s (List.mem_cons_of_mem _ hs)) (List.pairwise_cons.mp hn).2
    have ha := (List.pairwise_cons.mp hn).1
    unfold picked at h1 h2 ⊢
    rw [List.map_cons, List.filter_cons]
    by_cases e1 : a = e
    · subst e1
      have : isD (a.d p) (a.d p) = true := by simp [isD]
      rw [this]
      have hni : a ∉ L := fun z => ha a z rfl
      refine ⟨fun _ => ?_, fun h => absurd List.mem_cons_self h⟩
      simp only [if_true, List.map_cons]
      rw [h2 hni]
    · have : isD (e.d p) (a.d p) = false := by
        simp only [isD, decide_eq_false_iff_not]
        intro z
        exact e1 (d_inj ho (hr a List.mem_cons_self) re z)
      rw [this]
      simp only [Bool.false_eq_true, if_false]
      refine ⟨fun h => h1 ?_, fun h => h2 fun z => h (List.mem_cons_of_mem _ z)⟩
      rcases List.mem_cons.mp h with h | h
      · exact absurd h.symm e1
      · exact h
def R_ends_in (CP : Addr) : List D → D → Prop := fun ds d => ∃ (p : Prg) (L : List Sta) (lk : List D) (e : Sta), ds = [progD CP p, .dcn (esOf p L lk)] ∧ Good p ∧ lk.length = L.length ∧ AllS p L ∧ Reach p e ∧ IsEnd p e ∧ d = .lst [e.d p]
theorem ok_ends_in (T : Top w K mg) (hC : PCls K CP) : Cal P w K mg base 4 "ends_in" (R_ends_in CP) := by
  refine cal_ok T.d_ends_in c_ends_in (fun ds d h => ?_) (fun _ _ _ _ _ _ us hl => match us, hl with | [_, _], _ => rfl) (fun f cdv A outer s H E Fm ds d hr h => ?_)
  · obtain ⟨p, L, lk, e, rfl, _⟩ := h
    rfl
  · obtain ⟨p, L, lk, e, rfl, hp, hl, hA, hre, hee, rfl⟩ := h
    have hu := hr.units
    have hfew := reach_few hp.ord hp.ok.two.2 hp.nine hA.re hA.nd
    refine s_ret ((f_lcIf [("state", 2)] (isD (e.d p)) (fun d => d) rfl c_ends_in.nd (blkOk_by (N := n_ends_in) (sc := defScope s_ends_in) (by decide +kernel)) (i_dictN (nm 1)) (fun _ _ _ _ _ => tg_nm 2 c_ends_in.nd) (fun d hd => ⟨[d], rfl, ?_⟩) (by rw [esOf_keys hl, List.length_map]; omega)).ev.is (by rw [esOf_keys hl, (pick_one hp.ord hre hA.re hA.nd).1 (hA.all hre)])) rfl
    rw [esOf_keys hl] at hd
    obtain ⟨st, hst, rfl⟩ := List.mem_map.mp hd
    have hrs := hA.re st hst
    refine ⟨fun _ _ _ _ _ => t_cmp (e_call (ok_ready_in T hC) (hr : Room 3 _) (a_cons (nm 0) (a_cons (nm 2) a_nil)) ⟨p, st, rfl, hp.ok.two.2, rfl⟩).eb (e_tup a_nil (by decide)).eb ?_, fun _ _ _ _ _ _ => nm 2⟩
    by_cases h : IsEnd p st
    · have e1 : st = e := ends_eq hp.ord hrs hre h hee
      subst e1
      have : isD (st.d p) (st.d p) = true := by simp [isD]
      rw [this]
      exact o_eq_T hu (sh_ints _) (by rw [ready_nil.mpr h]; rfl)
    · have : isD (e.d p) (st.d p) = false := by
        simp only [isD, decide_eq_false_iff_not]
        intro z
        exact h ((d_inj hp.ord hrs hre z) ▸ hee)
      rw [this]
      refine o_eq_F hu (sh_ints _) sh_nil fun z => h (ready_nil.mp ?_)
      have := D.tup.inj z
      simpa using this
def R_clash0 (CP : Addr) : List D → D → Prop := fun ds d => ∃ p : Prg, ds = [progD CP p] ∧ Good p ∧ d = .non
theorem ok_clash0 (T : Top w K mg) (hC : PCls K CP) (hP : mg "Program" = some (.ref CP)) : Cal P w K mg base 6 "clash" (R_clash0 CP) := by
  refine cal_ok T.d_clash c_clash (fun ds d h => ?_) (fun _ _ _ _ _ _ us hl => match us, hl with | [_], _ => rfl) (fun f cdv A outer s H E Fm ds d hr h => ?_)
  · obtain ⟨p, rfl, _⟩ := h
    rfl
  · obtain ⟨p, rfl, hp, rfl⟩ := h
    refine s_expr (e_call (ok_reqP T hC hP) (hr.mono (by decide)) (a_cons (nm 0) a_nil) ⟨p, rfl, rfl⟩) ?_
    refine s_ret (e_callA (ok_first_clash T hC) hr (aw_cons (Ev.w (K := fun d => d = progD CP p) (nm 0) rfl) (aw_cons (e_callW (ok_reached T hC hp) hr (a_cons (nm 0) a_nil) rfl) aw_nil)) (fun ds h => ?_)) rfl
    obtain ⟨_, _, rfl, rfl, _, _, rfl, ⟨L, lk, rfl, hl, hA⟩, rfl⟩ := h
    exact ⟨p, L, lk, rfl, hp, hl, hA, rfl⟩
def R_is_orderly (CP : Addr) : List D → D → Prop := fun ds d => ∃ p : Prg, ds = [progD CP p] ∧ Good p ∧ d = .bl true
theorem ok_is_orderly (T : Top w K mg) (hC : PCls K CP) (hP : mg "Program" = some (.ref CP)) : Cal P w K mg base 7 "is_orderly" (R_is_orderly CP) := by
  refine cal_ok T.d_is_orderly c_is_orderly (fun ds d h => ?_) (fun _ _ _ _ _ _ us hl => match us, hl with | [_], _ => rfl) (fun f cdv A outer s H E Fm ds d hr h => ?_)
  · obtain ⟨p, rfl, _⟩ := h
    rfl
  · obtain ⟨p, rfl, hp, rfl⟩ := h
    exact s_ret (e_cmp (e_call (ok_clash0 T hC hP) hr (a_cons (nm 0) a_nil) ⟨p, rfl, hp, rfl⟩).eb c_non.eb o_isNn) rfl
/-- the rows shown -/
def shwD (p : Prg) (s : Sta) : D := rowsOf p.length fun t => valsD (s.shw t)
def R_ends (CP : Addr) : List D → D → Prop := fun ds d => ∃ (p : Prg) (e : Sta), ds = [progD CP p] ∧ Good p ∧ Reach p e ∧ IsEnd p e ∧ d = .tup [shwD p e]
theorem ok_ends (T : Top w K mg) (hC : PCls K CP) (hP : mg "Program" = some (.ref CP)) : Cal P w K mg base 6 "ends" (R_ends CP) := by
  refine cal_ok T.d_ends c_ends (fun ds d h => ?_) (fun _ _ _ _ _ _ us hl => match us, hl with | [_], _ => rfl) (fun f cdv A outer s H E Fm ds d hr h => ?_)
  · obtain ⟨p, e, rfl, _⟩ := h
    rfl
  · obtain ⟨p, e, rfl, hp, hre, hee, rfl⟩ := h
    have hu := hr.units
    refine s_expr (e_call (ok_reqP T hC hP) (hr.mono (by decide)) (a_cons (nm 0) a_nil) ⟨p, rfl, rfl⟩) ?_
    refine s_dcN (ds := [e.d p]) 1 [("state", 2)] (fun _ => (List.range p.length).map fun t => valsD (e.shw t)) (fun _ => .bl true) hu rfl c_ends.nd (blkOk_by (N := n_ends) (sc := defScope s_ends) (by decide +kernel)) (i_list (e_callA (ok_ends_in T hC) (hr.mono (by decide)) (aw_cons (Ev.w (K := fun d => d = progD CP p) (nm 0) rfl) (aw_cons (e_callW (ok_reached T hC hp) hr (a_cons (nm 0) a_nil) rfl) aw_nil)) (fun ds h => ?_)))
      (fun _ _ _ _ _ => tg_nm 2 c_ends.nd) (fun d hd => ?_) (by simp) (by simp) ?_
    · obtain ⟨_, _, rfl, rfl, _, _, rfl, ⟨L, lk, rfl, hl, hA⟩, rfl⟩ := h
      exact ⟨p, L, lk, e, rfl, hp, hl, hA, hre, hee, rfl⟩
    · rw [List.mem_singleton] at hd
      subst hd
      exact ⟨hk_up (hk_rows (n := p.length) (f := fun t => valsD (e.shw t)) fun t => hk_vals _) (by decide), [e.d p], rfl, fun _ _ _ _ _ => e_ix (nm 2).eb c_int x_st4, fun _ _ _ _ _ => c_bl⟩
    · exact s_ret (e_callT (T := "tuple") (b_cons (f_callB (id := "sorted") (b_cons (f_callT (T := "list") (b_cons (no 1) b_nil) (k_listN rfl) T.f_list).ev.eb b_nil) (k_sort1 (by simp)) T.f_sorted).ev.eb b_nil) k_tuple T.f_tuple) rfl
def R_outcome (CP : Addr) : List D → D → Prop := fun ds d => ∃ (p : Prg) (e : Sta), ds = [progD CP p] ∧ Good p ∧ Reach p e ∧ IsEnd p e ∧ d = shwD p e
theorem ok_outcome (T : Top w K mg) (hC : PCls K CP) (hP : mg "Program" = some (.ref CP)) : Cal P w K mg base 6 "outcome" (R_outcome CP) := by
  refine cal_ok T.d_outcome c_outcome (fun ds d h => ?_) (fun _ _ _ _ _ _ us hl => match us, hl with | [_], _ => rfl) (fun f cdv A outer s H E Fm ds d hr h => ?_)
  · obtain ⟨p, e, rfl, _⟩ := h
    rfl
  · obtain ⟨p, e, rfl, hp, hre, hee, rfl⟩ := h
    refine s_expr (e_call (ok_reqP T hC hP) (hr.mono (by decide)) (a_cons (nm 0) a_nil) ⟨p, rfl, rfl⟩) ?_
    refine s_setW 1 c_outcome.nd (e_callW (ok_reached T hC hp) hr (a_cons (nm 0) a_nil) rfl) (fun d hd => ?_)
    obtain ⟨L, lk, rfl, hl, hA⟩ := hd
    refine s_if0 (t_cmp (e_call (ok_first_clash T hC) hr (a_cons (nm 0) (a_cons (nm 1) a_nil)) ⟨p, L, lk, rfl, hp, hl, hA, rfl⟩).eb c_non.eb o_notNn) ?_
    exact s_ret (e_ix (e_ix (e_call (ok_ends_in T hC) (hr.mono (by decide)) (a_cons (nm 0) (a_cons (nm 1) a_nil)) ⟨p, L, lk, e, rfl, hp, hl, hA, hre, hee, rfl⟩).eb c_int (x_lst (j := 0) rfl)).eb c_int x_st4) rfl
end
end Pd
end
section
set_option Elab.async false
set_option linter.all false
set_option maxRecDepth 100000
set_option maxHeartbeats 4000000
/-! Df12: orders (the empty one), numbers of threads. -/
namespace Pd
open PySem PySem.Spec L2 Pz Pt Mi
section
variable {P : Program} {w : World} {K : PySem.W.Frag} {mg : Str → Option Value} {base : Heap} {CP : Addr}
def R_req_thread (CP : Addr) : List D → D → Prop := fun ds d => ∃ (p : Prg) (t : Nat), ds = [progD CP p, .int (t : Int)] ∧ t < p.length ∧ d = .non
theorem ok_req_thread (T : Top w K mg) (hC : PCls K CP) : Cal P w K mg base 2 "require_thread" (R_req_thread CP) := by
  refine cal_ok T.d_require_thread c_require_thread (fun ds d h => ?_) (fun _ _ _ _ _ _ us hl => match us, hl with | [_, _], _ => rfl) (fun f cdv A outer s H E Fm ds d hr h => ?_)
  · obtain ⟨p, t, rfl, _⟩ := h
    rfl
  · obtain ⟨p, t, rfl, ht, rfl⟩ := h
    exact s_if0 (t_notT (t_bool (e_call (ok_is_index T) hr (a_cons (nm 1) (a_cons ((e_callB (b_cons (e_threads hC (nm 0).eb).eb b_nil) k_lenT T.f_len).is (by rw [List.length_map])) a_nil)) ⟨_, _, rfl, by omega, by omega, rfl⟩))) (s_nil rfl)
def R_order0 (CP : Addr) : List D → D → Prop := fun ds d => ∃ (p : Prg), ds = [progD CP p, .tup []] ∧ d = .bl true
theorem ok_order0 (T : Top w K mg) (hC : PCls K CP) : Cal P w K mg base 2 "is_order" (R_order0 CP) := by
  refine cal_ok T.d_is_order c_is_order (fun ds d h => ?_) (fun _ _ _ _ _ _ us hl => match us, hl with | [_, _], _ => rfl) (fun f cdv A outer s H E Fm ds d hr h => ?_)
  · obtain ⟨p, rfl, _⟩ := h
    rfl
  · obtain ⟨p, rfl, rfl⟩ := h
    obtain ⟨t1, hM⟩ := T.i_MAX_STEPS
    refine s_if0 (Ew.t (w_orF (t_notT (t_bool (e_callB (b_cons (nm (d := .tup []) 1).eb (b_cons (g_ty (n := "tuple") T.f_tuple).eb b_nil)) (k_isi (T := "tuple") rfl) T.f_isinstance)))
      (w_or1 (t_cmp (e_callB (b_cons (nm (d := .tup []) 1).eb b_nil) k_lenT T.f_len).eb (g_int hM).eb (o_gtF (by decide)))))) ?_
    exact s_ret (e_callB (id := "all") (b_cons (f_lc (ds := []) [("thread", 2)] (fun d => d) rfl c_is_order.nd (blkOk_by (N := n_is_order) (sc := defScope s_is_order) (by decide +kernel)) (i_tup (nm 1)) (fun _ _ _ _ _ => tg_nm 2 c_is_order.nd) (fun d hd => absurd hd List.not_mem_nil) (by simp)).ev.eb b_nil) (k_all (bs := []) rfl) T.f_all) rfl
def R_led0 (CP : Addr) : List D → D → Prop := fun ds d => ∃ (p : Prg), ds = [progD CP p, .tup []] ∧ Okp p ∧ d = Sta.first.d p
theorem ok_led0 (T : Top w K mg) (hC : PCls K CP) : Cal P w K mg base 3 "led" (R_led0 CP) := by
  refine cal_ok T.d_led c_led (fun ds d h => ?_) (fun _ _ _ _ _ _ us hl => match us, hl with | [_, _], _ => rfl) (fun f cdv A outer s H E Fm ds d hr h => ?_)
  · obtain ⟨p, rfl, _⟩ := h
    rfl
  · obtain ⟨p, rfl, hp, rfl⟩ := h
    refine s_set 2 c_led.nd (e_call (ok_first T hC) hr (a_cons (nm 0) a_nil) ⟨p, rfl, hp, rfl⟩) ?_
    refine s_for (ds := []) (fun _ e => e = [some (.v (progD CP p)), some (.v (.tup [])), some (.v (Sta.first.d p)), none]) pnever rfl (i_tup (nm 1)) (tg_nm 3 c_led.nd) rfl (fun i d e hd hP => ?_) (fun e hP => ?_)
    · simp at hd
    · subst hP
      exact s_ret (nm 2) rfl
end
end Pd
end
section
set_option Elab.async false
set_option linter.all false
set_option maxRecDepth 100000
set_option maxHeartbeats 4000000
/-! Df13: the class Run: what it tells. -/
namespace Pd
open PySem PySem.Spec PyProof.Rows L2 Pz Pt Mi
/-- a property of a class, its getter by its text -/
def PropAt (K : PySem.W.Frag) (C : Addr) (x qual : Str) (st : Stmt) : Prop := ∃ p g fd, PropOf K C x p g ∧ Fun K x qual st g fd
/-- a method of a class by its text -/
def MethAt (K : PySem.W.Frag) (C : Addr) (x qual : Str) (st : Stmt) : Prop := ∃ g fd, Meth K C x g ∧ Fun K x qual st g fd
/-- the class Run over the written part -/
structure RCls (K : PySem.W.Frag) (C : Addr) : Prop where
  cls : Cls K C
  no : ∀ f ∈ (["own_program", "own_order", "own_state"] : List Str), NoAttr K C f
  shown : PropAt K C "shown" "Run.shown" s_Run_shown
  cells : PropAt K C "cells" "Run.cells" s_Run_cells
  lines : PropAt K C "lines" "Run.lines" s_Run_lines
  next_steps : PropAt K C "next_steps" "Run.next_steps" s_Run_next_steps
  ready : PropAt K C "ready" "Run.ready" s_Run_ready
  is_end : PropAt K C "is_end" "Run.is_end" s_Run_is_end
  clashing : PropAt K C "clashing" "Run.clashing" s_Run_clashing
  held : MethAt K C "held" "Run.held" s_Run_held
  after : MethAt K C "after" "Run.after" s_Run_after
def runD (CR CP : Addr) (p : Prg) (os : D) (s : Sta) : D := .ins CR [("own_program", progD CP p), ("own_order", os), ("own_state", s.d p)]
section
variable {P : Program} {w : World} {K : PySem.W.Frag} {mg : Str → Option Value} {base : Heap} {CP CR : Addr}
section
variable {X : Cx} {F : Fr} {en : En} {o : Expr} {p : Prg} {s : Sta} {os : D} {pos : Pos}
theorem e_prog (hR : RCls X.K CR) (h : Eb X F en o (runD CR CP p os s)) (hb : attributeBase o "own_program" X.env (eval o X.env) = eval o X.env := by rfl) : Ev X F en (.Attribute o "own_program" pos) (progD CP p) := e_fld h rfl hR.cls (hR.no _ (by decide +kernel)) hb
theorem e_order (hR : RCls X.K CR) (h : Eb X F en o (runD CR CP p os s)) (hb : attributeBase o "own_order" X.env (eval o X.env) = eval o X.env := by rfl) : Ev X F en (.Attribute o "own_order" pos) os := e_fld h rfl hR.cls (hR.no _ (by decide +kernel)) hb
theorem e_state (hR : RCls X.K CR) (h : Eb X F en o (runD CR CP p os s)) (hb : attributeBase o "own_state" X.env (eval o X.env) = eval o X.env := by rfl) : Ev X F en (.Attribute o "own_state" pos) (s.d p) := e_fld h rfl hR.cls (hR.no _ (by decide +kernel)) hb
/-- a property, read at an object -/
theorem e_propA {f qual : Str} {st : Stmt} {C : Addr} {fs : List (Str × D)} {R : List D → D → Prop} {k : Nat} {d : D} (hp : PropAt X.K C f qual st) (H0 : ∀ p g fd, PropOf X.K C f p g → Fun X.K f qual st g fd → CalF X.prog X.w X.K X.mg X.base k g R) (hr : Room (k + 1) X.A)
    (ho : Ev X F en o (.ins C fs)) (cl : Cls X.K C) (hR : R [.ins C fs] d) (hb : attributeBase o f X.env (eval o X.env) = eval o X.env := by rfl) : Ev X F en (.Attribute o f pos) d := by
  obtain ⟨pa, g, fd, h1, h2⟩ := hp
  exact e_prop (H0 pa g fd h1 h2) hr ho cl h1 hR hb
end
def linD (p : Prg) (s : Sta) : D := rowsOf p.length fun t => valsD (s.lin t)
def celD (p : Prg) (s : Sta) : D := dk ((cellsOf p).map fun x => (.inr x.s, strD (s.con x)))
def stpD (p : Prg) (s : Sta) : D := rowsOf p.length fun t => stepD (nxt p s t)
def R_get (CR CP : Addr) (ok : Prg → Sta → Prop) (g : Prg → Sta → D) : List D → D → Prop := fun ds d => ∃ (p : Prg) (s : Sta) (os : D), ds = [runD CR CP p os s] ∧ ok p s ∧ d = g p s
theorem ok_Run_shown (T : Top w K mg) (hR : RCls K CR) {g : Addr} {fd : FuncData} (C : Fun K "shown" "Run.shown" s_Run_shown g fd) : CalF P w K mg base 1 g (R_get CR CP (fun _ _ => True) shwD) := by
  refine calF_ok C c_Run_shown (fun ds d h => ?_) (fun _ _ _ _ _ _ us hl => match us, hl with | [_], _ => rfl) (fun cdv A outer s H E Fm ds d hr h => ?_)
  · obtain ⟨p, s, os, rfl, _⟩ := h
    rfl
  · obtain ⟨p, st, os, rfl, _, rfl⟩ := h
    exact s_ret (e_ix (e_state hR (nm 0).eb).eb c_int x_st4) rfl
theorem ok_Run_lines (T : Top w K mg) (hR : RCls K CR) {g : Addr} {fd : FuncData} (C : Fun K "lines" "Run.lines" s_Run_lines g fd) : CalF P w K mg base 1 g (R_get CR CP (fun _ _ => True) linD) := by
  refine calF_ok C c_Run_lines (fun ds d h => ?_) (fun _ _ _ _ _ _ us hl => match us, hl with | [_], _ => rfl) (fun cdv A outer s H E Fm ds d hr h => ?_)
  · obtain ⟨p, s, os, rfl, _⟩ := h
    rfl
  · obtain ⟨p, st, os, rfl, _, rfl⟩ := h
    exact s_ret (e_ix (e_state hR (nm 0).eb).eb c_int x_st3) rfl
theorem ok_Run_next_steps (T : Top w K mg) (hC : PCls K CP) (hR : RCls K CR) {g : Addr} {fd : FuncData} (C : Fun K "next_steps" "Run.next_steps" s_Run_next_steps g fd) : CalF P w K mg base 4 g (R_get CR CP (fun p _ => p.length ≤ 3) stpD) := by
  refine calF_ok C c_Run_next_steps (fun ds d h => ?_) (fun _ _ _ _ _ _ us hl => match us, hl with | [_], _ => rfl) (fun cdv A outer s H E Fm ds d hr h => ?_)
  · obtain ⟨p, s, os, rfl, _⟩ := h
    rfl
  · obtain ⟨p, st, os, rfl, hp, rfl⟩ := h
    exact s_ret (e_call (ok_steps_in T hC) hr (a_cons (e_prog hR (nm 0).eb) (a_cons (e_state hR (nm 0).eb) a_nil)) ⟨p, st, rfl, hp, rfl⟩) rfl
theorem ok_Run_ready (T : Top w K mg) (hC : PCls K CP) (hR : RCls K CR) {g : Addr} {fd : FuncData} (C : Fun K "ready" "Run.ready" s_Run_ready g fd) : CalF P w K mg base 4 g (R_get CR CP (fun p _ => p.length ≤ 3) fun p s => intsD (ready p s)) := by
  refine calF_ok C c_Run_ready (fun ds d h => ?_) (fun _ _ _ _ _ _ us hl => match us, hl with | [_], _ => rfl) (fun cdv A outer s H E Fm ds d hr h => ?_)
  · obtain ⟨p, s, os, rfl, _⟩ := h
    rfl
  · obtain ⟨p, st, os, rfl, hp, rfl⟩ := h
    exact s_ret (e_call (ok_ready_in T hC) hr (a_cons (e_prog hR (nm 0).eb) (a_cons (e_state hR (nm 0).eb) a_nil)) ⟨p, st, rfl, hp, rfl⟩) rfl
theorem ok_Run_is_end (T : Top w K mg) (hC : PCls K CP) (hR : RCls K CR) {g : Addr} {fd : FuncData} (C : Fun K "is_end" "Run.is_end" s_Run_is_end g fd) : CalF P w K mg base 4 g (R_get CR CP (fun p _ => p.length ≤ 3) fun p s => .bl (ready p s).isEmpty) := by
  refine calF_ok C c_Run_is_end (fun ds d h => ?_) (fun _ _ _ _ _ _ us hl => match us, hl with | [_], _ => rfl) (fun cdv A outer s H E Fm ds d hr h => ?_)
  · obtain ⟨p, s, os, rfl, _⟩ := h
    rfl
  · obtain ⟨p, st, os, rfl, hp, rfl⟩ := h
    have hu := hr.units
    refine s_ret (e_cmp (e_call (ok_ready_in T hC) hr (a_cons (e_prog hR (nm 0).eb) (a_cons (e_state hR (nm 0).eb) a_nil)) ⟨p, st, rfl, hp, rfl⟩).eb (e_tup a_nil (by decide)).eb ?_) rfl
    show OpD _ _ _ _ _ _ (.bl (ready p st).isEmpty)
    by_cases e : ready p st = []
    · rw [show (ready p st).isEmpty = true by rw [e]; rfl]
      exact o_eq_T hu (sh_ints _) (by rw [e]; rfl)
    · rw [show (ready p st).isEmpty = false by cases h : ready p st with | nil => exact absurd h e | cons a l => rfl]
      refine o_eq_F hu (sh_ints _) sh_nil fun z => e ?_
      have := D.tup.inj z
      simpa using this
theorem ok_Run_clashing (T : Top w K mg) (hC : PCls K CP) (hR : RCls K CR) {g : Addr} {fd : FuncData} (C : Fun K "clashing" "Run.clashing" s_Run_clashing g fd) : CalF P w K mg base 5 g (R_get CR CP (fun p s => p.length ≤ 3 ∧ Calm p s) fun p s => .tup []) := by
  refine calF_ok C c_Run_clashing (fun ds d h => ?_) (fun _ _ _ _ _ _ us hl => match us, hl with | [_], _ => rfl) (fun cdv A outer s H E Fm ds d hr h => ?_)
  · obtain ⟨p, s, os, rfl, _⟩ := h
    rfl
  · obtain ⟨p, st, os, rfl, ⟨hp, hc⟩, rfl⟩ := h
    exact s_ret (e_call (ok_clashes T hC) hr (a_cons (e_prog hR (nm 0).eb) (a_cons (e_state hR (nm 0).eb) a_nil)) ⟨p, st, rfl, hp, hc, rfl⟩) rfl
theorem ok_Run_cells (T : Top w K mg) (hC : PCls K CP) (hR : RCls K CR) {g : Addr} {fd : FuncData} (C : Fun K "cells" "Run.cells" s_Run_cells g fd) : CalF P w K mg base 1 g (R_get CR CP (fun _ _ => True) celD) := by
  refine calF_ok C c_Run_cells (fun ds d h => ?_) (fun _ _ _ _ _ _ us hl => match us, hl with | [_], _ => rfl) (fun cdv A outer s H E Fm ds d hr h => ?_)
  · obtain ⟨p, s, os, rfl, _⟩ := h
    rfl
  · obtain ⟨p, st, os, rfl, _, rfl⟩ := h
    let ks : List Key := (cellsOf p).map fun x => .inr x.s
    let vs : List D := (cellsOf p).map fun x => strD (st.con x)
    have ez : ks.zip vs = (cellsOf p).map fun x => (.inr x.s, strD (st.con x)) := by
      show List.zip (List.map _ _) (List.map _ _) = _
      rw [List.zip_map']
    have ek : D.tup (((cellsOf p).map Cl.s).map .str) = .tup (ks.map D.ofKey) := by
      show D.tup _ = .tup (List.map _ (List.map _ _))
      rw [List.map_map, List.map_map]
      rfl
    refine s_ret (d := dk (ks.zip vs)) (f_callT (T := "dict") (b_cons (f_listZip (ks := ks) (ds := vs) rfl T.f_list T.f_zip (a_cons ((e_names hC (e_prog hR (nm 0).eb).eb).nt.is ek) (a_cons (e_ix (e_state hR (nm 0).eb).eb c_int x_st2) a_nil)) (by show List.length (List.map _ _) = List.length (List.map _ _); simp)).ev.eb b_nil) (k_dictP rfl ?_) T.f_dict).ev (by unfold celD; rw [ez])
    rw [ez, List.map_map]
    exact List.Pairwise.map _ (fun a b h z => h (by
      cases a <;> cases b <;> first | rfl | exact absurd (Sum.inr.inj z) (by decide))) (cells_nodup p)
end
end Pd
end
section
set_option Elab.async false
set_option linter.all false
set_option maxRecDepth 100000
set_option maxHeartbeats 4000000
/-! Df14: what a register of a run holds. -/
namespace Pd
open PySem PySem.Spec PyProof.Rows L2 Pz Pt Mi
section
variable {P : Program} {w : World} {K : PySem.W.Frag} {mg : Str → Option Value} {base : Heap} {CP CR : Addr}
def heldD (p : Prg) (s : Sta) (t : Nat) (r : Rg) : D := (getD_ (dkv (code p t) (s.reg t)) (.inr r.s)).getD (.str r.s)
def R_held (CR CP : Addr) : List D → D → Prop := fun ds d => ∃ (p : Prg) (s : Sta) (os : D) (t : Nat) (r : Rg), ds = [runD CR CP p os s, .int (t : Int), .str r.s] ∧ t < p.length ∧ r.s ∈ nm7 ∧ d = heldD p s t r
theorem ok_Run_held (T : Top w K mg) (hC : PCls K CP) (hR : RCls K CR) {g : Addr} {fd : FuncData} (C : Fun K "held" "Run.held" s_Run_held g fd) : CalF P w K mg base 3 g (R_held CR CP) := by
  refine calF_ok C c_Run_held (fun ds d h => ?_) (fun _ _ _ _ _ _ us hl => match us, hl with | [_, _, _], _ => rfl) (fun cdv A outer s H E Fm ds d hr h => ?_)
  · obtain ⟨p, s, os, t, r, rfl, _⟩ := h
    rfl
  · obtain ⟨p, st, os, t, r, rfl, ht, hn, rfl⟩ := h
    have hu := hr.units
    refine s_expr (e_call (ok_req_thread T hC) hr (a_cons (e_prog (CP := CP) hR (nm 0).eb) (a_cons (nm 1) a_nil)) ⟨p, t, rfl, ht, rfl⟩) ?_
    refine s_if0 (t_notT (t_bool (e_call (ok_is_name T) hr (a_cons (nm 2) a_nil) ⟨r.s, hn, rfl, rfl⟩))) ?_
    exact s_ret (e_dget2 (kvs := dkv (code p t) (st.reg t)) (ky := .inr r.s) (f_call (ok_regs_at T hC) (hr.mono (by decide)) (a_cons (e_prog (CP := CP) hR (nm 0).eb) (a_cons (e_state (CP := CP) hR (nm 0).eb) (a_cons (nm 1) a_nil))) ⟨p, st, t, rfl, ht, rfl⟩).ev.eb (nm 2) (nm 2) hu ⟨rfl, rfl, rfl, rfl⟩) rfl
end
end Pd
end
section
set_option Elab.async false
set_option linter.all false
set_option maxRecDepth 100000
set_option maxHeartbeats 4000000
/-! Lw1: the law's dice. -/
namespace Pd
open PySem PySem.Spec L2 Pz Pt Mi
section
variable {P : Program} {w : World} {K : PySem.W.Frag} {mg : Str → Option Value} {base : Heap}
def cellAt (ns : List Int) (i : Nat) : Int := (ns[i]?).getD (53 * (i : Int) + 19)
def great (n : Int) : Int := (if n < 0 then -n else n).fmod ((10 ^ (60 : Int).toNat) ^ (10 : Int).toNat)
def diceD (ns : List Int) (i : Nat) : D := .lst [.int (great (cellAt ns i) / (10 ^ (18 : Int).toNat)), .int (((great (cellAt ns i)).fmod 2147483423 * 50047 + 2903 * (i : Int) + 37 * (if decide (cellAt ns i < 0) then 1 else 0) + 61).fmod 2147483399), .int 0]
def R_dice : List D → D → Prop := fun ds d => ∃ (ns : List Int) (i : Nat), ds = [.lst (ns.map .int), .int (i : Int)] ∧ i ≤ 100 ∧ d = diceD ns i
theorem ok_dice (T : Top w K mg) : CalN P w K mg base 1 "_law_dice" R_dice := by
  refine calN_ok T.d_law_dice c_law_dice (fun ds d h => ?_) (fun _ _ _ _ _ _ us hl => match us, hl with | [_, _], _ => rfl) (fun f cdv A outer s H E Fm ds d hr h => ?_)
  · obtain ⟨ns, i, rfl, _⟩ := h
    rfl
  · obtain ⟨ns, i, rfl, hi, rfl⟩ := h
    let c := cellAt ns i
    have main : ∀ {en : En}, en = [some (.v (.lst (ns.map .int))), some (.v (.int (i : Int))), some (.v (.int c)), none, none, none] → Sx ((cxOf CX0 P w K mg base n_law_dice "_law_dice" (defScope s_law_dice) f cdv A outer s H E).nox) Fm en ((defBody s_law_dice).drop 2) { nx := fun _ => False, rt := fun _ => False, ro := fun z => z = diceD ns i } := by
      intro en he
      subst he
      refine s_set 3 c_law_dice.nd (d := .int (great c)) (e_bin (e_callT (T := "int") (b_cons (e_callB (id := "abs") (b_cons (nm 2).eb b_nil) k_abs T.f_abs).eb b_nil) k_int T.f_int).eb (e_bin (e_bin c_int.eb c_int.eb (o_pow (by decide +kernel))).eb c_int.eb (o_pow (by decide +kernel))).eb (o_mod (by decide +kernel))) ?_
      refine s_set 4 c_law_dice.nd (e_bin (nm 3).eb (e_bin c_int.eb c_int.eb (o_pow (by decide +kernel))).eb (o_fdiv (by constructor <;> decide +kernel))) ?_
      refine s_set 5 c_law_dice.nd (e_bin (e_bin (e_bin (e_bin (e_bin (nm 3).eb c_int.eb (o_mod (by decide))).eb c_int.eb (o_mul (.inr (by constructor <;> decide)))).eb (e_bin c_int.eb (nm 1).eb (o_mul (.inl (by constructor <;> decide)))).eb o_add).eb (e_bin c_int.eb (e_callT (T := "int") (b_cons (e_cmp (nm 2).eb c_int.eb o_lt).eb b_nil) k_intB T.f_int).eb (o_mul (.inl (by constructor <;> decide)))).eb o_add).eb c_int.eb o_add) ?_
      exact s_retF (f_lst (a_cons (nm 4) (a_cons (e_bin (nm 5).eb c_int.eb (o_mod (by decide))) (a_cons c_int a_nil))) (sz_le (by simp))) rfl
    refine s_set 2 c_law_dice.nd (e_bin (e_bin c_int.eb (nm 1).eb (o_mul (.inl (by constructor <;> decide)))).eb c_int.eb o_add) ?_
    by_cases hlt : i < ns.length
    · refine s_ifT (t_cmp (nm 1).eb (e_callB (b_cons (nm 0).eb b_nil) k_len T.f_len).eb (o_ltT (by simp; omega))) ?_
      refine s_set 2 c_law_dice.nd (d := .int c) (e_ix (nm 0).eb (nm 1) (x_lst (by rw [List.getElem?_map, List.getElem?_eq_getElem hlt]; show some (D.int _) = _; rw [show c = ns[i] by show cellAt ns i = _; unfold cellAt; rw [List.getElem?_eq_getElem hlt]; rfl]))) ?_
      exact s_nil (main rfl)
    · refine s_if0 (t_cmp (nm 1).eb (e_callB (b_cons (nm 0).eb b_nil) k_len T.f_len).eb (o_ltF (by simp; omega))) ?_
      refine main ?_
      have e : c = 53 * (i : Int) + 19 := by show cellAt ns i = _; unfold cellAt; rw [List.getElem?_eq_none (by omega)]; rfl
      rw [e]
      rfl
def PreRoll : List D → Prop := fun ds => ∃ n : Nat, ds = [.int (n : Int)] ∧ 0 < n ∧ n ≤ 1000
def R_roll : List D → D → Prop := fun ds d => ∃ n j : Nat, ds = [.int (n : Int)] ∧ j < n ∧ d = .int (j : Int)
theorem fmod_at {i : Int} {n : Nat} (h : 0 < n) : ∃ j : Nat, i.fmod (n : Int) = (j : Int) ∧ j < n := by
  have h1 : 0 ≤ i.fmod (n : Int) := Int.fmod_nonneg_of_pos _ (by omega)
  have h2 : i.fmod (n : Int) < n := Int.fmod_lt_of_pos _ (by omega)
  exact ⟨(i.fmod (n : Int)).toNat, by omega, by omega⟩
theorem ok_roll (T : Top w K mg) : CalZ P w K mg base 1 "_law_roll" PreRoll R_roll := by
  refine calZ_ok T.d_law_roll c_law_roll (fun ds h => ?_) (fun _ _ _ _ _ _ us hl => match us, hl with | [_, _], _ => rfl) (fun f cdv A outer s H E Fm x ds df hr h => ?_)
  · obtain ⟨n, rfl, _⟩ := h
    rfl
  · obtain ⟨n, rfl, hn, hn2⟩ := h
    refine s_set 2 c_law_roll.nd (e_callT (T := "int") (b_cons (nm 1).eb b_nil) k_int T.f_int) ?_
    refine s_ifW (K := fun _ => True) (t_cmpW (e_diceIx 0 df c_int (by decide)) (Ev.w (K := fun d => d = .int 0) c_int rfl) (fun x y ⟨i, hx⟩ hy => by subst hx hy; exact ⟨_, o_gt, trivial⟩)) (fun _ => ?_) (fun _ => s_nil ?_)
    · refine s_setW 3 c_law_roll.nd (K := fun d => ∃ j : Nat, d = .int (j : Int) ∧ j < n) (e_binW (e_diceIx 0 df c_int (by decide)) (Ev.w (K := fun d => d = .int (n : Int)) (nm 2) rfl) (fun x y ⟨i, hx⟩ hy => ?_)) (fun d hd => ?_)
      · obtain ⟨j, e, hj⟩ := fmod_at (i := i) hn
        subst hx hy
        exact ⟨_, o_mod (by omega), j, by rw [e], hj⟩
      · obtain ⟨j, rfl, hj⟩ := hd
        refine s_diceSet 0 df (e_binW (e_diceIx 0 df c_int (by decide)) (Ev.w (K := fun d => d = .int (n : Int)) (nm 2) rfl) (fun x y ⟨i, hx⟩ hy => ?_)) c_int (by decide) ?_
        · subst hx hy
          exact ⟨_, o_fdiv ⟨by omega, Nat.lt_of_le_of_lt (Nat.log2_le_self _) (by omega)⟩, _, rfl⟩
        · exact s_ret (e_callT (T := "int") (b_cons (nm 3).eb b_nil) k_int T.f_int) ⟨n, j, rfl, hj, rfl⟩
    · refine s_diceSet 0 df (e_binW (e_diceIx 0 df c_int (by decide)) (Ev.w (K := fun d => d = .int 1) c_int rfl) (fun x y ⟨i, hx⟩ hy => by subst hx hy; exact ⟨_, o_add, _, rfl⟩)) c_int (by decide) ?_
      refine s_setW 4 c_law_roll.nd (K := fun d => ∃ i : Int, d = .int i ∧ 0 ≤ i ∧ i < 2305843009213693951) (e_binW (K1 := fun d => ∃ i : Int, d = .int i) (e_binW (e_diceIx 0 df c_int (by decide)) (e_binW (K := fun d => ∃ i : Int, d = .int i) (Ev.w (K := fun d => d = .int 1000099) c_int rfl) (e_diceIx 0 df c_int (by decide)) (fun x y hx ⟨i, hy⟩ => by subst hx hy; exact ⟨_, o_mul (.inl (by constructor <;> decide)), _, rfl⟩)) (fun x y ⟨i, hx⟩ ⟨j, hy⟩ => by subst hx hy; exact ⟨_, o_add, _, rfl⟩)) (Ev.w (K := fun d => d = .int 2305843009213693951) c_int rfl) (fun x y ⟨i, hx⟩ hy => ?_)) (fun d hd => ?_)
      · subst hx hy
        obtain ⟨j, e, hj⟩ := fmod_at (i := i) (n := 2305843009213693951) (by decide)
        exact ⟨_, o_mod (by decide), (i.fmod 2305843009213693951), rfl, by rw [show (2305843009213693951 : Int) = ((2305843009213693951 : Nat) : Int) by rfl, e]; omega, by rw [show (2305843009213693951 : Int) = ((2305843009213693951 : Nat) : Int) by rfl, e]; omega⟩
      · obtain ⟨i, rfl, hi0, hi1⟩ := hd
        refine s_setW 5 c_law_roll.nd (K := fun d => ∃ i : Int, d = .int i) (e_binW (K1 := fun d => ∃ i : Int, d = .int i) (Ev.w (e_bin (e_bin (e_bin (nm 4).eb (nm 4).eb (o_mul (.inl ⟨by omega, by omega⟩))).eb c_int.eb (o_mod (by decide))).eb (nm 4).eb (o_mul (.inr ⟨by omega, by omega⟩))) ⟨_, rfl⟩) (e_binW (K := fun d => ∃ i : Int, d = .int i) (Ev.w (K := fun d => d = .int 9013) c_int rfl) (e_diceIx 0 df c_int (by decide)) (fun x y hx ⟨i, hy⟩ => by subst hx hy; exact ⟨_, o_mul (.inl (by constructor <;> decide)), _, rfl⟩)) (fun x y ⟨i, hx⟩ ⟨j, hy⟩ => by subst hx hy; exact ⟨_, o_add, _, rfl⟩)) (fun d hd => ?_)
        obtain ⟨m, rfl⟩ := hd
        refine s_set 5 c_law_roll.nd (e_bin (nm 5).eb c_int.eb (o_mod (by decide))) ?_
        obtain ⟨j, e, hj⟩ := fmod_at (i := m.fmod 2305843009213693907 / 4096) hn
        exact s_ret (e_callT (T := "int") (b_cons (e_bin (e_bin (nm 5).eb c_int.eb (o_fdiv (by constructor <;> decide))).eb (nm 2).eb ((o_mod (by omega)).is (by rw [e]))).eb b_nil) k_int T.f_int) ⟨n, j, rfl, hj, rfl⟩
def PreOne : List D → Prop := fun ds => ∃ xs : List D, (ds = [.lst xs] ∨ ds = [.tup xs]) ∧ 0 < xs.length ∧ xs.length ≤ 1000
def R_one : List D → D → Prop := fun ds d => ∃ xs : List D, (ds = [.lst xs] ∨ ds = [.tup xs]) ∧ d ∈ xs
theorem ok_one (T : Top w K mg) : CalZ P w K mg base 2 "_law_one_of" PreOne R_one := by
  refine calZ_ok T.d_law_one_of c_law_one_of (fun ds h => ?_) (fun _ _ _ _ _ _ us hl => match us, hl with | [_, _], _ => rfl) (fun f cdv A outer s H E Fm x ds df hr h => ?_)
  · obtain ⟨n, h, _⟩ := h
    rcases h with rfl | rfl <;> rfl
  · obtain ⟨xs, h, hn, hn2⟩ := h
    rcases h with rfl | rfl
    · refine s_retW (K := fun d => d ∈ xs) (e_ixW (K2 := fun d => ∃ j : Nat, d = .int (j : Int) ∧ j < xs.length) (nm (d := .lst xs) 1) (e_callZ (ok_roll T) df hr (aw_cons (Ev.w (K := fun d => d = .ref x) (nm 0) rfl) (aw_cons (Ev.w (K := fun d => d = .int (xs.length : Int)) (e_callB (b_cons (nm (d := .lst xs) 1).eb b_nil) k_len T.f_len) rfl) aw_nil)) (fun l hl => ?_)) (fun y hy => ?_)) (fun d hd => ⟨xs, .inl rfl, hd⟩)
      · obtain ⟨_, _, rfl, rfl, _, _, rfl, rfl, rfl⟩ := hl
        refine ⟨_, rfl, ⟨xs.length, rfl, hn, hn2⟩, fun d hd => ?_⟩
        obtain ⟨n, j, e, hj, rfl⟩ := hd
        have en : n = xs.length := by
          have := D.int.inj (List.cons.inj e).1
          omega
        exact ⟨j, rfl, en ▸ hj⟩
      · obtain ⟨j, rfl, hj⟩ := hy
        exact ⟨xs[j], x_lst (List.getElem?_eq_getElem hj), List.getElem_mem hj⟩
    · refine s_retW (K := fun d => d ∈ xs) (e_ixW (K2 := fun d => ∃ j : Nat, d = .int (j : Int) ∧ j < xs.length) (nm (d := .tup xs) 1) (e_callZ (ok_roll T) df hr (aw_cons (Ev.w (K := fun d => d = .ref x) (nm 0) rfl) (aw_cons (Ev.w (K := fun d => d = .int (xs.length : Int)) (e_callB (b_cons (nm (d := .tup xs) 1).eb b_nil) k_lenT T.f_len) rfl) aw_nil)) (fun l hl => ?_)) (fun y hy => ?_)) (fun d hd => ⟨xs, .inr rfl, hd⟩)
      · obtain ⟨_, _, rfl, rfl, _, _, rfl, rfl, rfl⟩ := hl
        refine ⟨_, rfl, ⟨xs.length, rfl, hn, hn2⟩, fun d hd => ?_⟩
        obtain ⟨n, j, e, hj, rfl⟩ := hd
        have en : n = xs.length := by
          have := D.int.inj (List.cons.inj e).1
          omega
        exact ⟨j, rfl, en ▸ hj⟩
      · obtain ⟨j, rfl, hj⟩ := hy
        exact ⟨xs[j], x_tup (List.getElem?_eq_getElem hj), List.getElem_mem hj⟩
end
end Pd
end
section
set_option Elab.async false
set_option linter.all false
set_option maxRecDepth 100000
set_option maxHeartbeats 4000000
/-! Lw2: sizes of codes, tables. -/
namespace Pd
open PySem PySem.Spec L2 Pz Pt Mi
section
variable {P : Program} {w : World} {K : PySem.W.Frag} {mg : Str → Option Value} {base : Heap}
def R_lsize : List D → D → Prop := fun ds d => ∃ c : List Sm, ds = [codeD c] ∧ c.length ≤ 20 ∧ d = .int (c.length : Int)
theorem ok_lsize (T : Top w K mg) : Cal P w K mg base 1 "_law_size" R_lsize := by
  refine cal_ok T.d_law_size c_law_size (fun ds d h => ?_) (fun _ _ _ _ _ _ us hl => match us, hl with | [_], _ => rfl) (fun f cdv A outer s H E Fm ds d hr h => ?_)
  · obtain ⟨c, rfl, _⟩ := h
    rfl
  · obtain ⟨c, rfl, hl, rfl⟩ := h
    refine s_ret (d := .int (c.length : Int)) ((e_callB (id := "sum") (b_cons (f_lc (ds := c.map Sm.d) [("_law_row", 1)] (fun _ => .int 1) rfl c_law_size.nd (blkOk_by (N := n_law_size) (sc := defScope s_law_size) (by decide +kernel)) (i_tup (nm 0)) (fun _ _ _ _ _ => tg_nm 1 c_law_size.nd) (fun d hd => ⟨[d], rfl, ?_⟩) (by simp; omega)).ev.eb b_nil) (z := .int ((List.replicate c.length (1 : Int)).sum)) ?_ T.f_sum).is ?_) rfl
    · obtain ⟨m, hm, rfl⟩ := List.mem_map.mp hd
      exact fun _ _ _ _ _ => e_bin c_int.eb (e_ifF (t_cmp (e_ix (nm 1).eb c_int (x_sm0 m)).eb c_str.eb (o_eqSF wne)) c_int).eb (o_add.is (by rfl))
    · have e : (c.map Sm.d).map (fun _ => D.int 1) = (List.replicate c.length (1 : Int)).map .int := by
        simp [List.map_const', Function.comp_def]
      rw [e]
      exact k_sum rfl
    · congr 1
      simp
def tabL : Nat → List Sm → List (Key × D)
  | _, [] => []
  | i, m :: r => (.inl (i : Int), m.d) :: tabL (i + 1) r
def startL : Nat → List Sm → List D
  | _, [] => []
  | i, _ :: r => .int (i : Int) :: startL (i + 1) r
theorem tabL_app : ∀ (c : List Sm) (i : Nat) (m : Sm), tabL i (c ++ [m]) = tabL i c ++ [(.inl ((i + c.length : Nat) : Int), m.d)]
  | [], i, m => rfl
  | x :: r, i, m => by
    show (Sum.inl (i : Int), x.d) :: tabL (i + 1) (r ++ [m]) = _
    rw [tabL_app r (i + 1) m, show i + 1 + r.length = i + (x :: r).length by simp; omega]
    rfl
theorem startL_app : ∀ (c : List Sm) (i : Nat) (m : Sm), startL i (c ++ [m]) = startL i c ++ [.int ((i + c.length : Nat) : Int)]
  | [], i, m => rfl
  | x :: r, i, m => by
    show D.int (i : Int) :: startL (i + 1) (r ++ [m]) = _
    rw [startL_app r (i + 1) m, show i + 1 + r.length = i + (x :: r).length by simp; omega]
    rfl
theorem tabL_len : ∀ (c : List Sm) (i : Nat), (tabL i c).length = c.length
  | [], _ => rfl
  | _ :: r, i => congrArg (· + 1) (tabL_len r (i + 1))
theorem startL_len : ∀ (c : List Sm) (i : Nat), (startL i c).length = c.length
  | [], _ => rfl
  | _ :: r, i => congrArg (· + 1) (startL_len r (i + 1))
theorem tabL_keys : ∀ (c : List Sm) (i : Nat) (q : Key × D), q ∈ tabL i c → ∃ j : Nat, i ≤ j ∧ j < i + c.length ∧ q.1 = .inl (j : Int)
  | [], _, _, h => by cases h
  | x :: r, i, q, h => by
    rcases List.mem_cons.mp h with rfl | h
    · exact ⟨i, Nat.le_refl _, by simp, rfl⟩
    · obtain ⟨j, h1, h2, h3⟩ := tabL_keys r (i + 1) q h
      exact ⟨j, by omega, by simp; omega, h3⟩
theorem putD_new {kvs : List (Key × D)} {k : Key} {v : D} (h : ∀ q ∈ kvs, q.1 ≠ k) : putD kvs k v = kvs ++ [(k, v)] := by
  unfold putD
  rw [if_neg]
  intro z
  obtain ⟨q, hq, e⟩ := List.any_eq_true.mp z
  exact h q hq (of_decide_eq_true e)
theorem take_succ {α : Type} {l : List α} {i : Nat} {x : α} (h : l[i]? = some x) : l.take (i + 1) = l.take i ++ [x] := by
  rw [List.take_add_one, h]; rfl
def PreTab : List D → D → Prop := fun ds d0 => ∃ c : List Sm, ds = [codeD c, .int 0] ∧ c.length ≤ 20 ∧ d0 = dk []
def R_tab : List D → D → D → D → Prop := fun ds _ d d1 => ∃ c : List Sm, ds = [codeD c, .int 0] ∧ d = .tup (startL 0 c) ∧ d1 = dk (tabL 0 c)
theorem ok_tab (T : Top w K mg) : CalT P w K mg base 2 "_law_table" PreTab R_tab := by
  refine calT_ok T.d_law_table c_law_table (fun ds d h => ?_) (fun _ _ _ _ _ _ us hl => match us, hl with | [_, _, _], _ => rfl) (fun f cdv A outer s H E Fm y ds d0 hr h => ?_)
  · obtain ⟨c, rfl, _⟩ := h
    rfl
  · obtain ⟨c, rfl, hl, rfl⟩ := h
    have hu := hr.units
    refine s_par2 3 4 rfl c_law_table.nd (as_o (f_lst a_nil (sz_le (by simp))) (as_v (nm 1) as_nil)) ?_
    refine s_for (ds := c.map Sm.d) (fun j e => ∃ x5, e = [some (.v (codeD c)), some (.v (.int 0)), some (.own (.atA y (dk (tabL 0 (c.take j))))), some (.own (.lst (startL 0 (c.take j)))), some (.v (.int (j : Int))), x5, none]) pnever rfl (i_tup (nm (d := codeD c) 0)) (tg_nm 5 c_law_table.nd) ⟨none, rfl⟩ (fun j d e hd hP => ?_) (fun e hP => ?_)
    · obtain ⟨x5, rfl⟩ := hP
      rw [List.getElem?_map] at hd
      obtain ⟨m, hm, rfl⟩ := Option.map_eq_some_iff.mp hd
      have hj : j < c.length := (List.getElem?_eq_some_iff.mp hm).1
      have htk : (c.take j).length = j := by rw [List.length_take]; omega
      refine ⟨_, rfl, ?_⟩
      refine s_app (xs := startL 0 (c.take j)) 3 (nm 4) ?_ (by rw [startL_len, htk]; omega)
      refine s_dputA (kvs := tabL 0 (c.take j)) (ky := .inl (j : Int)) 2 (nm 5) (nm 4) ?_ (by rw [tabL_len, htk]; omega) hu
      refine s_if0 (t_cmp (e_ix (nm 5).eb c_int (x_sm0 m)).eb c_str.eb (o_eqSF wne)) ?_
      refine s_set 4 c_law_table.nd (e_bin (nm 4).eb (e_call (ok_lsize T) hr (a_cons (e_tup (a_cons (nm 5) a_nil) (sz_le (by simp))) a_nil) ⟨[m], rfl, by simp, rfl⟩).eb o_add) ?_
      refine s_nil ⟨some (.v m.d), ?_⟩
      rw [putD_new, take_succ hm, tabL_app, startL_app, htk, Nat.zero_add]
      · rfl
      · intro q hq e
        obtain ⟨i, h1, h2, h3⟩ := tabL_keys _ _ q hq
        rw [h3] at e
        have := Sum.inl.inj e
        omega
    · obtain ⟨x5, rfl⟩ := hP
      rw [List.length_map, List.take_length]
      exact s_retE (K := fun d => d = .tup (startL 0 c)) (Ev.w (e_callT (T := "tuple") (b_cons (no 3) b_nil) k_tuple T.f_tuple) rfl) (fun d hd => ⟨dk (tabL 0 c), rfl, c, rfl, hd, rfl⟩)
end
end Pd
end
section
set_option Elab.async false
set_option linter.all false
set_option maxRecDepth 100000
set_option maxHeartbeats 4000000
/-! Lw3: the plain program. -/
namespace Pd
open PySem PySem.Spec L2 Pz Pt Mi
def startD (c : List Sm) : D := .tup (startL 0 c)
def tabD (c : List Sm) : D := dk (tabL 0 c)
def plainK (p : Prg) : List (Key × D) := [(.inr "codes", .tup (p.map codeD)), (.inr "tables", .lst (p.map tabD)), (.inr "starts", .lst (p.map startD)), (.inr "cells", dk []), (.inr "answers", dk [])]
def plainD (p : Prg) : D := dk (plainK p)
section
variable {G : Gx} {F : Fr} {M M' : Addr → Prop} {H H' : Hp} {σ : Pz.St} {en : En}
theorem chgX {a : Addr} (R : RepS G F M σ H en) (hI : F.I H') (hk : ∀ b o, H b = some o → ¬ F.Z b → b ≠ a → H' b = some o) (ma : M a) (hd : H' a ≠ none) (hap : ∀ (j : Nat) d, en[j]? = some (some (.own d)) → σ[j]? = some (some (.ref a)) → False) : RepS G F M σ H' en ∧ Kp M M H H' := by
  have kk : Kp M M H H' := ⟨fun b o h hm => hk b o h (fun z => hm (R.m0 b (F.zf b z).1)) fun e => hm (by rw [e]; exact ma), fun _ _ h => h⟩
  refine ⟨⟨hI, R.m0, R.mf, fun b hb => ?_, fun j d h => ?_, R.sep, fun j d h => ?_, R.len⟩, kk⟩
  · by_cases z : F.Z b
    · exact F.zi H' b hI z
    · by_cases e : b = a
      · rw [e]; exact hd
      · cases e2 : H b with
        | none => exact absurd e2 (R.dom b hb)
        | some o => rw [hk b o e2 z e]; exact fun q => nomatch q
  · obtain ⟨b, h1, h2, h3, h4, h5⟩ := R.own j d h
    have nb : b ≠ a := fun e => hap j d h (by rw [← e]; exact h1)
    exact ⟨b, h1, h2, h3, h4, h5.kp kk fun o e => hk b o e (fun z => (F.zf b z).2 h4) nb⟩
  · obtain ⟨v, h1, h2⟩ := R.val j d h
    exact ⟨v, h1, h2.kp kk⟩
end
theorem getset_take {p : Prg} {i : Nat} {c : List Sm} (h : p[i]? = some c) : (p.take (i + 1)).map startD = (p.take i).map startD ++ [startD c] := by
  rw [take_succ h, List.map_append]; rfl
section
variable {X : Cx} {F : Fr} {en : En} {tg : Expr} {scope : Scope} {sp : Sp}
/-- the elements read: code, 0, tables[at] -/
def rdTab (X : Cx) (F : Fr) (sp : Sp) (en' : En) (c : List Sm) (i : Nat) : TE := fun σ H Q => tW (gx X) F en' (fun z => z = codeD c) σ H fun v H1 => (∃ t, σ[3]? = some (some t) ∧ tW (gx X) F en' (fun z => z = .int (i : Int)) σ H1 fun w H2 => rIx X.K t w H2 fun z H3 => sp ([v, .int 0, z] ++ []) H3 Q (fun _ _ _ => False))
theorem tabs_rd {p : Prg} {te : TE} {scope : Scope} {ecode eat : Expr} (hp : ∀ c ∈ p, c.length ≤ 20) (hpl : p.length ≤ 1000) (ht : TgB X F scope tg [6, 5] (spn 2))
    (hte : ∀ en' c i σ H Q, EvB X F scope en' ecode (codeD c) → EvB X F scope en' eat (.int ((i : Nat) : Int)) → rdTab X F (spT (gx X) PreTab R_tab) en' c i σ H Q → te σ H Q)
    (hcode : ∀ a b, EvB X F scope (setE (wipeE en [6, 5]) [6, 5] [a, b]) ecode b) (hat : ∀ a b, EvB X F scope (setE (wipeE en [6, 5]) [6, 5] [a, b]) eat a)
    {σ : Pz.St} {H : Hp} {Q : VK} {M : Addr → Prop} {L : Addr} {as : List Addr} (R : RepS (gx X) F M σ H en) (h3 : σ[3]? = some (some (.ref L))) (hL : H L = some (.lst (as.map V.ref))) (hal : as.length = p.length) (hnd : as.Nodup)
    (has : ∀ a ∈ as, a ≠ L ∧ M a ∧ ¬ F.M0 a ∧ F.fresh a ∧ H a = some (.dK [])) (hfL : F.fresh L) (hmL : M L) (hap : ∀ a ∈ as, ∀ (j : Nat) d, en[j]? = some (some (.own d)) → σ[j]? = some (some (.ref a)) → False)
    (q : ∀ (Lz : Addr) (H' : Hp) (vs : List V), RepS (gx X) F (Mp M Lz) σ H' en → Kp M (Mp M Lz) H H' → H Lz = none → H' L = some (.lst (as.map V.ref)) → (∀ (j : Nat) a c, as[j]? = some a → p[j]? = some c → ∃ kvs, H' a = some (.dK kvs) ∧ Rpk (gx X) (Mp M Lz) H' kvs (tabL 0 c)) →
      H' Lz = some (.lst vs) → Rps (gx X) (Mp M Lz) H' vs (p.map startD) → Q (.ref Lz) H') :
    tLc (tI (gx X) F en (enumD 0 (p.map codeD))) (tgO X scope tg) tYes te [6, 5] σ H Q := by
  refine ⟨M, R, fun J H1 i1 g1 jok => ?_⟩
  intro Lz hL2
  have R1 := R.step i1 g1
  have hL20 : H Lz = none := none_back R i1 g1 hL2
  have hfr := F.nw _ _ R.inv hL20
  have i2 : F.I (upd H1 Lz (.lst [])) := F.up _ _ _ i1 hfr
  have R2 : RepS (gx X) F (Mp M Lz) σ (upd H1 Lz (.lst [])) en := R1.more i2 (Gr.new hL2) hL2 hfr (by rw [upd_same]; exact fun z => nomatch z)
  have k12 : Kp M (Mp M Lz) H1 (upd H1 Lz (.lst [])) := .more hL2 fun b o e _ => by rw [upd_ne (ne_of_none e hL2)]; exact e
  have hds : (enumD 0 (p.map codeD)).length = p.length := by rw [enumD_len, List.length_map]
  have hL2a : ∀ a ∈ as, a ≠ Lz := fun a ha z => by
    obtain ⟨_, _, _, _, h⟩ := has a ha
    rw [z, hL20] at h; cases h
  have hLL2 : L ≠ Lz := fun z => by rw [z, hL20] at hL; cases hL
  have hap2 : ∀ (j : Nat) d, en[j]? = some (some (.own d)) → σ[j]? = some (some (.ref Lz)) → False := fun j d h1 h2 => by
    obtain ⟨b, e1, e2, _⟩ := R.own j d h1
    rw [h2] at e1
    cases e1
    exact R.dom _ e2 hL20
  let St' := fun (i : Nat) (H' : Hp) => RepS (gx X) F (Mp M Lz) σ H' en ∧ (∀ b o, H b = some o → ¬ F.Z b → b ∉ as → H' b = some o) ∧ Kp M (Mp M Lz) H1 H' ∧ (∀ (j : Nat) a, as[j]? = some a → (j < i → ∀ c, p[j]? = some c → ∃ kvs, H' a = some (.dK kvs) ∧ Rpk (gx X) (Mp M Lz) H' kvs (tabL 0 c)) ∧ (i ≤ j → H' a = some (.dK []))) ∧ ∃ acc, H' Lz = some (.lst acc) ∧ Rps (gx X) (Mp M Lz) H' acc ((p.take i).map startD)
  have keep0 : ∀ b o, H b = some o → ¬ F.Z b → (upd H1 Lz (.lst [])) b = some o := fun b o e z => by
    rw [upd_ne (ne_of_none e hL20)]
    exact g1 b o e z
  refine ⟨fun i m H' => St' i H' ∧ i ≤ p.length ∧ m = p.length - i, ⟨p.length, ⟨R2, fun b o e z _ => keep0 b o e z, k12, fun j a hj => ⟨fun h => absurd h (Nat.not_lt_zero _), fun _ => ?_⟩, [], upd_same, .nil⟩, Nat.zero_le _, rfl⟩, ?_⟩
  · obtain ⟨_, m1, m2, m3, m4⟩ := has a (List.mem_of_getElem? hj)
    exact keep0 a _ m4 fun z => (F.zf a z).2 m3
  rintro i m H' ⟨⟨R', gr, k', hta, acc, hacc, racc⟩, hle, rfl⟩
  have jk := jok (Mp M Lz) H' k' R'.dom i
  by_cases hlt : i < p.length
  · obtain ⟨c, hc⟩ : ∃ c, p[i]? = some c := ⟨p[i], List.getElem?_eq_getElem hlt⟩
    obtain ⟨a, ha⟩ : ∃ a, as[i]? = some a := ⟨as[i], List.getElem?_eq_getElem (by omega)⟩
    have hdi : (enumD 0 (p.map codeD))[i]? = some (.tup [.int (i : Int), codeD c]) := by
      have hl : i < (enumD 0 (p.map codeD)).length := by omega
      obtain ⟨x, e1, e2⟩ := enumD_get (k := 0) (List.getElem?_eq_getElem hl)
      rw [List.getElem?_map, hc] at e1
      cases e1
      rw [List.getElem?_eq_getElem hl, e2, Nat.zero_add]
    obtain ⟨go, yld⟩ := jk.1 _ hdi
    refine .inr ⟨go, St' (i + 1), fun H3 z => ⟨p.length - (i + 1), by omega, z, hlt, rfl⟩, fun x H3 y => ?_⟩
    obtain ⟨sm, rx⟩ := yld x H3 y
    have R3 := R'.same sm
    have k3 : Kp (Mp M Lz) (Mp M Lz) H' H3 := R'.kp (Gr.same sm)
    have R3w := R3.wipe [6, 5]
    obtain ⟨n1, n2, n3, n4, n5⟩ := has a (List.mem_of_getElem? ha)
    intro s0 H0 C cl fp
    refine ht s0 H0 C cl fp (Mp M Lz) _ H3 _ x _ [.int (i : Int), codeD c] _ R3w rx rfl fun vs rs hl => ⟨?_, ?_⟩
    · rw [wipe_setV (by decide), wipe_idem]
    · have R4 := R3w.setl (is := [6, 5]) rs
      have es3 : (setV (L2.wipe σ [6, 5]) [6, 5] vs)[3]? = some (some (.ref L)) := by rw [setV_get (by decide), wipe_get _ _ _ (by decide), h3]
      refine iteT (B := St' (i + 1) H3) (hte _ c i _ _ _ (hcode (.int (i : Int)) (codeD c)) (hat (.int (i : Int)) (codeD c)) ⟨Mp M Lz, R4, fun v H4 d i4 g4 rv ed => ⟨.ref L, es3, Mp M Lz, R4.step i4 g4, fun w H5 dw i5 g5 rw_ ew => ?_⟩⟩)
      subst ed ew
      cases rw_
      have g35 := g4.trans g5
      have keep5 : ∀ b o, H' b = some o → ¬ F.Z b → H5 b = some o := fun b o e z => g35 b o (sm b o e) z
      have hL5 : H5 L = some (.lst (as.map V.ref)) := keep5 L _ (gr L _ hL (fun z => (F.zf L z).2 hfL) fun z => (has L z).1 rfl) fun z => (F.zf L z).2 hfL
      have ha5 : H5 a = some (.dK []) := keep5 a _ ((hta i a ha).2 (Nat.le_refl _)) fun z => (F.zf a z).2 n4
      have hL25 : H5 Lz = some (.lst acc) := keep5 Lz _ hacc fun z => (F.zf Lz z).2 hfr
      have R5 := R3.step i5 g35
      have R45 := (R4.step i4 g4)
      refine .inl ⟨L, as.map V.ref, (i : Int), .ref a, rfl, rfl, .of hL5, atI_nat (by rw [List.getElem?_map, ha]; rfl), ?_⟩
      let Ms : Addr → Prop := fun b => Mp M Lz b ∧ b ≠ a
      have ma : Mp M Lz a := .inl n2
      have k1 : ∀ {H' : Hp}, Kp (Mp M Lz) (Mp Ms a) H' H' := ⟨fun _ _ h _ => h, fun b _ hm z => hm (z.elim (·.1) fun e => by rw [e]; exact ma)⟩
      have k2 : ∀ {H' : Hp}, Kp (Mp Ms a) (Mp M Lz) H' H' := ⟨fun _ _ h _ => h, fun b _ hm z => hm (by
        by_cases e : b = a
        · exact .inr e
        · exact .inl ⟨z, e⟩)⟩
      have rv5 : Rp (gx X) (Mp M Lz) H5 v (codeD c) := rv.kp (R45.kp g5)
      refine ⟨Ms, a, [v, .int 0], [codeD c, .int 0], dk [], by simp, fun z => z.2 rfl, .cons (rv5.kp k1) (.cons (.int 0) .nil), .dk ha5 .nil, fun b z => R5.dom b z.1, ⟨c, rfl, hp c (List.mem_of_getElem? hc), rfl⟩, fun u H6 d d1 hs hR ru ho => ?_⟩
      obtain ⟨c', ec, rfl, rfl⟩ := hR
      have ec2 : codeD c = codeD c' := (List.cons.inj ec).1
      have ecc : startL 0 c' = startL 0 c ∧ tabL 0 c' = tabL 0 c := by
        have e1 := D.tup.inj ec2
        have key : ∀ (c c' : List Sm) (i : Nat), c.map Sm.d = c'.map Sm.d → startL i c' = startL i c ∧ tabL i c' = tabL i c := by
          intro c
          induction c with
          | nil => intro c' i h; cases c' with
            | nil => exact ⟨rfl, rfl⟩
            | cons _ _ => cases h
          | cons m c ih => intro c' i h; cases c' with
            | nil => cases h
            | cons m' c' =>
              have h' := List.cons.inj h
              obtain ⟨h1, h2⟩ := ih c' (i + 1) h'.2
              simp only [startL, tabL, h1, h2, h'.1, and_self]
        exact key c c' 0 e1
      rw [ecc.2] at ho
      rw [ecc.1] at ru
      obtain ⟨oa, hoa⟩ : ∃ o, H6 a = some o := by
        cases e : H6 a with
        | none => exact absurd e ho.dom
        | some o => exact ⟨o, rfl⟩
      have I6 : F.I H6 := F.st (upd H5 a oa) H6 (F.up H5 a oa i5 n4) fun b o h => by
        by_cases e : b = a
        · subst e; rw [upd_same] at h; cases h; exact hoa
        · rw [upd_ne e] at h; exact hs b o h e
      obtain ⟨R6, k56⟩ := chgX R5 I6 (fun b o h _ hb => hs b o h hb) ma ho.dom (hap a (List.mem_of_getElem? ha))
      have hL26 : H6 Lz = some (.lst acc) := hs Lz _ hL25 fun z => hL2a a (List.mem_of_getElem? ha) z.symm
      obtain ⟨R7, k67⟩ := R6.upd_at (L := Lz) (o := .lst (acc ++ [u])) (.inr rfl) hfr hap2
      have k57 := (k3.trans (R3.kp g35)).trans (k56.trans k67)
      refine ⟨acc, hL26, ?_, R7, fun b o e z nb => ?_, k'.trans k57, fun j b hj => ⟨fun hji cj hcj => ?_, fun hji => ?_⟩, acc ++ [u], upd_same, ?_⟩
      · rw [racc.length, List.length_map]
        refine Nat.lt_of_le_of_lt (List.length_take_le _ _) (Nat.lt_of_le_of_lt (Nat.le_trans hle hpl) (by decide))
      · rw [upd_ne (ne_of_none e hL20)]
        exact hs b o (keep5 b o (gr b o e z nb) z) fun e2 => nb (by rw [e2]; exact List.mem_of_getElem? ha)
      · obtain ⟨q1, q2, q3, q4, q5⟩ := has b (List.mem_of_getElem? hj)
        by_cases e : j = i
        · subst e
          rw [ha] at hj
          cases hj
          rw [hc] at hcj
          cases hcj
          unfold dk at ho
          cases ho with
          | dk hk rk =>
            exact ⟨_, by rw [upd_ne (hL2a a (List.mem_of_getElem? ha))]; exact hk, (rk.to.kp k2).kp k67⟩
        · obtain ⟨kvs, h1, h2⟩ := (hta j b hj).1 (by omega) cj hcj
          have nba : b ≠ a := fun z => by
            subst z
            exact e ((List.getElem?_inj (List.getElem?_eq_some_iff.mp hj).1 hnd).mp (hj.trans ha.symm))
          exact ⟨kvs, by rw [upd_ne (hL2a b (List.mem_of_getElem? hj))]; exact hs b _ (keep5 b _ h1 fun z => (F.zf b z).2 q4) nba, h2.kp k57⟩
      · obtain ⟨q1, q2, q3, q4, q5⟩ := has b (List.mem_of_getElem? hj)
        have nba : b ≠ a := fun z => by
          subst z
          have := (List.getElem?_inj (List.getElem?_eq_some_iff.mp hj).1 hnd).mp (hj.trans ha.symm)
          omega
        rw [upd_ne (hL2a b (List.mem_of_getElem? hj))]
        exact hs b _ (keep5 b _ ((hta j b hj).2 (by omega)) fun z => (F.zf b z).2 q4) nba
      · rw [getset_take hc]
        exact (racc.kp k57).append (.cons ((ru.kp k2).kp k67) .nil)
  · have e1 : i = p.length := by omega
    subst e1
    rw [List.take_length] at racc
    refine .inl ⟨jk.2 (by omega), q Lz H' acc R' ((R.kp g1).trans k') hL20 (gr L _ hL (fun z => (F.zf L z).2 hfL) fun z => (has L z).1 rfl) (fun j a c hj hc => (hta j a hj).1 (by have := (List.getElem?_eq_some_iff.mp hc).1; omega) c hc) hacc racc⟩
end
end Pd
end
section
set_option Elab.async false
set_option linter.all false
set_option maxRecDepth 100000
set_option maxHeartbeats 4000000
/-! Lw4: the plain program made. -/
namespace Pd
open PySem PySem.Spec L2 Pz Pt Mi
section
variable {G : Gx} {F : Fr} {M : Addr → Prop} {H : Hp} {σ : Pz.St} {en : En}
theorem setx {i : Nat} {x : Option V} (R : RepS G F M σ H en) (h : en[i]? = some none) : RepS G F M (σ.set i x) H en := by
  have ne : ∀ {j : Nat} {s : Sl}, en[j]? = some (some s) → j ≠ i := fun {j s} e z => by rw [z, h] at e; cases e
  refine ⟨R.inv, R.m0, R.mf, R.dom, fun j d hj => ?_, fun j l a d d' hij h1 h2 g1 g2 => ?_, fun j d hj => ?_, by rw [List.length_set]; exact R.len⟩
  · rw [List.getElem?_set_ne (Ne.symm (ne hj))]
    exact R.own j d hj
  · rw [List.getElem?_set_ne (Ne.symm (ne h1))] at g1
    rw [List.getElem?_set_ne (Ne.symm (ne h2))] at g2
    exact R.sep j l a d d' hij h1 h2 g1 g2
  · rw [List.getElem?_set_ne (Ne.symm (ne hj))]
    exact R.val j d hj
end
section
variable {X : Cx} {F : Fr} {en : En} {rest : List Stmt} {k : KD}
theorem s_fz {p : Prg} (h3 : en[3]? = some none) (h : Sx X F (en.set 3 (some (.v (.lst (p.map tabD))))) rest k) : PSs X rest (fun E σ H => ∃ (M : Addr → Prop) (L : Addr) (as : List Addr), RepS (gx X) F M σ H en ∧ ES (gx X) F M H k E ∧ σ[3]? = some (some (.ref L)) ∧ H L = some (.lst (as.map V.ref)) ∧ as.length = p.length ∧ as.Nodup ∧
    (∀ a ∈ as, a ≠ L ∧ M a ∧ ¬ F.M0 a ∧ F.fresh a) ∧ M L ∧ ¬ F.M0 L ∧ (∀ a, (a = L ∨ a ∈ as) → ∀ (j : Nat) d, en[j]? = some (some (.own d)) → σ[j]? = some (some (.ref a)) → False) ∧ ∀ (j : Nat) a c, as[j]? = some a → p[j]? = some c → ∃ kvs, H a = some (.dK kvs) ∧ Rpk (gx X) M H kvs (tabL 0 c)) := by
  refine ⟨fun pins s σ H E I q => ?_⟩
  obtain ⟨M, L, as, R, es, e3, hL, hal, hnd, has, mL, nL, hap, htb⟩ := q
  have hkv : ∀ a ∈ as, ∃ kvs, H a = some (.dK kvs) := fun a ha => by
    obtain ⟨j, hj⟩ := List.mem_iff_getElem?.mp ha
    have hjl := (List.getElem?_eq_some_iff.mp hj).1
    obtain ⟨kvs, h1, _⟩ := htb j a p[j] hj (List.getElem?_eq_getElem (by omega))
    exact ⟨kvs, h1⟩
  obtain ⟨H', I', i', keep, lock⟩ := lockAll (F := F) as H I R.inv hnd fun a ha => ⟨(has a ha).2.2.2, hkv a ha⟩
  let M' : Addr → Prop := fun b => M b ∧ b ≠ L ∧ b ∉ as
  have kp : Kp M M' H H' := ⟨fun b o e hm => by rw [keep b fun z => hm (has b z).2.1]; exact e, fun b _ hm z => hm z.1⟩
  have hL' : H' L = some (.lst (as.map V.ref)) := by rw [keep L fun z => (has L z).1 rfl]; exact hL
  have R' : RepS (gx X) F M' σ H' en := by
    refine ⟨i', fun a h => ⟨R.m0 a h, fun e => nL (e ▸ h), fun z => (has a z).2.2.1 h⟩, fun a h => R.mf a h.1, fun a h => ?_, fun j d hj => ?_, R.sep, fun j d hj => ?_, R.len⟩
    · rw [keep a h.2.2]; exact R.dom a h.1
    · obtain ⟨b, g1, g2, g3, g4, g5⟩ := R.own j d hj
      have nb : b ∉ as := fun z => hap b (.inr z) j d hj g1
      exact ⟨b, g1, ⟨g2, fun e => hap b (.inl e) j d hj g1, nb⟩, g3, g4, g5.kp kp fun o e => by rw [keep b nb]; exact e⟩
    · obtain ⟨v, g1, g2⟩ := R.val j d hj
      exact ⟨v, g1, g2.kp kp⟩
  have rps : Rps (gx X) M' H' (as.map V.ref) (p.map tabD) := by
    have key : ∀ (as : List Addr) (p : Prg), as.length = p.length → (∀ (j : Nat) a c, as[j]? = some a → p[j]? = some c → Rp (gx X) M' H' (.ref a) (tabD c)) → Rps (gx X) M' H' (as.map V.ref) (p.map tabD) := by
      intro as
      induction as with
      | nil => intro p hl _; cases p with
        | nil => exact .nil
        | cons _ _ => cases hl
      | cons a as ih => intro p hl hh; cases p with
        | nil => cases hl
        | cons c p => exact .cons (hh 0 a c rfl rfl) (ih p (Nat.succ.inj hl) fun j a c h1 h2 => hh (j + 1) a c (by simpa using h1) (by simpa using h2))
    refine key as p hal fun j a c hj hc => ?_
    have ha := List.mem_of_getElem? hj
    obtain ⟨kvs, g1, g2⟩ := htb j a c hj hc
    obtain ⟨ob, g3⟩ := lock a ha kvs g1
    exact .dk g3 (fun z => z.2.2 ha) (Rpk.back (g2.kp kp))
  have R2 := R'.setv (i := 3) (v := .ref L) (d := .lst (p.map tabD)) (.lst (.inl ⟨.inl hL', fun z => z.2.1 rfl⟩) rps)
  have eσ : σ.set 3 (some (.ref L)) = σ := by
    refine List.ext_getElem? fun j => ?_
    by_cases e : 3 = j
    · subst e
      rw [List.getElem?_set_self (List.getElem?_eq_some_iff.mp e3).1, e3]
    · rw [List.getElem?_set_ne e]
  rw [eσ] at R2
  exact h.run pins s σ H' E I' ⟨M', R2, es.step kp⟩
end
section
variable {P : Program} {w : World} {K : PySem.W.Frag} {mg : Str → Option Value} {base : Heap}
def R_lprog : List D → D → Prop := fun ds d => ∃ p : Prg, ds = [.tup (p.map codeD), dk [], dk []] ∧ Okp p ∧ d = plainD p
theorem ok_lprog (T : Top w K mg) : CalN P w K mg base 3 "_law_program" R_lprog := by
  obtain ⟨ft, fdt, pst, hmt, hkt, FFt, hbt⟩ := ok_tab (P := P) (base := base) T
  refine calN_ok T.d_law_program c_law_program (fun ds d h => ?_) (fun _ _ _ _ _ _ us hl => match us, hl with | [_, _, _], _ => rfl) (fun f cdv A outer s H E Fm ds d hr h => ?_)
  · obtain ⟨p, rfl, _⟩ := h
    rfl
  · obtain ⟨p, rfl, hp, rfl⟩ := h
    have hu := hr.units
    have hp20 := hp.short
    have hpl : p.length ≤ 1000 := by have := hp.two.2; omega
    let en0 : En := [some (.v (.tup (p.map codeD))), some (.v (dk [])), some (.v (dk [])), none, none, none, none]
    let en2 : En := [some (.v (.tup (p.map codeD))), some (.v (dk [])), some (.v (dk [])), none, some (.own (.lst (p.map startD))), none, none]
    have hret : Sx ((cxOf CX0 P w K mg base n_law_program "_law_program" (defScope s_law_program) f cdv A outer s H E).nox) Fm (en2.set 3 (some (.v (.lst (p.map tabD))))) ((defBody s_law_program).drop 2) { nx := fun _ => False, rt := fun _ => False, ro := fun z => z = plainD p } := by
      refine s_frz 4 (s_retF (f_dispK (.cons c_str (nm 0) (.cons c_str (nm 3) (.cons c_str (nm 4) (.cons c_str (nm 1) (.cons c_str (nm 2) .nil))))) (by simp) (by simp) (show (["codes", "tables", "starts", "cells", "answers"] : List Str).Nodup by decide +kernel)) rfl)
    refine PSs.wk (pss_cons (ps_set (i := 3) c_law_program.nd rfl (Or.inr rfl) (pe_lc (own := [("_law_code", 5)]) (g := tgO _ _ _) (te := teO _ Fm _ _) rfl c_law_program.nd (i_tup (F := Fm) (en := en0) (nm 0)) (blkOk_by (N := n_law_program) (sc := defScope s_law_program) (by decide +kernel)) tgO_ok (fun _ _ _ _ _ => pts_nil) teO_ok))
      (pss_cons (ps_setLc (i := 4) (own := [("_law_at", 6), ("_law_code", 5)]) (g := tgO _ _ _) (te := tCall (spT ⟨P, w, K⟩ PreTab R_tab) [] (fun _ _ _ => False) (tCons (teA _ Fm _ _) (tCons (tC (.int 0)) (tCons (tOp (rIx K) (tVar 3) (teA _ Fm _ _)) tNil)))) rfl c_law_program.nd rfl rfl (by rfl) (i_enumT (F := Fm) (en := en0) (a_cons (nm 0) a_nil) T.f_enumerate) (blkOk_by (N := n_law_program) (sc := defScope s_law_program) (by decide +kernel)) tgO_ok (fun _ _ _ _ _ => pts_nil)
        (fun s1 H1 C cl fp => pe_call (sp := spT ⟨P, w, K⟩ PreTab R_tab) (E := fun _ _ _ => False) FFt (hr : Room 2 _) rfl hmt hkt hbt .nil pass0 (pa_cons (teA_ok _ _ _ _ _) (pa_cons pe_int (pa_cons (pe_ix ix_seq (pe_var (i := 3) rfl (by first | exact Or.inl rfl | exact Or.inr (Or.inl rfl) | exact Or.inr (Or.inr rfl))) (teA_ok _ _ _ _ _) (fun _ _ => rfl)) pa_nil)))))
      (s_fz (F := Fm) (p := p) (en := en2) rfl hret))) fun E σ H0 ⟨M, R, q⟩ => ?_
    · unfold tSeq tAsg
      refine lcO_rd (F := Fm) (en := en0) (ds := p.map codeD) (is := [5]) (sp := sp1) [("_law_code", 5)] (fun _ => dk []) (fun _ _ _ _ _ => tg_nm 5 c_law_program.nd) (fun d hd => ⟨[d], rfl, fun _ _ _ _ _ => f_dnew⟩) (by simp; omega) (by decide) σ H0 _ ⟨M, R, fun L H1 M1 as R1 g1 k1 mL hL0 hacc hal hnd hnew hown => ?_⟩
      have hal' : as.length = p.length := by rw [hal, List.length_map]
      have hm0 : ∀ {a : Addr}, H0 a = none → ¬ Fm.M0 a := fun {a} ha z => R.dom a (R.m0 a z) ha
      have hfr : ∀ {a : Addr}, H0 a = none → Fm.fresh a := fun {a} ha => Fm.nw _ _ R.inv ha
      have R1' : RepS (gx _) Fm M1 (σ.set 3 (some (.ref L))) H1 en0 := setx R1 rfl
      have e3 : (σ.set 3 (some (V.ref L)))[3]? = some (some (.ref L)) := List.getElem?_set_self (by have := R.len; rw [this]; show 3 < 7; decide)
      have hno : ∀ (j : Nat) d, en0[j]? = some (some (.own d)) → False := fun j d h => by
        match j, h with
        | 0, h => cases h
        | 1, h => cases h
        | 2, h => cases h
        | 3, h => cases h
        | 4, h => cases h
        | 5, h => cases h
        | 6, h => cases h
        | j + 7, h => cases h
      have hdk : ∀ a ∈ as, H1 a = some (.dK []) := fun a ha => by
        obtain ⟨j, hj⟩ := List.mem_iff_getElem?.mp ha
        have hjl := (List.getElem?_eq_some_iff.mp hj).1
        have o := hown j a _ hj (List.getElem?_eq_getElem (by omega))
        generalize hz : dk [] = z at o
        cases o with
        | dk h r =>
          have : _ = [] := (D.dct.inj hz).symm
          subst this
          cases r
          exact h
        | _ => exact absurd hz (by intro z; cases z)
      unfold gName
      dsimp only
      refine tabs_rd (p := p) (M := M1) (L := L) (as := as) hp20 hpl (fun _ _ _ _ _ => tg_tup rfl (gs_cons 6 c_law_program.nd (gs_cons 5 c_law_program.nd gs_nil))) (fun en' c i σ H Q h1 h2 ⟨M, R, q⟩ => ⟨en', _, h1, M, R, fun v H1 d i g r e => let ⟨t, ht, h⟩ := q v H1 d i g r e; ⟨t, ht, en', _, h2, h⟩⟩) (fun a b => ?_) (fun a b => ?_) R1' e3 hacc hal' hnd (fun a ha => ?_) (hfr hL0) mL (fun a ha j d h _ => hno j d h) (fun Lz H2 vs R2 k2 hz0 hL2 ht hLz rs => ?_)
      · exact fun _ _ _ _ _ => nm 5
      · exact fun _ _ _ _ _ => nm 6
      · obtain ⟨h1, h2, h3⟩ := hnew a ha
        exact ⟨h1, h3, hm0 h2, hfr h2, hdk a ha⟩
      · have hzL : Lz ≠ L := fun z => by rw [z, hacc] at hz0; cases hz0
        have hz00 : H0 Lz = none := none_back R R1.inv g1 hz0
        have R3 : RepS (gx _) Fm (Mp M1 Lz) ((σ.set 3 (some (.ref L))).set 4 (some (.ref Lz))) H2 en2 := R2.seto (i := 4) ⟨.inr rfl, hm0 hz00, hfr hz00, .lst hLz rs, fun j d h _ => hno j d h⟩
        have hno2 : ∀ (j : Nat) d, en2[j]? = some (some (.own d)) → j = 4 := fun j d h => by
          match j, h with
          | 0, h => cases h
          | 1, h => cases h
          | 2, h => cases h
          | 3, h => cases h
          | 4, h => rfl
          | 5, h => cases h
          | 6, h => cases h
          | j + 7, h => cases h
        have len3 : (σ.set 3 (some (V.ref L))).length = 7 := by rw [List.length_set]; exact R.len
        refine ⟨Mp M1 Lz, L, as, R3, q.step (k1.trans k2), ?_, hL2, hal', hnd, fun a ha => ?_, .inl mL, hm0 hL0, fun a ha j d h1 h2 => ?_, ht⟩
        · rw [List.getElem?_set_ne (by decide)]; exact e3
        · obtain ⟨h1, h2, h3⟩ := hnew a ha
          exact ⟨h1, .inl h3, hm0 h2, hfr h2⟩
        · have := hno2 j d h1
          subst this
          rw [List.getElem?_set_self (by omega)] at h2
          have e : Lz = a := by simpa using h2
          subst e
          rcases ha with ha | ha
          · exact hzL ha
          · obtain ⟨g1', g2', g3'⟩ := hnew _ ha
            exact R1.dom _ g3' hz0
end
end Pd
end
section
set_option Elab.async false
set_option linter.all false
set_option maxRecDepth 100000
set_option maxHeartbeats 4000000
/-! Lw5: drawn programs. -/
namespace Pd
open PySem PySem.Spec L2 Pz Pt Mi
section
variable {X : Cx} {F : Fr} {en : En} {e1 e2 : Expr} {xs : List D} {p pos : Pos} {x : Addr}
theorem e_oneOf (C : CalZ X.prog X.w X.K X.mg X.base 2 "_law_one_of" PreOne R_one) (df : DF F x) (hr : Room 2 X.A) (h1 : Ev X F en e1 (.ref x)) (h2 : Ev X F en e2 (.lst xs)) (hl : 0 < xs.length ∧ xs.length ≤ 1000) (hg : Gl X "_law_one_of" := by rfl)
    (he : starEach [e1, e2] X.env = (false, eval e1 X.env) :: starEach [e2] X.env := by rfl) (he2 : starEach [e2] X.env = (false, eval e2 X.env) :: starEach [] X.env := by rfl) (hpl : (backTo pos (starEach [e2] X.env)).any (·.1) = false := by rfl) : EvW X F en (.Call (.Name "_law_one_of" p) [e1, e2] [] pos) (fun d => d ∈ xs) := by
  refine e_callZ (x := x) C df hr (aw_cons (Ev.w (K := fun d => d = .ref x) h1 rfl) (aw_cons (Ev.w (K := fun d => d = .lst xs) h2 rfl) aw_nil he2) he) (fun l hl' => ?_) hg (by decide) he hpl
  obtain ⟨_, _, rfl, rfl, _, _, rfl, rfl, rfl⟩ := hl'
  refine ⟨_, rfl, ⟨xs, .inl rfl, hl.1, hl.2⟩, fun d hd => ?_⟩
  obtain ⟨ys, h, hm⟩ := hd
  rcases h with h | h
  · have : xs = ys := D.lst.inj (List.cons.inj h).1
    exact this ▸ hm
  · cases h
/-- a number below n -/
theorem e_rolled {n : Nat} (C : CalZ X.prog X.w X.K X.mg X.base 1 "_law_roll" PreRoll R_roll) (df : DF F x) (hr : Room 1 X.A) (h1 : Ev X F en e1 (.ref x)) (h2 : Ev X F en e2 (.int (n : Int))) (hl : 0 < n ∧ n ≤ 1000) (hg : Gl X "_law_roll" := by rfl)
    (he : starEach [e1, e2] X.env = (false, eval e1 X.env) :: starEach [e2] X.env := by rfl) (he2 : starEach [e2] X.env = (false, eval e2 X.env) :: starEach [] X.env := by rfl) (hpl : (backTo pos (starEach [e2] X.env)).any (·.1) = false := by rfl) : EvW X F en (.Call (.Name "_law_roll" p) [e1, e2] [] pos) (fun d => ∃ j : Nat, d = .int (j : Int) ∧ j < n) := by
  refine e_callZ (x := x) C df hr (aw_cons (Ev.w (K := fun d => d = .ref x) h1 rfl) (aw_cons (Ev.w (K := fun d => d = .int (n : Int)) h2 rfl) aw_nil he2) he) (fun l hl' => ?_) hg (by decide) he hpl
  obtain ⟨_, _, rfl, rfl, _, _, rfl, rfl, rfl⟩ := hl'
  refine ⟨_, rfl, ⟨n, rfl, hl.1, hl.2⟩, fun d hd => ?_⟩
  obtain ⟨m, j, h, hj, rfl⟩ := hd
  have := D.int.inj (List.cons.inj h).1
  exact ⟨j, rfl, by omega⟩
end
structure Drawn (p : Prg) (n : Nat) : Prop where
  len : p.length = n
  nine : ∀ c ∈ p, c.length ≤ 9
def clN : Nat → Cl | 0 => .x | 1 => .y | _ => .z
theorem cl_at {n t : Nat} (h : t < 3) : ([D.str "x", .str "y", .str "zz"] : List D)[t]? = some (.str (clN t).s) := by
  match t, h with
  | 0, _ => rfl
  | 1, _ => rfl
  | 2, _ => rfl
section
variable {P : Program} {w : World} {K : PySem.W.Frag} {mg : Str → Option Value} {base : Heap}
def PreCalm : List D → Prop := fun ds => ∃ n : Nat, ds = [.int (n : Int)] ∧ (n = 2 ∨ n = 3)
def R_calm : List D → D → Prop := fun ds d => ∃ (n : Nat) (p : Prg), ds = [.int (n : Int)] ∧ (n = 2 ∨ n = 3) ∧ Drawn p n ∧ d = plainD p
theorem ok_calm (T : Top w K mg) : CalZ P w K mg base 4 "_law_calm" PreCalm R_calm := by
  refine calZ_ok T.d_law_calm c_law_calm (fun ds h => ?_) (fun _ _ _ _ _ _ us hl => match us, hl with | [_, _], _ => rfl) (fun f cdv A outer s H E Fm x ds df hr h => ?_)
  · obtain ⟨n, rfl, _⟩ := h
    rfl
  · obtain ⟨n, rfl, hn⟩ := h
    have hn3 : n ≤ 3 := by omega
    refine s_setO 2 c_law_calm.nd (f_lst a_nil (sz_le (by simp))) ?_
    refine s_for (ds := rangeD 0 n) (fun t e => ∃ (q : Prg) (x3 x4 x5 x6 x7 x8 : Option Sl), q.length = t ∧ (∀ c ∈ q, c.length ≤ 9) ∧ e = [some (.v (.ref x)), some (.v (.int (n : Int))), some (.own (.lst (q.map codeD))), x3, x4, x5, x6, x7, x8]) pnever rfl (i_range1 (a_cons (nm 1) a_nil) T.f_range (by omega)) (tg_nm 3 c_law_calm.nd) ⟨[], none, none, none, none, none, none, rfl, fun _ h => absurd h List.not_mem_nil, rfl⟩ (fun t d e hd hP => ?_) (fun e hP => ?_)
    · obtain ⟨q, x3, x4, x5, x6, x7, x8, hq, hq9, rfl⟩ := hP
      obtain ⟨ht, rfl⟩ := rangeD_get hd
      refine ⟨_, rfl, ?_⟩
      rw [Int.zero_add]
      refine s_set 4 c_law_calm.nd (d := .str (clN t).s) (e_ix (f_lst (a_cons c_str (a_cons c_str (a_cons c_str a_nil))) (sz_le (by simp))).ev.eb (nm 3) (x_lst (cl_at (n := n) (by omega)))) ?_
      refine s_set 5 c_law_calm.nd (d := codeD []) (e_tup a_nil (by decide)) ?_
      let In := fun (c : List Sm) (e : En) => ∃ (x6 x7 : Option Sl), e = [some (.v (.ref x)), some (.v (.int (n : Int))), some (.own (.lst (q.map codeD))), some (.v (.int (t : Int))), some (.v (.str (clN t).s)), some (.v (codeD c)), x6, x7, x8]
      refine s_forW (KL := fun ds => ∃ m : Nat, m ≤ 3 ∧ ds = rangeD 0 m) (fun ds i e => ∃ c : List Sm, c.length ≤ 2 * i ∧ In c e) pnever rfl (i_range1W (aw_cons (e_binW (K := fun d => ∃ m : Nat, d = .int (m : Int) ∧ m ≤ 3) (Ev.w (K := fun d => d = .int 1) c_int rfl) (e_rolled (n := 3) (ok_roll T) df (hr.mono (by decide)) (nm 0) c_int (by decide)) (fun y z hy hz => ?_)) aw_nil) (fun l hl => ?_) T.f_range) (tg_nm 6 c_law_calm.nd) (fun ds _ => ⟨[], Nat.zero_le _, x6, x7, rfl⟩) (fun ds hds i d e hd hP => ?_) (fun ds hds e hP => ?_)
      · obtain ⟨j, rfl, hj⟩ := hz
        subst hy
        exact ⟨_, o_add, 1 + j, by simp, by omega⟩
      · obtain ⟨_, _, rfl, ⟨m, rfl, hm⟩, rfl⟩ := hl
        exact ⟨m, rfl, by omega, m, hm, rfl⟩
      · obtain ⟨m, hm, rfl⟩ := hds
        obtain ⟨hi, rfl⟩ := rangeD_get hd
        obtain ⟨c, hc, x6, x7, rfl⟩ := hP
        refine ⟨_, rfl, ?_⟩
        refine s_setW 7 c_law_calm.nd (K := fun d => ∃ r : Rg, d = .str r.s) ((e_oneOf (ok_one T) df (hr.mono (by decide)) (nm 0) (f_lst (a_cons c_str (a_cons c_str (a_cons c_str a_nil))) (sz_le (by simp))).ev (by decide)).to fun z hz => ?_) (fun d hd => ?_)
        · simp only [List.mem_cons, List.not_mem_nil, or_false] at hz
          rcases hz with rfl | rfl | rfl
          · exact ⟨.a, rfl⟩
          · exact ⟨.b, rfl⟩
          · exact ⟨.r, rfl⟩
        · obtain ⟨r, rfl⟩ := hd
          refine s_setW 5 c_law_calm.nd (K := fun d => ∃ c' : List Sm, d = codeD c' ∧ c'.length ≤ c.length + 1) (e_binW (K1 := fun d => d = codeD c) (Ev.w (nm 5) rfl) (e_oneOf (xs := [codeD [.wr (clN t) r], codeD [.rd r (clN t)], codeD [.sh r], codeD []]) (ok_one T) df (hr.mono (by decide)) (nm 0) (f_lst (a_cons (e_tup (a_cons (e_tup (a_cons c_str (a_cons (nm 4) (a_cons (nm 7) a_nil))) (sz_le (by simp))) a_nil) (sz_le (by simp))) (a_cons (e_tup (a_cons (e_tup (a_cons c_str (a_cons (nm 7) (a_cons (nm 4) a_nil))) (sz_le (by simp))) a_nil) (sz_le (by simp))) (a_cons (e_tup (a_cons (e_tup (a_cons c_str (a_cons (nm 7) a_nil)) (sz_le (by simp))) a_nil) (sz_le (by simp))) (a_cons (e_tup a_nil (by decide)) a_nil)))) (sz_le (by simp))).ev (by simp)) (fun y z hy hz => ?_)) (fun d hd => ?_)
          · subst hy
            have : ∃ c2 : List Sm, z = codeD c2 ∧ c2.length ≤ 1 := by
              simp only [List.mem_cons, List.not_mem_nil, or_false] at hz
              rcases hz with rfl | rfl | rfl | rfl
              · exact ⟨_, rfl, by simp⟩
              · exact ⟨_, rfl, by simp⟩
              · exact ⟨_, rfl, by simp⟩
              · exact ⟨_, rfl, by simp⟩
            obtain ⟨c2, rfl, h2⟩ := this
            exact ⟨codeD (c ++ c2), (o_catT (sz_le (by simp; omega))).is (by unfold codeD; rw [List.map_append]), c ++ c2, rfl, by rw [List.length_append]; omega⟩
          · obtain ⟨c1, rfl, hc1⟩ := hd
            refine s_setW 5 c_law_calm.nd (K := fun d => ∃ c' : List Sm, d = codeD c' ∧ c'.length ≤ c.length + 2) (e_binW (K1 := fun d => d = codeD c1) (Ev.w (nm 5) rfl) (e_oneOf (xs := [codeD [.pt r], codeD [.gt r], codeD [.gt r], codeD []]) (ok_one T) df (hr.mono (by decide)) (nm 0) (f_lst (a_cons (e_tup (a_cons (e_tup (a_cons c_str (a_cons (nm 7) a_nil)) (sz_le (by simp))) a_nil) (sz_le (by simp))) (a_cons (e_tup (a_cons (e_tup (a_cons c_str (a_cons (nm 7) a_nil)) (sz_le (by simp))) a_nil) (sz_le (by simp))) (a_cons (e_tup (a_cons (e_tup (a_cons c_str (a_cons (nm 7) a_nil)) (sz_le (by simp))) a_nil) (sz_le (by simp))) (a_cons (e_tup a_nil (by decide)) a_nil)))) (sz_le (by simp))).ev (by simp)) (fun y z hy hz => ?_)) (fun d hd => ?_)
            · subst hy
              have : ∃ c2 : List Sm, z = codeD c2 ∧ c2.length ≤ 1 := by
                simp only [List.mem_cons, List.not_mem_nil, or_false] at hz
                rcases hz with rfl | rfl | rfl | rfl
                · exact ⟨_, rfl, by simp⟩
                · exact ⟨_, rfl, by simp⟩
                · exact ⟨_, rfl, by simp⟩
                · exact ⟨_, rfl, by simp⟩
              obtain ⟨c2, rfl, h2⟩ := this
              exact ⟨codeD (c1 ++ c2), (o_catT (sz_le (by simp; omega))).is (by unfold codeD; rw [List.map_append]), c1 ++ c2, rfl, by rw [List.length_append]; omega⟩
            · obtain ⟨c2, rfl, hc2⟩ := hd
              exact s_nil ⟨c2, by omega, _, _, rfl⟩
      · obtain ⟨m, hm, rfl⟩ := hds
        obtain ⟨c, hc, x6', x7', rfl⟩ := hP
        rw [rangeD_len] at hc
        have fin : ∀ (c' : List Sm) (e : En), c'.length ≤ 9 → (∃ (x6 x7 x8 : Option Sl), e = [some (.v (.ref x)), some (.v (.int (n : Int))), some (.own (.lst (q.map codeD))), some (.v (.int (t : Int))), some (.v (.str (clN t).s)), some (.v (codeD c')), x6, x7, x8]) → Sx ((cxOf CX0 P w K mg base n_law_calm "_law_calm" (defScope s_law_calm) f cdv A outer s H E).nox) Fm e ((match (defBody s_law_calm).getD 1 (.Pass ⟨0, 0, 0, 0⟩) with | .For _ _ b _ _ => b | _ => []).drop 4) { nx := fun e => ∃ (q : Prg) (x3 x4 x5 x6 x7 x8 : Option Sl), q.length = t + 1 ∧ (∀ c ∈ q, c.length ≤ 9) ∧ e = [some (.v (.ref x)), some (.v (.int (n : Int))), some (.own (.lst (q.map codeD))), x3, x4, x5, x6, x7, x8], ct := fun e => ∃ (q : Prg) (x3 x4 x5 x6 x7 x8 : Option Sl), q.length = t + 1 ∧ (∀ c ∈ q, c.length ≤ 9) ∧ e = [some (.v (.ref x)), some (.v (.int (n : Int))), some (.own (.lst (q.map codeD))), x3, x4, x5, x6, x7, x8], bk := fun e' => Sx ((cxOf CX0 P w K mg base n_law_calm "_law_calm" (defScope s_law_calm) f cdv A outer s H E).nox) Fm e' ((defBody s_law_calm).drop 2) { nx := fun _ => R_calm [.int (n : Int)] .non, rt := fun z => R_calm [.int (n : Int)] z }, rt := fun z => R_calm [.int (n : Int)] z } := by
          intro c' e hc' he
          obtain ⟨x6, x7, x8, rfl⟩ := he
          refine s_app (xs := q.map codeD) 2 (nm 5) ?_ (by simp; omega)
          refine s_nil ⟨q ++ [c'], _, _, _, _, _, _, by simp [hq], fun c hc => ?_, by rw [List.map_append]; rfl⟩
          rcases List.mem_append.mp hc with hc | hc
          · exact hq9 c hc
          · rw [List.mem_singleton] at hc
            exact hc ▸ hc'
        refine s_ifW (K := fun _ => True) (t_cmpW (e_rolled (n := 2) (ok_roll T) df (hr.mono (by decide)) (nm 0) c_int (by decide)) (Ev.w (K := fun d => d = .int 0) c_int rfl) (fun y z ⟨j, hy, _⟩ hz => by subst hy hz; exact ⟨_, o_eqI, trivial⟩)) (fun _ => ?_) (fun _ => s_nil (fin c _ (by omega) ⟨_, _, _, rfl⟩))
        have hmod : ((t : Int) + (n : Int) - 1).fmod (n : Int) = ((((t : Int) + (n : Int) - 1).fmod (n : Int)).toNat : Int) ∧ (((t : Int) + (n : Int) - 1).fmod (n : Int)).toNat < n := by
          obtain ⟨j, e, hj⟩ := fmod_at (i := (t : Int) + (n : Int) - 1) (n := n) (by omega)
          rw [e]
          simp
          exact hj
        refine s_set 8 c_law_calm.nd (d := .str (clN (((t : Int) + (n : Int) - 1).fmod (n : Int)).toNat).s) (e_ix (f_lst (a_cons c_str (a_cons c_str (a_cons c_str a_nil))) (sz_le (by simp))).ev.eb (e_bin (e_callT (T := "int") (b_cons (e_bin (e_bin (nm 3).eb (nm 1).eb o_add).eb c_int.eb o_sub).eb b_nil) k_int T.f_int).eb (nm 1).eb ((o_mod (by omega)).is (congrArg D.int hmod.1))) (x_lst (cl_at (n := n) (by omega)))) ?_
        refine s_set 5 c_law_calm.nd (d := codeD (.gt .b :: .rd .a (clN (((t : Int) + (n : Int) - 1).fmod (n : Int)).toNat) :: .sh .a :: c)) (e_bin (e_tup (a_cons (e_tup (a_cons c_str (a_cons c_str a_nil)) (sz_le (by simp))) (a_cons (e_tup (a_cons c_str (a_cons c_str (a_cons (nm 8) a_nil))) (sz_le (by simp))) (a_cons (e_tup (a_cons c_str (a_cons c_str a_nil)) (sz_le (by simp))) a_nil))) (sz_le (by simp))).eb (nm 5).eb (o_catT (sz_le (by simp; omega)))) ?_
        exact s_nil (fin _ _ (by simp; omega) ⟨_, _, _, rfl⟩)
    · obtain ⟨q, x3, x4, x5, x6, x7, x8, hq, hq9, rfl⟩ := hP
      rw [rangeD_len] at hq
      exact s_ret (f_call (ok_lprog T) (hr.mono (by decide)) (a_cons (e_callT (T := "tuple") (b_cons (no 2) b_nil) k_tuple T.f_tuple) (a_cons f_dnew.ev (a_cons f_dnew.ev a_nil))) ⟨q, rfl, ⟨by omega, fun c hc => Nat.le_trans (hq9 c hc) (by decide)⟩, rfl⟩).ev ⟨n, q, rfl, hn, ⟨hq, hq9⟩, rfl⟩
end
end Pd
end
section
set_option Elab.async false
set_option linter.all false
set_option maxRecDepth 100000
set_option maxHeartbeats 4000000
/-! Lw6: the law's states as data. -/
namespace Pd
open PySem PySem.Spec L2 Pz Pt Mi
theorem perm_map_inv {α β : Type} {g : α → β} {l1 l2 : List β} (h : l1.Perm l2) : ∀ ks : List α, l2 = ks.map g → ∃ ks' : List α, l1 = ks'.map g ∧ ks'.Perm ks := by
  induction h with
  | nil => intro ks e; exact ⟨ks, e, .refl _⟩
  | cons x h ih =>
    intro ks e
    cases ks with
    | nil => cases e
    | cons k ks =>
      obtain ⟨e1, e2⟩ := List.cons.inj e
      obtain ⟨ks', h1, h2⟩ := ih ks e2
      exact ⟨k :: ks', by rw [h1, e1]; rfl, h2.cons k⟩
  | swap x y l =>
    intro ks e
    match ks, e with
    | a :: b :: ks, e =>
      obtain ⟨e1, e2⟩ := List.cons.inj e
      obtain ⟨e3, e4⟩ := List.cons.inj e2
      exact ⟨b :: a :: ks, by rw [e1, e3, e4]; rfl, .swap _ _ _⟩
  | trans h1 h2 ih1 ih2 =>
    intro ks e
    obtain ⟨k1, a1, a2⟩ := ih2 ks e
    obtain ⟨k2, b1, b2⟩ := ih1 k1 a1
    exact ⟨k2, b1, b2.trans a2⟩
section
variable {κ : Type} [DecidableEq κ]
def kvF (s : κ → Str) (f : κ → Vl) (ks : List κ) : List (Str × Str) := ks.map fun k => (s k, (f k).s)
structure Kys (v0 : κ → Vl) (f : κ → Vl) (ks : List κ) : Prop where
  nd : ks.Nodup
  all : ∀ k, f k ≠ v0 k → k ∈ ks
def canK (v0 : κ → Vl) (all : List κ) (f : κ → Vl) : List κ := all.filter fun k => decide (f k ≠ v0 k)
variable {s : κ → Str} {v0 f : κ → Vl} {ks all : List κ} {k : κ} {v : Vl}
theorem Kys.can (hn : all.Nodup) (ha : ∀ k, k ∈ all) : Kys v0 f (canK v0 all f) := ⟨hn.filter _, fun k h => List.mem_filter.mpr ⟨ha k, by simpa using h⟩⟩
theorem Kys.pick (h : Kys v0 f ks) (hn : all.Nodup) (ha : ∀ k, k ∈ all) : (canK v0 all f).Perm (ks.filter fun k => decide (f k ≠ v0 k)) := by
  refine (List.perm_ext_iff_of_nodup (hn.filter _) (h.nd.filter _)).mpr fun k => ?_
  rw [List.mem_filter, List.mem_filter]
  exact ⟨fun z => ⟨h.all k (by simpa using z.2), z.2⟩, fun z => ⟨ha k, z.2⟩⟩
theorem Kys.perm {ks' : List κ} (h : Kys v0 f ks) (hp : ks'.Perm ks) : Kys v0 f ks' := ⟨hp.nodup_iff.mpr h.nd, fun k hk => hp.mem_iff.mpr (h.all k hk)⟩
theorem kvF_keys (ks : List κ) : ((kvF s f ks).map prK).map (·.1) = ks.map fun k => (.inr (s k) : Key) := by
  unfold kvF
  rw [List.map_map, List.map_map]
  rfl
theorem kvF_nodup (hi : ∀ a b, s a = s b → a = b) (h : ks.Nodup) : (((kvF s f ks).map prK).map (·.1)).Nodup := by
  rw [kvF_keys]
  refine List.Pairwise.map _ (R := fun a b => a ≠ b) (fun a b hne e => hne (hi a b (Sum.inr.inj e))) h
theorem kfind (hi : ∀ a b, s a = s b → a = b) : ∀ ks : List κ, getD_ ((kvF s f ks).map prK) (.inr (s k)) = if k ∈ ks then some (.str (f k).s) else none
  | [] => rfl
  | x :: ks => by
    unfold getD_ kvF
    rw [List.map_cons, List.map_cons, List.find?_cons]
    by_cases e : x = k
    · subst e
      simp [prK]
    · have : decide ((prK (s x, (f x).s)).1 = (.inr (s k) : Key)) = false := decide_eq_false fun z => e (hi x k (Sum.inr.inj z))
      simp only [this]
      have ih := kfind hi ks
      unfold getD_ kvF at ih
      rw [ih]
      have e' : ¬ k = x := fun z => e z.symm
      simp [e']
theorem kget (hi : ∀ a b, s a = s b → a = b) (h : Kys v0 f ks) {d : D} (hd : d = .str (v0 k).s) : (getD_ ((kvF s f ks).map prK) (.inr (s k))).getD d = .str (f k).s := by
  rw [kfind hi]
  by_cases hm : k ∈ ks
  · rw [if_pos hm]; rfl
  · rw [if_neg hm, hd]
    have : f k = v0 k := Classical.byContradiction fun z => hm (h.all k z)
    rw [this]; rfl
theorem kput (hi : ∀ a b, s a = s b → a = b) : putD ((kvF s f ks).map prK) (.inr (s k)) (.str v.s) = (kvF s (up f k v) (if k ∈ ks then ks else ks ++ [k])).map prK := by
  unfold putD
  by_cases hm : k ∈ ks
  · rw [if_pos hm, if_pos]
    · unfold kvF
      rw [List.map_map, List.map_map, List.map_map]
      refine List.map_congr_left fun x _ => ?_
      by_cases e : x = k
      · subst e
        simp [prK, up_same]
      · have : ¬ s x = s k := fun z => e (hi x k z)
        simp [prK, up_ne e, this]
    · rw [List.any_eq_true]
      exact ⟨prK (s k, (f k).s), List.mem_map.mpr ⟨_, List.mem_map.mpr ⟨k, hm, rfl⟩, rfl⟩, by simp [prK]⟩
  · rw [if_neg hm, if_neg]
    · unfold kvF
      rw [List.map_append, List.map_append]
      congr 1
      · refine congrArg _ (List.map_congr_left fun x hx => ?_)
        have : x ≠ k := fun z => hm (by rw [← z]; exact hx)
        rw [up_ne this]
      · simp [prK, up_same]
    · intro z
      obtain ⟨q, hq, e⟩ := List.any_eq_true.mp z
      obtain ⟨w, hw, rfl⟩ := List.mem_map.mp hq
      obtain ⟨x, hx, rfl⟩ := List.mem_map.mp hw
      have := Sum.inr.inj (of_decide_eq_true e)
      exact hm (hi _ _ this ▸ hx)
theorem Kys.put (h : Kys v0 f ks) : Kys v0 (up f k v) (if k ∈ ks then ks else ks ++ [k]) := by
  by_cases hm : k ∈ ks
  · rw [if_pos hm]
    refine ⟨h.nd, fun x hx => ?_⟩
    by_cases e : x = k
    · exact e ▸ hm
    · exact h.all x (by rwa [up_ne e] at hx)
  · rw [if_neg hm]
    refine ⟨List.nodup_append.mpr ⟨h.nd, by simp, fun a ha b hb => ?_⟩, fun x hx => ?_⟩
    · rw [List.mem_singleton] at hb
      exact fun e => hm (hb ▸ e ▸ ha)
    · by_cases e : x = k
      · exact List.mem_append_right _ (by simp [e])
      · exact List.mem_append_left _ (h.all x (by rwa [up_ne e] at hx))
theorem kvF_len : ((kvF s f ks).map prK).length = ks.length := by unfold kvF; simp
theorem picked_kv {q : D → Bool} (hq : ∀ k ∈ ks, q (prD (s k, (f k).s)) = decide (f k ≠ v0 k)) : picked q (fun d => d) ((kvF s f ks).map prD) = (kvF s f (ks.filter fun k => decide (f k ≠ v0 k))).map prD := by
  unfold picked kvF
  rw [List.map_id', List.map_map, List.map_map, List.filter_map]
  refine congrArg _ (List.filter_congr fun k hk => ?_)
  exact hq k hk
end
/-! ### ranks -/
def allR : List Rg := [.a, .b, .c, .r]
def allC : List Cl := [.x, .y, .z]
def allV : List Vl := [.a, .b, .c, .r, .x1, .y1, .z1]
theorem mem_allR (r : Rg) : r ∈ allR := by cases r <;> simp [allR]
theorem mem_allC (r : Cl) : r ∈ allC := by cases r <;> simp [allC]
theorem mem_allV (r : Vl) : r ∈ allV := by cases r <;> simp [allV]
def rkR : Rg → Nat | .a => 0 | .b => 1 | .c => 2 | .r => 3
def rkC : Cl → Nat | .x => 0 | .y => 1 | .z => 2
def rkV : Vl → Nat | .a => 0 | .b => 1 | .c => 2 | .r => 3 | .x1 => 4 | .y1 => 5 | .z1 => 6
def ddR (q : Rg × Vl) : D := prD (q.1.s, q.2.s)
def ddC (q : Cl × Vl) : D := prD (q.1.s, q.2.s)
open PySem.W (dataLe) in
theorem leR : ∀ a b : Rg × Vl, dataLe false (fun b => (ddR b).py) a b = decide (7 * rkR a.1 + rkV a.2 ≤ 7 * rkR b.1 + rkV b.2) := by
  have h : (allR.all fun a1 => allV.all fun a2 => allR.all fun b1 => allV.all fun b2 => dataLe false (fun b => (ddR b).py) (a1, a2) (b1, b2) == decide (7 * rkR a1 + rkV a2 ≤ 7 * rkR b1 + rkV b2)) = true := by decide +kernel
  rintro ⟨a1, a2⟩ ⟨b1, b2⟩
  have := List.all_eq_true.mp (List.all_eq_true.mp (List.all_eq_true.mp (List.all_eq_true.mp h a1 (mem_allR _)) a2 (mem_allV _)) b1 (mem_allR _)) b2 (mem_allV _)
  exact eq_of_beq this
open PySem.W (dataLe) in
theorem leC : ∀ a b : Cl × Vl, dataLe false (fun b => (ddC b).py) a b = decide (7 * rkC a.1 + rkV a.2 ≤ 7 * rkC b.1 + rkV b.2) := by
  have h : (allC.all fun a1 => allV.all fun a2 => allC.all fun b1 => allV.all fun b2 => dataLe false (fun b => (ddC b).py) (a1, a2) (b1, b2) == decide (7 * rkC a1 + rkV a2 ≤ 7 * rkC b1 + rkV b2)) = true := by decide +kernel
  rintro ⟨a1, a2⟩ ⟨b1, b2⟩
  have := List.all_eq_true.mp (List.all_eq_true.mp (List.all_eq_true.mp (List.all_eq_true.mp h a1 (mem_allC _)) a2 (mem_allV _)) b1 (mem_allC _)) b2 (mem_allV _)
  exact eq_of_beq this
theorem rgs_inj : ∀ a b : Rg, a.s = b.s → a = b := by intro a b; cases a <;> cases b <;> first | (intro _; rfl) | (intro h; exact absurd h (by decide))
theorem cls_inj : ∀ a b : Cl, a.s = b.s → a = b := by intro a b; cases a <;> cases b <;> first | (intro _; rfl) | (intro h; exact absurd h (by decide))
end Pd
end
section
set_option Elab.async false
set_option linter.all false
set_option maxRecDepth 100000
set_option maxHeartbeats 4000000
/-! Lw7: what is ahead; the next statement. -/
namespace Pd
open PySem PySem.Spec L2 Pz Pt Mi
def numL (k n : Nat) : List D := (List.range' k (n - k)).map fun i : Nat => .int (i : Int)
def numT (k n : Nat) : D := .tup (numL k n)
def regT (f : Rg → Vl) : D := .ntp ((kvF Rg.s f (canK Rg.v allR f)).map prD)
def thrD (c : List Sm) (k : Nat) (f : Rg → Vl) : D := .tup [numT k c.length, regT f]
def conT (f : Cl → Vl) : D := .tup ((kvF Cl.s f (canK Cl.v allC f)).map prD)
def lawD (p : Prg) (s : Sta) : D := .tup [rowsOf p.length fun t => thrD (code p t) (s.pos t) (s.reg t), conT s.con, rowsOf p.length fun t => valsD (s.lin t), rowsOf p.length fun t => valsD (s.shw t)]
theorem numL_nil {k n : Nat} (h : n ≤ k) : numL k n = [] := by
  unfold numL
  rw [show n - k = 0 by omega]
  rfl
theorem numL_cons {k n : Nat} (h : k < n) : numL k n = .int (k : Int) :: numL (k + 1) n := by
  unfold numL
  rw [show n - k = (n - (k + 1)) + 1 by omega, List.range'_succ]
  rfl
theorem startL_num : ∀ (c : List Sm) (i : Nat), startL i c = numL i (i + c.length)
  | [], i => (numL_nil (Nat.le_refl _)).symm
  | m :: c, i => by
    rw [numL_cons (by simp)]
    show D.int (i : Int) :: startL (i + 1) c = _
    rw [startL_num c (i + 1)]
    congr 2
    simp
    omega
theorem tab_get : ∀ {c : List Sm} {i j : Nat} {m : Sm}, c[j]? = some m → getD_ (tabL i c) (.inl ((i + j : Nat) : Int)) = some m.d
  | [], _, _, _, h => by simp at h
  | x :: c, i, 0, m, h => by
    simp at h
    subst h
    unfold getD_ tabL
    simp
  | x :: c, i, j + 1, m, h => by
    have ih := tab_get (c := c) (i := i + 1) (j := j) (m := m) (by simpa using h)
    rw [show i + 1 + j = i + (j + 1) by omega] at ih
    unfold getD_ at ih ⊢
    show Option.map _ (List.find? _ ((Sum.inl (i : Int), x.d) :: tabL (i + 1) c)) = _
    rw [List.find?_cons]
    have : decide ((Sum.inl (i : Int) : Key) = Sum.inl ((i + (j + 1) : Nat) : Int)) = false := decide_eq_false fun z => by
      have := Sum.inl.inj z
      omega
    simp only [this]
    exact ih
theorem tab_at {c : List Sm} {j : Nat} {m : Sm} (h : c[j]? = some m) : getD_ (tabL 0 c) (.inl (j : Int)) = some m.d := by
  have := tab_get (i := 0) h
  rwa [Nat.zero_add] at this
theorem sh_numL (k n : Nat) : Sh 1 (.lst (numL k n)) := .lst fun d hd => by
  obtain ⟨i, _, rfl⟩ := List.mem_map.mp hd
  exact .int
theorem sh_numT (k n : Nat) : Sh 1 (numT k n) := .tup fun d hd => by
  obtain ⟨i, _, rfl⟩ := List.mem_map.mp hd
  exact .int
def qR : D → Bool
  | .tup [.str a, .str b] => !decide (a = b)
  | _ => false
theorem rgv_s (r : Rg) (v : Vl) : (!decide (r.s = v.s)) = decide (v ≠ r.v) := by cases r <;> cases v <;> rfl
theorem tabs_get {p : Prg} : getD_ (plainK p) (.inr "tables") = some (.lst (p.map tabD)) := rfl
theorem starts_get {p : Prg} : getD_ (plainK p) (.inr "starts") = some (.lst (p.map startD)) := rfl
theorem cells_get {p : Prg} : getD_ (plainK p) (.inr "cells") = some (dk []) := rfl
section
variable {X : Cx} {F : Fr} {en : En} {a b e : Expr} {p : Prg} {t : Nat}
theorem e_table {pos p1 : Pos} {u : Nat} {pc : Pos} (hu : X.A.units + 64 < cLine) (ha : Ev X F en a (plainD p)) (hb : Ev X F en b (.int (t : Int))) (ht : t < p.length) (hs : PlainIx b := by intro _ _; rfl) : Ev X F en (.Subscript (.Subscript a (.Constant (.str "tables") u pc) p1) b pos) (tabD (code p t)) :=
  e_ix (e_dix (kvs := plainK p) (ky := .inr "tables") ha.eb c_str tabs_get hu).eb hb (x_lst (by rw [List.getElem?_map, code_at ht]; rfl)) hs
end
section
variable {P : Program} {w : World} {K : PySem.W.Frag} {mg : Str → Option Value} {base : Heap}
def R_ahead : List D → D → Prop := fun ds d => ∃ (p : Prg) (t k : Nat) (f : Rg → Vl) (ks : List Rg), Okp p ∧ t < p.length ∧ Kys Rg.v f ks ∧ ds = [plainD p, .int (t : Int), numT k (code p t).length, .ntp ((kvF Rg.s f ks).map prD)] ∧ d = thrD (code p t) k f
theorem rkV_le (v : Vl) : rkV v ≤ 6 := by cases v <;> decide
theorem rkR_inj {a b : Rg} (e : rkR a = rkR b) : a = b := by cases a <;> cases b <;> first | rfl | exact absurd e (by decide)
theorem rkC_inj {a b : Cl} (e : rkC a = rkC b) : a = b := by cases a <;> cases b <;> first | rfl | exact absurd e (by decide)
theorem Kys.few {f : Rg → Vl} {ks : List Rg} (h : Kys Rg.v f ks) : ks.length ≤ 4 := by
  have q := pigeon 4 (ks.map rkR) (List.Pairwise.map _ (R := fun a b => a ≠ b) (S := fun a b => a ≠ b) (fun a b hne e => hne (by cases a <;> cases b <;> first | rfl | exact absurd e (by decide))) h.nd) fun x hx => by
    obtain ⟨r, _, rfl⟩ := List.mem_map.mp hx
    cases r <;> decide
  simpa using q
theorem ok_ahead (T : Top w K mg) : Cal P w K mg base 1 "_law_ahead" R_ahead := by
  refine cal_ok T.d_law_ahead c_law_ahead (fun ds d h => ?_) (fun _ _ _ _ _ _ us hl => match us, hl with | [_, _, _, _], _ => rfl) (fun f cdv A outer s H E Fm ds d hr h => ?_)
  · obtain ⟨p, t, k, f, ks, _, _, _, rfl, _⟩ := h
    rfl
  · obtain ⟨p, t, k, g, ks, hp, ht, hks, rfl, rfl⟩ := h
    have hu := hr.units
    have hc := hp.code t
    refine s_par2 4 5 rfl c_law_ahead.nd (as_o (f_callT (T := "list") (b_cons (nm (d := numT k (code p t).length) 2).eb b_nil) k_listT T.f_list) (as_o (f_callT (T := "dict") (b_cons (nm (d := .ntp (((kvF Rg.s g ks).map prK).map pairD)) 3 (by simp only [List.map_map]; rfl)).eb b_nil) (k_dictT rfl (kvF_nodup rgs_inj hks.nd)) T.f_dict) as_nil)) ?_
    refine s_set 6 c_law_ahead.nd (e_table hu (nm 0) (nm 1) ht) ?_
    refine s_while (fun e => e = [some (.v (plainD p)), some (.v (.int (t : Int))), some (.v (numT k (code p t).length)), some (.v (.ntp ((kvF Rg.s g ks).map prD))), some (.own (.lst (numL k (code p t).length))), some (.own (dk ((kvF Rg.s g ks).map prK))), some (.v (tabD (code p t))), none, none, none]) (fun _ => 0) pnever rfl (fun e he => ?_)
    subst he
    refine ⟨false, ?_, ⟨fun z => absurd z Bool.false_ne_true, fun _ => ?_⟩⟩
    · by_cases hk : k < (code p t).length
      · obtain ⟨m, hm⟩ : ∃ m, (code p t)[k]? = some m := ⟨_, List.getElem?_eq_getElem hk⟩
        refine (w_andT (t_cmp (no 4) (f_lst a_nil (sz_le (by simp))).ev.eb (o_ne_T hu (sh_numL _ _) (.lst fun d h => absurd h List.not_mem_nil : Sh 1 (.lst [])) (by rw [numL_cons hk]; simp))) (w_and1 (t_cmp (e_ix (e_dix (kvs := tabL 0 (code p t)) (ky := .inl (k : Int)) (nm 6).eb (e_ix (no 4) c_int (x_lst (j := 0) (d := .int (k : Int)) (by rw [numL_cons hk]; rfl))) (tab_at hm) hu).eb c_int (x_sm0 m)).eb (e_tup (a_cons c_str (a_cons c_str (a_cons c_str a_nil))) (sz_le (by simp))).eb (o_inSk (s := m.word) (ts := ["set", "copy", "if"]) (by cases m <;> rfl))))).t
      · exact (w_andF (t_cmp (no 4) (f_lst a_nil (sz_le (by simp))).ev.eb (o_ne_F hu (sh_numL _ _) (by rw [numL_nil (by omega)])))).t
    · refine s_frz 5 ?_
      have hcan := Kys.pick hks (all := allR) (by decide) mem_allR
      refine s_ret (e_tup (a_cons (e_callT (T := "tuple") (b_cons (no 4) b_nil) k_tuple T.f_tuple) (a_cons (Ev.is (x := regT g) (e_callT (T := "tuple") (b_cons (f_callB (id := "sorted") (b_cons (Ev.is (f_lcIf (ds := ((kvF Rg.s g ks).map prK).map pairD) [("_law_one", 9)] qR (fun d => d) rfl c_law_ahead.nd (blkOk_by (N := n_law_ahead) (sc := defScope s_law_ahead) (by decide +kernel)) (i_items (nm 5)) (fun _ _ _ _ _ => tg_nm 9 c_law_ahead.nd) (fun d hd => ⟨[d], rfl, ?_, fun _ => fun _ _ _ _ _ => nm 9⟩) (by simp; have := hks.few; unfold kvF; simp; omega)).ev (x := .lst (((ks.filter fun k => decide (g k ≠ k.v)).map fun k => (k, g k)).map ddR)) ?_).eb b_nil) (k_sortE ddR (fun q => 7 * rkR q.1 + rkV q.2) (bs := (ks.filter fun k => decide (g k ≠ k.v)).map fun k => (k, g k)) (cs := (canK Rg.v allR g).map fun k => (k, g k)) (hcan.map _) ?_ ?_ ?_ leR ?_ ?_ ?_) T.f_sorted).ev.eb b_nil) k_tupN T.f_tuple) ?_) a_nil)) (sz_le (by simp))) rfl
      · simp only [List.map_map] at hd
        obtain ⟨q, hq, rfl⟩ := List.mem_map.mp hd
        exact fun _ _ _ _ _ => t_cmp (e_ix (nm (d := prD q) 9).eb c_int (x_tup (j := 0) rfl)).eb (e_ix (nm (d := prD q) 9).eb c_int (x_tup (j := 1) rfl)).eb o_neS
      · rw [List.map_map]
        show D.lst (picked qR (fun d => d) ((kvF Rg.s g ks).map prD)) = _
        rw [picked_kv fun k _ => rgv_s k (g k)]
        unfold kvF
        rw [List.map_map, List.map_map]
        rfl
      · refine List.pairwise_map.mpr (List.Pairwise.imp (R := fun a b => rkR a < rkR b) (fun {a b} h => ?_) (List.Pairwise.filter _ (by decide)))
        have := rkV_le (g a)
        show 7 * rkR a + rkV (g a) ≤ 7 * rkR b + rkV (g b)
        omega
      · intro a ha b hb h
        obtain ⟨x, _, rfl⟩ := List.mem_map.mp ha
        obtain ⟨y, _, rfl⟩ := List.mem_map.mp hb
        have h1 := rkV_le (g x)
        have h2 := rkV_le (g y)
        have : x = y := rkR_inj (by dsimp only at h; omega)
        rw [this]
      · rintro ⟨a, v⟩
        cases a <;> cases v <;> decide +kernel
      · intro d hd d' hd'
        obtain ⟨q, _, rfl⟩ := List.mem_map.mp hd
        obtain ⟨q', _, rfl⟩ := List.mem_map.mp hd'
        rfl
      · left
        intro d hd
        obtain ⟨q, _, rfl⟩ := List.mem_map.mp hd
        exact ⟨_, _, rfl⟩
      · intro q _
        have h4 : (ddR q).py.depth ≤ 60 := by
          show PyData.depth (.tuple [.str _, .str _]) ≤ 60
          simp [PyData.depth, PyData.depthAll]
        refine Nat.lt_of_le_of_lt ?_ hu
        rw [Nat.add_assoc]
        exact Nat.add_le_add_left (by omega) _
      · unfold regT kvF
        rw [List.map_map, List.map_map]
        rfl
end
end Pd
end
section
set_option Elab.async false
set_option linter.all false
set_option maxRecDepth 100000
set_option maxHeartbeats 4000000
/-! Lw8: next, can, begin. -/
namespace Pd
open PySem PySem.Spec L2 Pz Pt Mi
section
variable {X : Cx} {F : Fr} {en : En} {p : Prg} {s : Sta}
theorem x_law0 : IxD X F en (lawD p s) (.int 0) (rowsOf p.length fun t => thrD (code p t) (s.pos t) (s.reg t)) := x_tup (j := 0) rfl
theorem x_law2 : IxD X F en (lawD p s) (.int 2) (rowsOf p.length fun t => valsD (s.lin t)) := x_tup (j := 2) rfl
theorem x_law3 : IxD X F en (lawD p s) (.int 3) (rowsOf p.length fun t => valsD (s.shw t)) := x_tup (j := 3) rfl
end
section
variable {P : Program} {w : World} {K : PySem.W.Frag} {mg : Str → Option Value} {base : Heap}
def R_lnext : List D → D → Prop := fun ds d => ∃ (p : Prg) (s : Sta) (t : Nat), ds = [plainD p, lawD p s, .int (t : Int)] ∧ t < p.length ∧ d = smO (nxt p s t)
theorem ok_lnext (T : Top w K mg) : Cal P w K mg base 1 "_law_next" R_lnext := by
  refine cal_ok T.d_law_next c_law_next (fun ds d h => ?_) (fun _ _ _ _ _ _ us hl => match us, hl with | [_, _, _], _ => rfl) (fun f cdv A outer s H E Fm ds d hr h => ?_)
  · obtain ⟨p, s, t, rfl, _⟩ := h
    rfl
  · obtain ⟨p, st, t, rfl, ht, rfl⟩ := h
    have hu := hr.units
    refine s_set 3 c_law_next.nd (d := numT (st.pos t) (code p t).length) (e_ix (e_ix (e_ix (nm 1).eb c_int x_law0).eb (nm 2) (x_rng ht)).eb c_int (x_tup (j := 0) rfl)) ?_
    by_cases hk : st.pos t < (code p t).length
    · obtain ⟨m, hm⟩ : ∃ m, (code p t)[st.pos t]? = some m := ⟨_, List.getElem?_eq_getElem hk⟩
      have hn : nxt p st t = some m := hm
      rw [hn]
      refine s_ret (e_ifT (t_cmp (nm 3).eb (e_tup a_nil (by decide)).eb (o_ne_T hu (sh_numT _ _) sh_nil (by unfold numT; rw [numL_cons hk]; simp))) (e_dix (kvs := tabL 0 (code p t)) (ky := .inl (st.pos t : Int)) (e_table hu (nm 0) (nm 2) ht).eb (e_ix (nm 3).eb c_int (x_tup (j := 0) (by rw [numL_cons hk]; rfl))) (tab_at hm) hu)) rfl
    · have hn : nxt p st t = none := List.getElem?_eq_none (by omega)
      rw [hn]
      refine s_ret (e_ifF (t_cmp (nm 3).eb (e_tup a_nil (by decide)).eb (o_ne_F hu (sh_numT _ _) (by unfold numT; rw [numL_nil (by omega)]))) c_non) rfl
def R_lcan : List D → D → Prop := fun ds d => ∃ (p : Prg) (s : Sta) (t : Nat), ds = [plainD p, lawD p s, .int (t : Int)] ∧ t < p.length ∧ d = .bl (can p s t)
theorem ok_lcan (T : Top w K mg) : Cal P w K mg base 2 "_law_can" R_lcan := by
  refine cal_ok T.d_law_can c_law_can (fun ds d h => ?_) (fun _ _ _ _ _ _ us hl => match us, hl with | [_, _, _], _ => rfl) (fun f cdv A outer s H E Fm ds d hr h => ?_)
  · obtain ⟨p, s, t, rfl, _⟩ := h
    rfl
  · obtain ⟨p, st, t, rfl, ht, rfl⟩ := h
    have hu := hr.units
    refine s_set 3 c_law_can.nd (e_call (ok_lnext T) (hr.mono (by decide)) (a_cons (nm 0) (a_cons (nm 1) (a_cons (nm 2) a_nil))) ⟨p, st, t, rfl, ht, rfl⟩) ?_
    cases hm : nxt p st t with
    | none =>
      refine s_ret (e_andF (e_cmp (nm 3).eb c_non.eb o_notNn)) ?_
      simp [can, hm]
    | some m =>
      by_cases hw : m.word = "get"
      · cases m with
        | gt r =>
          have hc : can p st t = !(st.lin t).isEmpty := by simp [can, hm]
          rw [hc]
          refine s_ret (e_andT (e_cmp (nm 3).eb c_non.eb (o_notN smO_non)) (e_one (e_orF (e_cmp (e_ix (nm 3).eb c_int (x_smo (.gt r))).eb c_str.eb (o_neSF rfl)) (e_one (e_cmp (z := .bl (!(st.lin t).isEmpty)) (e_ix (e_ix (nm 1).eb c_int x_law2).eb (nm 2) (x_rng ht)).eb (e_tup a_nil (by decide)).eb ?_))))) rfl
          cases hl : st.lin t with
          | nil => exact o_ne_F hu (sh_vals []) rfl
          | cons v vs => exact o_ne_T hu (sh_vals (v :: vs)) sh_nil (by simp [valsD])
        | rd r x => exact absurd hw (show ("read" : Str) ≠ "get" by decide)
        | wr r x => exact absurd hw (show ("write" : Str) ≠ "get" by decide)
        | pt r => exact absurd hw (show ("put" : Str) ≠ "get" by decide)
        | sh r => exact absurd hw (show ("show" : Str) ≠ "get" by decide)
      · refine s_ret (e_andT (e_cmp (nm 3).eb c_non.eb (o_notN smO_non)) (e_one (e_orT (e_cmp (e_ix (nm 3).eb c_int (x_smo m)).eb c_str.eb (o_neST hw))))) ?_
        cases m with
        | gt r => exact absurd rfl hw
        | _ => simp [can, hm]
def R_begin : List D → D → Prop := fun ds d => ∃ p : Prg, ds = [plainD p] ∧ Okp p ∧ d = lawD p .first
theorem map_rangeD {n : Nat} (f : Nat → D) : (rangeD 0 n).map (fun d => match d with | .int i => f i.toNat | _ => .non) = (List.range n).map f := by
  unfold rangeD
  rw [List.map_map]
  exact List.map_congr_left fun t _ => by simp
theorem ok_begin (T : Top w K mg) : Cal P w K mg base 2 "_law_begin" R_begin := by
  refine cal_ok T.d_law_begin c_law_begin (fun ds d h => ?_) (fun _ _ _ _ _ _ us hl => match us, hl with | [_], _ => rfl) (fun f cdv A outer s H E Fm ds d hr h => ?_)
  · obtain ⟨p, rfl, _⟩ := h
    rfl
  · obtain ⟨p, rfl, hp, rfl⟩ := h
    have hu := hr.units
    have h3 := hp.two.2
    have hst : ∀ {en : En} {a : Expr} {u : Nat} {pc p1 : Pos}, Ev ((cxOf CX0 P w K mg base n_law_begin "_law_begin" (defScope s_law_begin) f cdv A outer s H E).nox) Fm en a (plainD p) → Ev ((cxOf CX0 P w K mg base n_law_begin "_law_begin" (defScope s_law_begin) f cdv A outer s H E).nox) Fm en (.Subscript a (.Constant (.str "starts") u pc) p1) (.lst (p.map startD)) := fun ha => e_dix (kvs := plainK p) (ky := .inr "starts") ha.eb c_str starts_get hu
    refine s_asgT (is := [1, 2]) (e_tup (a_cons (hst (nm 0)) (a_cons (Ev.is (x := .int (p.length : Int)) (e_callB (b_cons (hst (nm 0)).eb b_nil) k_len T.f_len) (by rw [List.length_map])) a_nil)) (sz_le (by simp))) (tg_tup rfl (gs_cons 1 c_law_begin.nd (gs_cons 2 c_law_begin.nd gs_nil))) rfl ?_
    refine s_set 3 c_law_begin.nd (d := rowsOf p.length fun t => thrD (code p t) 0 Rg.v) (e_callT (T := "tuple") (b_cons (f_lc (ds := rangeD 0 p.length) [("_law_at", 5)] (fun d => match d with | .int i => thrD (code p i.toNat) 0 Rg.v | _ => .non) rfl c_law_begin.nd (blkOk_by (N := n_law_begin) (sc := defScope s_law_begin) (by decide +kernel)) (i_range1 (a_cons (nm 2) a_nil) T.f_range (by omega)) (fun _ _ _ _ _ => tg_nm 5 c_law_begin.nd) (fun d hd => ⟨[d], rfl, ?_⟩) (by rw [rangeD_len]; omega)).ev.eb b_nil) ?_ T.f_tuple) ?_
    · obtain ⟨t, ht, rfl⟩ := rangeD_mem hd
      refine fun _ _ _ _ _ => e_call (ok_ahead T) (hr.mono (by decide) : Room 1 _) (a_cons (nm 0) (a_cons (nm 5) (a_cons (e_ix (nm 1).eb (nm 5) (x_lst (j := t) (d := numT 0 (code p t).length) (by rw [List.getElem?_map, code_at ht]; unfold numT; show some (startD _) = _; unfold startD; rw [startL_num, Nat.zero_add]))) (a_cons (e_tupN a_nil (by decide)) a_nil)))) ⟨p, t, 0, Rg.v, [], hp, ht, ⟨.nil, fun k h => absurd rfl h⟩, rfl, ?_⟩
      simp
    · rw [map_rangeD fun t => thrD (code p t) 0 Rg.v]
      exact k_tuple
    · refine s_set 4 c_law_begin.nd (d := rowsOf p.length fun _ => valsD []) (e_callT (T := "tuple") (b_cons (f_lc (ds := rangeD 0 p.length) [("_law_at", 5)] (fun d => match d with | .int i => valsD [] | _ => .non) rfl c_law_begin.nd (blkOk_by (N := n_law_begin) (sc := defScope s_law_begin) (by decide +kernel)) (i_range1 (a_cons (nm 2) a_nil) T.f_range (by omega)) (fun _ _ _ _ _ => tg_nm 5 c_law_begin.nd) (fun d hd => ⟨[d], rfl, ?_⟩) (by rw [rangeD_len]; omega)).ev.eb b_nil) ?_ T.f_tuple) ?_
      · obtain ⟨t, ht, rfl⟩ := rangeD_mem hd
        exact fun _ _ _ _ _ => e_tup a_nil (by decide)
      · rw [map_rangeD fun t => valsD []]
        exact k_tuple
      · refine s_ret (e_tup (a_cons (nm 3) (a_cons (EvW.ev (EvW.to (e_callTW (T := "tuple") (K' := fun d => d = .tup []) (f_sortItems (prs := []) rfl hu T.f_sorted (e_dix (kvs := plainK p) (ky := .inr "cells") (nm 0).eb c_str cells_get hu)).ev (fun x hx => ?_) T.f_tuple) fun z h => h)) (a_cons (nm 4) (a_cons (nm 4) a_nil)))) (sz_le (by simp))) rfl
        obtain ⟨ps, hps, rfl⟩ := hx
        rw [hps.eq_nil]
        exact ⟨_, k_tuple, rfl⟩
end
end Pd
end
section
set_option Elab.async false
set_option linter.all false
set_option maxRecDepth 100000
set_option maxHeartbeats 4000000
/-! Lw9: the state behind a step. -/
namespace Pz
open PySem PySem.Spec PyProof.Rows L2
theorem t_inK {X : Cx} {F : Fr} {en : En} {a b : Expr} {pos : Pos} {kvs : List (Key × D)} {ky : Key} (hu : X.A.units + 64 < cLine) (ha : Ev X F en a (D.ofKey ky)) (hb : Eb X F en b (dk kvs)) (hm : behindInMarks CmpOp.In b = false := by first | exact nomark _ | rfl) : Et X F en (.Compare a [.In] [b] pos) (getD_ kvs ky).isSome :=
  PT.wk (pt_cmp (pc_din (by omega) ha hb) hm) fun σ H Q ⟨M, R, q⟩ => ⟨M, R, fun v H1 d i1 g1 rp ed => ⟨M, R.step i1 g1, fun w H2 i2 g2 bw => by
    subst ed
    have R1 := R.step i1 g1
    have R2 := R1.step i2 g2
    obtain ⟨ad, vs, rfl, hr, r⟩ := bw.dk R2
    have ev := ofKey_kV rp
    subst ev
    refine ⟨ad, valV vs ky, rfl, rd_dget hr, ?_⟩
    have e : (valV vs ky).isSome = (getD_ kvs ky).isSome := by
      have z := r.get (k := ky)
      cases hg : getD_ kvs ky with
      | none => rw [hg] at z; rw [show valV vs ky = none from z]; rfl
      | some d =>
        rw [hg] at z
        obtain ⟨v, hv, _⟩ := z
        rw [hv]; rfl
    rw [e]
    exact ⟨_, rfl, q _ H2 i2 (g1.trans g2) rfl⟩⟩⟩
end Pz
namespace Pd
open PySem PySem.Spec L2 Pz Pt Mi
theorem prs_pair (l : List (Str × Str)) : (l.map prK).map pairD = l.map prD := by rw [List.map_map]; rfl
theorem clv_s (x : Cl) : x.s ++ ".1" = x.v.s := by cases x <;> rfl
def qC : D → Bool
  | .tup [.str a, .str b] => !decide (b = a ++ ".1")
  | _ => false
theorem qC_s (x : Cl) (v : Vl) : (!decide (v.s = x.s ++ ".1")) = decide (v ≠ x.v) := by cases x <;> cases v <;> rfl
theorem Kys.fewC {f : Cl → Vl} {ks : List Cl} (h : Kys Cl.v f ks) : ks.length ≤ 3 := by
  have q := pigeon 3 (ks.map rkC) (List.Pairwise.map _ (R := fun a b => a ≠ b) (S := fun a b => a ≠ b) (fun a b hne e => hne (rkC_inj e)) h.nd) fun x hx => by
    obtain ⟨r, _, rfl⟩ := List.mem_map.mp hx
    cases r <;> decide
  simpa using q
theorem rows_set {n t : Nat} {f g : Nat → D} {d : D} (ht : t < n) (hd : g t = d) (hn : ∀ u, u ≠ t → g u = f u) : ((List.range n).map f).set t d = (List.range n).map g := by
  rw [range_set f d ht]
  refine List.map_congr_left fun u _ => ?_
  by_cases e : u = t
  · subst e; rw [up_same, hd]
  · rw [up_ne e, hn u e]
section
variable {X : Cx} {F : Fr} {en : En} {e : Expr}
/-- sorted(pairs) of contents -/
theorem k_sortC {f : Cl → Vl} {ks : List Cl} (hu : X.A.units + 64 < cLine) (h : Kys Cl.v f ks) : CallN X F en (.builtin "sorted") [.lst (((ks.filter fun k => decide (f k ≠ k.v)).map fun k => (k, f k)).map ddC)] (.lst (((canK Cl.v allC f).map fun k => (k, f k)).map ddC)) := by
  have hcan := Kys.pick h (all := allC) (by decide) mem_allC
  refine k_sortE ddC (fun q => 7 * rkC q.1 + rkV q.2) (bs := (ks.filter fun k => decide (f k ≠ k.v)).map fun k => (k, f k)) (cs := (canK Cl.v allC f).map fun k => (k, f k)) (hcan.map _) ?_ ?_ ?_ leC ?_ ?_ ?_
  · refine List.pairwise_map.mpr (List.Pairwise.imp (R := fun a b => rkC a < rkC b) (fun {a b} h => ?_) (List.Pairwise.filter _ (by decide)))
    have := rkV_le (f a)
    show 7 * rkC a + rkV (f a) ≤ 7 * rkC b + rkV (f b)
    omega
  · intro a ha b hb h
    obtain ⟨x, _, rfl⟩ := List.mem_map.mp ha
    obtain ⟨y, _, rfl⟩ := List.mem_map.mp hb
    have h1 := rkV_le (f x)
    have h2 := rkV_le (f y)
    have : x = y := rkC_inj (by dsimp only at h; omega)
    rw [this]
  · rintro ⟨a, v⟩
    cases a <;> cases v <;> decide +kernel
  · intro d hd d' hd'
    obtain ⟨q, _, rfl⟩ := List.mem_map.mp hd
    obtain ⟨q', _, rfl⟩ := List.mem_map.mp hd'
    rfl
  · left
    intro d hd
    obtain ⟨q, _, rfl⟩ := List.mem_map.mp hd
    exact ⟨_, _, rfl⟩
  · intro q _
    have h4 : (ddC q).py.depth ≤ 60 := by
      show PyData.depth (.tuple [.str _, .str _]) ≤ 60
      simp [PyData.depth, PyData.depthAll]
    refine Nat.lt_of_le_of_lt ?_ hu
    rw [Nat.add_assoc]
    exact Nat.add_le_add_left (by omega) _
end
section
variable {P : Program} {w : World} {K : PySem.W.Frag} {mg : Str → Option Value} {base : Heap}
def R_lafter : List D → D → Prop := fun ds d => ∃ (p : Prg) (s : Sta) (t : Nat), ds = [plainD p, lawD p s, .int (t : Int)] ∧ t < p.length ∧ Okp p ∧ Okc p s ∧ can p s t = true ∧ d = lawD p (stp p s t)
theorem ok_lafter (T : Top w K mg) : Cal P w K mg base 2 "_law_after" R_lafter := by
  refine cal_ok T.d_law_after c_law_after (fun ds d h => ?_) (fun _ _ _ _ _ _ us hl => match us, hl with | [_, _, _], _ => rfl) (fun f cdv A outer s H E Fm ds d hr h => ?_)
  · obtain ⟨p, s, t, rfl, _⟩ := h
    rfl
  · obtain ⟨p, st, t, rfl, ht, hp, hok, hcan, rfl⟩ := h
    have hu := hr.units
    have h3 := hp.two.2
    obtain ⟨m, hm⟩ := can_some hcan
    have hk : st.pos t < (code p t).length := (List.getElem?_eq_some_iff.mp hm).1
    have tail : ∀ (s' : Sta) (g : Rg → Vl) (e : En) (kr : List Rg) (kc : List Cl), s'.reg t = g → Kys Rg.v g kr → Kys Cl.v s'.con kc → (∀ u, u ≠ t → s'.reg u = st.reg u) → (∃ (x4 : Option Sl) (x10 : Option Sl), e = [some (.v (plainD p)), some (.v (lawD p st)), some (.v (.int (t : Int))), some (.own (.lst ((List.range p.length).map fun t => thrD (code p t) (st.pos t) (st.reg t)))), x4, some (.own (.lst ((List.range p.length).map fun t => valsD (s'.lin t)))), some (.own (.lst ((List.range p.length).map fun t => valsD (s'.shw t)))), some (.v (smO (some m))), some (.own (dk ((kvF Rg.s g kr).map prK))), some (.own (dk ((kvF Cl.s s'.con kc).map prK))), x10, none, none, none, none]) →
        Sx ((cxOf CX0 P w K mg base n_law_after "_law_after" (defScope s_law_after) f cdv A outer s H E).nox) Fm e ((defBody s_law_after).drop 7) { nx := fun _ => lawD p { s' with pos := up st.pos t (st.pos t + 1) } = .non, rt := fun z => z = lawD p { s' with pos := up st.pos t (st.pos t + 1) } } := by
      intro s' g e kr kc hg hkr hkc hne he
      obtain ⟨x4, x10, rfl⟩ := he
      refine s_frz 8 (s_frz 9 ?_)
      refine s_setL (xs := (List.range p.length).map fun t => thrD (code p t) (st.pos t) (st.reg t)) (j := t) 3 (e_callA (d := thrD (code p t) (st.pos t + 1) g) (ok_ahead T) (hr.mono (by decide)) (K := fun l => ∃ ks', ks'.Perm kr ∧ l = [plainD p, .int (t : Int), numT (st.pos t + 1) (code p t).length, .ntp ((kvF Rg.s g ks').map prD)]) (EaW.to (aw_cons (Ev.w (nm 0) rfl) (aw_cons (Ev.w (nm 2) rfl) (aw_cons (Ev.w (K := fun d => d = numT (st.pos t + 1) (code p t).length) (e_slT (e_ix (e_ix (no 3) (nm 2) (x_lst (j := t) (range_at _ ht))).eb c_int (x_tup (j := 0) (d := numT (st.pos t) (code p t).length) rfl)) (o_some c_int) o_none) ?_) (aw_cons (e_callTW (T := "tuple") (K' := fun d => ∃ ks', ks'.Perm kr ∧ d = .ntp ((kvF Rg.s g ks').map prD)) (f_sortItems (prs := kvF Rg.s g kr) rfl hu T.f_sorted (nm 8)).ev (fun x hx => ?_) T.f_tuple) aw_nil)))) fun l hl => ?_) (fun l hl => ?_)) (nm 2) (by simpa using ht) ?_
      · rw [show ((1 : Int)) = ((1 : Nat) : Int) from rfl, cut_hi _ _ (by rw [numL_cons hk]; simp), numL_cons hk]
        rfl
      · obtain ⟨ps, hps, rfl⟩ := hx
        obtain ⟨ks', e1, e2⟩ := perm_map_inv hps kr rfl
        exact ⟨_, k_tupN, ks', e2, by rw [e1]; rfl⟩
      · obtain ⟨_, _, rfl, rfl, _, _, rfl, rfl, _, _, rfl, rfl, _, _, rfl, ⟨ks', e2, rfl⟩, rfl⟩ := hl
        exact ⟨ks', e2, rfl⟩
      · obtain ⟨ks', e2, rfl⟩ := hl
        exact ⟨p, t, st.pos t + 1, g, ks', hp, ht, hkr.perm e2, rfl, rfl⟩
      · refine s_set 11 c_law_after.nd (e_dix (kvs := plainK p) (ky := .inr "cells") (nm 0).eb c_str cells_get hu) ?_
        refine s_lcIf (ds := ((kvF Cl.s s'.con kc).map prK).map pairD) 12 [("_law_one", 14)] qC (fun d => d) rfl c_law_after.nd (blkOk_by (N := n_law_after) (sc := defScope s_law_after) (by decide +kernel)) (i_items (nm 9)) (fun _ _ _ _ _ => tg_nm 14 c_law_after.nd) (fun d hd => ⟨[d], rfl, ?_, fun _ => fun _ _ _ _ _ => nm 14⟩) (by have := hkc.fewC; unfold kvF; simp; omega) ?_
        · simp only [List.map_map] at hd
          obtain ⟨q, hq, rfl⟩ := List.mem_map.mp hd
          obtain ⟨x, _, rfl⟩ := List.mem_map.mp hq
          exact fun _ _ _ _ _ => (w_orF (t_inK (kvs := []) (ky := .inr x.s) hu (e_ix (nm (d := prD (x.s, (s'.con x).s)) 14).eb c_int (x_tup (j := 0) rfl)) (nm 11).eb) (w_or1 (t_cmp (e_ix (nm (d := prD (x.s, (s'.con x).s)) 14).eb c_int (x_tup (j := 1) rfl)).eb (e_bin (e_ix (nm (d := prD (x.s, (s'.con x).s)) 14).eb c_int (x_tup (j := 0) rfl)).eb c_str.eb (o_addS (sz_le (by show x.s.length + (Str.ofString ".1").length ≤ 1000000; cases x <;> decide)))).eb o_neS))).t
        · have e0 : picked qC (fun d => d) (((kvF Cl.s s'.con kc).map prK).map pairD) = ((kc.filter fun k => decide (s'.con k ≠ k.v)).map fun k => (k, s'.con k)).map ddC := by
            rw [prs_pair, picked_kv fun k _ => qC_s k (s'.con k)]
            unfold kvF
            rw [List.map_map, List.map_map]
            rfl
          rw [e0]
          refine s_ret (e_tup (a_cons (e_callT (T := "tuple") (b_cons (no 3) b_nil) k_tuple T.f_tuple) (a_cons (Ev.is (x := conT s'.con) (e_callT (T := "tuple") (b_cons (f_callB (id := "sorted") (b_cons (no 12) b_nil) (k_sortC hu hkc) T.f_sorted).ev.eb b_nil) k_tuple T.f_tuple) ?_) (a_cons (e_callT (T := "tuple") (b_cons (no 5) b_nil) k_tuple T.f_tuple) (a_cons (e_callT (T := "tuple") (b_cons (no 6) b_nil) k_tuple T.f_tuple) a_nil)))) (sz_le (by simp))) ?_
          · unfold conT kvF
            rw [List.map_map, List.map_map]
            rfl
          · rw [rows_set (g := fun u => thrD (code p u) (up st.pos t (st.pos t + 1) u) (s'.reg u)) ht (by rw [up_same, hg]) fun u hu' => by rw [up_ne hu', hne u hu']]
            rfl
    have hR0 : Kys Rg.v (st.reg t) (canK Rg.v allR (st.reg t)) := Kys.can (by decide) mem_allR
    have hC0 : Kys Cl.v st.con (canK Cl.v allC st.con) := Kys.can (by decide) mem_allC
    generalize hkr0 : canK Rg.v allR (st.reg t) = kr0 at hR0
    generalize hkc0 : canK Cl.v allC st.con = kc0 at hC0
    refine s_unpL (ds := [rowsOf p.length fun t => thrD (code p t) (st.pos t) (st.reg t), conT st.con, rowsOf p.length fun t => valsD (st.lin t), rowsOf p.length fun t => valsD (st.shw t)]) (js := [3, 4, 5, 6]) [("_law_part", 13)] (fun d => match d with | .tup xs => .lst xs | _ => .non) rfl c_law_after.nd (blkOk_by (N := n_law_after) (sc := defScope s_law_after) (by decide +kernel)) (i_tup (nm (d := lawD p st) 1)) (fun _ _ _ _ _ => tg_nm 13 c_law_after.nd) (fun d hd => ⟨[d], rfl, ?_⟩) (by simp) (gs_cons 3 c_law_after.nd (gs_cons 4 c_law_after.nd (gs_cons 5 c_law_after.nd (gs_cons 6 c_law_after.nd gs_nil)))) rfl ?_
    · have : ∃ xs, d = .tup xs := by
        simp only [List.mem_cons, List.not_mem_nil, or_false] at hd
        rcases hd with rfl | rfl | rfl | rfl <;> exact ⟨_, rfl⟩
      obtain ⟨xs, rfl⟩ := this
      exact fun _ _ _ _ _ => f_callT (T := "list") (b_cons (nm (d := .tup xs) 13).eb b_nil) k_listT T.f_list
    refine s_par3 7 8 9 rfl c_law_after.nd (as_v (e_call (ok_lnext T) (hr.mono (by decide)) (a_cons (nm 0) (a_cons (nm 1) (a_cons (nm 2) a_nil))) ⟨p, st, t, rfl, ht, rfl⟩) (as_o (f_callT (T := "dict") (b_cons (Ev.is (e_ix (e_ix (no 3) (nm 2) (x_lst (range_at (fun t => thrD (code p t) (st.pos t) (st.reg t)) ht))).eb c_int (x_tup (j := 1) (d := regT (st.reg t)) rfl)) (show regT (st.reg t) = .ntp (((kvF Rg.s (st.reg t) kr0).map prK).map pairD) by rw [prs_pair, ← hkr0]; rfl)).eb b_nil) (k_dictT rfl (kvF_nodup rgs_inj hR0.nd)) T.f_dict) (as_o (f_callT (T := "dict") (b_cons (no (d := .lst (((kvF Cl.s st.con kc0).map prK).map pairD)) 4 (by rw [prs_pair, ← hkc0]; rfl)) b_nil) (k_dictP rfl (kvF_nodup cls_inj hC0.nd)) T.f_dict) as_nil))) ?_
    rw [hm, stp_at hm]
    have hR4 := hR0.few
    have hC3 := hC0.fewC
    cases m with
    | rd r x =>
      refine s_ifT (t_cmp (e_ix (nm 7).eb c_int (x_smo (.rd r x))).eb c_str.eb (o_eqST rfl)) (s_dput (kvs := (kvF Rg.s (st.reg t) kr0).map prK) (ky := .inr r.s) (d := .str (st.con x).s) 8 (Ev.is (e_dget2 (kvs := (kvF Cl.s st.con kc0).map prK) (ky := .inr x.s) (no 9) (e_ix (nm (d := Sm.d (.rd r x)) 7).eb c_int (x_tup (j := 2) rfl)) (e_bin (e_ix (nm (d := Sm.d (.rd r x)) 7).eb c_int (x_tup (j := 2) (d := .str x.s) rfl)).eb c_str.eb (o_addS (sz_le (by cases x <;> decide)))) hu ⟨rfl, rfl, rfl, rfl⟩) (kget cls_inj hC0 (congrArg D.str (clv_s x)))) (e_ix (nm (d := Sm.d (.rd r x)) 7).eb c_int (x_tup (j := 1) rfl)) ?_ (by rw [kvF_len]; omega) hu)
      rw [kput rgs_inj]
      refine s_nil ?_
      refine s_if0 (t_cmp (e_ix (nm 7).eb c_int (x_smo (.rd r x))).eb c_str.eb (o_eqSF (by show ("read" : Str) ≠ _; decide))) ?_
      refine s_if0 (t_cmp (e_ix (nm 7).eb c_int (x_smo (.rd r x))).eb c_str.eb (o_eqSF (by show ("read" : Str) ≠ _; decide))) ?_
      refine s_if0 (t_cmp (e_ix (nm 7).eb c_int (x_smo (.rd r x))).eb c_str.eb (o_eqSF (by show ("read" : Str) ≠ _; decide))) ?_
      refine s_if0 (t_cmp (e_ix (nm 7).eb c_int (x_smo (.rd r x))).eb c_str.eb (o_eqSF (by show ("read" : Str) ≠ _; decide))) ?_
      exact tail (eff p st t (.rd r x)) (up (st.reg t) r (st.con x)) _ _ _ up_same hR0.put hC0 (fun u hu' => up_ne hu') ⟨_, _, rfl⟩
    | wr x r =>
      refine s_if0 (t_cmp (e_ix (nm 7).eb c_int (x_smo (.wr x r))).eb c_str.eb (o_eqSF (by show ("write" : Str) ≠ _; decide))) ?_
      refine s_ifT (t_cmp (e_ix (nm 7).eb c_int (x_smo (.wr x r))).eb c_str.eb (o_eqST rfl)) (s_dput (kvs := (kvF Cl.s st.con kc0).map prK) (ky := .inr x.s) (d := .str (st.reg t r).s) 9 (Ev.is (e_dget2 (kvs := (kvF Rg.s (st.reg t) kr0).map prK) (ky := .inr r.s) (no 8) (e_ix (nm (d := Sm.d (.wr x r)) 7).eb c_int (x_tup (j := 2) rfl)) (e_ix (nm (d := Sm.d (.wr x r)) 7).eb c_int (x_tup (j := 2) (d := .str r.s) rfl)) hu ⟨rfl, rfl, rfl, rfl⟩) (kget rgs_inj hR0 (congrArg D.str (Rg.vs r).symm))) (e_ix (nm (d := Sm.d (.wr x r)) 7).eb c_int (x_tup (j := 1) rfl)) ?_ (by rw [kvF_len]; omega) hu)
      rw [kput cls_inj]
      refine s_nil ?_
      refine s_if0 (t_cmp (e_ix (nm 7).eb c_int (x_smo (.wr x r))).eb c_str.eb (o_eqSF (by show ("write" : Str) ≠ _; decide))) ?_
      refine s_if0 (t_cmp (e_ix (nm 7).eb c_int (x_smo (.wr x r))).eb c_str.eb (o_eqSF (by show ("write" : Str) ≠ _; decide))) ?_
      refine s_if0 (t_cmp (e_ix (nm 7).eb c_int (x_smo (.wr x r))).eb c_str.eb (o_eqSF (by show ("write" : Str) ≠ _; decide))) ?_
      exact tail (eff p st t (.wr x r)) (st.reg t) _ _ _ rfl hR0 hC0.put (fun u hu' => rfl) ⟨_, _, rfl⟩
    | gt r =>
      obtain ⟨v, vs, hl⟩ := can_get hm hcan
      refine s_if0 (t_cmp (e_ix (nm 7).eb c_int (x_smo (.gt r))).eb c_str.eb (o_eqSF (by show ("get" : Str) ≠ _; decide))) ?_
      refine s_if0 (t_cmp (e_ix (nm 7).eb c_int (x_smo (.gt r))).eb c_str.eb (o_eqSF (by show ("get" : Str) ≠ _; decide))) ?_
      refine s_ifT (t_cmp (e_ix (nm 7).eb c_int (x_smo (.gt r))).eb c_str.eb (o_eqST rfl)) (s_dput (kvs := (kvF Rg.s (st.reg t) kr0).map prK) (ky := .inr r.s) (d := .str v.s) 8 (e_ix (e_ix (no 5) (nm 2) (x_lst (range_at (fun t => valsD (st.lin t)) ht))).eb c_int (x_tup (j := 0) (by rw [hl]; rfl))) (e_ix (nm (d := Sm.d (.gt r)) 7).eb c_int (x_tup (j := 1) rfl)) ?_ (by rw [kvF_len]; omega) hu)
      rw [kput rgs_inj]
      refine s_setL (xs := (List.range p.length).map fun t => valsD (st.lin t)) (j := t) (d := valsD ((st.lin t).drop 1)) 5 (Ev.is (e_slT (e_ix (no 5) (nm 2) (x_lst (range_at (fun t => valsD (st.lin t)) ht))) (o_some c_int) o_none) (by rw [show (1 : Int) = ((1 : Nat) : Int) from rfl, cut_hi _ _ (by simp [hl])]; unfold valsD; rw [List.map_drop])) (nm 2) (by simpa using ht) ?_
      rw [rows_set (g := fun u => valsD (up st.lin t ((st.lin t).drop 1) u)) ht (by rw [up_same]) fun u hu' => by rw [up_ne hu']]
      refine s_nil ?_
      refine s_if0 (t_cmp (e_ix (nm 7).eb c_int (x_smo (.gt r))).eb c_str.eb (o_eqSF (by show ("get" : Str) ≠ _; decide))) ?_
      refine s_if0 (t_cmp (e_ix (nm 7).eb c_int (x_smo (.gt r))).eb c_str.eb (o_eqSF (by show ("get" : Str) ≠ _; decide))) ?_
      exact tail (eff p st t (.gt r)) (up (st.reg t) r v) _ _ _ (by show up st.reg t _ t = _; rw [up_same, hl]; rfl) hR0.put hC0 (fun u hu' => up_ne hu') ⟨_, _, rfl⟩
    | pt r =>
      have hlt : (t + 1) % p.length < p.length := Nat.mod_lt _ (by omega)
      have em : ((t : Int) + 1).fmod (((List.range p.length).map fun t => thrD (code p t) (st.pos t) (st.reg t)).length : Int) = (((t + 1) % p.length : Nat) : Int) := by
        rw [List.length_map, List.length_range, Int.fmod_eq_emod_of_nonneg _ (by omega), Int.natCast_emod]
        simp
      have hll := hok.lin t ht
      have hpl := hok.pos t ht
      have hcl := hp.code t
      refine s_if0 (t_cmp (e_ix (nm 7).eb c_int (x_smo (.pt r))).eb c_str.eb (o_eqSF (by show ("put" : Str) ≠ _; decide))) ?_
      refine s_if0 (t_cmp (e_ix (nm 7).eb c_int (x_smo (.pt r))).eb c_str.eb (o_eqSF (by show ("put" : Str) ≠ _; decide))) ?_
      refine s_if0 (t_cmp (e_ix (nm 7).eb c_int (x_smo (.pt r))).eb c_str.eb (o_eqSF (by show ("put" : Str) ≠ _; decide))) ?_
      refine s_ifT (t_cmp (e_ix (nm 7).eb c_int (x_smo (.pt r))).eb c_str.eb (o_eqST rfl)) (s_set 10 c_law_after.nd (d := .int (((t + 1) % p.length : Nat) : Int)) (e_bin (e_callT (T := "int") (b_cons (e_bin (nm 2).eb c_int.eb o_add).eb b_nil) k_int T.f_int).eb (e_callB (b_cons (no 3) b_nil) k_len T.f_len).eb ((o_mod (by rw [List.length_map, List.length_range]; omega)).is (congrArg D.int em))) ?_)
      refine s_setL (xs := (List.range p.length).map fun t => valsD (st.lin t)) (j := (t + 1) % p.length) (d := valsD (st.lin ((t + 1) % p.length) ++ [st.reg t r])) 5 (e_bin (e_ix (no 5) (nm 10) (x_lst (range_at (fun t => valsD (st.lin t)) hlt))).eb (e_tup (a_cons (Ev.is (e_dget2 (kvs := (kvF Rg.s (st.reg t) kr0).map prK) (ky := .inr r.s) (no 8) (e_ix (nm (d := Sm.d (.pt r)) 7).eb c_int (x_tup (j := 1) rfl)) (e_ix (nm (d := Sm.d (.pt r)) 7).eb c_int (x_tup (j := 1) (d := .str r.s) rfl)) hu ⟨rfl, rfl, rfl, rfl⟩) (kget rgs_inj hR0 (congrArg D.str (Rg.vs r).symm))) a_nil) (sz_le (by simp))).eb ((o_catT (sz_le (by simp; omega))).is (by unfold valsD; rw [List.map_append]; rfl))) (nm 10) (by simpa using hlt) ?_
      rw [rows_set (g := fun u => valsD (up st.lin ((t + 1) % p.length) (st.lin ((t + 1) % p.length) ++ [st.reg t r]) u)) hlt (by rw [up_same]) fun u hu' => by rw [up_ne hu']]
      refine s_nil ?_
      refine s_if0 (t_cmp (e_ix (nm 7).eb c_int (x_smo (.pt r))).eb c_str.eb (o_eqSF (by show ("put" : Str) ≠ _; decide))) ?_
      exact tail (eff p st t (.pt r)) (st.reg t) _ _ _ rfl hR0 hC0 (fun u hu' => rfl) ⟨_, _, rfl⟩
    | sh r =>
      have hll := hok.shw t ht
      have hpl := hok.pos t ht
      have hcl := hp.code t
      refine s_if0 (t_cmp (e_ix (nm 7).eb c_int (x_smo (.sh r))).eb c_str.eb (o_eqSF (by show ("show" : Str) ≠ _; decide))) ?_
      refine s_if0 (t_cmp (e_ix (nm 7).eb c_int (x_smo (.sh r))).eb c_str.eb (o_eqSF (by show ("show" : Str) ≠ _; decide))) ?_
      refine s_if0 (t_cmp (e_ix (nm 7).eb c_int (x_smo (.sh r))).eb c_str.eb (o_eqSF (by show ("show" : Str) ≠ _; decide))) ?_
      refine s_if0 (t_cmp (e_ix (nm 7).eb c_int (x_smo (.sh r))).eb c_str.eb (o_eqSF (by show ("show" : Str) ≠ _; decide))) ?_
      refine s_ifT (t_cmp (e_ix (nm 7).eb c_int (x_smo (.sh r))).eb c_str.eb (o_eqST rfl)) (s_setL (xs := (List.range p.length).map fun t => valsD (st.shw t)) (j := t) (d := valsD (st.shw t ++ [st.reg t r])) 6 (e_bin (e_ix (no 6) (nm 2) (x_lst (range_at (fun t => valsD (st.shw t)) ht))).eb (e_tup (a_cons (Ev.is (e_dget2 (kvs := (kvF Rg.s (st.reg t) kr0).map prK) (ky := .inr r.s) (no 8) (e_ix (nm (d := Sm.d (.sh r)) 7).eb c_int (x_tup (j := 1) rfl)) (e_ix (nm (d := Sm.d (.sh r)) 7).eb c_int (x_tup (j := 1) (d := .str r.s) rfl)) hu ⟨rfl, rfl, rfl, rfl⟩) (kget rgs_inj hR0 (congrArg D.str (Rg.vs r).symm))) a_nil) (sz_le (by simp))).eb ((o_catT (sz_le (by simp; omega))).is (by unfold valsD; rw [List.map_append]; rfl))) (nm 2) (by simpa using ht) ?_)
      rw [rows_set (g := fun u => valsD (up st.shw t (st.shw t ++ [st.reg t r]) u)) ht (by rw [up_same]) fun u hu' => by rw [up_ne hu']]
      refine s_nil ?_
      exact tail (eff p st t (.sh r)) (st.reg t) _ _ _ rfl hR0 hC0 (fun u hu' => rfl) ⟨_, _, rfl⟩
end
end Pd
end
section
set_option Elab.async false
set_option linter.all false
set_option maxRecDepth 100000
set_option maxHeartbeats 4000000
/-! Lw10: clashes of a state. -/
namespace Pd
open PySem PySem.Spec L2 Pz Pt Mi
def wdO : Option Sm → Str | none => "end" | some m => m.word
def clO : Option Sm → Option Cl | none => none | some m => m.cell
def clD : Option Cl → D | none => .non | some x => .str x.s
def stepT (o : Option Sm) : D := .tup [.str (wdO o), clD (clO o)]
def isWO : Option Sm → Bool | none => false | some m => isW m
theorem clash2_eq (a b : Option Sm) : clash2 a b = match clO a, clO b with | some x, some y => decide (x = y) && (isWO a || isWO b) | _, _ => false := by
  cases a with
  | none => rfl
  | some a =>
    cases b with
    | none => cases a <;> rfl
    | some b => cases a <;> cases b <;> rfl
theorem clash2_comm (a b : Option Sm) : clash2 a b = clash2 b a := by
  rw [clash2_eq, clash2_eq]
  cases clO a with
  | none => cases clO b <;> rfl
  | some x =>
    cases clO b with
    | none => rfl
    | some y =>
      dsimp only
      rw [Bool.or_comm]
      congr 1
      exact decide_eq_decide.mpr eq_comm
theorem wdO_w (o : Option Sm) : decide (wdO o = "write") = isWO o := by
  cases o with
  | none => rfl
  | some m => cases m <;> rfl
theorem sh_cl (o : Option Cl) : Sh 0 (clD o) := by
  cases o with
  | none => exact .non
  | some x => exact .str (by cases x <;> decide +kernel)
theorem clD_inj {a b : Option Cl} (h : clD a = clD b) : a = b := by
  cases a with
  | none => cases b with
    | none => rfl
    | some y => cases h
  | some x => cases b with
    | none => cases h
    | some y => exact congrArg some (cls_inj _ _ (D.str.inj h))
section
variable {P : Program} {w : World} {K : PySem.W.Frag} {mg : Str → Option Value} {base : Heap}
def PreLcl (p : Prg) (s : Sta) : List D → Prop := fun ds => ds = [plainD p, lawD p s]
def R_lcl (p : Prg) (s : Sta) : List D → D → Prop := fun _ d => ∃ l, d = .lst l ∧ Sh 2 (.lst l) ∧ (l = [] ↔ Calm p s)
theorem ok_lclash (T : Top w K mg) {p : Prg} (hp : Okp p) (st : Sta) : CalW P w K mg base 2 "_law_clashes" (PreLcl p st) (R_lcl p st) := by
  refine calW_ok T.d_law_clashes c_law_clashes (fun ds h => by cases h; rfl) (fun _ _ _ _ _ _ us hl => match us, hl with | [_, _], _ => rfl) (fun f cdv A outer s H E Fm ds hr h => ?_)
  have hds : ds = [plainD p, lawD p st] := h
  subst hds
  have hu := hr.units
  have h3 := hp.two.2
  refine s_par2 2 3 rfl c_law_clashes.nd (as_o (f_lst a_nil (sz_le (by simp))) (as_o (f_lst a_nil (sz_le (by simp))) as_nil)) ?_
  refine s_for (ds := rangeD 0 p.length) (fun j e => ∃ x4 x5, e = [some (.v (plainD p)), some (.v (lawD p st)), some (.own (.lst [])), some (.own (.lst ((List.range j).map fun t => stepT (nxt p st t)))), x4, x5, none, none]) pnever rfl
    (i_range1 (a_cons (Ev.is (x := .int (p.length : Int)) (e_callB (b_cons (e_ix (nm 1).eb c_int x_law0).eb b_nil) k_lenT T.f_len) (by simp)) a_nil) T.f_range (by omega)) (tg_nm 4 c_law_clashes.nd) ⟨_, _, rfl⟩ (fun j d e hd hP => ?_) (fun e hP => ?_)
  · obtain ⟨x4, x5, rfl⟩ := hP
    obtain ⟨hj, rfl⟩ := rangeD_get hd
    refine ⟨_, rfl, ?_⟩
    rw [Int.zero_add]
    have hrow : ∀ {en : En}, en[0]? = some (some (.v (plainD p))) → en[1]? = some (some (.v (lawD p st))) → en[4]? = some (some (.v (.int (j : Int)))) → True := fun _ _ _ => trivial
    have hstep : (List.range (j + 1)).map (fun t => stepT (nxt p st t)) = (List.range j).map (fun t => stepT (nxt p st t)) ++ [stepT (nxt p st j)] := by rw [List.range_succ, List.map_append]; rfl
    cases hm : nxt p st j with
    | none =>
      refine s_set 5 c_law_clashes.nd (d := .tup [.str "end"]) (e_orN (e_call (ok_lnext T) (hr.mono (by decide)) (a_cons (nm 0) (a_cons (nm 1) (a_cons (nm 4) a_nil))) ⟨p, st, j, rfl, hj, by rw [hm]; rfl⟩) (e_one (e_tup (a_cons c_str a_nil) (sz_le (by simp))))) ?_
      refine s_app (xs := (List.range j).map fun t => stepT (nxt p st t)) (d := stepT (nxt p st j)) 3 (Ev.is (e_tup (a_cons (e_ix (nm (d := .tup [.str "end"]) 5).eb c_int (x_tup (j := 0) rfl)) (a_cons (e_ifF (t_cmp (e_ix (nm (d := .tup [.str "end"]) 5).eb c_int (x_tup (j := 0) rfl)).eb c_str.eb (o_eqSF (by decide))) (e_ifF (t_cmp (e_ix (nm (d := .tup [.str "end"]) 5).eb c_int (x_tup (j := 0) rfl)).eb c_str.eb (o_eqSF (by decide))) c_non)) a_nil)) (sz_le (by simp))) (by rw [hm]; rfl)) ?_ (by simp; omega)
      exact s_nil ⟨_, _, by rw [hstep]; rfl⟩
    | some m =>
      refine s_set 5 c_law_clashes.nd (d := m.d) (Ev.is (x := m.d) (e_orTup (x := .str m.word) (xs := (rest m).map .str) (Ev.is (e_call (ok_lnext T) (hr.mono (by decide)) (a_cons (nm 0) (a_cons (nm 1) (a_cons (nm 4) a_nil))) ⟨p, st, j, rfl, hj, rfl⟩) (by rw [hm]; exact sm_d m))) (sm_d m).symm) ?_
      have fin : ∀ e : En, (∃ x4 x5, e = [some (.v (plainD p)), some (.v (lawD p st)), some (.own (.lst [])), some (.own (.lst ((List.range j).map (fun t => stepT (nxt p st t)) ++ [stepT (nxt p st j)]))), x4, x5, none, none]) → ∃ x4 x5, e = [some (.v (plainD p)), some (.v (lawD p st)), some (.own (.lst [])), some (.own (.lst ((List.range (j + 1)).map fun t => stepT (nxt p st t)))), x4, x5, none, none] := by
        intro e he
        rw [hstep]
        exact he
      cases m with
      | rd r x =>
        refine s_app (xs := (List.range j).map fun t => stepT (nxt p st t)) (d := stepT (nxt p st j)) 3 (Ev.is (e_tup (a_cons (e_ix (nm (d := Sm.d (.rd r x)) 5).eb c_int (x_sm0 (.rd r x))) (a_cons (e_ifF (t_cmp (e_ix (nm (d := Sm.d (.rd r x)) 5).eb c_int (x_sm0 (.rd r x))).eb c_str.eb (o_eqSF (by show ("read" : Str) ≠ _; decide))) (e_ifT (t_cmp (e_ix (nm (d := Sm.d (.rd r x)) 5).eb c_int (x_sm0 (.rd r x))).eb c_str.eb (o_eqST rfl)) (e_ix (nm (d := Sm.d (.rd r x)) 5).eb c_int (x_tup (j := 2) rfl)))) a_nil)) (sz_le (by simp))) (by rw [hm]; rfl)) ?_ (by simp; omega)
        exact s_nil (fin _ ⟨_, _, rfl⟩)
      | wr x r =>
        refine s_app (xs := (List.range j).map fun t => stepT (nxt p st t)) (d := stepT (nxt p st j)) 3 (Ev.is (e_tup (a_cons (e_ix (nm (d := Sm.d (.wr x r)) 5).eb c_int (x_sm0 (.wr x r))) (a_cons (e_ifT (t_cmp (e_ix (nm (d := Sm.d (.wr x r)) 5).eb c_int (x_sm0 (.wr x r))).eb c_str.eb (o_eqST rfl)) (e_ix (nm (d := Sm.d (.wr x r)) 5).eb c_int (x_tup (j := 1) rfl))) a_nil)) (sz_le (by simp))) (by rw [hm]; rfl)) ?_ (by simp; omega)
        exact s_nil (fin _ ⟨_, _, rfl⟩)
      | gt r =>
        refine s_app (xs := (List.range j).map fun t => stepT (nxt p st t)) (d := stepT (nxt p st j)) 3 (Ev.is (e_tup (a_cons (e_ix (nm (d := Sm.d (.gt r)) 5).eb c_int (x_sm0 (.gt r))) (a_cons (e_ifF (t_cmp (e_ix (nm (d := Sm.d (.gt r)) 5).eb c_int (x_sm0 (.gt r))).eb c_str.eb (o_eqSF (by show ("get" : Str) ≠ _; decide))) (e_ifF (t_cmp (e_ix (nm (d := Sm.d (.gt r)) 5).eb c_int (x_sm0 (.gt r))).eb c_str.eb (o_eqSF (by show ("get" : Str) ≠ _; decide))) c_non)) a_nil)) (sz_le (by simp))) (by rw [hm]; rfl)) ?_ (by simp; omega)
        exact s_nil (fin _ ⟨_, _, rfl⟩)
      | pt r =>
        refine s_app (xs := (List.range j).map fun t => stepT (nxt p st t)) (d := stepT (nxt p st j)) 3 (Ev.is (e_tup (a_cons (e_ix (nm (d := Sm.d (.pt r)) 5).eb c_int (x_sm0 (.pt r))) (a_cons (e_ifF (t_cmp (e_ix (nm (d := Sm.d (.pt r)) 5).eb c_int (x_sm0 (.pt r))).eb c_str.eb (o_eqSF (by show ("put" : Str) ≠ _; decide))) (e_ifF (t_cmp (e_ix (nm (d := Sm.d (.pt r)) 5).eb c_int (x_sm0 (.pt r))).eb c_str.eb (o_eqSF (by show ("put" : Str) ≠ _; decide))) c_non)) a_nil)) (sz_le (by simp))) (by rw [hm]; rfl)) ?_ (by simp; omega)
        exact s_nil (fin _ ⟨_, _, rfl⟩)
      | sh r =>
        refine s_app (xs := (List.range j).map fun t => stepT (nxt p st t)) (d := stepT (nxt p st j)) 3 (Ev.is (e_tup (a_cons (e_ix (nm (d := Sm.d (.sh r)) 5).eb c_int (x_sm0 (.sh r))) (a_cons (e_ifF (t_cmp (e_ix (nm (d := Sm.d (.sh r)) 5).eb c_int (x_sm0 (.sh r))).eb c_str.eb (o_eqSF (by show ("show" : Str) ≠ _; decide))) (e_ifF (t_cmp (e_ix (nm (d := Sm.d (.sh r)) 5).eb c_int (x_sm0 (.sh r))).eb c_str.eb (o_eqSF (by show ("show" : Str) ≠ _; decide))) c_non)) a_nil)) (sz_le (by simp))) (by rw [hm]; rfl)) ?_ (by simp; omega)
        exact s_nil (fin _ ⟨_, _, rfl⟩)
  · obtain ⟨x4, x5, rfl⟩ := hP
    rw [rangeD_len]
    have hlen : ((List.range p.length).map fun t => stepT (nxt p st t)).length = p.length := by simp
    let Env := fun (l : List D) (e : En) => ∃ x4 x5 x6 x7, e = [some (.v (plainD p)), some (.v (lawD p st)), some (.own (.lst l)), some (.own (.lst ((List.range p.length).map fun t => stepT (nxt p st t)))), x4, x5, x6, x7]
    let no := fun (a b : Nat) => clash2 (nxt p st a) (nxt p st b) = false
    refine s_for (ds := rangeD 0 p.length) (fun i e => ∃ l, Env l e ∧ l.length ≤ 3 * i ∧ Sh 2 (.lst l) ∧ (l = [] ↔ ∀ a b, a < i → a < b → b < p.length → no a b)) pnever rfl (i_range1 (a_cons (Ev.is (x := .int (p.length : Int)) (e_callB (b_cons (Pz.no 3) b_nil) k_len T.f_len) (by rw [hlen])) a_nil) T.f_range (by omega)) (tg_nm 6 c_law_clashes.nd) ⟨[], ⟨_, _, _, _, rfl⟩, Nat.zero_le _, .lst fun _ h => absurd h List.not_mem_nil, fun _ a b h => absurd h (Nat.not_lt_zero _), fun _ => rfl⟩ (fun i d e hd hP => ?_) (fun e hP => ?_)
    · obtain ⟨l, ⟨x4, x5, x6, x7, rfl⟩, hll, hsh, hiff⟩ := hP
      obtain ⟨hi, rfl⟩ := rangeD_get hd
      refine ⟨_, rfl, ?_⟩
      rw [Int.zero_add]
      let Env' := fun (l : List D) (e : En) => ∃ x4 x5 x7, e = [some (.v (plainD p)), some (.v (lawD p st)), some (.own (.lst l)), some (.own (.lst ((List.range p.length).map fun t => stepT (nxt p st t)))), x4, x5, some (.v (.int (i : Int))), x7]
      refine s_for (ds := rangeD ((i : Int) + 1) ((p.length : Int) - ((i : Int) + 1)).toNat) (fun k e => ∃ l, Env' l e ∧ l.length ≤ 3 * i + k ∧ Sh 2 (.lst l) ∧ (l = [] ↔ (∀ a b, a < i → a < b → b < p.length → no a b) ∧ ∀ b, i < b → b < i + 1 + k → no i b)) pnever rfl (i_range2 (a_cons (e_bin (nm 6).eb c_int.eb o_add) (a_cons (Ev.is (x := .int (p.length : Int)) (e_callB (b_cons (Pz.no 3) b_nil) k_len T.f_len) (by rw [hlen])) a_nil)) T.f_range (by omega)) (tg_nm 7 c_law_clashes.nd) ⟨l, ⟨_, _, _, rfl⟩, by omega, hsh, by rw [hiff]; exact ⟨fun h => ⟨h, fun b h1 h2 => by omega⟩, fun h => h.1⟩⟩ (fun k d e hd hP => ?_) (fun e hP => ?_)
      · obtain ⟨l, ⟨x4, x5, x7, rfl⟩, hll, hsh, hiff⟩ := hP
        obtain ⟨hk, rfl⟩ := rangeD_get hd
        have hb : i + 1 + k < p.length := by omega
        refine ⟨_, rfl, ?_⟩
        rw [show (i : Int) + 1 + (k : Int) = ((i + 1 + k : Nat) : Int) by omega]
        have same : no i (i + 1 + k) → (l = [] ↔ (∀ a b, a < i → a < b → b < p.length → no a b) ∧ ∀ b, i < b → b < i + 1 + (k + 1) → no i b) := fun hno => by
          rw [hiff]
          refine ⟨fun h => ⟨h.1, fun b h1 h2 => ?_⟩, fun h => ⟨h.1, fun b h1 h2 => h.2 b h1 (by omega)⟩⟩
          by_cases e : b = i + 1 + k
          · rw [e]; exact hno
          · exact h.2 b h1 (by omega)
        cases hc : clO (nxt p st i) with
        | none =>
          refine s_if0 (w_andF (t_cmp (Ev.is (x := .non) (e_ix (e_ix (Pz.no 3) (nm 6) (x_lst (range_at (fun t => stepT (nxt p st t)) hi))).eb c_int (x_tup (j := 1) (d := clD (clO (nxt p st i))) rfl)) (by rw [hc]; rfl)).eb c_non.eb o_notNn)).t (s_nil ⟨l, ⟨_, _, _, rfl⟩, by omega, hsh, same ?_⟩)
          show clash2 _ _ = false
          rw [clash2_eq, hc]
        | some x =>
          have hneq : clD (clO (nxt p st i)) ≠ .non := by rw [hc]; exact fun h => nomatch h
          by_cases hx : clO (nxt p st (i + 1 + k)) = some x
          · refine s_ifT (w_andT (t_cmp (e_ix (e_ix (Pz.no 3) (nm 6) (x_lst (range_at (fun t => stepT (nxt p st t)) hi))).eb c_int (x_tup (j := 1) (d := clD (clO (nxt p st i))) rfl)).eb c_non.eb (o_notN hneq)) (w_and1 (t_cmp (e_ix (e_ix (Pz.no 3) (nm 6) (x_lst (range_at (fun t => stepT (nxt p st t)) hi))).eb c_int (x_tup (j := 1) (d := clD (clO (nxt p st i))) rfl)).eb (e_ix (e_ix (Pz.no 3) (nm 7) (x_lst (range_at (fun t => stepT (nxt p st t)) hb))).eb c_int (x_tup (j := 1) (d := clD (clO (nxt p st (i + 1 + k)))) rfl)).eb (o_eq_T hu (sh_cl _) (by rw [hc, hx]))))).t ?_
            have hcl : clash2 (nxt p st i) (nxt p st (i + 1 + k)) = (isWO (nxt p st i) || isWO (nxt p st (i + 1 + k))) := by
              rw [clash2_eq, hc, hx]
              simp
            cases hw : (isWO (nxt p st i) || isWO (nxt p st (i + 1 + k))) with
            | true =>
              refine s_ext (xs := l) (ys := [.tup [.int (i : Int), .int ((i + 1 + k : Nat) : Int)]]) 2 (f_ifT (t_cmp c_str.eb (e_tup (a_cons (e_ix (e_ix (Pz.no 3) (nm 6) (x_lst (range_at (fun t => stepT (nxt p st t)) hi))).eb c_int (x_tup (j := 0) (d := .str (wdO (nxt p st i))) rfl)) (a_cons (e_ix (e_ix (Pz.no 3) (nm 7) (x_lst (range_at (fun t => stepT (nxt p st t)) hb))).eb c_int (x_tup (j := 0) (d := .str (wdO (nxt p st (i + 1 + k)))) rfl)) a_nil)) (sz_le (by simp))).eb (o_inSk (ts := [wdO (nxt p st i), wdO (nxt p st (i + 1 + k))]) (by simp only [List.any_cons, List.any_nil, Bool.or_false]; rw [wdO_w, wdO_w, hw]))) (f_lst (a_cons (e_tup (a_cons (nm 6) (a_cons (nm 7) a_nil)) (sz_le (by simp))) a_nil) (sz_le (by simp)))) ?_ (by simp; omega)
              refine s_nil (s_nil ⟨_, ⟨_, _, _, rfl⟩, by simp; omega, ?_, ?_⟩)
              · cases hsh with
                | lst q =>
                  refine .lst fun d hd => (List.mem_append.mp hd).elim (q d) fun h => ?_
                  rw [List.mem_singleton] at h
                  subst h
                  refine .tup fun d hd => ?_
                  simp only [List.mem_cons, List.not_mem_nil, or_false] at hd
                  rcases hd with rfl | rfl <;> exact .int
              · refine ⟨fun h => by simp at h, fun h => ?_⟩
                have := h.2 (i + 1 + k) (by omega) (by omega)
                have h9 : clash2 (nxt p st i) (nxt p st (i + 1 + k)) = false := this
                rw [hcl, hw] at h9
                cases h9
            | false =>
              refine s_ext (xs := l) (ys := []) 2 (f_ifF (t_cmp c_str.eb (e_tup (a_cons (e_ix (e_ix (Pz.no 3) (nm 6) (x_lst (range_at (fun t => stepT (nxt p st t)) hi))).eb c_int (x_tup (j := 0) (d := .str (wdO (nxt p st i))) rfl)) (a_cons (e_ix (e_ix (Pz.no 3) (nm 7) (x_lst (range_at (fun t => stepT (nxt p st t)) hb))).eb c_int (x_tup (j := 0) (d := .str (wdO (nxt p st (i + 1 + k)))) rfl)) a_nil)) (sz_le (by simp))).eb (o_inSk (ts := [wdO (nxt p st i), wdO (nxt p st (i + 1 + k))]) (by simp only [List.any_cons, List.any_nil, Bool.or_false]; rw [wdO_w, wdO_w, hw]))) (f_lst a_nil (sz_le (by simp)))) ?_ (by simp; omega)
              rw [List.append_nil]
              refine s_nil (s_nil ⟨_, ⟨_, _, _, rfl⟩, by omega, hsh, same ?_⟩)
              show clash2 _ _ = false
              rw [hcl, hw]
          · refine s_if0 (w_andT (t_cmp (e_ix (e_ix (Pz.no 3) (nm 6) (x_lst (range_at (fun t => stepT (nxt p st t)) hi))).eb c_int (x_tup (j := 1) (d := clD (clO (nxt p st i))) rfl)).eb c_non.eb (o_notN hneq)) (w_and1 (t_cmp (e_ix (e_ix (Pz.no 3) (nm 6) (x_lst (range_at (fun t => stepT (nxt p st t)) hi))).eb c_int (x_tup (j := 1) (d := clD (clO (nxt p st i))) rfl)).eb (e_ix (e_ix (Pz.no 3) (nm 7) (x_lst (range_at (fun t => stepT (nxt p st t)) hb))).eb c_int (x_tup (j := 1) (d := clD (clO (nxt p st (i + 1 + k)))) rfl)).eb (o_eq_F hu (sh_cl _) (sh_cl _) (fun z => hx (by rw [← hc]; exact (clD_inj z).symm)))))).t (s_nil ⟨l, ⟨_, _, _, rfl⟩, by omega, hsh, same ?_⟩)
            show clash2 _ _ = false
            rw [clash2_eq, hc]
            cases hy : clO (nxt p st (i + 1 + k)) with
            | none => rfl
            | some y =>
              have : x ≠ y := fun z => hx (by rw [hy, z])
              simp [this]
      · obtain ⟨l, ⟨x4, x5, x7, rfl⟩, hll, hsh, hiff⟩ := hP
        rw [rangeD_len] at hll hiff
        refine s_nil ⟨l, ⟨_, _, _, _, rfl⟩, by omega, hsh, ?_⟩
        rw [hiff]
        refine ⟨fun h a b h1 h2 h3 => ?_, fun h => ⟨fun a b h1 h2 h3 => h a b (by omega) h2 h3, fun b h1 h2 => h i b (by omega) h1 (by omega)⟩⟩
        by_cases e : a = i
        · rw [e]; exact h.2 b (by omega) (by omega)
        · exact h.1 a b (by omega) h2 h3
    · obtain ⟨l, ⟨x4, x5, x6, x7, rfl⟩, hll, hsh, hiff⟩ := hP
      rw [rangeD_len] at hiff
      refine s_frz 2 (s_ret (nm 2) ⟨l, rfl, hsh, ?_⟩)
      rw [hiff]
      refine ⟨fun h a b h1 h2 h3 => ?_, fun h a b h1 h2 h3 => h a b h1 h3 (by omega)⟩
      by_cases e : a < b
      · exact h a b h1 e h2
      · rw [clash2_comm]
        exact h b a h2 (by omega) h1
end
end Pd
end
section
set_option Elab.async false
set_option linter.all false
set_option maxRecDepth 100000
set_option maxHeartbeats 4000000
/-! Lw11: the law's states tell the states apart. -/
namespace Pd
open PySem PySem.Spec L2 Pz Pt Mi
section
variable {p : Prg} {s s' : Sta} {t u : Nat}
theorem stp_out (ht : t < p.length) (hu : p.length ≤ u) : (stp p s t).reg u = s.reg u ∧ (stp p s t).lin u = s.lin u ∧ (stp p s t).shw u = s.shw u := by
  have h1 : u ≠ t := by omega
  have h2 : u ≠ (t + 1) % p.length := by
    have := Nat.mod_lt (t + 1) (show 0 < p.length by omega)
    omega
  unfold stp
  cases nxt p s t with
  | none => exact ⟨rfl, rfl, rfl⟩
  | some m => cases m <;> simp [eff, up_ne h1, up_ne h2]
theorem runs_out {w : List Nat} (r : Runs p s w s') (hu : p.length ≤ u) : s'.reg u = s.reg u ∧ s'.lin u = s.lin u ∧ s'.shw u = s.shw u := by
  induction r with
  | nil => exact ⟨rfl, rfl, rfl⟩
  | cons ht ct _ ih =>
    obtain ⟨a, b, c⟩ := stp_out ht hu
    exact ⟨ih.1.trans a, ih.2.1.trans b, ih.2.2.trans c⟩
theorem numL_len (k n : Nat) : (numL k n).length = n - k := by unfold numL; simp
theorem vls_inj : ∀ a b : Vl, a.s = b.s → a = b := by intro a b; cases a <;> cases b <;> first | (intro _; rfl) | (intro h; exact absurd h (by decide))
theorem kvF_inj {κ : Type} [DecidableEq κ] {s : κ → Str} {v0 f g : κ → Vl} {all : List κ} (hi : ∀ a b, s a = s b → a = b) (hn : all.Nodup) (ha : ∀ k, k ∈ all) (h : (kvF s f (canK v0 all f)).map prD = (kvF s g (canK v0 all g)).map prD) : f = g := by
  have e : kvF s f (canK v0 all f) = kvF s g (canK v0 all g) := by
    refine List.map_inj_right (f := prD) (fun x y hxy => ?_) |>.mp h
    obtain ⟨h1, h2⟩ := List.cons.inj (D.tup.inj hxy)
    exact Prod.ext (D.str.inj h1) (D.str.inj (List.cons.inj h2).1)
  funext k
  have h1 := kget (k := k) hi (Kys.can (f := f) (v0 := v0) hn ha) rfl
  have h2 := kget (k := k) hi (Kys.can (f := g) (v0 := v0) hn ha) rfl
  rw [e, h2] at h1
  exact (vls_inj _ _ (D.str.inj h1)).symm
theorem valsD_inj {vs ws : List Vl} (h : valsD vs = valsD ws) : vs = ws := by
  refine List.map_inj_right (f := fun v : Vl => D.str v.s) (fun x y hxy => vls_inj _ _ (D.str.inj hxy)) |>.mp (D.tup.inj h)
def regE (f : Rg → Vl) : D := .tup ((kvF Rg.s f (canK Rg.v allR f)).map prD)
def thrE (c : List Sm) (k : Nat) (f : Rg → Vl) : D := .tup [numT k c.length, regE f]
def lawE (p : Prg) (s : Sta) : D := .tup [rowsOf p.length fun t => thrE (code p t) (s.pos t) (s.reg t), conT s.con, rowsOf p.length fun t => valsD (s.lin t), rowsOf p.length fun t => valsD (s.shw t)]
theorem er_rowsE (n : Nat) {f g : Nat → D} (hf : ∀ t, (f t).er = g t) : (rowsOf n f).er = rowsOf n g := by
  unfold rowsOf
  rw [D.er, ers_map, List.map_map]
  exact congrArg D.tup (List.map_congr_left fun t _ => hf t)
theorem er_prs (l : List (Str × Str)) : ers (l.map prD) = l.map prD := er_strs prD (fun q => by simp [prD, D.er, ers]) l
theorem er_vals (vs : List Vl) : (valsD vs).er = valsD vs := by unfold valsD; rw [D.er, er_strs _ fun v => by simp [D.er]]
theorem er_num (k n : Nat) : (numT k n).er = numT k n := by unfold numT numL; rw [D.er, er_strs _ fun v => by simp [D.er]]
theorem er_law : (lawD p s).er = lawE p s := by
  unfold lawD lawE
  rw [D.er]
  simp only [ers]
  rw [er_rowsE (g := fun t => thrE (code p t) (s.pos t) (s.reg t)) _ fun t => ?_, er_rowsE (g := fun t => valsD (s.lin t)) _ fun t => er_vals _, er_rowsE (g := fun t => valsD (s.shw t)) _ fun t => er_vals _]
  · unfold conT
    rw [D.er, er_prs]
  · unfold thrD thrE regT regE
    rw [D.er]
    simp only [ers]
    rw [er_num, D.er, er_prs]
theorem law_inj (h : Reach p s) (h' : Reach p s') (e : lawE p s = lawE p s') : s = s' := by
  obtain ⟨e1, e2⟩ := List.cons.inj (D.tup.inj e)
  obtain ⟨e2, e3⟩ := List.cons.inj e2
  obtain ⟨e3, e4⟩ := List.cons.inj e3
  obtain ⟨e4, _⟩ := List.cons.inj e4
  have hk := h.okc
  have hk' := h'.okc
  have out : ∀ {s : Sta}, Reach p s → ∀ {u : Nat}, p.length ≤ u → s.reg u = Rg.v ∧ s.lin u = [] ∧ s.shw u = [] := fun h u hu => by
    obtain ⟨w, r⟩ := h
    exact runs_out r hu
  have hthr : ∀ t, t < p.length → s.pos t = s'.pos t ∧ s.reg t = s'.reg t := fun t ht => by
    obtain ⟨a, b⟩ := List.cons.inj (D.tup.inj (rows_inj e1 ht))
    refine ⟨?_, kvF_inj rgs_inj (by decide) mem_allR (D.tup.inj (List.cons.inj b).1)⟩
    have := congrArg List.length (D.tup.inj a)
    rw [numL_len, numL_len] at this
    have h1 := hk.pos t ht
    have h2 := hk'.pos t ht
    omega
  refine sta_ext ?_ ?_ (kvF_inj cls_inj (by decide) mem_allC (D.tup.inj e2)) ?_ ?_
  · funext t
    by_cases ht : t < p.length
    · exact (hthr t ht).1
    · rw [h.high (by omega), h'.high (by omega)]
  · funext t
    by_cases ht : t < p.length
    · exact (hthr t ht).2
    · rw [(out h (by omega)).1, (out h' (by omega)).1]
  · funext t
    by_cases ht : t < p.length
    · exact valsD_inj (rows_inj e3 ht)
    · rw [(out h (by omega)).2.1, (out h' (by omega)).2.1]
  · funext t
    by_cases ht : t < p.length
    · exact valsD_inj (rows_inj e4 ht)
    · rw [(out h (by omega)).2.2, (out h' (by omega)).2.2]
theorem hk_prs (l : List (Str × Str)) : ∀ d ∈ l.map prD, Hk 1 d := fun d hd => by
  obtain ⟨q, _, rfl⟩ := List.mem_map.mp hd
  refine .tup fun d hd => ?_
  simp only [List.mem_cons, List.not_mem_nil, or_false] at hd
  rcases hd with rfl | rfl <;> exact .str
theorem hk_law (p : Prg) (s : Sta) : Hk 7 (lawD p s) := .tup fun d hd => by
  simp only [List.mem_cons, List.not_mem_nil, or_false] at hd
  rcases hd with rfl | rfl | rfl | rfl
  · refine hk_rows (m := 5) fun t => .tup fun d hd => ?_
    simp only [List.mem_cons, List.not_mem_nil, or_false] at hd
    rcases hd with rfl | rfl
    · refine .tup fun d hd => ?_
      obtain ⟨i, _, rfl⟩ := List.mem_map.mp hd
      exact .int
    · exact .ntp fun d hd => hk_up (hk_prs _ d hd) (by decide)
  · exact .tup fun d hd => hk_up (hk_prs _ d hd) (by decide)
  · exact hk_rows fun t => hk_up (hk_vals _) (by decide)
  · exact hk_rows fun t => hk_up (hk_vals _) (by decide)
theorem law_nk (h : Reach p s) (h' : Reach p s') (e : (lawD p s).nk = (lawD p s').nk) : s = s' := by
  have := nk_inj (hk_law p s) (hk_law p s') e
  rw [er_law, er_law] at this
  exact law_inj h h' this
end
/-! ### dicts over states -/
section
variable {f : Sta → D}
def esF (f : Sta → D) : List Sta → List D → List (D × D)
  | s :: L, d :: lk => (f s, d) :: esF f L lk
  | _, _ => []
theorem esF_app {s : Sta} {d : D} : ∀ {L : List Sta} {lk : List D}, lk.length = L.length → esF f (L ++ [s]) (lk ++ [d]) = esF f L lk ++ [(f s, d)]
  | [], [], _ => rfl
  | a :: L, b :: lk, h => congrArg _ (esF_app (Nat.succ.inj h))
  | [], _ :: _, h => by cases h
  | _ :: _, [], h => by cases h
theorem esF_mem : ∀ {L : List Sta} {lk : List D} {q : D × D}, q ∈ esF f L lk → ∃ (j : Nat) (s : Sta), L[j]? = some s ∧ lk[j]? = some q.2 ∧ q.1 = f s
  | [], _, _, h => by cases h
  | _ :: _, [], _, h => by cases h
  | a :: L, b :: lk, q, h => by
    rcases List.mem_cons.mp h with rfl | h
    · exact ⟨0, a, rfl, rfl, rfl⟩
    · obtain ⟨j, s, h1, h2, h3⟩ := esF_mem h
      exact ⟨j + 1, s, by simpa using h1, by simpa using h2, h3⟩
theorem esF_has : ∀ {L : List Sta} {lk : List D} {s : Sta}, lk.length = L.length → s ∈ L → ∃ q ∈ esF f L lk, q.1 = f s
  | [], _, _, _, h => by cases h
  | _ :: _, [], _, e, _ => by cases e
  | a :: L, b :: lk, s, e, h => by
    rcases List.mem_cons.mp h with rfl | h
    · exact ⟨_, List.mem_cons_self, rfl⟩
    · obtain ⟨q, h1, h2⟩ := esF_has (Nat.succ.inj e) h
      exact ⟨q, List.mem_cons_of_mem _ h1, h2⟩
theorem esF_len : ∀ {L : List Sta} {lk : List D}, lk.length = L.length → (esF f L lk).length = L.length
  | [], [], _ => rfl
  | a :: L, b :: lk, h => congrArg (· + 1) (esF_len (Nat.succ.inj h))
  | [], _ :: _, h => by cases h
  | _ :: _, [], h => by cases h
theorem esF_keys : ∀ {L : List Sta} {lk : List D}, lk.length = L.length → (esF f L lk).map (·.1) = L.map f
  | [], [], _ => rfl
  | a :: L, b :: lk, h => congrArg _ (esF_keys (Nat.succ.inj h))
  | [], _ :: _, h => by cases h
  | _ :: _, [], h => by cases h
end
end Pd
end
section
set_option Elab.async false
set_option linter.all false
set_option maxRecDepth 100000
set_option maxHeartbeats 4000000
/-! Lw12: all states by the law's own walk. -/
namespace Pd
open PySem PySem.Spec L2 Pz Pt Mi
section
variable {P : Program} {w : World} {K : PySem.W.Frag} {mg : Str → Option Value} {base : Heap}
def PreLst (p : Prg) : List D → Prop := fun ds => ds = [plainD p, .int 600]
def R_lst (p : Prg) : List D → D → Prop := fun _ d => d = .non ∨ ∃ L lk, d = .dcn (esF (lawD p) L lk) ∧ lk.length = L.length ∧ L.length ≤ 600 ∧ AllS p L
def muL (e : En) : Nat := match e[5]? with
  | some (some (Sl.v (D.int n))) => 700 - n.toNat
  | _ => 0
theorem hes_law {p : Prg} {L : List Sta} {lk : List D} : ∀ q ∈ esF (lawD p) L lk, Hk 7 q.1 := fun q hq => by
  obtain ⟨_, s, _, _, e⟩ := esF_mem hq
  rw [e]
  exact hk_law p s
theorem nd_idx {α : Type} {L : List α} (h : L.Pairwise fun a b => a ≠ b) {i j : Nat} {x : α} (hi : L[i]? = some x) (hj : L[j]? = some x) : i = j :=
  (List.getElem?_inj (List.getElem?_eq_some_iff.mp hi).1 h).mp (hi.trans hj.symm)
theorem ok_lstates (T : Top w K mg) {p : Prg} (hp : Okp p) : CalW P w K mg base 3 "_law_states" (PreLst p) (R_lst p) := by
  refine calW_ok T.d_law_states c_law_states (fun ds h => by cases h; rfl) (fun _ _ _ _ _ _ us hl => match us, hl with | [_, _], _ => rfl) (fun f cdv A outer s H E Fm ds hr h => ?_)
  have hds : ds = [plainD p, .int 600] := h
  subst hds
  have hu := hr.units
  have hn3 := hp.two.2
  refine s_set 2 c_law_states.nd (e_call (ok_begin T) (hr.mono (by decide)) (a_cons (nm 0) a_nil) ⟨p, rfl, hp, rfl⟩) ?_
  refine s_par3 3 4 5 rfl c_law_states.nd (as_o (f_disp1 hu (nm (d := lawD p .first) 2) (e_tup a_nil (by decide)) (hk_law p .first) (Nat.le_refl _)) (as_o (f_lst (a_cons (nm 2) a_nil) (sz_le (by simp))) (as_v c_int as_nil))) ?_
  let Inv := fun (L : List Sta) (lk : List D) (n : Nat) (e : En) => ∃ x6 x7 x8, e = [some (.v (plainD p)), some (.v (.int 600)), some (.v (lawD p .first)), some (.own (.dcn (esF (lawD p) L lk))), some (.own (.lst (L.map (lawD p)))), some (.v (.int (n : Int))), x6, x7, x8]
  let Sh := fun (lk : List D) => ∀ (j : Nat) v, lk[j]? = some v → ∃ ds, v = D.tup ds ∧ ds.length ≤ j
  refine s_while (fun e => ∃ L lk n, Som p L lk n ∧ Sh lk ∧ L.length ≤ 600 ∧ Inv L lk n e) muL pnever ⟨[.first], [.tup []], 0, ⟨List.pairwise_singleton _ _, fun s hs => by rw [List.mem_singleton] at hs; subst hs; exact .first, List.mem_singleton.mpr rfl, Nat.zero_le _, rfl, fun i s hi => absurd hi (Nat.not_lt_zero _)⟩, fun j v hj => ?_, by simp, _, _, _, rfl⟩ (fun e he => ?_)
  · match j, hj with
    | 0, hj =>
      cases hj
      exact ⟨[], rfl, Nat.le_refl _⟩
    | j + 1, hj => simp at hj
  obtain ⟨L, lk, n, hS, hlk, hL6, x6, x7, x8, rfl⟩ := he
  by_cases hlt : n < L.length
  · refine ⟨true, t_cmp (nm 5).eb (e_callB (b_cons (no 4) b_nil) k_len T.f_len).eb (o_ltT (by simp; omega)), ⟨fun _ => ?_, fun z => absurd z.symm Bool.false_ne_true⟩⟩
    obtain ⟨st, hst⟩ : ∃ st, L[n]? = some st := ⟨L[n], List.getElem?_eq_getElem hlt⟩
    have hre := hS.re st (List.mem_of_getElem? hst)
    refine s_set 6 c_law_states.nd (e_ix (no 4) (nm 5) (x_lst (d := lawD p st) (by rw [List.getElem?_map, hst]; rfl))) ?_
    refine s_set 5 c_law_states.nd (e_bin (nm 5).eb c_int.eb o_add) ?_
    let Inn := fun (L' : List Sta) (lk' : List D) (e : En) => ∃ x7 x8, e = [some (.v (plainD p)), some (.v (.int 600)), some (.v (lawD p .first)), some (.own (.dcn (esF (lawD p) L' lk'))), some (.own (.lst (L'.map (lawD p)))), some (.v (.int ((n : Int) + 1))), some (.v (lawD p st)), x7, x8]
    refine s_for (ds := rangeD 0 p.length) (fun j e => ∃ L' lk', Som p L' lk' n ∧ Sh lk' ∧ L'.length ≤ 600 + j ∧ L'[n]? = some st ∧ (∀ t, t < j → can p st t = true → stp p st t ∈ L') ∧ Inn L' lk' e) pnever rfl
      (i_range1 (a_cons (Ev.is (x := .int (p.length : Int)) (e_callB (b_cons (e_ix (nm 6).eb c_int x_law0).eb b_nil) k_lenT T.f_len) (by simp)) a_nil) T.f_range (by omega)) (tg_nm 7 c_law_states.nd) ⟨L, lk, hS, hlk, by omega, hst, fun _ h => absurd h (Nat.not_lt_zero _), _, _, rfl⟩ (fun j d e hd hP => ?_) (fun e hP => ?_)
    · obtain ⟨L', lk', hS', hlk', hL', hst', hin, x7, x8, rfl⟩ := hP
      obtain ⟨ht, rfl⟩ := rangeD_get hd
      refine ⟨_, rfl, ?_⟩
      rw [Int.zero_add]
      have hnext : ∀ (M : List Sta), (∀ u ∈ L', u ∈ M) → (can p st j = true → stp p st j ∈ M) → ∀ t, t < j + 1 → can p st t = true → stp p st t ∈ M := fun M h1 h2 t htj ct => by
        by_cases e : t = j
        · subst e; exact h2 ct
        · exact h1 _ (hin t (by omega) ct)
      cases hc : can p st j with
      | false => exact s_if0 (t_bool (Ev.is (e_call (ok_lcan T) (hr.mono (by decide)) (a_cons (nm 0) (a_cons (nm 6) (a_cons (nm 7) a_nil))) ⟨p, st, j, rfl, ht, rfl⟩) (by rw [hc]))) (s_nil ⟨L', lk', hS', hlk', by omega, hst', hnext L' (fun _ h => h) (fun h => by rw [hc] at h; cases h), _, _, rfl⟩)
      | true =>
        have hre' := hre.stp ht hc
        refine s_ifT (t_bool (Ev.is (e_call (ok_lcan T) (hr.mono (by decide)) (a_cons (nm 0) (a_cons (nm 6) (a_cons (nm 7) a_nil))) ⟨p, st, j, rfl, ht, rfl⟩) (by rw [hc]))) ?_
        refine s_set 8 c_law_states.nd (e_call (ok_lafter T) (hr.mono (by decide)) (a_cons (nm 0) (a_cons (nm 6) (a_cons (nm 7) a_nil))) ⟨p, st, j, rfl, ht, hp, hre.okc, hc, rfl⟩) ?_
        by_cases hm : stp p st j ∈ L'
        · exact s_if0 (t_cmp (nm (d := lawD p (stp p st j)) 8).eb (no 3) (o_ninN (r := false) hu (hk_law _ _) (Nat.le_refl _) hes_law (.inl ⟨rfl, esF_has hS'.ll hm⟩))) (s_nil (s_nil ⟨L', lk', hS', hlk', by omega, hst', hnext L' (fun _ h => h) (fun _ => hm), _, _, rfl⟩))
        · have hne : ∀ q ∈ esF (lawD p) L' lk', q.1.nk ≠ (lawD p (stp p st j)).nk := fun q hq z => by
            obtain ⟨i, s', h1, h2, h3⟩ := esF_mem hq
            rw [h3] at z
            have hs' := List.mem_of_getElem? h1
            exact hm (law_nk (hS'.re s' hs') hre' z ▸ hs')
          refine s_ifT (t_cmp (nm (d := lawD p (stp p st j)) 8).eb (no 3) (o_ninN (r := true) hu (hk_law _ _) (Nat.le_refl _) hes_law (.inr ⟨rfl, hne⟩))) ?_
          have hn' : n < L'.length := (List.getElem?_eq_some_iff.mp hst').1
          obtain ⟨v, hv⟩ : ∃ v, lk'[n]? = some v := ⟨lk'[n]'(by have := hS'.ll; omega), List.getElem?_eq_getElem _⟩
          obtain ⟨vs, rfl, hvs⟩ := hlk' n v hv
          refine s_dputN (es := esF (lawD p) L' lk') (d := .tup (vs ++ [.int (j : Int)])) 3 (e_bin (e_ixN (d := .tup vs) hu (no 3) (nm (d := lawD p st) 6) (hk_law _ _) (Nat.le_refl _) hes_law (esF_has hS'.ll (List.mem_of_getElem? hst')) (fun q hq z => ?_)).eb (e_tup (a_cons (nm 7) a_nil) (sz_le (by simp))).eb (o_catT (sz_le (by simp; omega)))) (nm (d := lawD p (stp p st j)) 8) ?_ hu (hk_law _ _) (Nat.le_refl _) hes_law hne (by rw [esF_len hS'.ll]; omega)
          · obtain ⟨i, s', h1, h2, h3⟩ := esF_mem hq
            rw [h3] at z
            have e := law_nk (hS'.re s' (List.mem_of_getElem? h1)) hre z
            subst e
            have := nd_idx hS'.nd h1 hst'
            subst this
            rw [hv] at h2
            exact (Option.some.inj h2).symm
          · refine s_app (xs := L'.map (lawD p)) 4 (nm (d := lawD p (stp p st j)) 8) ?_ (by simp; omega)
            refine s_nil (s_nil (s_nil ⟨L' ++ [stp p st j], lk' ++ [.tup (vs ++ [.int (j : Int)])], hS'.app hre' hm, fun i v hi => ?_, by simp; omega, ?_, hnext _ (fun u hu' => List.mem_append_left _ hu') (fun _ => List.mem_append_right _ List.mem_cons_self), some (.v (.int (j : Int))), some (.v (lawD p (stp p st j))), ?_⟩))
            · by_cases hil : i < lk'.length
              · rw [List.getElem?_append_left hil] at hi
                exact hlk' i v hi
              · rw [List.getElem?_append_right (by omega)] at hi
                have : i - lk'.length = 0 := by
                  have := (List.getElem?_eq_some_iff.mp hi).1
                  simp at this
                  omega
                rw [this] at hi
                cases hi
                refine ⟨_, rfl, ?_⟩
                have := hS'.ll
                simp
                omega
            · rw [List.getElem?_append_left hn']; exact hst'
            · rw [esF_app hS'.ll, List.map_append]
              rfl
    · obtain ⟨L', lk', hS', hlk', hL', hst', hin, x7, x8, rfl⟩ := hP
      rw [rangeD_len] at hin
      have hn' : n < L'.length := (List.getElem?_eq_some_iff.mp hst').1
      by_cases hbig : 600 < L'.length
      · exact s_ifT (t_cmp (e_callB (b_cons (no 3) b_nil) (k_lenN hes_law) T.f_len).eb (nm 1).eb (o_gtT (by rw [esF_len hS'.ll]; omega))) (s_ret c_non (.inl rfl))
      · refine s_if0 (t_cmp (e_callB (b_cons (no 3) b_nil) (k_lenN hes_law) T.f_len).eb (nm 1).eb (o_gtF (by rw [esF_len hS'.ll]; omega))) ?_
        refine s_nil ⟨⟨L', lk', n + 1, ⟨hS'.nd, hS'.re, hS'.fst, hn', hS'.ll, fun i s hi hs t ht ct => ?_⟩, hlk', by omega, some (.v (lawD p st)), _, _, rfl⟩, ?_⟩
        · by_cases hin' : i < n
          · exact hS'.cl i s hin' hs t ht ct
          · have : i = n := by omega
            subst this
            rw [hst'] at hs
            cases hs
            exact hin t ht ct
        · show 700 - ((n : Int) + 1).toNat < 700 - ((n : Int)).toNat
          omega
  · refine ⟨false, t_cmp (nm 5).eb (e_callB (b_cons (no 4) b_nil) k_len T.f_len).eb (o_ltF (by simp; omega)), ⟨fun z => absurd z Bool.false_ne_true, fun _ => ?_⟩⟩
    have hle := hS.le
    have hnl : n = L.length := by omega
    refine s_frz 3 (s_ret (nm 3) (.inr ⟨L, lk, rfl, hS.ll, hL6, ⟨hS.nd, hS.re, hS.fst, fun s hs t ht ct => ?_⟩⟩))
    obtain ⟨i, hi⟩ := List.mem_iff_getElem?.mp hs
    exact hS.cl i s (by rw [hnl]; exact (List.getElem?_eq_some_iff.mp hi).1) hi t ht ct
end
end Pd
end
section
set_option Elab.async false
set_option linter.all false
set_option maxRecDepth 100000
set_option maxHeartbeats 4000000
/-! Lw13: orderly, ends by the law's own walk. -/
namespace Pz
open PySem PySem.Spec PyProof.Rows L2
section
variable {G : Gx} {M : Addr → Prop} {H : Hp}
mutual
theorem Rp.er : ∀ {v : V} {d : D}, Rp G M H v d → Rp G M H v d.er
  | _, _, .non => .non
  | _, _, .bl b => .bl b
  | _, _, .int i => .int i
  | _, _, .str x => .str x
  | _, _, .ref a => .ref a
  | _, _, .ty n => .ty n
  | _, _, .tup h r => .tup h (Rps.er r)
  | _, _, .ntp h hd hm r => .tup (.inl ⟨.inr ⟨_, h⟩, hm⟩) (Rps.er r)
  | _, _, .lst h r => .lst h r
  | _, _, .dk h hm r => .dk h hm r
  | _, _, .dn h hm r => .dn h hm r
  | _, _, .ins h hm r => .ins h hm r
  | _, _, .insA h hm r => .insA h hm r
  | _, _, .atA r => .atA r
theorem Rps.er : ∀ {v : List V} {d : List D}, Rps G M H v d → Rps G M H v (ers d)
  | _, _, .nil => .nil
  | _, _, .cons a r => .cons (Rp.er a) (Rps.er r)
end
end
section
variable {X : Cx} {F : Fr} {en : En} {e : Expr} {d x : D}
theorem Ev.er (h : Ev X F en e d) : Ev X F en e d.er := PE.wk h fun σ H Q ⟨M, R, q⟩ => ⟨M, R, fun v H' z i g r ez => q v H' _ i g (by subst ez; exact r.er) rfl⟩
theorem op_notInNil : OpR X (compareOp .NotIn) (fun x y H Q => ∃ p, y = .ref p ∧ SqL X.K H p [] ∧ Q (.bl true) H) := by
  intro pins s σ H x y v u Q I rx ry h
  obtain ⟨p, rfl, hq, q⟩ := h
  cases ry
  obtain ⟨its, r, pl, hz⟩ := I.list hq
  cases r
  exact SeqAt.notIn_listAt (fun _ => false) pl.isList (fun w hw => by simp at hw) ⟨.bl true, H, I, by show Value.bool _ = Value.bool true; simp, q⟩
theorem o_ninNil : OpD X F en (compareOp .NotIn) x (.lst []) (.bl true) := o_of op_notInNil fun M σ H vx vy Q R bx by_ q => by
  obtain ⟨a, vs, rfl, hq, r⟩ := by_.lst R
  rw [r.inv_nil] at hq
  exact ⟨a, rfl, hq, q _ H R.inv Gr.refl (.bl _)⟩
end
end Pz
namespace Pd
open PySem PySem.Spec L2 Pz Pt Mi
theorem sh_prs (l : List (Str × Str)) (h : ∀ q ∈ l, PyData.strOk q.1 = true ∧ PyData.strOk q.2 = true) : ∀ d ∈ l.map prD, Sh 1 d := fun d hd => by
  obtain ⟨q, hq, rfl⟩ := List.mem_map.mp hd
  refine .tup fun d hd => ?_
  simp only [List.mem_cons, List.not_mem_nil, or_false] at hd
  rcases hd with rfl | rfl
  · exact .str (h q hq).1
  · exact .str (h q hq).2
theorem sh_up {m n : Nat} {d : D} (h : Sh m d) (hmn : m ≤ n) : Sh n d := by
  induction n generalizing m d with
  | zero =>
    have : m = 0 := by omega
    subst this
    exact h
  | succ n ih =>
    cases h with
    | non => exact .non
    | int => exact .int
    | str e => exact .str e
    | tup hd => exact .tup fun d hd' => ih (hd d hd') (by omega)
    | lst hd => exact .lst fun d hd' => ih (hd d hd') (by omega)
theorem ok_rg (r : Rg) : PyData.strOk r.s = true := by cases r <;> decide +kernel
theorem ok_cl (r : Cl) : PyData.strOk r.s = true := by cases r <;> decide +kernel
theorem ok_vl (r : Vl) : PyData.strOk r.s = true := by cases r <;> decide +kernel
theorem sh_law (p : Prg) (s : Sta) : Sh 7 (lawE p s) := .tup fun d hd => by
  simp only [List.mem_cons, List.not_mem_nil, or_false] at hd
  rcases hd with rfl | rfl | rfl | rfl
  · refine .tup fun d hd => ?_
    obtain ⟨t, _, rfl⟩ := List.mem_map.mp hd
    refine .tup fun d hd => ?_
    simp only [List.mem_cons, List.not_mem_nil, or_false] at hd
    rcases hd with rfl | rfl
    · exact sh_up (sh_numT _ _) (by decide)
    · refine .tup fun d hd => sh_up (sh_prs _ (fun q hq => ?_) d hd) (by decide)
      obtain ⟨k, _, rfl⟩ := List.mem_map.mp hq
      exact ⟨ok_rg k, ok_vl _⟩
  · refine .tup fun d hd => sh_up (sh_prs _ (fun q hq => ?_) d hd) (by decide)
    obtain ⟨k, _, rfl⟩ := List.mem_map.mp hq
    exact ⟨ok_cl k, ok_vl _⟩
  · refine .tup fun d hd => ?_
    obtain ⟨t, _, rfl⟩ := List.mem_map.mp hd
    exact sh_up (sh_vals _) (by decide)
  · refine .tup fun d hd => ?_
    obtain ⟨t, _, rfl⟩ := List.mem_map.mp hd
    exact sh_up (sh_vals _) (by decide)
open Classical in
noncomputable def badD (p : Prg) (L : List Sta) : D → Bool := fun d => decide (∃ s ∈ L, d = lawD p s ∧ ¬ Calm p s)
open Classical in
theorem badD_iff {p : Prg} {L : List Sta} {d : D} : badD p L d = true ↔ ∃ s ∈ L, d = lawD p s ∧ ¬ Calm p s := by
  unfold badD
  exact decide_eq_true_iff
section
variable {P : Program} {w : World} {K : PySem.W.Frag} {mg : Str → Option Value} {base : Heap}
def PreLor (p : Prg) (L : List Sta) (lk : List D) : List D → Prop := fun ds => ds = [plainD p, .dcn (esF (lawD p) L lk)]
def R_lor (p : Prg) : List D → D → Prop := fun _ d => ∃ b, d = .bl b ∧ (b = true ↔ Orderly p)
theorem ok_lord (T : Top w K mg) {p : Prg} (hp : Okp p) {L : List Sta} {lk : List D} (hl : lk.length = L.length) (hL : L.length ≤ 600) (hA : AllS p L) : CalW P w K mg base 3 "_law_is_orderly" (PreLor p L lk) (R_lor p) := by
  refine calW_ok T.d_law_is_orderly c_law_is_orderly (fun ds h => by cases h; rfl) (fun _ _ _ _ _ _ us hl => match us, hl with | [_, _], _ => rfl) (fun f cdv A outer s H E Fm ds hr h => ?_)
  have hds : ds = [plainD p, .dcn (esF (lawD p) L lk)] := h
  subst hds
  have hu := hr.units
  have hbad : ∀ s ∈ L, badD p L (lawD p s) = true ↔ ¬ Calm p s := fun s hs => by
    refine badD_iff.trans ⟨fun ⟨s', h1, h2, h3⟩ => ?_, fun h => ⟨s, hs, rfl, h⟩⟩
    rw [law_nk (hA.re s hs) (hA.re s' h1) (congrArg D.nk h2)]
    exact h3
  let out := picked (badD p L) D.er (L.map (lawD p))
  have hshape : Sh 8 (.lst out) := .lst fun d hd => by
    obtain ⟨x, hx, rfl⟩ := List.mem_map.mp hd
    obtain ⟨s, _, rfl⟩ := List.mem_map.mp (List.mem_filter.mp hx).1
    rw [er_law]
    exact sh_law p s
  have hev : Ef ((cxOf CX0 P w K mg base n_law_is_orderly "_law_is_orderly" (defScope s_law_is_orderly) f cdv A outer s H E).nox) Fm (startE n_law_is_orderly [plainD p, .dcn (esF (lawD p) L lk)]) (match (defBody s_law_is_orderly).getD 0 (.Pass ⟨0, 0, 0, 0⟩) with | .Return (some (.Compare a _ _ _)) _ => a | _ => .Constant .none 0 ⟨0, 0, 0, 0⟩) (.lst out) := by
    refine Ef.is (f_lcIf (ds := (esF (lawD p) L lk).map (·.1)) [("_law_state", 2)] (badD p L) D.er rfl c_law_is_orderly.nd (blkOk_by (N := n_law_is_orderly) (sc := defScope s_law_is_orderly) (by decide +kernel)) (i_dictN (nm 1)) (fun _ _ _ _ _ => tg_nm 2 c_law_is_orderly.nd) (fun d hd => ⟨[d], rfl, ?_⟩) (by rw [esF_keys hl]; simp; omega)) (by rw [esF_keys hl])
    rw [esF_keys hl] at hd
    obtain ⟨st, hst, rfl⟩ := List.mem_map.mp hd
    refine ⟨fun _ _ _ _ _ => t_cmpW (KB := fun z => z = badD p L (lawD p st)) (e_callW (ok_lclash T hp st) (hr.mono (by decide) : Room 2 _) (a_cons (nm 0) (a_cons (nm 2) a_nil)) rfl) (Ev.w (K := fun d => d = .lst []) (f_lst a_nil (sz_le (by simp))).ev rfl) (fun x y hx hy => ?_), fun _ _ _ _ _ _ => (nm 2).er⟩
    obtain ⟨l, rfl, hsh, hiff⟩ := hx
    subst hy
    by_cases hc : Calm p st
    · refine ⟨false, o_ne_F hu hsh (congrArg D.lst (hiff.mpr hc)), ?_⟩
      cases e : badD p L (lawD p st) with
      | false => rfl
      | true => exact absurd hc ((hbad st hst).mp e)
    · exact ⟨true, o_ne_T hu hsh (.lst fun d h => absurd h List.not_mem_nil : Sh 1 (.lst [])) (fun z => hc (hiff.mp (D.lst.inj z))), ((hbad st hst).mpr hc).symm⟩
  by_cases ho : out = []
  · refine s_ret (e_cmp hev.ev.eb (f_lst a_nil (sz_le (by simp))).ev.eb (o_eq_T hu hshape (congrArg D.lst ho))) ⟨true, rfl, ⟨fun _ s hs => Classical.byContradiction fun hc => ?_, fun _ => rfl⟩⟩
    have hs' := hA.all hs
    have : lawD p s ∈ (L.map (lawD p)).filter (badD p L) := List.mem_filter.mpr ⟨List.mem_map.mpr ⟨s, hs', rfl⟩, (hbad s hs').mpr hc⟩
    have h2 : (lawD p s).er ∈ out := List.mem_map.mpr ⟨_, this, rfl⟩
    rw [ho] at h2
    cases h2
  · refine s_ret (e_cmp hev.ev.eb (f_lst a_nil (sz_le (by simp))).ev.eb (o_eq_F hu hshape (.lst fun d h => absurd h List.not_mem_nil : Sh 1 (.lst [])) (fun z => ho (D.lst.inj z)))) ⟨false, rfl, ⟨fun h => absurd h Bool.false_ne_true, fun hO => absurd (List.eq_nil_iff_forall_not_mem.mpr fun d hd => ?_) ho⟩⟩
    obtain ⟨x, hx, rfl⟩ := List.mem_map.mp hd
    obtain ⟨s, hs, _, hc⟩ := badD_iff.mp (List.mem_filter.mp hx).2
    exact hc (hO s (hA.re s hs))
end
end Pd
end
section
set_option Elab.async false
set_option linter.all false
set_option maxRecDepth 100000
set_option maxHeartbeats 4000000
/-! Lw14: ends by the law's own walk. -/
namespace Pd
open PySem PySem.Spec L2 Pz Pt Mi
def qN (q : Nat → Bool) : D → Bool
  | .int i => q i.toNat
  | _ => false
theorem picked_qN {n : Nat} {q : Nat → Bool} : picked (qN q) (fun d => d) (rangeD 0 n) = ((List.range n).filter q).map fun t : Nat => .int (t : Int) := by
  unfold picked rangeD
  rw [List.map_id', List.filter_map]
  have e : (qN q ∘ fun i : Nat => D.int (0 + (i : Int))) = q := by
    funext i
    simp [qN]
  rw [e]
  exact List.map_congr_left fun t _ => by simp
def shD (p : Prg) (e : Sta) : D := rowsOf p.length fun t => valsD (e.shw t)
section
variable {P : Program} {w : World} {K : PySem.W.Frag} {mg : Str → Option Value} {base : Heap}
def R_lends (p : Prg) (e0 : Sta) : List D → D → Prop := fun _ d => d = .lst [shD p e0]
theorem sh_intL (ns : List Nat) : Sh 1 (.lst (ns.map fun n : Nat => .int (n : Int))) := .lst fun d hd => by
  obtain ⟨v, _, rfl⟩ := List.mem_map.mp hd
  exact .int
theorem ok_lends (T : Top w K mg) {p : Prg} (hp : Good p) {L : List Sta} {lk : List D} (hl : lk.length = L.length) (hL : L.length ≤ 600) (hA : AllS p L) {e0 : Sta} (h0 : Reach p e0) (he0 : IsEnd p e0) : CalW P w K mg base 3 "_law_ends" (PreLor p L lk) (R_lends p e0) := by
  refine calW_ok T.d_law_ends c_law_ends (fun ds h => by cases h; rfl) (fun _ _ _ _ _ _ us hl => match us, hl with | [_, _], _ => rfl) (fun f cdv A outer s H E Fm ds hr h => ?_)
  have hds : ds = [plainD p, .dcn (esF (lawD p) L lk)] := h
  subst hds
  have hu := hr.units
  have h3 := hp.ok.two.2
  refine s_setO 2 c_law_ends.nd (f_lst a_nil (sz_le (by simp))) ?_
  refine s_for (ds := (esF (lawD p) L lk).map (·.1)) (fun j e => ∃ l x3 x4, e = [some (.v (plainD p)), some (.v (.dcn (esF (lawD p) L lk))), some (.own (.lst l)), x3, x4, none] ∧ ((l = [] ∧ ∀ i, i < j → L[i]? ≠ some e0) ∨ (l = [shD p e0] ∧ ∃ i, i < j ∧ L[i]? = some e0))) pnever rfl (i_dictN (nm 1)) (tg_nm 3 c_law_ends.nd) ⟨[], _, _, rfl, .inl ⟨rfl, fun i h => absurd h (Nat.not_lt_zero _)⟩⟩ (fun j d e hd hP => ?_) (fun e hP => ?_)
  · obtain ⟨l, x3, x4, rfl, hl2⟩ := hP
    rw [esF_keys hl, List.getElem?_map] at hd
    obtain ⟨st, hst, rfl⟩ := Option.map_eq_some_iff.mp hd
    have hrs := hA.re st (List.mem_of_getElem? hst)
    refine ⟨_, rfl, ?_⟩
    refine s_lcIf (ds := rangeD 0 p.length) 4 [("_law_thread", 5)] (qN (can p st)) (fun d => d) rfl c_law_ends.nd (blkOk_by (N := n_law_ends) (sc := defScope s_law_ends) (by decide +kernel)) (i_range1 (a_cons (Ev.is (x := .int (p.length : Int)) (e_callB (b_cons (e_ix (nm (d := lawD p st) 3).eb c_int x_law0).eb b_nil) k_lenT T.f_len) (by simp)) a_nil) T.f_range (by omega)) (fun _ _ _ _ _ => tg_nm 5 c_law_ends.nd) (fun d hd => ⟨[d], rfl, ?_⟩) (by rw [rangeD_len]; omega) ?_
    · obtain ⟨t, ht, rfl⟩ := rangeD_mem hd
      exact ⟨fun _ _ _ _ _ => t_bool (e_call (ok_lcan T) (hr.mono (by decide) : Room 2 _) (a_cons (nm 0) (a_cons (nm (d := lawD p st) 3) (a_cons (nm 5) a_nil))) ⟨p, st, t, rfl, ht, rfl⟩), fun _ _ _ _ _ _ => nm 5⟩
    · rw [picked_qN]
      by_cases h : IsEnd p st
      · have e1 : st = e0 := ends_eq hp.ord hrs h0 h he0
        subst e1
        have hlnil : l = [] := by
          rcases hl2 with ⟨h1, _⟩ | ⟨_, i, hi, h2⟩
          · exact h1
          · have := nd_idx hA.nd h2 hst
            omega
        subst hlnil
        refine s_ifT (w_andT (t_cmp (no 4) (f_lst a_nil (sz_le (by simp))).ev.eb (o_eq_T hu (sh_intL _) (by have := ready_nil.mpr h; unfold ready at this; rw [this]; rfl))) (w_and1 (t_cmp (e_ix (nm (d := lawD p st) 3).eb c_int x_law3).eb (no 2) o_ninNil))).t ?_
        refine s_app (xs := []) (d := shD p st) 2 (e_ix (nm (d := lawD p st) 3).eb c_int x_law3) ?_ (by simp)
        exact s_nil (s_nil ⟨_, _, _, rfl, .inr ⟨rfl, j, Nat.lt_succ_self _, hst⟩⟩)
      · refine s_if0 (w_andF (t_cmp (no 4) (f_lst a_nil (sz_le (by simp))).ev.eb (o_eq_F hu (sh_intL _) (.lst fun d h => absurd h List.not_mem_nil : Sh 1 (.lst [])) (fun z => h (ready_nil.mp ?_))))).t (s_nil ⟨l, _, _, rfl, ?_⟩)
        · have := D.lst.inj z
          unfold ready
          exact List.map_eq_nil_iff.mp this
        · rcases hl2 with ⟨h1, h2⟩ | ⟨h1, i, hi, h2⟩
          · refine .inl ⟨h1, fun i hi z => ?_⟩
            by_cases e : i = j
            · subst e
              rw [hst] at z
              cases z
              exact h he0
            · exact h2 i (by omega) z
          · exact .inr ⟨h1, i, by omega, h2⟩
  · obtain ⟨l, x3, x4, rfl, hl2⟩ := hP
    rw [esF_keys hl, List.length_map] at hl2
    have hl3 : l = [shD p e0] := by
      rcases hl2 with ⟨_, h2⟩ | ⟨h1, _⟩
      · obtain ⟨i, hi⟩ := List.mem_iff_getElem?.mp (hA.all h0)
        exact absurd hi (h2 i (List.getElem?_eq_some_iff.mp hi).1)
      · exact h1
    subst hl3
    exact s_ret (f_callB (id := "sorted") (b_cons (no 2) b_nil) (k_sort1 (by simp)) T.f_sorted).ev rfl
end
end Pd
end
section
set_option Elab.async false
set_option linter.all false
set_option maxRecDepth 100000
set_option maxHeartbeats 4000000
/-! Df15: a program made. -/
namespace Pd
open PySem PySem.Spec PyProof.Rows L2 Pz Pt Mi
theorem smd_inj : ∀ {a b : Sm}, a.d = b.d → a = b := by
  intro a b h
  cases a <;> cases b <;> simp only [Sm.d, D.tup.injEq, List.cons.injEq, D.str.injEq, and_true, true_and] at h <;> first
    | (obtain ⟨h1, h2⟩ := h; first | (rw [rgs_inj _ _ h1, cls_inj _ _ h2]) | (rw [cls_inj _ _ h1, rgs_inj _ _ h2]) | exact absurd h1 (by decide))
    | (rw [rgs_inj _ _ h])
    | exact absurd h.1 (by decide)
    | exact absurd h (by decide)
theorem codeD_inj {c c' : List Sm} (h : codeD c = codeD c') : c = c' := (List.map_inj_right fun _ _ => smd_inj).mp (D.tup.inj h)
theorem rowsL_inj : ∀ {c c' : List Sm} {i : Nat}, rowsL i c = rowsL i c' → c = c'
  | [], [], _, _ => rfl
  | [], _ :: _, _, h => by cases h
  | _ :: _, [], _, h => by cases h
  | m :: c, m' :: c', i, h => by
    obtain ⟨h1, h2⟩ := List.cons.inj h
    have e := smd_inj (List.cons.inj (D.tup.inj h1)).1
    rw [e, rowsL_inj h2]
theorem rowsD_inj {c c' : List Sm} (h : rowsD c = rowsD c') : c = c' := rowsL_inj (D.lst.inj h)
open Classical in
noncomputable def gOf {α β : Type} [Inhabited β] (emb : α → D) (h : α → β) : D → β := fun d => if e : ∃ c, d = emb c then h e.choose else default
theorem gOf_at {α β : Type} [Inhabited β] {emb : α → D} {h : α → β} (hi : ∀ a b, emb a = emb b → a = b) (c : α) : gOf emb h (emb c) = h c := by
  unfold gOf
  have e : ∃ c', emb c = emb c' := ⟨c, rfl⟩
  rw [dif_pos e]
  rw [← hi _ _ e.choose_spec]
instance : Inhabited D := ⟨.non⟩
theorem mem_cellsOf {p : Prg} {x : Cl} : x ∈ cellsOf p ↔ ∃ c ∈ p, ∃ s ∈ c, s.cell = some x := by
  unfold cellsOf
  rw [List.mem_filter]
  refine ⟨fun h => ?_, fun ⟨c, hc, s, hs, e⟩ => ⟨by cases x <;> simp, ?_⟩⟩
  · obtain ⟨c, hc, h2⟩ := List.any_eq_true.mp h.2
    obtain ⟨s, hs, h3⟩ := List.any_eq_true.mp h2
    exact ⟨c, hc, s, hs, of_decide_eq_true h3⟩
  · exact List.any_eq_true.mpr ⟨c, hc, List.any_eq_true.mpr ⟨s, hs, decide_eq_true e⟩⟩
def usedS (p : Prg) : List Str := p.flatMap fun c => (c.filterMap Sm.cell).map Cl.s
theorem used_uniq {p : Prg} {ys : List Str} (h1 : sortedS ys = true) (h2 : ys.Nodup) (h3 : ∀ k, k ∈ ys ↔ k ∈ usedS p) : ys = (cellsOf p).map Cl.s := by
  refine sorted_uniq (cells_nm p) (cells_rank p) ((List.perm_ext_iff_of_nodup h2 ?_).mpr fun k => ?_) h1
  · exact List.Pairwise.map _ (R := fun a b => a ≠ b) (fun a b hne e => hne (cls_inj a b e)) (cells_nodup p)
  · rw [h3 k]
    unfold usedS
    rw [List.mem_flatMap, List.mem_map]
    constructor
    · rintro ⟨c, hc, hk⟩
      obtain ⟨x, hx, rfl⟩ := List.mem_map.mp hk
      obtain ⟨s, hs, e⟩ := List.mem_filterMap.mp hx
      exact ⟨x, mem_cellsOf.mpr ⟨c, hc, s, hs, e⟩, rfl⟩
    · rintro ⟨x, hx, rfl⟩
      obtain ⟨c, hc, s, hs, e⟩ := mem_cellsOf.mp hx
      exact ⟨c, hc, List.mem_map.mpr ⟨x, List.mem_filterMap.mpr ⟨s, hs, e⟩, rfl⟩⟩
theorem used_few {p : Prg} (hp : Okp p) : (usedS p).length < 64 := by
  have key : ∀ q : Prg, (∀ c ∈ q, c.length ≤ 20) → (usedS q).length ≤ 20 * q.length := by
    intro q
    induction q with
    | nil => intro _; exact Nat.le_refl _
    | cons c q ih =>
      intro h
      have h1 := ih fun c' hc => h c' (List.mem_cons_of_mem _ hc)
      have h2 := h c List.mem_cons_self
      have h3 := List.length_filterMap_le Sm.cell c
      unfold usedS at h1 ⊢
      rw [List.flatMap_cons, List.length_append, List.length_map, List.length_cons]
      omega
  have := key p hp.short
  have := hp.two.2
  omega
theorem used_flat {p : Prg} : (p.map rowsD).flatMap (gOf rowsD fun c' => (c'.filterMap Sm.cell).map fun x => D.str x.s) = (usedS p).map .str := by
  unfold usedS
  induction p with
  | nil => rfl
  | cons c p ih =>
    rw [List.map_cons, List.flatMap_cons, ih, gOf_at (fun _ _ => rowsD_inj), List.flatMap_cons, List.map_append, List.map_map]
    rfl
section
variable {P : Program} {w : World} {K : PySem.W.Frag} {mg : Str → Option Value} {base : Heap} {CP : Addr}
def R_PI : List D → List (Str × D) → Prop := fun ds fs => ∃ (p : Prg) (c a : D), ds = [.tup (p.map codeD), c, a] ∧ (c = .non ∨ c = dk []) ∧ (a = .non ∨ a = dk []) ∧ Okp p ∧ fs = progF p
theorem ok_PI (T : Top w K mg) (hC : PCls K CP) {f : Addr} {fd : FuncData} {kws : List (Str × V)} (Fd : FunD K "__init__" "Program.__init__" (defArgs s_Program_init) (defBody s_Program_init) (defScope s_Program_init) [] kws f fd) : FnOk P w K mg base CX0 10 f fd p_Program_init (spI ⟨P, w, K⟩ CP R_PI) := by
  refine def_okK Fd c_Program_init (fun ds fs h => ?_) (fun cdv A outer s H E Fm y ds fs hr h => ?_)
  · obtain ⟨p, c, a, rfl, _⟩ := h
    rfl
  · obtain ⟨p, c, a, rfl, hc, ha, hp, rfl⟩ := h
    have hu := hr.units
    have h3 := hp.two.2
    refine s_expr (e_call (ok_require_threads T) hr (a_cons (nm 1) a_nil) ⟨p, rfl, hp, rfl⟩) ?_
    refine s_if0 (Ew.t (k := false) ?_) ?_
    · rcases hc with rfl | rfl
      · exact w_andF (t_cmp (nm 2).eb c_non.eb o_notNn)
      · exact w_andT (t_cmp (nm (d := dk []) 2).eb c_non.eb (o_notN (fun h => nomatch h))) (w_and1 (t_notT (t_bool (e_call (ok_are_contents T) (hr.mono (by decide)) (a_cons (nm 2) a_nil) ⟨rfl, rfl⟩))))
    refine s_if0 (Ew.t (k := false) ?_) ?_
    · rcases ha with rfl | rfl
      · exact w_andF (t_cmp (nm 3).eb c_non.eb o_notNn)
      · exact w_andT (t_cmp (nm (d := dk []) 3).eb c_non.eb (o_notN (fun h => nomatch h))) (w_and1 (t_notT (t_bool (e_call (ok_are_answers T) (hr.mono (by decide)) (a_cons (nm 3) a_nil) ⟨rfl, rfl⟩))))
    refine s_set 4 c_Program_init.nd (d := dk []) ?_ ?_
    · rcases hc with rfl | rfl
      · exact e_ifT (t_cmp (nm 2).eb c_non.eb o_isNn) f_dnew.ev
      · exact e_ifF (t_cmp (nm (d := dk []) 2).eb c_non.eb (o_isN (fun h => nomatch h))) (nm 2)
    refine s_set 5 c_Program_init.nd (d := dk []) ?_ ?_
    · rcases ha with rfl | rfl
      · exact e_ifT (t_cmp (nm 3).eb c_non.eb o_isNn) f_dnew.ev
      · exact e_ifF (t_cmp (nm (d := dk []) 3).eb c_non.eb (o_isN (fun h => nomatch h))) (nm 3)
    refine s_lc (ds := p.map codeD) 6 [("code", 8)] (gOf codeD rowsD) rfl c_Program_init.nd (blkOk_by (N := n_Program_init) (sc := defScope s_Program_init) (by decide +kernel)) (i_tup (nm 1)) (fun _ _ _ _ _ => tg_nm 8 c_Program_init.nd) (fun d hd => ⟨[d], rfl, ?_⟩) (by simp; omega) ?_
    · obtain ⟨c', hc', rfl⟩ := List.mem_map.mp hd
      rw [gOf_at (fun _ _ => codeD_inj)]
      exact fun _ _ _ _ _ => e_call (ok_rows_of T) (hr.mono (by decide) : Room 4 _) (a_cons (nm 8) a_nil) ⟨c', rfl, hp.short c' hc', rfl⟩
    have e1 : (p.map codeD).map (gOf codeD rowsD) = p.map rowsD := by
      rw [List.map_map]
      exact List.map_congr_left fun c' _ => gOf_at (fun _ _ => codeD_inj) c'
    rw [e1]
    refine s_frz 6 ?_
    refine s_lc2 (ds := p.map rowsD) 7 [("some", 9), ("cell", 10)] (gOf rowsD fun c' => (c'.filterMap Sm.cell).map fun x => D.str x.s) (fun d => d) rfl c_Program_init.nd (blkOk_by (N := n_Program_init) (sc := defScope s_Program_init) (by decide +kernel)) (i_list (nm 6)) (fun _ _ _ _ _ => tg_nm 9 c_Program_init.nd) (fun _ _ _ _ _ => tg_nm 10 c_Program_init.nd) (fun d hd => ?_) ?_ ?_
    · obtain ⟨c', hc', rfl⟩ := List.mem_map.mp hd
      rw [gOf_at (fun _ _ => rowsD_inj)]
      exact ⟨[rowsD c'], rfl, fun _ _ _ _ _ => i_list (e_call (ok_cells_in T) (hr.mono (by decide) : Room 2 _) (a_cons (nm 9) a_nil) ⟨c', rfl, hp.short c' hc', rfl⟩), fun d1 _ => ⟨[d1], rfl, fun _ _ _ _ _ => nm 10⟩⟩
    · rw [used_flat]
      have := used_few hp
      simp
      omega
    rw [used_flat, List.map_id']
    refine s_frz 7 ?_
    refine s_fldA (fs := (progF p).take 0) 0 (nm 1) ?_ hC.cls (hC.no _ (by decide +kernel)) (by simp [progF])
    refine s_fldA (fs := (progF p).take 1) 0 (f_dc (ds := []) [("cell", 10)] (fun _ => .inl 0) (fun d => d) rfl c_Program_init.nd (blkOk_by (N := n_Program_init) (sc := defScope s_Program_init) (by decide +kernel)) (i_list (f_callB (id := "sorted") (b_cons (f_callT (T := "list") (b_cons (nm (d := dk []) 4).eb b_nil) (k_listD rfl) T.f_list).ev.eb b_nil) (k_sort1 (by simp)) T.f_sorted).ev) (fun _ _ _ _ _ => tg_nm 10 c_Program_init.nd) (fun d hd => absurd hd List.not_mem_nil) (by simp)).ev ?_ hC.cls (hC.no _ (by decide +kernel)) (by simp [progF])
    refine s_fldA (fs := (progF p).take 2) 0 (f_dc (ds := []) [("pair", 11)] (fun _ => .inl 0) (fun d => d) rfl c_Program_init.nd (blkOk_by (N := n_Program_init) (sc := defScope s_Program_init) (by decide +kernel)) (i_list (f_callB (id := "sorted") (b_cons (f_callT (T := "list") (b_cons (nm (d := dk []) 5).eb b_nil) (k_listD rfl) T.f_list).ev.eb b_nil) (k_sort1 (by simp)) T.f_sorted).ev) (fun _ _ _ _ _ => tg_nm 11 c_Program_init.nd) (fun d hd => absurd hd List.not_mem_nil) (by simp)).ev ?_ hC.cls (hC.no _ (by decide +kernel)) (by simp [progF])
    refine s_fldA (fs := (progF p).take 3) 0 (nm 6) ?_ hC.cls (hC.no _ (by decide +kernel)) (by simp [progF])
    refine s_fldA (fs := (progF p).take 4) 0 (f_lc (ds := p.map rowsD) [("some", 9)] (gOf rowsD fun c' => D.tup ((regsOf c').map fun r => .str r.s)) rfl c_Program_init.nd (blkOk_by (N := n_Program_init) (sc := defScope s_Program_init) (by decide +kernel)) (i_list (nm 6)) (fun _ _ _ _ _ => tg_nm 9 c_Program_init.nd) (fun d hd => ⟨[d], rfl, ?_⟩) (by simp; omega)).ev ?_ hC.cls (hC.no _ (by decide +kernel)) (by simp [progF])
    · obtain ⟨c', hc', rfl⟩ := List.mem_map.mp hd
      rw [gOf_at (fun _ _ => rowsD_inj)]
      exact fun _ _ _ _ _ => e_call (ok_registers_in T) (hr.mono (by decide) : Room 2 _) (a_cons (nm 9) a_nil) ⟨c', rfl, hp.short c' hc', rfl⟩
    have e2 : (p.map rowsD).map (gOf rowsD fun c' => D.tup ((regsOf c').map fun r => .str r.s)) = p.map fun c' => D.tup ((regsOf c').map fun r => .str r.s) := by
      rw [List.map_map]
      exact List.map_congr_left fun c' _ => gOf_at (fun _ _ => rowsD_inj) c'
    rw [e2]
    refine s_fldA (fs := (progF p).take 5) 0 (e_callT (T := "tuple") (b_cons (f_sortSet (ts := usedS p) (us := (cellsOf p).map Cl.s) rfl (Ev.is (f_lst (a_starL (nm 7) (a_starD rfl (nm (d := dk []) 4) a_nil)) (sz_le (by have := used_few hp; simp; omega))).ev (by simp)) (used_few hp) (fun ys h1 h2 h3 => used_uniq h1 h2 h3) T.f_sorted T.f_set).ev.eb b_nil) k_tupN T.f_tuple) ?_ hC.cls (hC.no _ (by decide +kernel)) (by simp [progF])
    exact s_nil rfl
end
end Pd
end
section
set_option Elab.async false
set_option linter.all false
set_option maxRecDepth 100000
set_option maxHeartbeats 4000000
/-! Df16: the class Program. -/
namespace Pd
open PySem PySem.Spec PyProof.Rows L2 Pz Pt Mi
section
variable {P : Program} {w : World} {K : PySem.W.Frag} {mg : Str → Option Value} {base : Heap} {CP : Addr}
abbrev kwP : List (Str × V) := [("cells", .non), ("answers", .non)]
theorem ok_Program (T : Top w K mg) (hC : PCls K CP) {f : Addr} {fd : FuncData} (hm : mg "Program" = some (.ref CP)) (mk : Mk K CP f) (Fd : FunD K "__init__" "Program.__init__" (defArgs s_Program_init) (defBody s_Program_init) (defScope s_Program_init) [] kwP f fd) : CalP P w K mg base 10 "Program" CP ["cells", "answers"] R_PI := by
  refine ⟨f, fd, p_Program_init, hm, mk, ok_PI T hC Fd, ?_, ?_⟩
  · exact FunD.binds0 (ps := p_Program_init) Fd 2 (by simp) rfl fun D doc pm an cdv ct us ks hl hk => match us, ks, hl, hk with
      | [a, b], [c, d], _, _ => ⟨_, _, _, _, _, _, rfl, rfl, ⟨_, _, _, _, _, _, rfl, rfl, rfl⟩⟩
  · obtain ⟨mv, h⟩ := FunD.kbinds0 (ps := p_Program_init) Fd 2 ["cells", "answers"] [] (fun vs mz zs => vs ++ zs) (by simp) (fun q h => absurd h List.not_mem_nil) (fun r _ r2 => r.append r2) fun D doc pm an cdv ct us mv ws hl hm hw => match us, mv, ws, hl, hm, hw with
      | [a, b], [], [c, d], _, _, _ => rfl
    exact h
end
end Pd
end
section
set_option Elab.async false
set_option linter.all false
set_option maxRecDepth 100000
set_option maxHeartbeats 4000000
/-! Df17: runs made: Program.__call__, Run.after. -/
namespace Pz
open PySem PySem.Spec PyProof.Rows L2
/-- f(e, ..), f an instance -/
theorem e_callO {X : Cx} {F : Fr} {en : En} {fe e : Expr} {es : List Expr} {ds : List D} {d : D} {fs : List (Str × D)} {pos : Pos} {k : Nat} {C g : Addr} {R : List D → D → Prop} (H0 : CalF X.prog X.w X.K X.mg X.base k g R) (hr : Room k X.A) (hf : Ev X F en fe (.ins C fs)) (c : StX.CallO X.K C g) (ha : Ea X F en (e :: es) ds) (hR : R (.ins C fs :: ds) d)
    (ht : eval (.Call fe (e :: es) [] pos) X.env = (do callWith pos (← eval fe X.env) [] (backTo pos (starEach (e :: es) X.env)) (backToKw pos (keywordEach [] X.env))) := by rfl)
    (he : starEach (e :: es) X.env = (false, eval e X.env) :: starEach es X.env := by rfl) (hpl : (backTo pos (starEach es X.env)).any (·.1) = false := by rfl) : Ev X F en (.Call fe (e :: es) [] pos) d := by
  obtain ⟨fd, ps, FF, bi⟩ := H0
  have FR : FnR X.prog X.w X.K X.mg X.base CX0 k g (fun vs H Q E => spF (gx X) R (vs ++ []) H Q E) := FF.raw bi .nil
  exact PE.wk (StX.pe_callO hf c FR hr pass0 ha ht he hpl) fun σ H Q ⟨M, R, q⟩ => ⟨M, R, fun v H1 d' i g r ed => by
    subst ed
    have R1 := R.step i g
    obtain ⟨a, dx, us, rfl, h, ru⟩ := Bw.ins (σ := σ) (en := en) (Or.inl r) R1
    refine ⟨a, rfl, M, R1, fun vs H2 i2 g2 r2 => ?_⟩
    have r3 := r.kp (R1.kp g2)
    refine ⟨?_, M, .ins C fs :: ds, d, by rw [List.append_nil]; exact .cons r3 r2, (R1.step i2 g2).dom, hR, fun v H3 s r4 => q v H3 d (F.st _ _ i2 s) (g.trans (g2.trans (Gr.same s))) r4 rfl⟩
    cases r3 with
    | ins h3 _ _ => exact .inr ⟨_, _, h3⟩⟩
end Pz
namespace Pd
open PySem PySem.Spec PyProof.Rows L2 Pz Pt Mi
section
variable {P : Program} {w : World} {K : PySem.W.Frag} {mg : Str → Option Value} {base : Heap} {CP CR : Addr}
def R_RI : List D → List (Str × D) → Prop := fun ds fs => ∃ a b c, ds = [a, b, c] ∧ fs = ([("own_program", a), ("own_order", b), ("own_state", c)] : List (Str × D))
theorem ok_Run (T : Top w K mg) (hR : RCls K CR) {f : Addr} {fd : FuncData} (hm : mg "Run" = some (.ref CR)) (mk : Mk K CR f) (Fd : Fun K "__init__" "Run.__init__" s_Run_init f fd) : CalI P w K mg base 1 "Run" CR R_RI := by
  refine ⟨f, fd, p_Run_init, hm, mk, def_okI Fd c_Run_init (fun ds fs h => ?_) (fun cdv A outer s H E Fm y ds fs hr h => ?_), Fd.binds fun _ _ _ _ _ _ us hl => match us, hl with | [_, _, _, _], _ => rfl⟩
  · obtain ⟨a, b, c, rfl, _⟩ := h
    rfl
  · obtain ⟨a, b, c, rfl, rfl⟩ := h
    refine s_fldA (fs := []) 0 (nm 1) ?_ hR.cls (hR.no _ (by decide +kernel)) (by simp)
    refine s_fldA (fs := [("own_program", a)]) 0 (nm 2) ?_ hR.cls (hR.no _ (by decide +kernel)) (by simp)
    refine s_fldA (fs := [("own_program", a), ("own_order", b)]) 0 (nm 3) ?_ hR.cls (hR.no _ (by decide +kernel)) (by simp)
    exact s_nil rfl
/-- what is there to make a run -/
structure RMk (K : PySem.W.Frag) (mg : Str → Option Value) (CR : Addr) : Prop where
  name : mg "Run" = some (.ref CR)
  made : ∃ f fd, Mk K CR f ∧ Fun K "__init__" "Run.__init__" s_Run_init f fd
theorem RMk.cal (T : Top w K mg) (hR : RCls K CR) (h : RMk K mg CR) : CalI P w K mg base 1 "Run" CR R_RI := by
  obtain ⟨f, fd, mk, Fd⟩ := h.made
  exact ok_Run T hR h.name mk Fd
def R_pcall (CR CP : Addr) : List D → D → Prop := fun ds d => ∃ p : Prg, ds = [progD CP p, .tup []] ∧ Okp p ∧ d = runD CR CP p (.tup []) .first
theorem ok_pcall (T : Top w K mg) (hC : PCls K CP) (hR : RCls K CR) (hM : RMk K mg CR) {g : Addr} {fd : FuncData} (C : Fun K "__call__" "Program.__call__" s_Program_call g fd) : CalF P w K mg base 4 g (R_pcall CR CP) := by
  refine calF_ok C c_Program_call (fun ds d h => ?_) (fun _ _ _ _ _ _ us hl => match us, hl with | [_, _], _ => rfl) (fun cdv A outer s H E Fm ds d hr h => ?_)
  · obtain ⟨p, rfl, _⟩ := h
    rfl
  · obtain ⟨p, rfl, hp, rfl⟩ := h
    refine s_if0 (t_notT (t_bool (e_call (ok_order0 T hC) (hr.mono (by decide)) (a_cons (nm 0) (a_cons (nm 1) a_nil)) ⟨p, rfl, rfl⟩))) ?_
    refine s_set 2 c_Program_call.nd (e_call (ok_led0 T hC) hr (a_cons (nm 0) (a_cons (nm 1) a_nil)) ⟨p, rfl, hp, rfl⟩) ?_
    refine s_if0 (t_cmp (nm (d := Sta.first.d p) 2).eb c_non.eb (o_isN (fun h => nomatch h))) ?_
    exact s_ret (f_make (hM.cal T hR) (hr.mono (by decide) : Room 2 _) (a_cons (nm 0) (a_cons (nm 1) (a_cons (nm 2) a_nil))) ⟨_, _, _, rfl, rfl⟩).ev rfl
def R_after (CR CP : Addr) : List D → D → Prop := fun ds d => ∃ (p : Prg) (s : Sta) (os : List D) (t : Nat), ds = [runD CR CP p (.tup os) s, .int (t : Int)] ∧ t < p.length ∧ Okp p ∧ Okc p s ∧ can p s t = true ∧ os.length ≤ 1000 ∧ d = runD CR CP p (.tup (os ++ [.int (t : Int)])) (stp p s t)
theorem ok_after (T : Top w K mg) (hC : PCls K CP) (hR : RCls K CR) (hM : RMk K mg CR) {g : Addr} {fd : FuncData} (C : Fun K "after" "Run.after" s_Run_after g fd) : CalF P w K mg base 6 g (R_after CR CP) := by
  refine calF_ok C c_Run_after (fun ds d h => ?_) (fun _ _ _ _ _ _ us hl => match us, hl with | [_, _], _ => rfl) (fun cdv A outer s H E Fm ds d hr h => ?_)
  · obtain ⟨p, s, os, t, rfl, _⟩ := h
    rfl
  · obtain ⟨p, st, os, t, rfl, ht, hp, hok, hc, hos, rfl⟩ := h
    refine s_expr (e_call (ok_req_thread T hC) (hr.mono (by decide)) (a_cons (e_prog (CP := CP) hR (nm 0).eb) (a_cons (nm 1) a_nil)) ⟨p, t, rfl, ht, rfl⟩) ?_
    refine s_if0 (t_cmp (nm 1).eb (Ev.is (x := .tup (((ready p st).map fun n : Nat => (n : Int)).map .int)) (e_propA hR.ready (fun _ _ _ _ h2 => ok_Run_ready T hC hR h2) hr (nm (d := runD CR CP p (.tup os) st) 0) hR.cls ⟨p, st, .tup os, rfl, hp.two.2, rfl⟩) (by unfold intsD; rw [List.map_map]; rfl)).eb (o_ninI.is ?_)) ?_
    · have : ((ready p st).map fun n : Nat => (n : Int)).any (fun m => decide (m = (t : Int))) = true := List.any_eq_true.mpr ⟨(t : Int), List.mem_map.mpr ⟨t, mem_ready.mpr ⟨ht, hc⟩, rfl⟩, by simp⟩
      rw [this]
      rfl
    · exact s_ret (f_make (hM.cal T hR) (hr.mono (by decide) : Room 2 _) (a_cons (e_prog (CP := CP) hR (nm 0).eb) (a_cons (e_tup (a_star (e_order (CP := CP) hR (nm 0).eb) (a_cons (nm 1) a_nil)) (sz_le (by simp; omega))) (a_cons (e_call (ok_stepped T hC) (hr.mono (by decide)) (a_cons (e_prog (CP := CP) hR (nm 0).eb) (a_cons (e_state (CP := CP) hR (nm 0).eb) (a_cons (nm 1) a_nil))) ⟨p, st, t, rfl, ht, hp, hok, hc, rfl⟩) a_nil))) ⟨_, _, _, rfl, rfl⟩).ev rfl
end
end Pd
end
section
set_option Elab.async false
set_option linter.all false
set_option maxRecDepth 100000
set_option maxHeartbeats 4000000
/-! Lw15: the package's program of a plain one; two runs in one state. -/
namespace Pd
open PySem PySem.Spec PyProof.Rows L2 Pz Pt Mi
section
variable {P : Program} {w : World} {K : PySem.W.Frag} {mg : Str → Option Value} {base : Heap} {CP CR : Addr}
/-- what is there to make a program -/
structure PMk (K : PySem.W.Frag) (mg : Str → Option Value) (CP : Addr) : Prop where
  name : mg "Program" = some (.ref CP)
  made : ∃ f fd, Mk K CP f ∧ FunD K "__init__" "Program.__init__" (defArgs s_Program_init) (defBody s_Program_init) (defScope s_Program_init) [] kwP f fd
  call : ∃ g fd, StX.CallO K CP g ∧ Fun K "__call__" "Program.__call__" s_Program_call g fd
theorem PMk.cal (T : Top w K mg) (hC : PCls K CP) (h : PMk K mg CP) : CalP P w K mg base 10 "Program" CP ["cells", "answers"] R_PI := by
  obtain ⟨f, fd, mk, Fd⟩ := h.made
  exact ok_Program T hC h.name mk Fd
theorem codes_get {p : Prg} : getD_ (plainK p) (.inr "codes") = some (.tup (p.map codeD)) := rfl
theorem answers_get {p : Prg} : getD_ (plainK p) (.inr "answers") = some (dk []) := rfl
def R_built (CP : Addr) : List D → D → Prop := fun ds d => ∃ p : Prg, ds = [plainD p] ∧ Okp p ∧ d = progD CP p
theorem ok_built (T : Top w K mg) (hC : PCls K CP) (hM : PMk K mg CP) : Cal P w K mg base 12 "_law_built" (R_built CP) := by
  refine cal_ok T.d_law_built c_law_built (fun ds d h => ?_) (fun _ _ _ _ _ _ us hl => match us, hl with | [_], _ => rfl) (fun f cdv A outer s H E Fm ds d hr h => ?_)
  · obtain ⟨p, rfl, _⟩ := h
    rfl
  · obtain ⟨p, rfl, hp, rfl⟩ := h
    have hu := hr.units
    exact s_ret (f_makeK (hM.cal T hC) (hr.mono (by decide)) (e_callT (T := "tuple") (b_cons (e_dix (kvs := plainK p) (ky := .inr "codes") (nm 0).eb c_str codes_get hu).eb b_nil) k_tupleT T.f_tuple) (ak_cons (e_dix (kvs := plainK p) (ky := .inr "cells") (nm 0).eb c_str cells_get hu) (ak_cons (e_dix (kvs := plainK p) (ky := .inr "answers") (nm 0).eb c_str answers_get hu) ak_nil)) rfl ⟨p, _, _, rfl, .inr rfl, .inr rfl, hp, rfl⟩).ev rfl
/-! ### same -/
theorem sh_rowsV (n : Nat) (f : Nat → List Vl) : Sh 2 (rowsOf n fun t => valsD (f t)) := .tup fun d hd => by
  obtain ⟨t, _, rfl⟩ := List.mem_map.mp hd
  exact sh_vals _
theorem sh_stpD (p : Prg) (s : Sta) : Sh 2 (stpD p s) := .tup fun d hd => by
  obtain ⟨t, _, rfl⟩ := List.mem_map.mp hd
  cases nxt p s t with
  | none => exact .non
  | some m =>
    refine .tup fun d hd => ?_
    rcases List.mem_cons.mp hd with rfl | hd
    · exact .str (by
        have h : ∀ u ∈ (["read", "write", "get", "put", "show"] : List Str), PyData.strOk u = true := by decide +kernel
        exact h _ (by cases m <;> simp [Sm.word]))
    · cases e : m.cell with
      | none => rw [e] at hd; cases hd
      | some x =>
        rw [e] at hd
        rw [List.mem_singleton.mp hd]
        exact .str (ok_cl x)
theorem held_str (p : Prg) (s : Sta) (t : Nat) (r : Rg) : Sh 0 (heldD p s t r) := by
  unfold heldD
  cases e : getD_ (dkv (code p t) (s.reg t)) (.inr r.s) with
  | none => exact .str (ok_rg r)
  | some d =>
    unfold getD_ at e
    obtain ⟨q, h1, h2⟩ := Option.map_eq_some_iff.mp e
    obtain ⟨r', _, rfl⟩ := List.mem_map.mp (List.mem_of_find?_eq_some h1)
    subst h2
    exact .str (ok_vl _)
def prsC (p : Prg) (s : Sta) : List (Str × Str) := (cellsOf p).map fun x => (x.s, (s.con x).s)
theorem celD_prs (p : Prg) (s : Sta) : celD p s = dk ((prsC p s).map prK) := by
  unfold celD prsC
  rw [List.map_map]
  rfl
def R_same (CR CP : Addr) : List D → D → Prop := fun ds d => ∃ (p : Prg) (s : Sta) (os os' : D), ds = [runD CR CP p os s, runD CR CP p os' s, .int (p.length : Int)] ∧ p.length ≤ 3 ∧ d = .bl true
theorem ok_same (T : Top w K mg) (hC : PCls K CP) (hR : RCls K CR) : Cal P w K mg base 6 "_law_same" (R_same CR CP) := by
  refine cal_ok T.d_law_same c_law_same (fun ds d h => ?_) (fun _ _ _ _ _ _ us hl => match us, hl with | [_, _, _], _ => rfl) (fun f cdv A outer s H E Fm ds d hr h => ?_)
  · obtain ⟨p, st, os, os', rfl, _⟩ := h
    rfl
  · obtain ⟨p, st, os, os', rfl, h3, rfl⟩ := h
    have hu := hr.units
    have hnd : ((prsC p st).map (·.1)).Nodup := by
      unfold prsC
      rw [List.map_map]
      exact List.Pairwise.map _ (R := fun a b => a ≠ b) (fun a b hne e => hne (cls_inj a b e)) (cells_nodup p)
    refine s_if0 (Ew.t (k := false) (w_orF (t_cmp (f_lst (a_cons (Ev.is (e_propA hR.cells (fun _ _ _ _ h2 => ok_Run_cells T hC hR h2) (hr.mono (by decide)) (nm (d := runD CR CP p os st) 0) hR.cls ⟨p, st, os, rfl, trivial, rfl⟩) (celD_prs p st)) (a_cons (e_propA (d := linD p st) hR.lines (fun _ _ _ _ h2 => ok_Run_lines T hR h2) (hr.mono (by decide)) (nm (d := runD CR CP p os st) 0) hR.cls ⟨p, st, os, rfl, trivial, rfl⟩) a_nil)) (sz_le (by simp))).ev.eb
      (f_lst (a_cons (Ev.is (e_propA hR.cells (fun _ _ _ _ h2 => ok_Run_cells T hC hR h2) (hr.mono (by decide)) (nm (d := runD CR CP p os' st) 1) hR.cls ⟨p, st, os', rfl, trivial, rfl⟩) (celD_prs p st)) (a_cons (e_propA (d := linD p st) hR.lines (fun _ _ _ _ h2 => ok_Run_lines T hR h2) (hr.mono (by decide)) (nm (d := runD CR CP p os' st) 1) hR.cls ⟨p, st, os', rfl, trivial, rfl⟩) a_nil)) (sz_le (by simp))).ev.eb (o_neDT hu hnd (sh_rowsV _ _) (by decide)))
      (w_or1 (t_cmp (e_propA (d := shwD p st) hR.shown (fun _ _ _ _ h2 => ok_Run_shown T hR h2) (hr.mono (by decide)) (nm (d := runD CR CP p os st) 0) hR.cls ⟨p, st, os, rfl, trivial, rfl⟩).eb (e_propA (d := shwD p st) hR.shown (fun _ _ _ _ h2 => ok_Run_shown T hR h2) (hr.mono (by decide)) (nm (d := runD CR CP p os' st) 1) hR.cls ⟨p, st, os', rfl, trivial, rfl⟩).eb (o_ne_F hu (sh_rowsV _ _) rfl))))) ?_
    refine s_if0 (t_cmp (e_propA (d := stpD p st) hR.next_steps (fun _ _ _ _ h2 => ok_Run_next_steps T hC hR h2) hr (nm (d := runD CR CP p os st) 0) hR.cls ⟨p, st, os, rfl, h3, rfl⟩).eb (e_propA (d := stpD p st) hR.next_steps (fun _ _ _ _ h2 => ok_Run_next_steps T hC hR h2) hr (nm (d := runD CR CP p os' st) 1) hR.cls ⟨p, st, os', rfl, h3, rfl⟩).eb (o_ne_F hu (sh_stpD p st) rfl)) ?_
    refine s_for (ds := rangeD 0 p.length) (fun _ e => ∃ x3, e = [some (.v (runD CR CP p os st)), some (.v (runD CR CP p os' st)), some (.v (.int (p.length : Int))), x3, none]) pnever rfl (i_range1 (a_cons (nm 2) a_nil) T.f_range (by omega)) (tg_nm 3 c_law_same.nd) ⟨_, rfl⟩ (fun t d e hd hP => ?_) (fun e hP => ?_)
    · obtain ⟨x3, rfl⟩ := hP
      obtain ⟨ht, rfl⟩ := rangeD_get hd
      refine ⟨_, rfl, ?_⟩
      rw [Int.zero_add]
      have hsg : ∀ d ∈ signsD "abr", ∃ r : Rg, d = D.str r.s := fun d hd => by
        have hsg : signsD "abr" = [Rg.a, .b, .r].map fun r => D.str r.s := rfl
        rw [hsg] at hd
        obtain ⟨r, _, rfl⟩ := List.mem_map.mp hd
        exact ⟨r, rfl⟩
      have hi : ∀ a b : Rg, D.str a.s = D.str b.s → a = b := fun a b h => rgs_inj a b (D.str.inj h)
      have hsh : Sh 1 (.lst ((signsD "abr").map (gOf (fun r : Rg => D.str r.s) (heldD p st t)))) := .lst fun d hd => by
        obtain ⟨x, hx, rfl⟩ := List.mem_map.mp hd
        obtain ⟨r, rfl⟩ := hsg x hx
        rw [gOf_at hi]
        exact held_str p st t r
      obtain ⟨g, fd, hmeth, hfun⟩ := hR.held
      refine s_if0 (t_cmp (f_lc (ds := signsD "abr") [("_law_name", 4)] (gOf (fun r : Rg => D.str r.s) (heldD p st t)) rfl c_law_same.nd (blkOk_by (N := n_law_same) (sc := defScope s_law_same) (by decide +kernel)) (i_str c_str) (fun _ _ _ _ _ => tg_nm 4 c_law_same.nd) (fun d hd => ⟨[d], rfl, ?_⟩) (by decide)).ev.eb (f_lc (ds := signsD "abr") [("_law_name", 4)] (gOf (fun r : Rg => D.str r.s) (heldD p st t)) rfl c_law_same.nd (blkOk_by (N := n_law_same) (sc := defScope s_law_same) (by decide +kernel)) (i_str c_str) (fun _ _ _ _ _ => tg_nm 4 c_law_same.nd) (fun d hd => ⟨[d], rfl, ?_⟩) (by decide)).ev.eb (o_ne_F hu hsh rfl)) (s_nil ⟨_, rfl⟩)
      · obtain ⟨r, rfl⟩ := hsg d hd
        rw [gOf_at hi]
        exact fun _ _ _ _ _ => e_meth (ok_Run_held T hC hR hfun) (hr.mono (by decide) : Room 3 _) (nm (d := runD CR CP p os st) 0) hR.cls hmeth rfl (a_cons (nm 3) (a_cons (nm 4) a_nil)) ⟨p, st, os, t, r, rfl, ht, nm7_rg r, rfl⟩
      · obtain ⟨r, rfl⟩ := hsg d hd
        rw [gOf_at hi]
        exact fun _ _ _ _ _ => e_meth (ok_Run_held T hC hR hfun) (hr.mono (by decide) : Room 3 _) (nm (d := runD CR CP p os' st) 1) hR.cls hmeth rfl (a_cons (nm 3) (a_cons (nm 4) a_nil)) ⟨p, st, os', t, r, rfl, ht, nm7_rg r, rfl⟩
    · obtain ⟨x3, rfl⟩ := hP
      exact s_ret c_bl rfl
end
end Pd
end
section
set_option Elab.async false
set_option linter.all false
set_option maxRecDepth 100000
set_option maxHeartbeats 4000000
/-! Lw16: a program led to an end. -/
namespace Pd
open PySem PySem.Spec PyProof.Rows L2 Pz Pt Mi
section
variable {X : Cx} {F : Fr} {en : En} {e1 e2 : Expr} {xs : List D} {p pos : Pos} {x : Addr}
theorem e_oneOfT (C : CalZ X.prog X.w X.K X.mg X.base 2 "_law_one_of" PreOne R_one) (df : DF F x) (hr : Room 2 X.A) (h1 : Ev X F en e1 (.ref x)) (h2 : Ev X F en e2 (.tup xs)) (hl : 0 < xs.length ∧ xs.length ≤ 1000) (hg : Gl X "_law_one_of" := by rfl)
    (he : starEach [e1, e2] X.env = (false, eval e1 X.env) :: starEach [e2] X.env := by rfl) (he2 : starEach [e2] X.env = (false, eval e2 X.env) :: starEach [] X.env := by rfl) (hpl : (backTo pos (starEach [e2] X.env)).any (·.1) = false := by rfl) : EvW X F en (.Call (.Name "_law_one_of" p) [e1, e2] [] pos) (fun d => d ∈ xs) := by
  refine e_callZ (x := x) C df hr (aw_cons (Ev.w (K := fun d => d = .ref x) h1 rfl) (aw_cons (Ev.w (K := fun d => d = .tup xs) h2 rfl) aw_nil he2) he) (fun l hl' => ?_) hg (by decide) he hpl
  obtain ⟨_, _, rfl, rfl, _, _, rfl, rfl, rfl⟩ := hl'
  refine ⟨_, rfl, ⟨xs, .inr rfl, hl.1, hl.2⟩, fun d hd => ?_⟩
  obtain ⟨ys, h, hm⟩ := hd
  rcases h with h | h
  · cases h
  · have : xs = ys := D.tup.inj (List.cons.inj h).1
    exact this ▸ hm
end
def keyD (p : Prg) (s : Sta) : D := rowsOf p.length fun t => .int (s.pos t : Int)
def metE (CR CP : Addr) (p : Prg) (L : List (Sta × List D)) : List (D × D) := L.map fun q => (keyD p q.1, runD CR CP p (.tup q.2) q.1)
structure Met (p : Prg) (L : List (Sta × List D)) : Prop where
  re : ∀ q ∈ L, Reach p q.1
  nd : L.Pairwise fun a b => a.1 ≠ b.1
section
variable {p : Prg} {s s' : Sta} {L : List (Sta × List D)} {CR CP : Addr} {os : List D}
theorem key_inj (ho : Orderly p) (h : Reach p s) (h' : Reach p s') (e : keyD p s = keyD p s') : s = s' := reach_inj ho h h' fun t ht => Int.natCast_inj.mp (D.int.inj (rows_inj e ht))
theorem hk_key : Hk 1 (keyD p s) := hk_rows (m := 0) fun t => .int
theorem key_nk (ho : Orderly p) (h : Reach p s) (h' : Reach p s') (e : (keyD p s).nk = (keyD p s').nk) : s = s' := by
  have := nk_inj hk_key hk_key e
  unfold keyD at this
  rw [er_rows _ fun t => by simp [D.er], er_rows _ fun t => by simp [D.er]] at this
  exact key_inj ho h h' this
theorem hes_met : ∀ q ∈ metE CR CP p L, Hk 7 q.1 := fun q hq => by
  obtain ⟨a, _, rfl⟩ := List.mem_map.mp hq
  exact hk_up hk_key (by decide)
theorem Met.few (hp : Good p) (h : Met p L) : L.length ≤ 1000 := by
  have := reach_few hp.ord hp.ok.two.2 hp.nine (l := L.map (·.1)) (fun s hs => by
    obtain ⟨q, hq, rfl⟩ := List.mem_map.mp hs
    exact h.re q hq) (List.pairwise_map.mpr h.nd)
  simpa using this
theorem met_in (h : s ∈ L.map (·.1)) : ∃ q ∈ metE CR CP p L, q.1 = keyD p s := by
  obtain ⟨a, ha, rfl⟩ := List.mem_map.mp h
  exact ⟨_, List.mem_map.mpr ⟨a, ha, rfl⟩, rfl⟩
theorem met_out (ho : Orderly p) (hm : Met p L) (hs : Reach p s) (h : s ∉ L.map (·.1)) : ∀ q ∈ metE CR CP p L, q.1.nk ≠ (keyD p s).nk := fun q hq z => by
  obtain ⟨a, ha, rfl⟩ := List.mem_map.mp hq
  have := key_nk ho (hm.re a ha) hs z
  exact h (List.mem_map.mpr ⟨a, ha, this⟩)
theorem pw_uniq {α β : Type} {f : α → β} {L : List α} (h : L.Pairwise fun a b => f a ≠ f b) {a b : α} (ha : a ∈ L) (hb : b ∈ L) (e : f a = f b) : a = b := by
  induction L with
  | nil => cases ha
  | cons x L ih =>
    obtain ⟨h1, h2⟩ := List.pairwise_cons.mp h
    rcases List.mem_cons.mp ha with e1 | ha1
    · rcases List.mem_cons.mp hb with e2 | hb1
      · rw [e1, e2]
      · exact absurd e (by rw [e1]; exact h1 b hb1)
    · rcases List.mem_cons.mp hb with e2 | hb1
      · exact absurd e.symm (by rw [e2]; exact h1 a ha1)
      · exact ih h2 ha1 hb1
open Classical in
noncomputable def putM (L : List (Sta × List D)) (s : Sta) (os : List D) : List (Sta × List D) := if s ∈ L.map (·.1) then L.map (fun q => if q.1 = s then (s, os) else q) else L ++ [(s, os)]
open Classical in
theorem putM_met (h : Met p L) (hs : Reach p s) : Met p (putM L s os) := by
  unfold putM
  by_cases hm : s ∈ L.map (·.1)
  · rw [if_pos hm]
    have e1 : ∀ q : Sta × List D, (if q.1 = s then (s, os) else q).1 = q.1 := fun q => by
      by_cases e : q.1 = s
      · rw [if_pos e, e]
      · rw [if_neg e]
    refine ⟨fun q hq => ?_, List.pairwise_map.mpr (h.nd.imp fun hab => by rw [e1, e1]; exact hab)⟩
    obtain ⟨a, ha, rfl⟩ := List.mem_map.mp hq
    rw [e1]
    exact h.re a ha
  · rw [if_neg hm]
    refine ⟨fun q hq => ?_, List.pairwise_append.mpr ⟨h.nd, List.pairwise_singleton _ _, fun a ha b hb e => ?_⟩⟩
    · rcases List.mem_append.mp hq with hq | hq
      · exact h.re q hq
      · rw [List.mem_singleton.mp hq]; exact hs
    · rw [List.mem_singleton.mp hb] at e
      exact hm (List.mem_map.mpr ⟨a, ha, e⟩)
open Classical in
theorem putM_E (ho : Orderly p) (h : Met p L) (hs : Reach p s) : putN (metE CR CP p L) (keyD p s) (runD CR CP p (.tup os) s) = metE CR CP p (putM L s os) := by
  unfold putN putM
  by_cases hm : s ∈ L.map (·.1)
  · rw [if_pos hm, if_pos]
    · unfold metE
      rw [List.map_map, List.map_map]
      refine List.map_congr_left fun q hq => ?_
      by_cases e : q.1 = s
      · simp only [Function.comp_apply, e, if_true]
      · have : ¬ (keyD p q.1).nk = (keyD p s).nk := fun z => e (key_nk ho (h.re q hq) hs z)
        simp only [Function.comp_apply, e, this, if_false]
    · obtain ⟨q, h1, h2⟩ := met_in (CR := CR) (CP := CP) (p := p) hm
      exact List.any_eq_true.mpr ⟨q, h1, by rw [h2]; simp⟩
  · rw [if_neg hm, if_neg]
    · unfold metE
      rw [List.map_append]
      rfl
    · intro z
      obtain ⟨q, h1, h2⟩ := List.any_eq_true.mp z
      exact met_out ho h hs hm q h1 (of_decide_eq_true h2)
def tot (s : Sta) : Nat := s.pos 0 + s.pos 1 + s.pos 2
theorem tot_le (hp : Okp p) (h : Reach p s) : tot s ≤ 60 := by
  have hb : ∀ t, s.pos t ≤ 20 := fun t => by
    by_cases ht : t < p.length
    · exact Nat.le_trans (h.okc.pos t ht) (hp.code t)
    · rw [h.high (by omega)]; omega
  have := hb 0; have := hb 1; have := hb 2
  unfold tot
  omega
theorem tot_stp {t : Nat} (h3 : p.length ≤ 3) (ht : t < p.length) (c : can p s t = true) : tot (stp p s t) = tot s + 1 := by
  unfold tot
  rw [pos_stp c]
  match t, ht with
  | 0, _ => simp only [up_same, up_ne (show (1 : Nat) ≠ 0 by decide), up_ne (show (2 : Nat) ≠ 0 by decide)]; omega
  | 1, _ => simp only [up_same, up_ne (show (0 : Nat) ≠ 1 by decide), up_ne (show (2 : Nat) ≠ 1 by decide)]; omega
  | 2, _ => simp only [up_same, up_ne (show (0 : Nat) ≠ 2 by decide), up_ne (show (1 : Nat) ≠ 2 by decide)]; omega
  | t + 3, ht => omega
end
def muR (e : En) : Nat := match e[4]? with
  | some (some (Sl.v (D.ins _ [_, (_, D.tup os), _]))) => 100 - os.length
  | _ => 0
section
variable {P : Program} {w : World} {K : PySem.W.Frag} {mg : Str → Option Value} {base : Heap} {CP CR : Addr}
def PreLed (CR CP : Addr) (p : Prg) : List D → D → Prop := fun ds d0 => ∃ L, ds = [progD CP p, .int (p.length : Int)] ∧ Met p L ∧ d0 = .dcn (metE CR CP p L)
def R_led (CR CP : Addr) (p : Prg) : List D → D → D → D → Prop := fun _ _ z d1 => ∃ L os s, z = runD CR CP p (.tup os) s ∧ Reach p s ∧ IsEnd p s ∧ Met p L ∧ d1 = .dcn (metE CR CP p L)
theorem ok_led (T : Top w K mg) (hC : PCls K CP) (hR : RCls K CR) (hRM : RMk K mg CR) (hPM : PMk K mg CP) {p : Prg} (hp : Good p) : CalL P w K mg base 7 "_law_led" (PreLed CR CP p) (R_led CR CP p) := by
  refine calL_ok T.d_law_led c_law_led (fun ds d h => ?_) (fun _ _ _ _ _ _ us hl => match us, hl with | [_, _, _, _], _ => rfl) (fun f cdv A outer s H E Fm x y ds d0 df hr h => ?_)
  · obtain ⟨L, rfl, _⟩ := h
    rfl
  · obtain ⟨L, rfl, hL, rfl⟩ := h
    have hu := hr.units
    have h3 := hp.ok.two.2
    obtain ⟨gc, fdc, hcall, hcf⟩ := hPM.call
    obtain ⟨ga, fda, hmeth, haf⟩ := hR.after
    refine s_par2 4 5 rfl c_law_led.nd (as_v (e_callO (ok_pcall T hC hR hRM hcf) (hr.mono (by decide)) (nm (d := progD CP p) 1) hcall (a_cons (e_tup a_nil (by decide)) a_nil) ⟨p, rfl, hp.ok, rfl⟩) (as_o (f_lc (ds := rangeD 0 p.length) [("_law_thread", 6)] (fun _ => .int 0) rfl c_law_led.nd (blkOk_by (N := n_law_led) (sc := defScope s_law_led) (by decide +kernel)) (i_range1 (a_cons (nm 2) a_nil) T.f_range (by omega)) (fun _ _ _ _ _ => tg_nm 6 c_law_led.nd) (fun d hd => ⟨[d], rfl, fun _ _ _ _ _ => c_int⟩) (by rw [rangeD_len]; omega)) as_nil)) ?_
    have hz : (rangeD 0 p.length).map (fun _ => D.int 0) = (List.range p.length).map fun t => D.int ((Sta.first.pos t : Nat) : Int) := by
      unfold rangeD
      rw [List.map_map]
      rfl
    rw [hz]
    refine s_while (fun e => ∃ s os L x6 x7, Reach p s ∧ os.length = tot s ∧ Met p L ∧ e = [some (.v (.ref x)), some (.v (progD CP p)), some (.v (.int (p.length : Int))), some (.own (.atA y (.dcn (metE CR CP p L)))), some (.v (runD CR CP p (.tup os) s)), some (.own (.lst ((List.range p.length).map fun t => D.int ((s.pos t : Nat) : Int)))), x6, x7]) muR pnever ⟨.first, [], L, _, _, .first, rfl, hL, rfl⟩ (fun e he => ?_)
    obtain ⟨s, os, L, x6, x7, hs, hos, hL, rfl⟩ := he
    have htot := tot_le hp.ok hs
    refine ⟨!(ready p s).isEmpty, t_not (t_bool (e_propA (d := .bl (ready p s).isEmpty) hR.is_end (fun _ _ _ _ h2 => ok_Run_is_end T hC hR h2) (hr.mono (by decide)) (nm (d := runD CR CP p (.tup os) s) 4) hR.cls ⟨p, s, .tup os, rfl, h3, rfl⟩)), ⟨fun hz => ?_, fun hz => ?_⟩⟩
    · have hne : ready p s ≠ [] := fun z => by rw [z] at hz; cases hz
      have hlen : 0 < (ready p s).length := List.length_pos_iff.mpr hne
      have hlen2 : (ready p s).length ≤ 1000 := by
        unfold ready
        refine Nat.le_trans (List.length_filter_le _ _) ?_
        rw [List.length_range]; omega
      refine s_setW 6 c_law_led.nd (K := fun d => ∃ t : Nat, t < p.length ∧ can p s t = true ∧ d = .int (t : Int)) ((e_oneOfT (xs := (ready p s).map fun n : Nat => .int (n : Int)) (ok_one T) df (hr.mono (by decide)) (nm 0) (e_propA (d := intsD (ready p s)) hR.ready (fun _ _ _ _ h2 => ok_Run_ready T hC hR h2) (hr.mono (by decide)) (nm (d := runD CR CP p (.tup os) s) 4) hR.cls ⟨p, s, .tup os, rfl, h3, rfl⟩) (by simp; exact ⟨hlen, hlen2⟩)).to fun d hd => ?_) (fun d hd => ?_)
      · obtain ⟨t, ht, rfl⟩ := List.mem_map.mp hd
        obtain ⟨h1, h2⟩ := mem_ready.mp ht
        exact ⟨t, h1, h2, rfl⟩
      · obtain ⟨t, ht, ct, rfl⟩ := hd
        have hs' := hs.stp ht ct
        refine s_set 4 c_law_led.nd (e_meth (ok_after T hC hR hRM haf) (hr.mono (by decide)) (nm (d := runD CR CP p (.tup os) s) 4) hR.cls hmeth rfl (a_cons (nm 6) a_nil) ⟨p, s, os, t, rfl, ht, hp.ok, hs.okc, ct, by omega, rfl⟩) ?_
        refine s_setL (xs := (List.range p.length).map fun t => D.int ((s.pos t : Nat) : Int)) (j := t) (d := .int ((s.pos t + 1 : Nat) : Int)) 5 (e_bin (e_ix (no 5) (nm 6) (x_lst (range_at (fun t => D.int ((s.pos t : Nat) : Int)) ht))).eb c_int.eb (o_add.is (by simp))) (nm 6) (by simpa using ht) ?_
        rw [rows_set (g := fun u => D.int (((stp p s t).pos u : Nat) : Int)) ht (by rw [pos_stp ct, up_same]) fun u hu' => by rw [pos_stp ct, up_ne hu']]
        refine s_set 7 c_law_led.nd (d := keyD p (stp p s t)) (e_callT (T := "tuple") (b_cons (no 5) b_nil) k_tuple T.f_tuple) ?_
        refine s_if0 (Ew.t (w_orF (t_cmp (e_propA (d := .tup []) hR.clashing (fun _ _ _ _ h2 => ok_Run_clashing T hC hR h2) hr (nm (d := runD CR CP p (.tup (os ++ [.int (t : Int)])) (stp p s t)) 4) hR.cls ⟨p, stp p s t, .tup (os ++ [.int (t : Int)]), rfl, ⟨h3, hp.ord _ hs'⟩, rfl⟩).eb (e_tup a_nil (by decide)).eb (o_ne_F hu sh_nil rfl)) (w_or1 (k := false) ?_))) ?_
        · by_cases hm : stp p s t ∈ L.map (·.1)
          · obtain ⟨a, ha, e⟩ := List.mem_map.mp hm
            refine (w_andT (t_cmp (nm (d := keyD p (stp p s t)) 7).eb (noA 3) (o_inN (r := true) hu hk_key (by decide) hes_met (.inl ⟨rfl, met_in hm⟩))) (w_and1 (t_notT (t_bool (e_call (ok_same T hC hR) hr (a_cons (e_ixN (d := runD CR CP p (.tup a.2) (stp p s t)) hu (noA 3) (nm (d := keyD p (stp p s t)) 7) hk_key (by decide) hes_met (met_in hm) (fun q hq z => ?_)) (a_cons (nm (d := runD CR CP p (.tup (os ++ [.int (t : Int)])) (stp p s t)) 4) (a_cons (nm 2) a_nil))) ⟨p, stp p s t, .tup a.2, .tup (os ++ [.int (t : Int)]), rfl, h3, rfl⟩))))).t
            obtain ⟨b, hb, rfl⟩ := List.mem_map.mp hq
            have e2 := key_nk hp.ord (hL.re b hb) hs' z
            have e3 := pw_uniq (f := fun q : Sta × List D => q.1) hL.nd hb ha (e2.trans e.symm)
            subst e3
            show runD CR CP p (.tup b.2) b.1 = _
            rw [e2]
          · exact (w_andF (t_cmp (nm (d := keyD p (stp p s t)) 7).eb (noA 3) (o_inN (r := false) hu hk_key (by decide) hes_met (.inr ⟨rfl, met_out hp.ord hL hs' hm⟩)))).t
        · refine s_dputNA (es := metE CR CP p L) (d := runD CR CP p (.tup (os ++ [.int (t : Int)])) (stp p s t)) (ds := (List.range p.length).map fun u => D.int (((stp p s t).pos u : Nat) : Int)) 3 (nm 4) (nm 7) ?_ hu hk_key (by decide) hes_met (by have := hL.few hp; unfold metE; rw [List.length_map]; omega)
          rw [show putN (metE CR CP p L) (.tup ((List.range p.length).map fun u => D.int (((stp p s t).pos u : Nat) : Int))) (runD CR CP p (.tup (os ++ [.int (t : Int)])) (stp p s t)) = metE CR CP p (putM L (stp p s t) (os ++ [.int (t : Int)])) from putM_E hp.ord hL hs']
          refine s_nil ⟨⟨stp p s t, os ++ [.int (t : Int)], putM L (stp p s t) (os ++ [.int (t : Int)]), _, _, hs', by rw [List.length_append, hos, tot_stp h3 ht ct]; rfl, putM_met hL hs', rfl⟩, ?_⟩
          show 100 - (os ++ [D.int (t : Int)]).length < 100 - os.length
          rw [List.length_append, List.length_singleton]
          omega
    · have hnil : ready p s = [] := by
        cases e : ready p s with
        | nil => rfl
        | cons a l => rw [e] at hz; cases hz
      exact s_retE (K := fun d => d = runD CR CP p (.tup os) s) (Ev.w (nm 4) rfl) (fun d hd => ⟨.dcn (metE CR CP p L), rfl, L, os, s, hd, hs, ready_nil.mp hnil, hL, rfl⟩)
end
end Pd
end
section
set_option Elab.async false
set_option linter.all false
set_option maxRecDepth 100000
set_option maxHeartbeats 4000000
/-! Lw17: a drawn program is right. -/
namespace Pd
open PySem PySem.Spec PyProof.Rows L2 Pz Pt Mi
theorem first_end {p : Prg} (hp : Okp p) : ∃ e, Reach p e ∧ IsEnd p e := by
  obtain ⟨w, e, r, he⟩ := has_end hp.two.2 _ .first .first (Nat.le_refl _)
  exact ⟨e, Reach.first.runs r, he⟩
section
variable {P : Program} {w : World} {K : PySem.W.Frag} {mg : Str → Option Value} {base : Heap} {CP CR : Addr}
def PreRight : List D → Prop := fun ds => ds = []
def R_right : List D → D → Prop := fun _ d => d = .bl true
theorem ok_right (T : Top w K mg) (hC : PCls K CP) (hR : RCls K CR) (hRM : RMk K mg CR) (hPM : PMk K mg CP) : CalZ P w K mg base 13 "_law_right" PreRight R_right := by
  refine calZ_ok T.d_law_right c_law_right (fun ds h => by cases h; rfl) (fun _ _ _ _ _ _ us hl => match us, hl with | [_], _ => rfl) (fun f cdv A outer s H E Fm x ds df hr h => ?_)
  have hds : ds = [] := h
  subst hds
  have hu := hr.units
  refine s_setW 1 c_law_right.nd (K := fun d => ∃ n : Nat, (n = 2 ∨ n = 3) ∧ d = .int (n : Int)) ((e_oneOf (ok_one T) df (hr.mono (by decide)) (nm 0) (f_lst (a_cons c_int (a_cons c_int (a_cons c_int a_nil))) (sz_le (by simp))).ev (by decide)).to fun z hz => ?_) (fun d hd => ?_)
  · simp only [List.mem_cons, List.not_mem_nil, or_false] at hz
    rcases hz with rfl | rfl | rfl
    · exact ⟨2, .inl rfl, rfl⟩
    · exact ⟨2, .inl rfl, rfl⟩
    · exact ⟨3, .inr rfl, rfl⟩
  obtain ⟨n, hn, rfl⟩ := hd
  refine s_setW 2 c_law_right.nd (K := fun d => ∃ p : Prg, Drawn p n ∧ d = plainD p) (e_callZ (x := x) (ok_calm T) df (hr.mono (by decide)) (aw_cons (Ev.w (K := fun d => d = .ref x) (nm 0) rfl) (aw_cons (Ev.w (K := fun d => d = .int (n : Int)) (nm 1) rfl) aw_nil)) (fun l hl => ?_)) (fun d hd => ?_)
  · obtain ⟨_, _, rfl, rfl, _, _, rfl, rfl, rfl⟩ := hl
    refine ⟨_, rfl, ⟨n, rfl, hn⟩, fun d hd => ?_⟩
    obtain ⟨m, p, h1, h2, h3, h4⟩ := hd
    have : n = m := by
      have := D.int.inj (List.cons.inj h1).1
      omega
    subst this
    exact ⟨p, h3, h4⟩
  obtain ⟨p, hdr, rfl⟩ := hd
  have hlen := hdr.len
  have hok : Okp p := ⟨by omega, fun c hc => Nat.le_trans (hdr.nine c hc) (by decide)⟩
  refine s_setW 3 c_law_right.nd (e_callW (ok_lstates T hok) (hr.mono (by decide)) (a_cons (nm 2) (a_cons c_int a_nil)) rfl) (fun d hd => ?_)
  rcases hd with rfl | ⟨L, lk, rfl, hlk, hL6, hA⟩
  · exact s_ifT (w_orT (t_cmp (nm 3).eb c_non.eb o_isNn)).t (s_ret c_bl rfl)
  have hne : D.dcn (esF (lawD p) L lk) ≠ .non := fun h => nomatch h
  by_cases ho : Orderly p
  · have hp : Good p := ⟨hok, ho, hdr.nine⟩
    obtain ⟨e0, h0, he0⟩ := first_end hok
    refine s_if0 (w_orF (t_cmp (nm 3).eb c_non.eb (o_isN hne)) (w_or1 (t_notT (t_bool (EvW.ev (EvW.to (e_callW (Pre := PreLor p L lk) (R := R_lor p) (k := 3) (ok_lord T hok hlk hL6 hA) (hr.mono (by decide)) (a_cons (nm 2) (a_cons (nm 3) a_nil)) rfl) fun z hz => ?_)))))).t ?_
    · obtain ⟨b, rfl, hb⟩ := hz
      rw [hb.mpr ho]
    refine s_par2 4 5 rfl c_law_right.nd (as_v (e_call (ok_built T hC hPM) hr (a_cons (nm 2) a_nil) ⟨p, rfl, hok, rfl⟩) (as_o f_dnewN as_nil)) ?_
    refine s_set 6 c_law_right.nd (d := shwD p e0) (e_call (ok_outcome T hC hPM.name) (hr.mono (by decide)) (a_cons (nm 4) a_nil) ⟨p, e0, rfl, hp, h0, he0, rfl⟩) ?_
    refine s_for (ds := rangeD 0 5) (fun _ e => ∃ M x7 x8, Met p M ∧ e = [some (.v (.ref x)), some (.v (.int (n : Int))), some (.v (plainD p)), some (.v (.dcn (esF (lawD p) L lk))), some (.v (progD CP p)), some (.own (.dcn (metE CR CP p M))), some (.v (shwD p e0)), x7, x8]) pnever rfl (i_range1 (n := 5) (a_cons c_int a_nil) T.f_range) (tg_nm 7 c_law_right.nd) ⟨[], _, _, ⟨fun q h => absurd h List.not_mem_nil, .nil⟩, rfl⟩ (fun t d e hd hP => ?_) (fun e hP => ?_)
    · obtain ⟨M, x7, x8, hM, rfl⟩ := hP
      refine ⟨_, rfl, ?_⟩
      refine s_lend 8 5 (ok_led T hC hR hRM hPM hp) df (hr.mono (by decide)) c_law_right.nd (al_cons (nm 0) (al_cons (nm 4) (al_cons (nm 1) (al_last 5)))) ⟨M, by rw [hlen], hM, rfl⟩ (by decide) (fun z d1 hRl => ?_)
      obtain ⟨M', os, s', rfl, hs', hes', hM', rfl⟩ := hRl
      have e1 : s' = e0 := ends_eq ho hs' h0 hes' he0
      subst e1
      refine s_if0 (w_orF (t_cmp (nm (d := runD CR CP p (.tup os) s') 8).eb c_non.eb (o_isN (fun h => nomatch h))) (w_or1 (t_cmp (e_propA (d := shwD p s') hR.shown (fun _ _ _ _ h2 => ok_Run_shown T hR h2) (hr.mono (by decide)) (nm (d := runD CR CP p (.tup os) s') 8) hR.cls ⟨p, s', .tup os, rfl, trivial, rfl⟩).eb (nm 6).eb (o_ne_F hu (sh_rowsV _ _) rfl)))).t ?_
      exact s_nil ⟨M', _, _, hM', rfl⟩
    · obtain ⟨M, x7, x8, hM, rfl⟩ := hP
      have hsh : Sh 3 (.tup [shwD p e0]) := .tup fun d hd => by
        rw [List.mem_singleton.mp hd]
        exact sh_rowsV _ _
      refine s_ret (e_andT (e_chainT (x := .tup [shwD p e0]) (y := .tup [shwD p e0]) (z := .tup [shwD p e0]) (e_call (ok_ends T hC hPM.name) (hr.mono (by decide)) (a_cons (nm 4) a_nil) ⟨p, e0, rfl, hp, h0, he0, rfl⟩).eb (e_tup (a_cons (nm 6) a_nil) (sz_le (by simp))).eb (Ev.eb (EvW.ev (e_callTW (T := "tuple") (e_callW (Pre := PreLor p L lk) (R := R_lends p e0) (k := 3) (ok_lends T hp hlk hL6 hA h0 he0) (hr.mono (by decide)) (a_cons (nm 2) (a_cons (nm 3) a_nil)) rfl) (fun z hz => ?_) T.f_tuple))) (o_eq_T hu hsh rfl) (o_eq_T hu hsh rfl)) (e_one (e_call (ok_is_orderly T hC hPM.name) (hr.mono (by decide)) (a_cons (nm 4) a_nil) ⟨p, rfl, hp, rfl⟩))) rfl
      have hz' : z = .lst [shD p e0] := hz
      subst hz'
      exact ⟨_, k_tuple, rfl⟩
  · refine s_ifT (w_orF (t_cmp (nm 3).eb c_non.eb (o_isN hne)) (w_or1 (t_notF (t_bool (EvW.ev (EvW.to (e_callW (Pre := PreLor p L lk) (R := R_lor p) (k := 3) (ok_lord T hok hlk hL6 hA) (hr.mono (by decide)) (a_cons (nm 2) (a_cons (nm 3) a_nil)) rfl) fun z hz => ?_)))))).t (s_ret c_bl rfl)
    obtain ⟨b, rfl, hb⟩ := hz
    cases b with
    | false => rfl
    | true => exact absurd (hb.mp rfl) ho
end
end Pd
end
section
set_option Elab.async false
set_option linter.all false
set_option maxRecDepth 100000
set_option maxHeartbeats 4000000
/-! Lw18: the law. -/
namespace Pd
open PySem PySem.Spec PyProof.Rows L2 Pz Pt Mi
/-- the stuck program -/
def stuckP : Prg := [[.gt .a, .wr .x .a], [.pt .b, .pt .a, .gt .c, .sh .c]]
theorem stuck_ok : Okp stuckP := ⟨by decide, fun c hc => by
  simp only [stuckP, List.mem_cons, List.not_mem_nil, or_false] at hc
  rcases hc with rfl | rfl <;> decide⟩
theorem stuck_nine : ∀ c ∈ stuckP, c.length ≤ 9 := fun c hc => by
  simp only [stuckP, List.mem_cons, List.not_mem_nil, or_false] at hc
  rcases hc with rfl | rfl <;> decide
theorem stuck_ord : Orderly stuckP := fun s _ i j hi hj hne => by
  have h1 : clO (nxt stuckP s 1) = none := by
    show clO ([Sm.pt .b, .pt .a, .gt .c, .sh .c][s.pos 1]?) = none
    match s.pos 1 with
    | 0 => rfl
    | 1 => rfl
    | 2 => rfl
    | 3 => rfl
    | n + 4 => rfl
  have hi2 : i < 2 := hi
  have hj2 : j < 2 := hj
  rw [clash2_eq]
  by_cases e : i = 1
  · subst e
    rw [h1]
  · have e2 : j = 1 := by omega
    subst e2
    rw [h1]
    cases clO (nxt stuckP s i) <;> rfl
theorem stuck_good : Good stuckP := ⟨stuck_ok, stuck_ord, stuck_nine⟩
def stuckE : Sta := stp stuckP (stp stuckP (stp stuckP (stp stuckP .first 1) 0) 0) 1
theorem stuck_reach : Reach stuckP stuckE := ⟨[1, 0, 0, 1], .cons (by decide) rfl (.cons (by decide) rfl (.cons (by decide) rfl (.cons (by decide) rfl .nil)))⟩
theorem stuck_end : IsEnd stuckP stuckE := fun t ht => by
  have h2 : t < 2 := ht
  match t, h2 with
  | 0, _ => rfl
  | 1, _ => rfl
theorem stuck_shw : shwD stuckP stuckE = .tup [.tup [], .tup []] := rfl
section
variable {P : Program} {w : World} {K : PySem.W.Frag} {mg : Str → Option Value} {base : Heap} {CP CR : Addr}
def R_law : List D → D → Prop := fun ds d => ∃ ns : List Int, ds = [.lst (ns.map .int)] ∧ ns.length ≤ 63 ∧ d = .bl true
theorem ok_law (T : Top w K mg) (hC : PCls K CP) (hR : RCls K CR) (hRM : RMk K mg CR) (hPM : PMk K mg CP) {f : Addr} {fd : FuncData} (C : Fun K "law" "law" s_law f fd) : FnOk P w K mg base CX0 14 f fd p_law (spF ⟨P, w, K⟩ R_law) := by
  refine def_ok C c_law (fun ds d h => ?_) (fun cdv A outer s H E Fm ds d hr h => ?_)
  · obtain ⟨ns, rfl, _⟩ := h
    rfl
  · obtain ⟨ns, rfl, hns, rfl⟩ := h
    have hu := hr.units
    refine s_for (ds := rangeD 0 (max 1 (min 6 ns.length))) (fun _ e => ∃ x1 x2 x3, e = [some (.v (.lst (ns.map .int))), x1, x2, x3, none]) pnever rfl (i_range1 (a_cons (Ev.is (x := .int ((max 1 (min 6 ns.length) : Nat) : Int)) (e_callB (b_cons c_int.eb (b_cons (e_callB (b_cons c_int.eb (b_cons (e_callB (b_cons (nm (d := .lst (ns.map .int)) 0).eb b_nil) k_len T.f_len).eb b_nil)) (k_min2 rfl) T.f_min).eb b_nil)) (k_max2 rfl) T.f_max) ?_) a_nil) T.f_range (by omega)) (tg_nm 1 c_law.nd) ⟨_, _, _, rfl⟩ (fun t d e hd hP => ?_) (fun e hP => ?_)
    · rw [List.length_map]
      congr 1
      split <;> split at * <;> omega
    · obtain ⟨x1, x2, x3, rfl⟩ := hP
      obtain ⟨ht, rfl⟩ := rangeD_get hd
      refine ⟨_, rfl, ?_⟩
      rw [Int.zero_add]
      refine s_setO 2 c_law.nd (f_call (ok_dice T) (hr.mono (by decide)) (a_cons (nm 0) (a_cons (nm 1) a_nil)) ⟨ns, t, rfl, by omega, rfl⟩) ?_
      refine s_for (ds := rangeD 0 3) (fun _ e => ∃ (a b c : Int) (x3 : Option Sl), e = [some (.v (.lst (ns.map .int))), some (.v (.int (t : Int))), some (.own (.lst [.int a, .int b, .int c])), x3, none]) pnever rfl (i_range1 (n := 3) (a_cons c_int a_nil) T.f_range) (tg_nm 3 c_law.nd) ⟨_, _, _, _, rfl⟩ (fun u d e hd hP => ?_) (fun e hP => ?_)
      · obtain ⟨a, b, c, x3, rfl⟩ := hP
        refine ⟨_, rfl, ?_⟩
        exact s_ifDice 2 (ok_right T hC hR hRM hPM) hr rfl (fun d h => h) fun a b c => s_nil ⟨a, b, c, _, rfl⟩
      · obtain ⟨a, b, c, x3, rfl⟩ := hP
        exact s_nil ⟨_, _, _, rfl⟩
    · obtain ⟨x1, x2, x3, rfl⟩ := hP
      refine s_set 4 c_law.nd (d := progD CP stuckP) (f_makeD (d := .tup (stuckP.map codeD)) (hPM.cal T hC) (hr.mono (by decide)) (Ev.is (e_tup (a_cons (e_tup (a_cons (e_tup (a_cons c_str (a_cons c_str a_nil)) (sz_le (by simp))) (a_cons (e_tup (a_cons c_str (a_cons c_str (a_cons c_str a_nil))) (sz_le (by simp))) a_nil)) (sz_le (by simp))) (a_cons (e_tup (a_cons (e_tup (a_cons c_str (a_cons c_str a_nil)) (sz_le (by simp))) (a_cons (e_tup (a_cons c_str (a_cons c_str a_nil)) (sz_le (by simp))) (a_cons (e_tup (a_cons c_str (a_cons c_str a_nil)) (sz_le (by simp))) (a_cons (e_tup (a_cons c_str (a_cons c_str a_nil)) (sz_le (by simp))) a_nil)))) (sz_le (by simp))) a_nil)) (sz_le (by simp))) rfl) ⟨stuckP, .non, .non, rfl, .inl rfl, .inl rfl, stuck_ok, rfl⟩).ev ?_
      exact s_ret (e_cmp (f_lst (a_cons (Ev.is (e_call (ok_outcome T hC hPM.name) (hr.mono (by decide)) (a_cons (nm 4) a_nil) ⟨stuckP, stuckE, rfl, stuck_good, stuck_reach, stuck_end, rfl⟩) stuck_shw) (a_cons (e_call (ok_is_orderly T hC hPM.name) (hr.mono (by decide)) (a_cons (nm 4) a_nil) ⟨stuckP, rfl, stuck_good, rfl⟩) a_nil)) (sz_le (by simp))).ev.eb (f_lst (a_cons (e_tup (a_cons (e_tup a_nil (by decide)) (a_cons (e_tup a_nil (by decide)) a_nil)) (sz_le (by simp))) (a_cons c_bl a_nil)) (sz_le (by simp))).ev.eb (o_eqT hu (by decide +kernel) (by decide +kernel) (by decide +kernel))) rfl
end
end Pd
end
section
set_option Elab.async false
set_option linter.all false
set_option maxRecDepth 100000
set_option maxHeartbeats 4000000
/-! Hd3: the facts of the top (printed by gen_hd3.py). -/
namespace Hd
open PySem PySem.Spec PyProof.Rows L2 Pt
theorem fun_of {K : PySem.W.Frag} {x qual : Str} {st : Stmt} {f : Addr} {fd : FuncData} (F : FunD K x qual (defArgs st) (defBody st) (defScope st) [] [] f fd) : Fun K x qual st f fd := by
  obtain ⟨oc, od, dV, kV, doc, pm, an, cdv, ct, osl, e, lk, hcd, hD, hK⟩ := F.ex
  rcases hD with ⟨_, rfl⟩ | ⟨h, _⟩
  · exact ⟨⟨oc, od, kV, doc, pm, an, cdv, ct, osl, e, lk, hcd⟩, F.kp⟩
  · exact absurd rfl h
theorem getter {K : PySem.W.Frag} {d : GD} (e : fnA K (pA K d.m) = d.val) (c : d.ok K = true) (p : prB K d.m = true) : Pd.PropAt K (He.ga K "Run") d.m d.qual d.st := by
  obtain ⟨kp, c2⟩ := He.ba c
  obtain ⟨p1, p2⟩ := He.ba p
  obtain ⟨p3, p4⟩ := He.ba p2
  obtain ⟨p5, p6⟩ := He.ba p4
  have hrec : ∃ rest, PySem.W.recIn K (He.ma K (He.ga K "Run") d.m) "property" = some (.ref (pA K d.m) :: rest) := by
    unfold pA
    cases q : PySem.W.recIn K (He.ma K (He.ga K "Run") d.m) "property" with
    | none => rw [q] at p6; cases p6
    | some l =>
      rw [q] at p6
      cases l with
      | nil => cases p6
      | cons v l => cases v with
        | ref g => exact ⟨l, rfl⟩
        | _ => cases p6
  unfold fnA at e
  cases q : K.lookup (pA K d.m) with
  | none =>
    rw [q] at c2
    cases c2
  | some o =>
    obtain ⟨oc, od, dt, osl⟩ := o
    rw [q] at c2 e
    cases dt with
    | func fd =>
      obtain ⟨n1, n2, n3, n4, n5, n6, n7, n8, n9, n10, n11, n12, n13, n14, n15⟩ := fd
      have e2 : (some (n1, n2, n3, n4, n5, n6, n7, n15) : He.FnW) = some (d.m, d.qual, defArgs d.st, .stmts (defBody d.st), defScope d.st, mainGlobals, [], builtinsNs) := e
      simp only [Option.some.injEq, Prod.mk.injEq] at e2
      obtain ⟨h1, h2, h3, h4, h5, h6, h7, h8⟩ := e2
      subst h1 h2 h3 h4 h5 h6 h7 h8
      have c3 : (PySem.W.codeIn K n13 d.qual && He.dflB K n8 []) = true := c2
      obtain ⟨k1, k2⟩ := He.ba c3
      have hn : n8 = .none := by
        cases n8 with
        | none => rfl
        | _ => cases k2
      subst hn
      exact ⟨_, _, _, ⟨He.eqO_ok p1, He.eqO_ok p3, of_decide_eq_true p5, hrec⟩, ⟨⟨oc, od, n9, n10, n11, n12, n13, n14, osl, rfl, q, k1⟩, kp⟩⟩
    | _ => cases c2
theorem wrt_of {K : PySem.W.Frag} {x : Str} {vs : List He.Dv} (h : He.tupB K x vs = true) : Pz.WrT K (He.ga K x) (vs.map (He.Dv.v K)) := by
  rcases He.tupB_ok h (fun _ => none) with r | r
  · rcases r with r | ⟨_, r⟩ <;> cases r
  · exact r
section
variable {w : World} {K : PySem.W.Frag} {h : Heap} {mg : Str → Option Value}
theorem kd_of {a : Addr} {kvs : List (Str × He.Dv)} {x : Str} {v : He.Dv} (hk : ∃ es n, KDict K w a es n) (hv : He.valsB K a kvs = true) (hm : (x, v) ∈ kvs) : KDct K w a x (v.v K) := by
  obtain ⟨es, n, k⟩ := hk
  obtain ⟨u, h1, h2⟩ := He.valsB_ok hv hm
  exact ⟨es, n, u, k.at_, k.lit, h1, h2⟩
theorem says_t (c : obsK K = valH w) : He.SaysT fa fn ts w K := congrArg (fun z : AlH => z.1.1) c
theorem says_g (c : obsK K = valH w) : gds.map (fun d => fnA K (pA K d.m)) = gds.map GD.val := congrArg (fun z : AlH => z.1.2) c
theorem says_e (c : obsK K = valH w) : exB K = true := congrArg (fun z : AlH => z.2) c
theorem prop_at (c : obsK K = valH w) (i : Nat) {d : GD} (hd : gds[i]? = some d := by rfl) : Pd.PropAt K (He.ga K "Run") d.m d.qual d.st := by
  have e := says_g c
  have e2 : (gds.map fun d => fnA K (pA K d.m))[i]? = (gds.map GD.val)[i]? := by rw [e]
  rw [List.getElem?_map, List.getElem?_map, hd] at e2
  obtain ⟨h1, _⟩ := He.ba (says_e c)
  obtain ⟨h2, h3⟩ := He.ba (List.all_eq_true.mp h1 d (List.mem_of_getElem? hd))
  exact getter (Option.some.inj e2) h2 h3
theorem def_at (c : obsK K = valH w) (X : K.In h) (G : h.Ns mainGlobals mg) {x : Str} {st : Stmt} (i j : Nat) (hf : fa[i]? = some (.glo x)) (hd : fn[j]? = some ⟨(x, none), x, x, defArgs st, defBody st, defScope st, [], []⟩) : Pz.DefAt K mg x st := by
  obtain ⟨fd, F⟩ := (says_t c).d.def_ j hd
  exact ⟨He.ga K x, fd, He.glo_ok X G ((says_t c).d.fact i hf), fun_of F⟩
theorem top_of (c : obsK K = valH w) (X : K.In h) (G : h.Ns mainGlobals mg) : Top w K mg where
  f_isinstance := He.free_ok X G ((says_t c).d.fact 86 (f := .free "isinstance") rfl)
  f_len := He.free_ok X G ((says_t c).d.fact 87 (f := .free "len") rfl)
  f_all := He.free_ok X G ((says_t c).d.fact 88 (f := .free "all") rfl)
  f_sum := He.free_ok X G ((says_t c).d.fact 89 (f := .free "sum") rfl)
  f_int := He.free_ok X G ((says_t c).d.fact 90 (f := .free "int") rfl)
  f_max := He.free_ok X G ((says_t c).d.fact 91 (f := .free "max") rfl)
  f_min := He.free_ok X G ((says_t c).d.fact 92 (f := .free "min") rfl)
  f_abs := He.free_ok X G ((says_t c).d.fact 93 (f := .free "abs") rfl)
  f_range := He.free_ok X G ((says_t c).d.fact 94 (f := .free "range") rfl)
  f_enumerate := He.free_ok X G ((says_t c).d.fact 95 (f := .free "enumerate") rfl)
  f_tuple := He.free_ok X G ((says_t c).d.fact 96 (f := .free "tuple") rfl)
  f_list := He.free_ok X G ((says_t c).d.fact 97 (f := .free "list") rfl)
  f_dict := He.free_ok X G ((says_t c).d.fact 98 (f := .free "dict") rfl)
  f_set := He.free_ok X G ((says_t c).d.fact 99 (f := .free "set") rfl)
  f_sorted := He.free_ok X G ((says_t c).d.fact 100 (f := .free "sorted") rfl)
  f_zip := He.free_ok X G ((says_t c).d.fact 101 (f := .free "zip") rfl)
  f_str := He.free_ok X G ((says_t c).d.fact 102 (f := .free "str") rfl)
  f_bool := He.free_ok X G ((says_t c).d.fact 103 (f := .free "bool") rfl)
  i_MAX_LETTERS := He.int_ok X G ((says_t c).d.fact 104 (f := .int "MAX_LETTERS" 8) rfl)
  i_MAX_ARGUMENTS_values := He.int_ok X G ((says_t c).d.fact 105 (f := .int "MAX_ARGUMENTS_values" 2) rfl)
  i_MAX_DEEP := He.int_ok X G ((says_t c).d.fact 106 (f := .int "MAX_DEEP" 3) rfl)
  i_MAX_ARGUMENTS_stretches := He.int_ok X G ((says_t c).d.fact 107 (f := .int "MAX_ARGUMENTS_stretches" 2) rfl)
  i_MAX_THREADS := He.int_ok X G ((says_t c).d.fact 108 (f := .int "MAX_THREADS" 3) rfl)
  i_MAX_CODE := He.int_ok X G ((says_t c).d.fact 109 (f := .int "MAX_CODE" 60) rfl)
  i_MAX_ASKED := He.int_ok X G ((says_t c).d.fact 110 (f := .int "MAX_ASKED" 6) rfl)
  i_MAX_STEPS := He.int_ok X G ((says_t c).d.fact 111 (f := .int "MAX_STEPS" 200) rfl)
  i_MAX_STATES := He.int_ok X G ((says_t c).d.fact 112 (f := .int "MAX_STATES" 4000) rfl)
  z_GET_values := He.str_ok X G ((says_t c).d.fact 113 (f := .str "GET_values" "get") rfl)
  z_FIGURES := He.str_ok X G ((says_t c).d.fact 114 (f := .str "FIGURES" "0123456789") rfl)
  z_READ := He.str_ok X G ((says_t c).d.fact 115 (f := .str "READ" "read") rfl)
  z_WRITE := He.str_ok X G ((says_t c).d.fact 116 (f := .str "WRITE" "write") rfl)
  z_SET := He.str_ok X G ((says_t c).d.fact 117 (f := .str "SET" "set") rfl)
  z_COPY := He.str_ok X G ((says_t c).d.fact 118 (f := .str "COPY" "copy") rfl)
  z_GET_stretches := He.str_ok X G ((says_t c).d.fact 119 (f := .str "GET_stretches" "get") rfl)
  z_PUT := He.str_ok X G ((says_t c).d.fact 120 (f := .str "PUT" "put") rfl)
  z_SHOW := He.str_ok X G ((says_t c).d.fact 121 (f := .str "SHOW" "show") rfl)
  z_IF := He.str_ok X G ((says_t c).d.fact 122 (f := .str "IF" "if") rfl)
  t_WORDS := by
    have h4 := (He.ba (He.ba (He.ba (says_e c)).2).2).2
    exact ⟨_, He.glo_ok X G ((says_t c).d.fact 83 (f := .glo "WORDS") rfl), wrt_of (He.ba h4).1⟩
  t_ACCESSES := by
    have h4 := (He.ba (He.ba (He.ba (says_e c)).2).2).2
    exact ⟨_, He.glo_ok X G ((says_t c).d.fact 84 (f := .glo "ACCESSES") rfl), wrt_of (He.ba (He.ba h4).2).1⟩
  t_STEPS := by
    have h4 := (He.ba (He.ba (He.ba (says_e c)).2).2).2
    exact ⟨_, He.glo_ok X G ((says_t c).d.fact 85 (f := .glo "STEPS") rfl), wrt_of (He.ba (He.ba (He.ba h4).2).2).1⟩
  m_SIZES := by
    have h4 := (He.ba (He.ba (He.ba (says_e c)).2).2).2
    have h5 := (He.ba (He.ba (He.ba h4).2).2).2
    have hk := (says_t c).tab 0 (t := (fun K => He.ga K "SIZES", ["read", "write", "copy", "get", "put"])) rfl
    exact ⟨He.ga K "SIZES", He.glo_ok X G ((says_t c).d.fact 82 (f := .glo "SIZES") rfl), (let ⟨_, _, k⟩ := hk; k.low), kd_of hk h5 (x := "read") (v := .int 3) (by simp), kd_of hk h5 (x := "write") (v := .int 3) (by simp), kd_of hk h5 (x := "get") (v := .int 2) (by simp), kd_of hk h5 (x := "put") (v := .int 2) (by simp)⟩
  d_wall := def_at c X G 0 0 rfl rfl
  d_is_letters := def_at c X G 1 1 rfl rfl
  d_is_name := def_at c X G 2 2 rfl rfl
  d_is_index := def_at c X G 3 3 rfl rfl
  d_is_number_text := def_at c X G 4 4 rfl rfl
  d_is_unknown := def_at c X G 5 5 rfl rfl
  d_arguments_in := def_at c X G 6 6 rfl rfl
  d_application := def_at c X G 7 7 rfl rfl
  d_is_text := def_at c X G 8 8 rfl rfl
  d_is_value := def_at c X G 9 9 rfl rfl
  d_value_of := def_at c X G 10 10 rfl rfl
  d_are_names := def_at c X G 11 11 rfl rfl
  d_is_plain := def_at c X G 12 12 rfl rfl
  d_is_statement := def_at c X G 13 13 rfl rfl
  d_is_level := def_at c X G 14 14 rfl rfl
  d_is_body := def_at c X G 15 15 rfl rfl
  d_branches := def_at c X G 16 16 rfl rfl
  d_size_of := def_at c X G 17 17 rfl rfl
  d_does_count := def_at c X G 18 18 rfl rfl
  d_most_on_path := def_at c X G 19 19 rfl rfl
  d_paths_fit := def_at c X G 20 20 rfl rfl
  d_rows_from := def_at c X G 21 21 rfl rfl
  d_rows_of := def_at c X G 22 22 rfl rfl
  d_is_thread_code := def_at c X G 23 23 rfl rfl
  d_are_contents := def_at c X G 24 24 rfl rfl
  d_is_asked := def_at c X G 25 25 rfl rfl
  d_are_answers := def_at c X G 26 26 rfl rfl
  d_require_threads := def_at c X G 27 27 rfl rfl
  d_cell_of := def_at c X G 28 28 rfl rfl
  d_cells_in := def_at c X G 29 29 rfl rfl
  d_registers_of := def_at c X G 30 30 rfl rfl
  d_registers_in := def_at c X G 31 31 rfl rfl
  d_require_program := def_at c X G 32 32 rfl rfl
  d_require_thread := def_at c X G 33 33 rfl rfl
  d_is_order := def_at c X G 34 34 rfl rfl
  d_settled := def_at c X G 35 35 rfl rfl
  d_made_value := def_at c X G 36 36 rfl rfl
  d_packed := def_at c X G 37 37 rfl rfl
  d_registers_at := def_at c X G 38 38 rfl rfl
  d_first_state := def_at c X G 39 39 rfl rfl
  d_next_statement := def_at c X G 40 40 rfl rfl
  d_step_of := def_at c X G 41 41 rfl rfl
  d_steps_in := def_at c X G 42 42 rfl rfl
  d_is_possible := def_at c X G 43 43 rfl rfl
  d_ready_in := def_at c X G 44 44 rfl rfl
  d_clashes_in := def_at c X G 45 45 rfl rfl
  d_is_clashing := def_at c X G 46 46 rfl rfl
  d_replaced := def_at c X G 47 47 rfl rfl
  d_stepped := def_at c X G 48 48 rfl rfl
  d_led := def_at c X G 49 49 rfl rfl
  d_reached := def_at c X G 50 50 rfl rfl
  d_order_to := def_at c X G 51 51 rfl rfl
  d_first_clash := def_at c X G 52 52 rfl rfl
  d_ends_in := def_at c X G 53 53 rfl rfl
  d_clash := def_at c X G 54 54 rfl rfl
  d_is_orderly := def_at c X G 55 55 rfl rfl
  d_ends := def_at c X G 56 56 rfl rfl
  d_outcome := def_at c X G 57 57 rfl rfl
  d_law_dice := def_at c X G 58 58 rfl rfl
  d_law_roll := def_at c X G 59 59 rfl rfl
  d_law_one_of := def_at c X G 60 60 rfl rfl
  d_law_quiet := def_at c X G 61 61 rfl rfl
  d_law_size := def_at c X G 62 62 rfl rfl
  d_law_table := def_at c X G 63 63 rfl rfl
  d_law_program := def_at c X G 64 64 rfl rfl
  d_law_ahead := def_at c X G 65 65 rfl rfl
  d_law_begin := def_at c X G 66 66 rfl rfl
  d_law_next := def_at c X G 67 67 rfl rfl
  d_law_can := def_at c X G 68 68 rfl rfl
  d_law_after := def_at c X G 69 69 rfl rfl
  d_law_clashes := def_at c X G 70 70 rfl rfl
  d_law_states := def_at c X G 71 71 rfl rfl
  d_law_is_orderly := def_at c X G 72 72 rfl rfl
  d_law_ends := def_at c X G 73 73 rfl rfl
  d_law_built := def_at c X G 74 74 rfl rfl
  d_law_calm := def_at c X G 75 75 rfl rfl
  d_law_same := def_at c X G 76 76 rfl rfl
  d_law_led := def_at c X G 77 77 rfl rfl
  d_law_right := def_at c X G 78 78 rfl rfl
  d_law := def_at c X G 79 79 rfl rfl
theorem pcls_of (c : obsK K = valH w) : Pd.PCls K (He.ga K "Program") := by
  obtain ⟨h1, h2⟩ := He.ba (He.ba (He.ba (says_e c)).2).1
  obtain ⟨h3, h4⟩ := He.ba h2
  obtain ⟨h5, h6⟩ := He.ba h4
  obtain ⟨h7, h8⟩ := He.ba h6
  refine ⟨He.cls_ok ((says_t c).d.fact 123 (f := .cls "Program") rfl), He.eqO_ok h1, He.eqO_ok h3, of_decide_eq_true h5, of_decide_eq_true h7, of_decide_eq_true h8, fun f hf => ?_⟩
  simp only [List.mem_cons, List.not_mem_nil, or_false] at hf
  rcases hf with rfl | rfl | rfl | rfl | rfl | rfl
  · exact He.noat_ok ((says_t c).d.fact 129 (f := .noat "Program" "own_threads") rfl)
  · exact He.noat_ok ((says_t c).d.fact 130 (f := .noat "Program" "own_cells") rfl)
  · exact He.noat_ok ((says_t c).d.fact 131 (f := .noat "Program" "own_answers") rfl)
  · exact He.noat_ok ((says_t c).d.fact 132 (f := .noat "Program" "own_rows") rfl)
  · exact He.noat_ok ((says_t c).d.fact 133 (f := .noat "Program" "own_registers") rfl)
  · exact He.noat_ok ((says_t c).d.fact 134 (f := .noat "Program" "own_names") rfl)
theorem rcls_of (c : obsK K = valH w) : Pd.RCls K (He.ga K "Run") := by
  obtain ⟨fd1, F1⟩ := (says_t c).d.def_ 83 (d := ⟨("Run", some "held"), "held", "Run.held", defArgs s_Run_held, defBody s_Run_held, defScope s_Run_held, [], []⟩) rfl
  obtain ⟨fd2, F2⟩ := (says_t c).d.def_ 84 (d := ⟨("Run", some "after"), "after", "Run.after", defArgs s_Run_after, defBody s_Run_after, defScope s_Run_after, [], []⟩) rfl
  refine ⟨He.cls_ok ((says_t c).d.fact 124 (f := .cls "Run") rfl), fun f hf => ?_, prop_at c 0, prop_at c 1, prop_at c 2, prop_at c 3, prop_at c 4, prop_at c 5, prop_at c 6, ⟨_, fd1, He.meth_ok ((says_t c).d.fact 127 (f := .meth "Run" "held") rfl), fun_of F1⟩, ⟨_, fd2, He.meth_ok ((says_t c).d.fact 128 (f := .meth "Run" "after") rfl), fun_of F2⟩⟩
  simp only [List.mem_cons, List.not_mem_nil, or_false] at hf
  rcases hf with rfl | rfl | rfl
  · exact He.noat_ok ((says_t c).d.fact 135 (f := .noat "Run" "own_program") rfl)
  · exact He.noat_ok ((says_t c).d.fact 136 (f := .noat "Run" "own_order") rfl)
  · exact He.noat_ok ((says_t c).d.fact 137 (f := .noat "Run" "own_state") rfl)
theorem rmk_of (c : obsK K = valH w) (X : K.In h) (G : h.Ns mainGlobals mg) : Pd.RMk K mg (He.ga K "Run") := by
  obtain ⟨fd1, F1⟩ := (says_t c).d.def_ 82 (d := ⟨("Run", some "__init__"), "__init__", "Run.__init__", defArgs s_Run_init, defBody s_Run_init, defScope s_Run_init, [], []⟩) rfl
  exact ⟨He.glo_ok X G ((says_t c).d.fact 81 (f := .glo "Run") rfl), _, fd1, He.mkr_ok ((says_t c).d.fact 126 (f := .mkr "Run") rfl), fun_of F1⟩
theorem pmk_of (c : obsK K = valH w) (X : K.In h) (G : h.Ns mainGlobals mg) : Pd.PMk K mg (He.ga K "Program") := by
  obtain ⟨fd1, F1⟩ := (says_t c).d.def_ 80 (d := ⟨("Program", some "__init__"), "__init__", "Program.__init__", defArgs s_Program_init, defBody s_Program_init, defScope s_Program_init, [], [("cells", .non), ("answers", .non)]⟩) rfl
  obtain ⟨fd2, F2⟩ := (says_t c).d.def_ 81 (d := ⟨("Program", some "__call__"), "__call__", "Program.__call__", defArgs s_Program_call, defBody s_Program_call, defScope s_Program_call, [], []⟩) rfl
  obtain ⟨h1, h2⟩ := He.ba (He.ba (He.ba (He.ba (says_e c)).2).2).1
  obtain ⟨h3, h4⟩ := He.ba h2
  exact ⟨He.glo_ok X G ((says_t c).d.fact 80 (f := .glo "Program") rfl), ⟨_, fd1, He.mkr_ok ((says_t c).d.fact 125 (f := .mkr "Program") rfl), F1⟩, ⟨_, fd2, ⟨He.eqO_ok h1, h3, h4⟩, fun_of F2⟩⟩
theorem facts {P : Program} {f : Addr} (c : obsK K = valH w) (X : K.In h) (G : h.Ns mainGlobals mg) (hfa : mg ("law" : Str) = some (.ref f)) :
    ∃ fd : FuncData, (∀ (s : Shared) (v : Value), BindsTo s fd ⟨[v], []⟩ [("_law_script", v)]) ∧ ∀ base : Heap, FnOk P w K mg base CX0 14 f fd ["_law_script"] (Pz.spF ⟨P, w, K⟩ Pd.R_law) := by
  obtain ⟨fd, F⟩ := (says_t c).d.def_ 79 (d := ⟨("law", none), "law", "law", defArgs s_law, defBody s_law, defScope s_law, [], []⟩) rfl
  have e := hfa.symm.trans (He.glo_ok X G ((says_t c).d.fact 79 (f := .glo "law") rfl))
  cases e
  have b := FunD.bindsA (ps := ["_law_script"]) F fun _ _ _ _ _ _ us hl => match us, hl with | [_], _ => rfl
  exact ⟨fd, fun s v => b s [v] rfl, fun base => Pd.ok_law (top_of c X G) (pcls_of c) (rcls_of c) (rmk_of c X G) (pmk_of c X G) (fun_of F)⟩
end
end Hd
end
set_option Elab.async false
set_option linter.all false
set_option maxRecDepth 100000
set_option maxHeartbeats 0
open PySem PySem.W PySem.Calls PyProof.Rows
theorem PySem.Challenge.cw_orderlymoves_k33_whole_orderly_programs_holds : PySem.Challenge.rw_orderlymoves_k33_whole_orderly_programs.Holds := by
  w_on; o_law
  refine HandSHeadRun.head_any (r := OpenLaw.row PySem.Challenge.rw_orderlymoves_k33_whole_orderly_programs) (q := view (OpenLaw.row PySem.Challenge.rw_orderlymoves_k33_whole_orderly_programs).prog [115]) (H := Hd.hk) (ob := Hd.ob) (M := 9000) (loose := Hd.nms) (d := HandSHeadRun.topDef (OpenLaw.row PySem.Challenge.rw_orderlymoves_k33_whole_orderly_programs).prog 115) (kwd := []) Hd.ob_eq
    (by kernel_rfl) (fun s => by kernel_rfl) Hd.run (by kernel_rfl) (by kernel_rfl) (by kernel_rfl) (by rfl) (by first | assumption | decide +kernel) (by decide +kernel) ⟨rfl, rfl, rfl, rfl, rfl, by decide +kernel⟩ ?hw ?hc
  case hw => w_witness2
  case hc =>
    refine L2.walk_ofE (l := PySem.Challenge.rw_orderlymoves_k33_whole_orderly_programs) (n := 63) (k := 14) (x := "_law_script") (CX := L2.CX0) rfl (by decide) (by kernel_rfl) ⟨rfl, by decide, by decide⟩ ?F (fun _ _ _ _ z => z)
    intro w mg fa h Y G hmg0
    obtain ⟨K, KX, c⟩ := Y
    have hmg : mg ("law" : PySem.Str) = some (.ref fa) := by
      have e : (HandSHeadRun.topDef (OpenLaw.row PySem.Challenge.rw_orderlymoves_k33_whole_orderly_programs).prog 115).name = ("law" : PySem.Str) := by kernel_rfl
      rw [← e]
      exact hmg0
    obtain ⟨fd, hb, hF⟩ := Hd.facts (P := (PySem.Challenge.rw_orderlymoves_k33_whole_orderly_programs).prog) c KX G hmg
    exact ⟨K, fd, Pz.spF ⟨_, w, K⟩ Pd.R_law, KX, hb, fun H a ns hl _ hS => ⟨fun _ => False, [.lst (ns.map .int)], .bl true, .cons (.lst (hS.elim (fun r => .inl ⟨r, id⟩) .inr) (Pz.Rps.of_ints ns)) .nil, fun _ h => h.elim, ⟨ns, rfl, hl, rfl⟩, fun v H' _ r => by cases r; rfl⟩, fun base _ _ => hF base⟩
