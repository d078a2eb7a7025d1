import PyProof.Rows.All
import Wide.All
import OpenK.AllK
import Wide.FinOn
import KE.KStateDown
import Lean
import HandS.Head0
import HandS.Head1
import HandS.Head2
import HandS.HeadEnd
import HandS.HeadHook1
import HandS.HeadHook2
import HandS.ForMost
import HandS.Evl
import HandS.Defaults
import HandS.Flow
import HandS.Style
import HandS.Strs
import HandS.TupMul
import HandS.NoneIn
import HandS.More
import HandS.Conv
import HandS.Walk
import KE.KEqSeq
import PySem.Challenge.RW_gatetown_k93_whole_whatever_others_do
set_option Elab.async false
set_option linter.all false
set_option maxRecDepth 100000
namespace G3
open PySem
/-! ### the program, its one long text by its codes -/
abbrev rw0 : PySem.W.OpenLaw := PySem.Challenge.rw_gatetown_k93_whole_whatever_others_do
abbrev P0 : Program := PySem.Challenge.pw_gatetown_k93_whole_whatever_others_do
def strIn : Stmt → Str
  | .Assign _ (.Constant (.str x) _ _) _ => x
  | _ => Str.empty
def strPut (x : Str) : Stmt → Stmt
  | .Assign ts (.Constant (.str _) k p) q => .Assign ts (.Constant (.str x) k p) q
  | s => s
theorem strPut_self (s : Stmt) : strPut (strIn s) s = s := by
  unfold strPut strIn
  split <;> rfl
def top0 (i : Nat) : Stmt := P0.main.body.getD i (.Pass ⟨0, 0, 0, 0⟩)
theorem str_at {s : Stmt} {l : List Char} (h : strIn s = Str.ofString (String.ofList l)) : strIn s = ⟨(l.map Char.toNat).toArray⟩ := h.trans (PySem.W.Fast.ofString_ofList l)
def rowsL : { l : List Char // strIn (top0 11) = Str.ofString (String.ofList l) } := ⟨_, by exact rfl⟩
def rowsX : Str := ⟨(rowsL.1.map Char.toNat).toArray⟩
theorem rowsX_eq : rowsX = strIn (top0 11) := (str_at rowsL.2).symm
def P1 : Program := { P0 with main := { P0.main with body := P0.main.body.set 11 (strPut rowsX (top0 11)) } }
theorem set_self {α : Type} : ∀ (l : List α) (i : Nat) (d : α), l.set i (l.getD i d) = l
  | [], i, d => by cases i <;> rfl
  | a :: l, 0, d => rfl
  | a :: l, i + 1, d => by
    show a :: l.set i (l.getD i d) = a :: l
    rw [set_self l i d]
theorem P1_eq : P1 = P0 := by
  have e : P0.main.body.set 11 (strPut rowsX (top0 11)) = P0.main.body := by
    rw [rowsX_eq, strPut_self]
    exact set_self _ _ _
  unfold P1
  rw [e]
def rw1 : PySem.W.OpenLaw := { rw0 with prog := P1 }
theorem rw1_eq : rw1 = rw0 := by
  unfold rw1
  rw [P1_eq]
  rfl
theorem holds_of (h : rw1.Holds) : rw0.Holds := rw1_eq ▸ h
end G3
set_option Elab.async false
set_option linter.all false
set_option maxRecDepth 100000
set_option maxHeartbeats 4000000
namespace G3
open PySem PySem.Spec PyProof.Rows L2
/-! ### the text by places -/
def top (i : Nat) : Stmt := P1.main.body.getD i (.Pass ⟨0, 0, 0, 0⟩)
abbrev s_cell_rows : Stmt := top 12
abbrev N_cell_rows : List Str := ["tasks", "quota", "rows"]
abbrev s_kernel_text : Stmt := top 13
abbrev N_kernel_text : List Str := ["tasks", "quota"]
abbrev s_word_of : Stmt := top 17
abbrev N_word_of : List Str := ["op", "number"]
abbrev s_moved : Stmt := top 18
abbrev N_moved : List Str := ["word", "by"]
abbrev s_begins_of : Stmt := top 20
abbrev N_begins_of : List Str := ["objects", "begins", "place", "one"]
abbrev s_homes_of : Stmt := top 21
abbrev N_homes_of : List Str := ["objects", "begins", "homes", "one", "begin", "name", "place"]
abbrev s_look_needed : Stmt := top 22
abbrev N_look_needed : List Str := ["objects", "homes", "one", "place", "name"]
abbrev s_words_at : Stmt := top 23
abbrev N_words_at : List Str := ["one", "begin", "homes", "words", "place", "name"]
abbrev s_linked : Stmt := top 24
abbrev N_linked : List Str := ["objects", "begins", "homes", "words", "one", "begin"]
abbrev s_first_state : Stmt := top 48
abbrev N_first_state : List Str := []
abbrev s_op_of : Stmt := top 49
abbrev N_op_of : List Str := ["word"]
abbrev s_number_of : Stmt := top 50
abbrev N_number_of : List Str := ["word"]
abbrev s_changed : Stmt := top 51
abbrev N_changed : List Str := ["state", "pairs", "made", "at", "number"]
abbrev s_wanted : Stmt := top 52
abbrev N_wanted : List Str := ["state"]
abbrev s_asked : Stmt := top 53
abbrev N_asked : List Str := ["state"]
abbrev s_is_barred : Stmt := top 54
abbrev N_is_barred : List Str := ["state"]
abbrev s_trap : Stmt := top 55
abbrev N_trap : List Str := ["state", "cause", "place", "saved"]
abbrev s_own_row : Stmt := top 56
abbrev N_own_row : List Str := ["state", "which"]
abbrev s_move_row : Stmt := top 57
abbrev N_move_row : List Str := ["state", "which"]
abbrev s_leap_row : Stmt := top 58
abbrev N_leap_row : List Str := ["state", "after", "op", "number"]
abbrev s_word_row : Stmt := top 59
abbrev N_word_row : List Str := ["after", "op", "word"]
abbrev s_row_done : Stmt := top 60
abbrev N_row_done : List Str := ["state", "word", "op", "after"]
abbrev s_rung : Stmt := top 61
abbrev N_rung : List Str := ["state", "after", "counted"]
abbrev s_trap_of : Stmt := top 62
abbrev N_trap_of : List Str := ["state", "op"]
abbrev s_trapped : Stmt := top 63
abbrev N_trapped : List Str := ["state", "cause"]
abbrev s_fetched : Stmt := top 64
abbrev N_fetched : List Str := ["state", "word"]
abbrev s_beat_of : Stmt := top 65
abbrev N_beat_of : List Str := ["state", "word", "cause", "op", "write", "tell"]
abbrev s_is_name : Stmt := top 69
abbrev N_is_name : List Str := ["word", "sign"]
abbrev s_number_in : Stmt := top 70
abbrev N_number_in : List Str := ["word", "most", "sign"]
abbrev s_arg_in : Stmt := top 71
abbrev N_arg_in : List Str := ["word", "name", "plus", "rest", "number"]
abbrev s_row_in : Stmt := top 72
abbrev N_row_in : List Str := ["row", "words", "number", "arg"]
abbrev s_rows_in : Stmt := top 73
abbrev N_rows_in : List Str := ["text", "row"]
abbrev s_head_of : Stmt := top 74
abbrev N_head_of : List Str := ["rows", "many"]
abbrev s_names_of : Stmt := top 75
abbrev N_names_of : List Str := ["rows", "form", "row"]
abbrev s_Names___init__ : Stmt := inClass (top 76) 0
abbrev N_Names___init__ : List Str := ["self", "rows"]
abbrev s_Names_is_new : Stmt := inClass (top 76) 1
abbrev N_Names_is_new : List Str := ["self", "form", "name", "told"]
abbrev s_head_stands : Stmt := top 77
abbrev N_head_stands : List Str := ["names", "row"]
abbrev s_row_stands : Stmt := top 78
abbrev N_row_stands : List Str := ["names", "place", "row"]
abbrev s_size_of : Stmt := top 79
abbrev N_size_of : List Str := ["row"]
abbrev s_places_of : Stmt := top 80
abbrev N_places_of : List Str := ["rows", "places", "place", "row"]
abbrev s_labels_of : Stmt := top 81
abbrev N_labels_of : List Str := ["rows", "places", "told", "row", "place"]
abbrev s_words_in : Stmt := top 82
abbrev N_words_in : List Str := ["row", "labels", "name", "number", "word"]
abbrev s_assembled : Stmt := top 83
abbrev N_assembled : List Str := ["text", "rows", "names", "place", "row", "places", "many", "labels", "words", "own", "needed", "given", "name"]
abbrev s_without_noughts : Stmt := top 85
abbrev N_without_noughts : List Str := ["memory", "made", "place"]
abbrev s_one_beat : Stmt := top 86
abbrev N_one_beat : List Str := ["state", "memory", "told", "place", "word", "after", "write", "tell"]
abbrev s_run : Stmt := top 87
abbrev N_run : List Str := ["state", "memory", "beats", "own", "told", "trace", "after", "word"]
abbrev s_kernel_words : Stmt := top 90
abbrev N_kernel_words : List Str := ["tasks", "quota", "module"]
abbrev s_laid_behind : Stmt := top 91
abbrev N_laid_behind : List Str := ["begin", "rows", "found", "words"]
abbrev s_fill_record : Stmt := top 92
abbrev N_fill_record : List Str := ["words", "record", "number", "stretch", "given"]
abbrev s_town : Stmt := top 93
abbrev N_town : List Str := ["images", "given", "quota", "words", "table", "givens", "stretches", "k", "stretch", "row", "memory", "place", "word"]
abbrev s_by_task : Stmt := top 94
abbrev N_by_task : List Str := ["words", "k"]
abbrev s_ends_in : Stmt := top 95
abbrev N_ends_in : List Str := ["memory", "table", "tasks", "found", "k", "how"]
abbrev s_town_run : Stmt := top 96
abbrev N_town_run : List Str := ["images", "given", "quota", "beats", "memory", "stretches", "state", "after", "told", "trace", "table"]
abbrev s__law_cell_at : Stmt := top 98
abbrev N__law_cell_at : List Str := ["_law_script", "_law_k"]
abbrev s__law_mixed : Stmt := top 99
abbrev N__law_mixed : List Str := ["_law_number", "_law_k", "_law_once", "_law_twice"]
abbrev s__law_words_by : Stmt := top 102
abbrev N__law_words_by : List Str := ["_law_cells", "_law_number", "_law_words", "_law_k", "_law_cell", "_law_drawn_here", "_law_op", "_law_some", "_law_reach"]
abbrev s__law_lively : Stmt := top 103
abbrev N__law_lively : List Str := ["_law_cells", "_law_words", "_law_k", "_law_more", "_law_some", "_law_call", "_law_word"]
abbrev s__law_image_by : Stmt := top 104
abbrev N__law_image_by : List Str := ["_law_cells", "_law_number", "_law_words", "_law_k"]
abbrev s__law_images_by : Stmt := top 105
abbrev N__law_images_by : List Str := ["_law_cells", "_law_number", "_law_many", "_law_images", "_law_given", "_law_k", "_law_own", "_law_j"]
abbrev s__law_quota_by : Stmt := top 106
abbrev N__law_quota_by : List Str := ["_law_number"]
abbrev s__law_one_town : Stmt := top 107
abbrev N__law_one_town : List Str := ["_law_cells", "_law_number", "_law_image", "_law_words", "_law_images", "_law_given", "_law_at", "_law_quota", "_law_told", "_law_ends", "_law_memory", "_law_trace", "_law_begin", "_law_size", "_law_own", "_law_k", "_law_task", "_law_word"]
abbrev s_law : Stmt := top 108
abbrev N_law : List Str := ["_law_script", "_law_number", "_law_image", "_law_words", "_law_one", "_law_further", "_law_other", "_law_few", "_law_k"]
theorem sc_cell_rows : FnScope N_cell_rows ["tasks", "quota"] (defScope s_cell_rows) := ⟨rfl, rfl, rfl, by decide +kernel, rfl, by decide +kernel, by decide +kernel⟩
theorem sc_kernel_text : FnScope N_kernel_text ["tasks", "quota"] (defScope s_kernel_text) := ⟨rfl, rfl, rfl, by decide +kernel, rfl, by decide +kernel, by decide +kernel⟩
theorem sc_word_of : FnScope N_word_of ["op", "number"] (defScope s_word_of) := ⟨rfl, rfl, rfl, by decide +kernel, rfl, by decide +kernel, by decide +kernel⟩
theorem sc_moved : FnScope N_moved ["word", "by"] (defScope s_moved) := ⟨rfl, rfl, rfl, by decide +kernel, rfl, by decide +kernel, by decide +kernel⟩
theorem sc_begins_of : FnScope N_begins_of ["objects"] (defScope s_begins_of) := ⟨rfl, rfl, rfl, by decide +kernel, rfl, by decide +kernel, by decide +kernel⟩
theorem sc_homes_of : FnScope N_homes_of ["objects", "begins"] (defScope s_homes_of) := ⟨rfl, rfl, rfl, by decide +kernel, rfl, by decide +kernel, by decide +kernel⟩
theorem sc_look_needed : FnScope N_look_needed ["objects", "homes"] (defScope s_look_needed) := ⟨rfl, rfl, rfl, by decide +kernel, rfl, by decide +kernel, by decide +kernel⟩
theorem sc_words_at : FnScope N_words_at ["one", "begin", "homes"] (defScope s_words_at) := ⟨rfl, rfl, rfl, by decide +kernel, rfl, by decide +kernel, by decide +kernel⟩
theorem sc_linked : FnScope N_linked ["objects"] (defScope s_linked) := ⟨rfl, rfl, rfl, by decide +kernel, rfl, by decide +kernel, by decide +kernel⟩
theorem sc_first_state : FnScope N_first_state [] (defScope s_first_state) := ⟨rfl, rfl, rfl, by decide +kernel, rfl, by decide +kernel, by decide +kernel⟩
theorem sc_op_of : FnScope N_op_of ["word"] (defScope s_op_of) := ⟨rfl, rfl, rfl, by decide +kernel, rfl, by decide +kernel, by decide +kernel⟩
theorem sc_number_of : FnScope N_number_of ["word"] (defScope s_number_of) := ⟨rfl, rfl, rfl, by decide +kernel, rfl, by decide +kernel, by decide +kernel⟩
theorem sc_changed : FnScope N_changed ["state", "pairs"] (defScope s_changed) := ⟨rfl, rfl, rfl, by decide +kernel, rfl, by decide +kernel, by decide +kernel⟩
theorem sc_wanted : FnScope N_wanted ["state"] (defScope s_wanted) := ⟨rfl, rfl, rfl, by decide +kernel, rfl, by decide +kernel, by decide +kernel⟩
theorem sc_asked : FnScope N_asked ["state"] (defScope s_asked) := ⟨rfl, rfl, rfl, by decide +kernel, rfl, by decide +kernel, by decide +kernel⟩
theorem sc_is_barred : FnScope N_is_barred ["state"] (defScope s_is_barred) := ⟨rfl, rfl, rfl, by decide +kernel, rfl, by decide +kernel, by decide +kernel⟩
theorem sc_trap : FnScope N_trap ["state", "cause", "place"] (defScope s_trap) := ⟨rfl, rfl, rfl, by decide +kernel, rfl, by decide +kernel, by decide +kernel⟩
theorem sc_own_row : FnScope N_own_row ["state"] (defScope s_own_row) := ⟨rfl, rfl, rfl, by decide +kernel, rfl, by decide +kernel, by decide +kernel⟩
theorem sc_move_row : FnScope N_move_row ["state"] (defScope s_move_row) := ⟨rfl, rfl, rfl, by decide +kernel, rfl, by decide +kernel, by decide +kernel⟩
theorem sc_leap_row : FnScope N_leap_row ["state", "after", "op"] (defScope s_leap_row) := ⟨rfl, rfl, rfl, by decide +kernel, rfl, by decide +kernel, by decide +kernel⟩
theorem sc_word_row : FnScope N_word_row ["after", "op", "word"] (defScope s_word_row) := ⟨rfl, rfl, rfl, by decide +kernel, rfl, by decide +kernel, by decide +kernel⟩
theorem sc_row_done : FnScope N_row_done ["state", "word"] (defScope s_row_done) := ⟨rfl, rfl, rfl, by decide +kernel, rfl, by decide +kernel, by decide +kernel⟩
theorem sc_rung : FnScope N_rung ["state", "after"] (defScope s_rung) := ⟨rfl, rfl, rfl, by decide +kernel, rfl, by decide +kernel, by decide +kernel⟩
theorem sc_trap_of : FnScope N_trap_of ["state"] (defScope s_trap_of) := ⟨rfl, rfl, rfl, by decide +kernel, rfl, by decide +kernel, by decide +kernel⟩
theorem sc_trapped : FnScope N_trapped ["state", "cause"] (defScope s_trapped) := ⟨rfl, rfl, rfl, by decide +kernel, rfl, by decide +kernel, by decide +kernel⟩
theorem sc_fetched : FnScope N_fetched ["state", "word"] (defScope s_fetched) := ⟨rfl, rfl, rfl, by decide +kernel, rfl, by decide +kernel, by decide +kernel⟩
theorem sc_beat_of : FnScope N_beat_of ["state", "word"] (defScope s_beat_of) := ⟨rfl, rfl, rfl, by decide +kernel, rfl, by decide +kernel, by decide +kernel⟩
theorem sc_is_name : FnScope N_is_name ["word"] (defScope s_is_name) := ⟨rfl, rfl, rfl, by decide +kernel, rfl, by decide +kernel, by decide +kernel⟩
theorem sc_number_in : FnScope N_number_in ["word", "most"] (defScope s_number_in) := ⟨rfl, rfl, rfl, by decide +kernel, rfl, by decide +kernel, by decide +kernel⟩
theorem sc_arg_in : FnScope N_arg_in ["word"] (defScope s_arg_in) := ⟨rfl, rfl, rfl, by decide +kernel, rfl, by decide +kernel, by decide +kernel⟩
theorem sc_row_in : FnScope N_row_in ["row"] (defScope s_row_in) := ⟨rfl, rfl, rfl, by decide +kernel, rfl, by decide +kernel, by decide +kernel⟩
theorem sc_rows_in : FnScope N_rows_in ["text"] (defScope s_rows_in) := ⟨rfl, rfl, rfl, by decide +kernel, rfl, by decide +kernel, by decide +kernel⟩
theorem sc_head_of : FnScope N_head_of ["rows"] (defScope s_head_of) := ⟨rfl, rfl, rfl, by decide +kernel, rfl, by decide +kernel, by decide +kernel⟩
theorem sc_names_of : FnScope N_names_of ["rows", "form"] (defScope s_names_of) := ⟨rfl, rfl, rfl, by decide +kernel, rfl, by decide +kernel, by decide +kernel⟩
theorem sc_Names___init__ : FnScope N_Names___init__ ["self", "rows"] (defScope s_Names___init__) := ⟨rfl, rfl, rfl, by decide +kernel, rfl, by decide +kernel, by decide +kernel⟩
theorem sc_Names_is_new : FnScope N_Names_is_new ["self", "form", "name"] (defScope s_Names_is_new) := ⟨rfl, rfl, rfl, by decide +kernel, rfl, by decide +kernel, by decide +kernel⟩
theorem sc_head_stands : FnScope N_head_stands ["names", "row"] (defScope s_head_stands) := ⟨rfl, rfl, rfl, by decide +kernel, rfl, by decide +kernel, by decide +kernel⟩
theorem sc_row_stands : FnScope N_row_stands ["names", "place", "row"] (defScope s_row_stands) := ⟨rfl, rfl, rfl, by decide +kernel, rfl, by decide +kernel, by decide +kernel⟩
theorem sc_size_of : FnScope N_size_of ["row"] (defScope s_size_of) := ⟨rfl, rfl, rfl, by decide +kernel, rfl, by decide +kernel, by decide +kernel⟩
theorem sc_places_of : FnScope N_places_of ["rows"] (defScope s_places_of) := ⟨rfl, rfl, rfl, by decide +kernel, rfl, by decide +kernel, by decide +kernel⟩
theorem sc_labels_of : FnScope N_labels_of ["rows", "places"] (defScope s_labels_of) := ⟨rfl, rfl, rfl, by decide +kernel, rfl, by decide +kernel, by decide +kernel⟩
theorem sc_words_in : FnScope N_words_in ["row", "labels"] (defScope s_words_in) := ⟨rfl, rfl, rfl, by decide +kernel, rfl, by decide +kernel, by decide +kernel⟩
theorem sc_assembled : FnScope N_assembled ["text"] (defScope s_assembled) := ⟨rfl, rfl, rfl, by decide +kernel, rfl, by decide +kernel, by decide +kernel⟩
theorem sc_without_noughts : FnScope N_without_noughts ["memory"] (defScope s_without_noughts) := ⟨rfl, rfl, rfl, by decide +kernel, rfl, by decide +kernel, by decide +kernel⟩
theorem sc_one_beat : FnScope N_one_beat ["state", "memory", "told"] (defScope s_one_beat) := ⟨rfl, rfl, rfl, by decide +kernel, rfl, by decide +kernel, by decide +kernel⟩
theorem sc_run : FnScope N_run ["state", "memory", "beats"] (defScope s_run) := ⟨rfl, rfl, rfl, by decide +kernel, rfl, by decide +kernel, by decide +kernel⟩
theorem sc_kernel_words : FnScope N_kernel_words ["tasks", "quota"] (defScope s_kernel_words) := ⟨rfl, rfl, rfl, by decide +kernel, rfl, by decide +kernel, by decide +kernel⟩
theorem sc_laid_behind : FnScope N_laid_behind ["begin", "rows"] (defScope s_laid_behind) := ⟨rfl, rfl, rfl, by decide +kernel, rfl, by decide +kernel, by decide +kernel⟩
theorem sc_fill_record : FnScope N_fill_record ["words", "record", "number", "stretch", "given"] (defScope s_fill_record) := ⟨rfl, rfl, rfl, by decide +kernel, rfl, by decide +kernel, by decide +kernel⟩
theorem sc_town : FnScope N_town ["images", "given", "quota"] (defScope s_town) := ⟨rfl, rfl, rfl, by decide +kernel, rfl, by decide +kernel, by decide +kernel⟩
theorem sc_by_task : FnScope N_by_task ["words"] (defScope s_by_task) := ⟨rfl, rfl, rfl, by decide +kernel, rfl, by decide +kernel, by decide +kernel⟩
theorem sc_ends_in : FnScope N_ends_in ["memory", "table", "tasks"] (defScope s_ends_in) := ⟨rfl, rfl, rfl, by decide +kernel, rfl, by decide +kernel, by decide +kernel⟩
theorem sc_town_run : FnScope N_town_run ["images", "given", "quota", "beats"] (defScope s_town_run) := ⟨rfl, rfl, rfl, by decide +kernel, rfl, by decide +kernel, by decide +kernel⟩
theorem sc__law_cell_at : FnScope N__law_cell_at ["_law_script", "_law_k"] (defScope s__law_cell_at) := ⟨rfl, rfl, rfl, by decide +kernel, rfl, by decide +kernel, by decide +kernel⟩
theorem sc__law_mixed : FnScope N__law_mixed ["_law_number", "_law_k"] (defScope s__law_mixed) := ⟨rfl, rfl, rfl, by decide +kernel, rfl, by decide +kernel, by decide +kernel⟩
theorem sc__law_words_by : FnScope N__law_words_by ["_law_cells", "_law_number"] (defScope s__law_words_by) := ⟨rfl, rfl, rfl, by decide +kernel, rfl, by decide +kernel, by decide +kernel⟩
theorem sc__law_lively : FnScope N__law_lively ["_law_cells"] (defScope s__law_lively) := ⟨rfl, rfl, rfl, by decide +kernel, rfl, by decide +kernel, by decide +kernel⟩
theorem sc__law_image_by : FnScope N__law_image_by ["_law_cells", "_law_number"] (defScope s__law_image_by) := ⟨rfl, rfl, rfl, by decide +kernel, rfl, by decide +kernel, by decide +kernel⟩
theorem sc__law_images_by : FnScope N__law_images_by ["_law_cells", "_law_number"] (defScope s__law_images_by) := ⟨rfl, rfl, rfl, by decide +kernel, rfl, by decide +kernel, by decide +kernel⟩
theorem sc__law_quota_by : FnScope N__law_quota_by ["_law_number"] (defScope s__law_quota_by) := ⟨rfl, rfl, rfl, by decide +kernel, rfl, by decide +kernel, by decide +kernel⟩
theorem sc__law_one_town : FnScope N__law_one_town ["_law_cells", "_law_number", "_law_image", "_law_words"] (defScope s__law_one_town) := ⟨rfl, rfl, rfl, by decide +kernel, rfl, by decide +kernel, by decide +kernel⟩
theorem sc_law : FnScope N_law ["_law_script"] (defScope s_law) := ⟨rfl, rfl, rfl, by decide +kernel, rfl, by decide +kernel, by decide +kernel⟩
/-! ### what the top has written -/
structure Tx (K : PySem.W.Frag) (mg : Str → Option Value) : Prop where
  c_A : ∃ t, mg "A" = some (.int 0 t)
  c_B : ∃ t, mg "B" = some (.int 6 t)
  c_BARRED : ∃ t, mg "BARRED" = some (.int 2 t)
  c_BELL : ∃ t, mg "BELL" = some (.int 4 t)
  c_C : ∃ t, mg "C" = some (.int 12 t)
  c_CALL : ∃ t, mg "CALL" = some (.int 3 t)
  c_ENDED : ∃ t, mg "ENDED" = some (.int 0 t)
  c_F : ∃ t, mg "F" = some (.int 4 t)
  c_FIGURES : ∃ t, mg "FIGURES" = some (.str "0123456789" t)
  c_GOING : ∃ t, mg "GOING" = some (.int 1 t)
  c_GUARD : ∃ t, mg "GUARD" = some (.int 1 t)
  c_H : ∃ t, mg "H" = some (.int 14 t)
  c_HOW : ∃ t, mg "HOW" = some (.int 5 t)
  c_I : ∃ t, mg "I" = some (.int 3 t)
  c_L : ∃ t, mg "L" = some (.int 7 t)
  c_LETTERS : ∃ t, mg "LETTERS" = some (.str "abcdefghijklmnopqrstuvwxyz" t)
  c_M : ∃ t, mg "M" = some (.int 5 t)
  c_N : ∃ t, mg "N" = some (.int 13 t)
  c_P : ∃ t, mg "P" = some (.int 2 t)
  c_PLACES_codes : ∃ t, mg "PLACES_codes" = some (.int 4096 t)
  c_PLACES_machine : ∃ t, mg "PLACES_machine" = some (.int 4096 t)
  c_RECORD : ∃ t, mg "RECORD" = some (.int 16 t)
  c_ROWS : ∃ t, mg "ROWS" = some (.str rowsX t)
  c_SA : ∃ t, mg "SA" = some (.int 9 t)
  c_SP : ∃ t, mg "SP" = some (.int 11 t)
  c_SX : ∃ t, mg "SX" = some (.int 10 t)
  c_T : ∃ t, mg "T" = some (.int 8 t)
  c_TOP : ∃ t, mg "TOP" = some (.int 32768 t)
  c_WORDS : ∃ t, mg "WORDS" = some (.int 65536 t)
  c_X : ∃ t, mg "X" = some (.int 1 t)
  b_all : mg "all" = none
  b_enumerate : mg "enumerate" = none
  b_int : mg "int" = none
  b_len : mg "len" = none
  b_list : mg "list" = none
  b_min : mg "min" = none
  b_range : mg "range" = none
  b_sorted : mg "sorted" = none
  b_str : mg "str" = none
  b_tuple : mg "tuple" = none
  b_zip : mg "zip" = none
section
variable {X : Cx} {pos : Pos} {x z : Str} {i : Int}
theorem pe_gi (hg : Gl X x) (hm : ∃ t, X.mg x = some (.int i t)) (hd : (x == ("__debug__" : Str)) = false := by decide) : PE X (.Name x pos) (tC (.int i)) := let ⟨_, h⟩ := hm; pe_glob hg h ⟨_, rfl⟩ hd
theorem pe_gs (hg : Gl X x) (hm : ∃ t, X.mg x = some (.str z t)) (hd : (x == ("__debug__" : Str)) = false := by decide) : PE X (.Name x pos) (tC (.str z)) := let ⟨_, h⟩ := hm; pe_glob hg h ⟨_, rfl⟩ hd
end
section
variable {X : Cx} {K : PySem.W.Frag}
theorem ix_listK (h : X.K = K) : IxR X (rIxL K) := h ▸ ix_list
theorem ix_tupK (h : X.K = K) : IxR X (rIxT K) := h ▸ ix_tup
theorem op_in_seqK (h : X.K = K) : OpR X (compareOp .In) (rIn K false) := h ▸ op_in_seq
theorem op_notIn_seqK (h : X.K = K) : OpR X (compareOp .NotIn) (rIn K true) := h ▸ op_notIn_seq
end
/-! ### a def of the top, and its promise -/
section
variable (P : Program) (w : World) (K : PySem.W.Frag) (mg : Str → Option Value) (base : Heap)
structure Src (x : Str) (st : Stmt) : Prop where
  ex : ∃ (f : Addr) (fd : FuncData), mg x = some (.ref f) ∧ FunD K x x (defArgs st) (defBody st) (defScope st) [] [] f fd
structure Def (x : Str) (k : Nat) (ps : List Str) (sp : Sp) : Prop where
  ex : ∃ (f : Addr) (fd : FuncData), mg x = some (.ref f) ∧ PySem.W.keepIn K (.ref f) = true ∧ Binds K fd ps [] ∧ FnOk P w K mg base CX0 k f fd ps sp
end
section
variable {P : Program} {w : World} {K : PySem.W.Frag} {mg : Str → Option Value} {base : Heap}
theorem ok0 {x qual : Str} {st : Stmt} {f : Addr} {fd : FuncData} {N ps : List Str} {k : Nat} {sp : Sp} (F : FunD K x qual (defArgs st) (defBody st) (defScope st) [] [] f fd) (S : FnScope N ps (defScope st)) (len : ∀ vs H Q E, sp vs H Q E → vs.length = ps.length)
    (hbody : ∀ (cdv : Value) (A : Around) (outer : List Env) (s : Shared) (H : Hp) (vs : List V) (Q : VK) (E : XK), Room k (A.deeper (envOfC qual (defScope st) s.heap.objs.size f cdv)) → sp vs H Q E →
      ∃ t, PSs (cxOf CX0 P w K mg base N qual (defScope st) f cdv A outer s H E).nox (defBody st) t ∧ t { nx := fun _ H' => Q .non H', rt := Q } (start N vs) H) : FnOk P w K mg base CX0 (k + 1) f fd ps sp := by
  refine F.ok S len fun cdv A outer s H vs Q E hr hsp => ?_
  obtain ⟨t, h, q⟩ := hbody cdv A outer s H vs Q E hr hsp
  exact ⟨t, h.nox, q⟩
theorem Def.of {x : Str} {st : Stmt} {k : Nat} {ps : List Str} {sp : Sp} (S : Src K mg x st) (b : ∀ f fd, FunD K x x (defArgs st) (defBody st) (defScope st) [] [] f fd → Binds K fd ps [])
    (h : ∀ f fd, FunD K x x (defArgs st) (defBody st) (defScope st) [] [] f fd → FnOk P w K mg base CX0 k f fd ps sp) : Def P w K mg base x k ps sp := by
  obtain ⟨f, fd, m, F⟩ := S.ex
  exact ⟨f, fd, m, F.kp, b f fd F, h f fd F⟩
theorem same_upd {H : Hp} {p : Addr} {o : HO} (h : H p = none) : Same H (upd H p o) := fun b x e => by
  rw [upd_ne (ne_of_none e h)]
  exact e
theorem sqt {H : Hp} {a : Addr} {xs : List V} (h : H a = some (.tup xs)) : SqT K H a xs := SqT.of h
theorem sql {H : Hp} {a : Addr} {xs : List V} (h : H a = some (.lst xs)) : SqL K H a xs := SqL.of h
/-- an object that H does not know may change -/
theorem _root_.L2.Same.mut {H H' : Hp} {p : Addr} {o : HO} (e : Same H H') (h : H p = none) : Same H (upd H' p o) := fun b u q => by
  rw [upd_ne (ne_of_none q h)]
  exact e b u q
end
end G3
set_option Elab.async false
set_option linter.all false
set_option maxRecDepth 100000
set_option maxHeartbeats 4000000
namespace G3
/-! ### the machine, over whole numbers -/
structure S where
  a : Int
  x : Int
  p : Int
  i : Int
  f : Int
  m : Int
  b : Int
  l : Int
  t : Int
  sa : Int
  sx : Int
  sp : Int
  c : Int
  n : Int
  h : Int
abbrev Mem := Int → Int
def put (m : Mem) (k v : Int) : Mem := fun j => if j = k then v else m j
theorem put_same {m : Mem} {k v : Int} : put m k v k = v := if_pos rfl
theorem put_ne {m : Mem} {k v j : Int} (h : j ≠ k) : put m k v j = m j := if_neg h
theorem put_at {m : Mem} {k v j : Int} (h : j = k) : put m k v j = v := if_pos h
def wanted (s : S) : Int := if s.f = 0 then s.p else if s.i / 4096 = 9 ∨ s.i / 4096 = 10 then (s.x + s.i % 4096) % 65536 else s.i % 4096
def asked (s : S) : Int := if s.m = 0 then wanted s % 4096 else (s.b + wanted s) % 4096
def barred (s : S) : Bool := decide (s.m = 1) && decide (s.l ≤ wanted s)
def trap (s : S) (cause place : Int) : S := { s with sa := s.a, sx := s.x, sp := place % 4096, c := cause, m := 0, p := 0, f := 0 }
def ownRow (s : S) : S :=
  if s.i % 4096 % 16 < 5 then { s with a := if s.i % 4096 % 16 = 0 then s.sa else if s.i % 4096 % 16 = 1 then s.sx else if s.i % 4096 % 16 = 2 then s.sp else if s.i % 4096 % 16 = 3 then s.c else s.n }
  else if s.i % 4096 % 16 = 5 then { s with h := 1 }
  else if s.i % 4096 % 16 = 8 then { s with sa := s.a }
  else if s.i % 4096 % 16 = 9 then { s with sx := s.a }
  else if s.i % 4096 % 16 = 10 then { s with sp := s.a % 4096 }
  else if s.i % 4096 % 16 = 11 then { s with b := s.a % 4096 }
  else if s.i % 4096 % 16 = 12 then { s with l := s.a % 4096 }
  else if s.i % 4096 % 16 = 13 then { s with t := s.a % 4096 }
  else s
def moveRow (s : S) : S :=
  if s.i % 4096 % 4 = 0 then { s with x := s.a }
  else if s.i % 4096 % 4 = 1 then { s with a := s.x }
  else if s.i % 4096 % 4 = 2 then { s with a := s.a / 2 }
  else { s with p := s.a % 4096 }
def leapRow (s after : S) (op : Int) : S :=
  if op = 12 then { after with a := after.p, p := s.i % 4096 }
  else if op = 6 ∨ (op = 7 ∧ s.a = 0) ∨ (op = 8 ∧ 32768 ≤ s.a) then { after with p := s.i % 4096 }
  else after
def wordRow (after : S) (op word : Int) : S :=
  if op = 0 then { after with a := after.i % 4096 }
  else if op = 1 ∨ op = 9 then { after with a := word }
  else if op = 3 then { after with a := (after.a + word) % 65536 }
  else if op = 4 then { after with a := (after.a - word) % 65536 }
  else if op = 5 then { after with a := PySem.Builtin.bitAnd after.a word }
  else after
def afterOf (s : S) : S := { s with f := 0, p := (s.p + 1) % 4096 }
def rowDone (s : S) (word : Int) : S :=
  if s.i / 4096 = 6 ∨ s.i / 4096 = 7 ∨ s.i / 4096 = 8 ∨ s.i / 4096 = 12 then leapRow s (afterOf s) (s.i / 4096)
  else if s.i / 4096 = 11 then moveRow (afterOf s)
  else if s.i / 4096 = 14 then ownRow (afterOf s)
  else if s.i / 4096 = 15 then { afterOf s with a := s.sa, x := s.sx, p := s.sp, m := 1 }
  else wordRow (afterOf s) (s.i / 4096) word
def counted (s after : S) : S := { after with t := s.t - 1 }
def rung (s after : S) : S :=
  if s.m = 0 ∨ s.t = 0 then after
  else if s.t - 1 = 0 then trap (counted s after) 4 after.p
  else counted s after
def memOp (op : Int) : Prop := op = 1 ∨ op = 2 ∨ op = 3 ∨ op = 4 ∨ op = 5 ∨ op = 9 ∨ op = 10
instance (op : Int) : Decidable (memOp op) := by unfold memOp; infer_instance
def trapOf (s : S) : Int :=
  if memOp (s.i / 4096) ∧ barred s = true then 1
  else if 14 ≤ s.i / 4096 ∧ s.m = 1 then 2
  else if s.i / 4096 = 13 then 3
  else 0
def trapped (s : S) (cause : Int) : S := if cause = 3 then trap { s with n := s.i % 4096 } 3 (s.p + 1) else trap s cause s.p
def fetched (s : S) (word : Int) : S := if barred s = true then trap s 1 s.p else { s with i := word, f := 1 }
def beatOf (s : S) (word : Int) : S × Option Int × Option Int :=
  if s.h = 1 then (s, none, none)
  else if s.f = 0 then (fetched s word, none, none)
  else if 0 < trapOf s then (trapped s (trapOf s), none, none)
  else (rung s (rowDone s word), if s.i / 4096 = 2 ∨ s.i / 4096 = 10 then some s.a else none, if s.i / 4096 = 14 ∧ s.i % 4096 % 16 = 6 then some s.a else none)
/-- one beat: state, memory, words told -/
def stepS (s : S) (m : Mem) : S := (beatOf s (m (asked s))).1
def stepM (s : S) (m : Mem) : Mem := match (beatOf s (m (asked s))).2.1 with
  | some w => put m (asked s) w
  | none => m
def stepT (s : S) (m : Mem) (t : List Int) : List Int := match (beatOf s (m (asked s))).2.2 with
  | some w => t ++ [w]
  | none => t
def runC : Nat → S → Mem → List Int → S × Mem × List Int
  | 0, s, m, t => (s, m, t)
  | n + 1, s, m, t => if s.h = 0 then runC n (stepS s m) (stepM s m) (stepT s m t) else (s, m, t)
/-- G holds now and behind each of the next n beats -/
def GF (G : Mem → List Int → Prop) : Nat → S → Mem → List Int → Prop
  | 0, _, m, t => G m t
  | n + 1, s, m, t => G m t ∧ (s.h = 0 → GF G n (stepS s m) (stepM s m) (stepT s m t))
section
variable {G : Mem → List Int → Prop}
theorem GF.now : ∀ {n : Nat} {s : S} {m : Mem} {t : List Int}, GF G n s m t → G m t
  | 0, _, _, _, h => h
  | _ + 1, _, _, _, h => h.1
theorem GF.less : ∀ {n : Nat} {s : S} {m : Mem} {t : List Int}, GF G (n + 1) s m t → GF G n s m t
  | 0, _, _, _, h => h.1
  | n + 1, s, m, t, h => ⟨h.1, fun z => GF.less (h.2 z)⟩
theorem GF.run : ∀ {n : Nat} {s : S} {m : Mem} {t : List Int}, GF G n s m t → G (runC n s m t).2.1 (runC n s m t).2.2
  | 0, _, _, _, h => h
  | n + 1, s, m, t, h => by
    by_cases c : s.h = 0
    · have e : runC (n + 1) s m t = runC n (stepS s m) (stepM s m) (stepT s m t) := if_pos c
      rw [e]
      exact GF.run (h.2 c)
    · have e : runC (n + 1) s m t = (s, m, t) := if_neg c
      rw [e]
      exact h.1
/-- one beat on -/
theorem GF.step {n : Nat} {s s' : S} {m m' : Mem} {t t' : List Int} (g : G m t) (e1 : stepS s m = s') (e2 : stepM s m = m') (e3 : stepT s m t = t') (h : GF G n s' m' t') : GF G (n + 1) s m t := by
  subst e1 e2 e3
  exact ⟨g, fun _ => h⟩
/-! ### the kernel's rows: state with mode 0, nothing fetched -/
structure Rg where
  b : Int
  l : Int
  t : Int
  sa : Int
  sx : Int
  sp : Int
  c : Int
  n : Int
def K (p a x i : Int) (r : Rg) : S := ⟨a, x, p, i, 0, 0, r.b, r.l, r.t, r.sa, r.sx, r.sp, r.c, r.n, 0⟩
def K1 (p a x i : Int) (r : Rg) : S := ⟨a, x, p, i, 1, 0, r.b, r.l, r.t, r.sa, r.sx, r.sp, r.c, r.n, 0⟩
variable {n : Nat} {p a x i : Int} {r : Rg} {m : Mem} {t : List Int}
theorem k_fetch {w : Int} (hp : 0 ≤ p ∧ p < 4096) (hw : m p = w) : stepS (K p a x i r) m = K1 p a x w r ∧ stepM (K p a x i r) m = m ∧ stepT (K p a x i r) m t = t := by
  have e0 : asked (K p a x i r) = p := by
    show p % 4096 = p
    omega
  have e : beatOf (K p a x i r) (m (asked (K p a x i r))) = (K1 p a x w r, none, none) := by
    rw [e0, hw]
    rfl
  unfold stepS stepM stepT
  rw [e]
  exact ⟨rfl, rfl, rfl⟩
/-- a row: fetched, then done -/
theorem k_row {w : Int} {s' : S} {m' : Mem} {t' : List Int} (hp : 0 ≤ p ∧ p < 4096) (hw : m p = w) (g : G m t)
    (e1 : stepS (K1 p a x w r) m = s') (e2 : stepM (K1 p a x w r) m = m') (e3 : stepT (K1 p a x w r) m t = t') (h : GF G n s' m' t') : GF G (n + 2) (K p a x i r) m t := by
  obtain ⟨f1, f2, f3⟩ := k_fetch (a := a) (x := x) (i := i) (r := r) (t := t) hp hw
  exact GF.step g f1 f2 f3 (GF.step g e1 e2 e3 h)
theorem w_op {o k : Int} (hk : 0 ≤ k ∧ k < 4096) : (4096 * o + k) / 4096 = o := by omega
theorem w_num {o k : Int} (hk : 0 ≤ k ∧ k < 4096) : (4096 * o + k) % 4096 = k := by omega
theorem k1_beat {o k word : Int} (hk : 0 ≤ k ∧ k < 4096) (ho : o ≠ 13) : beatOf (K1 p a x (4096 * o + k) r) word =
    (rowDone (K1 p a x (4096 * o + k) r) word, if o = 2 ∨ o = 10 then some a else none, if o = 14 ∧ k % 16 = 6 then some a else none) := by
  have eb : barred (K1 p a x (4096 * o + k) r) = false := rfl
  have et : trapOf (K1 p a x (4096 * o + k) r) = 0 := by
    unfold trapOf
    rw [eb]
    simp [K1, w_op hk, ho]
  simp only [beatOf, et, rung]
  simp [K1, w_op hk, w_num hk]
theorem k1_asked {o k : Int} (hk : 0 ≤ k ∧ k < 4096) : asked (K1 p a x (4096 * o + k) r) = (if o = 9 ∨ o = 10 then (x + k) % 65536 else k) % 4096 := by
  simp [asked, wanted, K1, w_op hk, w_num hk]
/-- a row that writes and tells nothing -/
theorem k_plain {o k q : Int} {s' : S} (hk : 0 ≤ k ∧ k < 4096) (ho : o ≠ 13 ∧ o ≠ 2 ∧ o ≠ 10) (h6 : ¬ (o = 14 ∧ k % 16 = 6)) (hp : 0 ≤ p ∧ p < 4096) (hw : m p = 4096 * o + k)
    (hq : (if o = 9 ∨ o = 10 then (x + k) % 65536 else k) % 4096 = q) (e : rowDone (K1 p a x (4096 * o + k) r) (m q) = s') (g : G m t) (h : GF G n s' m t) : GF G (n + 2) (K p a x i r) m t := by
  have eb := k1_beat (p := p) (a := a) (x := x) (r := r) (word := m (asked (K1 p a x (4096 * o + k) r))) hk ho.1
  rw [if_neg (by omega), if_neg h6] at eb
  rw [k1_asked hk, hq, e] at eb
  refine k_row hp hw g ?_ ?_ ?_ h
  · unfold stepS
    rw [k1_asked hk, hq, eb]
  · unfold stepM
    rw [k1_asked hk, hq, eb]
  · unfold stepT
    rw [k1_asked hk, hq, eb]
theorem less2 {s : S} (h : GF G (n + 2) s m t) : GF G n s m t := h.less.less
theorem less1 {s : S} (h : GF G (n + 2) s m t) : GF G (n + 1) s m t := h.less
/-- the row's place and the next one -/
structure At (m : Mem) (p p' o k : Int) : Prop where
  w : m p = 4096 * o + k
  nx : (p + 1) % 4096 = p'
  p0 : 0 ≤ p
  p1 : p < 4095
  k0 : 0 ≤ k
  k1 : k < 4096
variable {k p' : Int}
theorem k_set (c : At m p p' 0 k) (g : G m t) (h : ∀ i, GF G n (K p' k x i r) m t) : GF G (n + 2) (K p a x i r) m t := by
  have hk : 0 ≤ k ∧ k < 4096 := ⟨c.k0, c.k1⟩
  have e1 : (k) / 4096 = 0 := by omega
  have e2 : (k) % 4096 = k := by omega
  refine k_plain hk (by decide) (by omega) ⟨c.p0, by have := c.p1; omega⟩ c.w rfl ?_ g (h (4096 * 0 + k))
  simp [rowDone, wordRow, afterOf, K, K1, e1, e2, c.nx]
theorem k_load {v : Int} (c : At m p p' 1 k) (hv : m k = v) (g : G m t) (h : ∀ i, GF G n (K p' v x i r) m t) : GF G (n + 2) (K p a x i r) m t := by
  have hk : 0 ≤ k ∧ k < 4096 := ⟨c.k0, c.k1⟩
  have e1 : (4096 + k) / 4096 = 1 := by omega
  have e2 : (4096 + k) % 4096 = k := by omega
  refine k_plain (q := k) hk (by decide) (by omega) ⟨c.p0, by have := c.p1; omega⟩ c.w (by simp; omega) ?_ g (h (4096 * 1 + k))
  simp [rowDone, wordRow, afterOf, K, K1, e1, e2, c.nx, hv]
theorem k_add {v : Int} (c : At m p p' 3 k) (hv : (a + m k) % 65536 = v) (g : G m t) (h : ∀ i, GF G n (K p' v x i r) m t) : GF G (n + 2) (K p a x i r) m t := by
  have hk : 0 ≤ k ∧ k < 4096 := ⟨c.k0, c.k1⟩
  have e1 : (12288 + k) / 4096 = 3 := by omega
  have e2 : (12288 + k) % 4096 = k := by omega
  refine k_plain (q := k) hk (by decide) (by omega) ⟨c.p0, by have := c.p1; omega⟩ c.w (by simp; omega) ?_ g (h (4096 * 3 + k))
  simp [rowDone, wordRow, afterOf, K, K1, e1, e2, c.nx, hv]
theorem k_take {v : Int} (c : At m p p' 4 k) (hv : (a - m k) % 65536 = v) (g : G m t) (h : ∀ i, GF G n (K p' v x i r) m t) : GF G (n + 2) (K p a x i r) m t := by
  have hk : 0 ≤ k ∧ k < 4096 := ⟨c.k0, c.k1⟩
  have e1 : (16384 + k) / 4096 = 4 := by omega
  have e2 : (16384 + k) % 4096 = k := by omega
  refine k_plain (q := k) hk (by decide) (by omega) ⟨c.p0, by have := c.p1; omega⟩ c.w (by simp; omega) ?_ g (h (4096 * 4 + k))
  simp [rowDone, wordRow, afterOf, K, K1, e1, e2, c.nx, hv]
theorem k_goto (c : At m p p' 6 k) (g : G m t) (h : ∀ i, GF G n (K k a x i r) m t) : GF G (n + 2) (K p a x i r) m t := by
  have hk : 0 ≤ k ∧ k < 4096 := ⟨c.k0, c.k1⟩
  have e1 : (24576 + k) / 4096 = 6 := by omega
  have e2 : (24576 + k) % 4096 = k := by omega
  refine k_plain hk (by decide) (by omega) ⟨c.p0, by have := c.p1; omega⟩ c.w rfl ?_ g (h (4096 * 6 + k))
  simp [rowDone, leapRow, afterOf, K, K1, e1, e2]
theorem k_zero (c : At m p p' 7 k) (g : G m t) (h0 : a = 0 → ∀ i, GF G n (K k a x i r) m t) (h1 : a ≠ 0 → ∀ i, GF G n (K p' a x i r) m t) : GF G (n + 2) (K p a x i r) m t := by
  have hk : 0 ≤ k ∧ k < 4096 := ⟨c.k0, c.k1⟩
  have e1 : (28672 + k) / 4096 = 7 := by omega
  have e2 : (28672 + k) % 4096 = k := by omega
  by_cases z : a = 0
  · refine k_plain hk (by decide) (by omega) ⟨c.p0, by have := c.p1; omega⟩ c.w rfl ?_ g (h0 z (4096 * 7 + k))
    simp [rowDone, leapRow, afterOf, K, K1, e1, e2, z]
  · refine k_plain hk (by decide) (by omega) ⟨c.p0, by have := c.p1; omega⟩ c.w rfl ?_ g (h1 z (4096 * 7 + k))
    simp [rowDone, leapRow, afterOf, K, K1, e1, e2, z, c.nx]
theorem k_from {q v : Int} (c : At m p p' 9 k) (hq : (x + k) % 65536 % 4096 = q) (hv : m q = v) (g : G m t) (h : ∀ i, GF G n (K p' v x i r) m t) : GF G (n + 2) (K p a x i r) m t := by
  have hk : 0 ≤ k ∧ k < 4096 := ⟨c.k0, c.k1⟩
  have e1 : (36864 + k) / 4096 = 9 := by omega
  have e2 : (36864 + k) % 4096 = k := by omega
  refine k_plain (q := q) hk (by decide) (by omega) ⟨c.p0, by have := c.p1; omega⟩ c.w (by simp; omega) ?_ g (h (4096 * 9 + k))
  simp [rowDone, wordRow, afterOf, K, K1, e1, e2, c.nx, hv]
theorem k_movex (c : At m p p' 11 0) (g : G m t) (h : ∀ i, GF G n (K p' a a i r) m t) : GF G (n + 2) (K p a x i r) m t := by
  have hk : 0 ≤ (0 : Int) ∧ (0 : Int) < 4096 := by decide
  refine k_plain hk (by decide) (by omega) ⟨c.p0, by have := c.p1; omega⟩ c.w rfl ?_ g (h (4096 * 11 + 0))
  simp [rowDone, moveRow, afterOf, K, K1, c.nx]
/-- own 0 to 4: a saved word, the cause, a call's number -/
def ownGet (r : Rg) (k : Int) : Int := if k = 0 then r.sa else if k = 1 then r.sx else if k = 2 then r.sp else if k = 3 then r.c else r.n
theorem k_ownget (c : At m p p' 14 k) (h5 : k < 5) (g : G m t) (h : ∀ i, GF G n (K p' (ownGet r k) x i r) m t) : GF G (n + 2) (K p a x i r) m t := by
  have hk : 0 ≤ k ∧ k < 4096 := ⟨c.k0, c.k1⟩
  have e1 : (57344 + k) / 4096 = 14 := by omega
  have e2 : (57344 + k) % 4096 = k := by omega
  have e16 : k % 16 = k := by omega
  refine k_plain hk (by decide) (by omega) ⟨c.p0, by have := c.p1; omega⟩ c.w rfl ?_ g (h (4096 * 14 + k))
  simp [rowDone, ownRow, afterOf, K, K1, e1, e2, c.nx, e16, h5, ownGet]
theorem k_halt (c : At m p p' 14 5) (g : G m t) : GF G (n + 2) (K p a x i r) m t := by
  have hk : 0 ≤ (5 : Int) ∧ (5 : Int) < 4096 := by decide
  refine k_plain (s' := { K p' a x (4096 * 14 + 5) r with h := 1 }) hk (by decide) (by omega) ⟨c.p0, by have := c.p1; omega⟩ c.w rfl ?_ g ?_
  · simp [rowDone, ownRow, afterOf, K, K1, c.nx]
  · cases n with
    | zero => exact g
    | succ n => exact ⟨g, fun z => absurd z (by show ¬ ((1 : Int) = 0); decide)⟩
theorem k_ownsa (c : At m p p' 14 8) (g : G m t) (h : ∀ i, GF G n (K p' a x i { r with sa := a }) m t) : GF G (n + 2) (K p a x i r) m t := by
  have hk : 0 ≤ (8 : Int) ∧ (8 : Int) < 4096 := by decide
  refine k_plain hk (by decide) (by omega) ⟨c.p0, by have := c.p1; omega⟩ c.w rfl ?_ g (h (4096 * 14 + 8))
  simp [rowDone, ownRow, afterOf, K, K1, c.nx]
theorem k_ownsx (c : At m p p' 14 9) (g : G m t) (h : ∀ i, GF G n (K p' a x i { r with sx := a }) m t) : GF G (n + 2) (K p a x i r) m t := by
  have hk : 0 ≤ (9 : Int) ∧ (9 : Int) < 4096 := by decide
  refine k_plain hk (by decide) (by omega) ⟨c.p0, by have := c.p1; omega⟩ c.w rfl ?_ g (h (4096 * 14 + 9))
  simp [rowDone, ownRow, afterOf, K, K1, c.nx]
theorem k_ownsp (c : At m p p' 14 10) (g : G m t) (h : ∀ i, GF G n (K p' a x i { r with sp := a % 4096 }) m t) : GF G (n + 2) (K p a x i r) m t := by
  have hk : 0 ≤ (10 : Int) ∧ (10 : Int) < 4096 := by decide
  refine k_plain hk (by decide) (by omega) ⟨c.p0, by have := c.p1; omega⟩ c.w rfl ?_ g (h (4096 * 14 + 10))
  simp [rowDone, ownRow, afterOf, K, K1, c.nx]
theorem k_ownb (c : At m p p' 14 11) (g : G m t) (h : ∀ i, GF G n (K p' a x i { r with b := a % 4096 }) m t) : GF G (n + 2) (K p a x i r) m t := by
  have hk : 0 ≤ (11 : Int) ∧ (11 : Int) < 4096 := by decide
  refine k_plain hk (by decide) (by omega) ⟨c.p0, by have := c.p1; omega⟩ c.w rfl ?_ g (h (4096 * 14 + 11))
  simp [rowDone, ownRow, afterOf, K, K1, c.nx]
theorem k_ownl (c : At m p p' 14 12) (g : G m t) (h : ∀ i, GF G n (K p' a x i { r with l := a % 4096 }) m t) : GF G (n + 2) (K p a x i r) m t := by
  have hk : 0 ≤ (12 : Int) ∧ (12 : Int) < 4096 := by decide
  refine k_plain hk (by decide) (by omega) ⟨c.p0, by have := c.p1; omega⟩ c.w rfl ?_ g (h (4096 * 14 + 12))
  simp [rowDone, ownRow, afterOf, K, K1, c.nx]
theorem k_ownt (c : At m p p' 14 13) (g : G m t) (h : ∀ i, GF G n (K p' a x i { r with t := a % 4096 }) m t) : GF G (n + 2) (K p a x i r) m t := by
  have hk : 0 ≤ (13 : Int) ∧ (13 : Int) < 4096 := by decide
  refine k_plain hk (by decide) (by omega) ⟨c.p0, by have := c.p1; omega⟩ c.w rfl ?_ g (h (4096 * 14 + 13))
  simp [rowDone, ownRow, afterOf, K, K1, c.nx]
/-- into the task -/
theorem k_back (c : At m p p' 15 0) (g : G m t) (h : ∀ i, GF G n ⟨r.sa, r.sx, r.sp, i, 0, 1, r.b, r.l, r.t, r.sa, r.sx, r.sp, r.c, r.n, 0⟩ m t) : GF G (n + 2) (K p a x i r) m t := by
  have hk : 0 ≤ (0 : Int) ∧ (0 : Int) < 4096 := by decide
  refine k_plain hk (by decide) (by omega) ⟨c.p0, by have := c.p1; omega⟩ c.w rfl ?_ g (h (4096 * 15 + 0))
  simp [rowDone, afterOf, K1]
theorem k_store {m' : Mem} (c : At m p p' 2 k) (hm : put m k a = m') (g : G m t) (h : ∀ i, GF G n (K p' a x i r) m' t) : GF G (n + 2) (K p a x i r) m t := by
  have hk : 0 ≤ k ∧ k < 4096 := ⟨c.k0, c.k1⟩
  have e1 : (8192 + k) / 4096 = 2 := by omega
  have e2 : (8192 + k) % 4096 = k := by omega
  have eb := k1_beat (p := p) (a := a) (x := x) (r := r) (word := m (asked (K1 p a x (4096 * 2 + k) r))) (o := 2) hk (by decide)
  have ea : asked (K1 p a x (4096 * 2 + k) r) = k := by
    rw [k1_asked hk]
    simp
    omega
  rw [ea] at eb
  subst hm
  refine k_row ⟨c.p0, by have := c.p1; omega⟩ c.w g ?_ ?_ ?_ (h (4096 * 2 + k))
  · unfold stepS
    rw [ea, eb]
    simp [rowDone, wordRow, afterOf, K, K1, e1, e2, c.nx]
  · unfold stepM
    rw [ea, eb]
    simp
  · unfold stepT
    rw [ea, eb]
    simp
theorem k_into {q : Int} {m' : Mem} (c : At m p p' 10 k) (hq : (x + k) % 65536 % 4096 = q) (hm : put m q a = m') (g : G m t) (h : ∀ i, GF G n (K p' a x i r) m' t) : GF G (n + 2) (K p a x i r) m t := by
  have hk : 0 ≤ k ∧ k < 4096 := ⟨c.k0, c.k1⟩
  have e1 : (40960 + k) / 4096 = 10 := by omega
  have e2 : (40960 + k) % 4096 = k := by omega
  have eb := k1_beat (p := p) (a := a) (x := x) (r := r) (word := m (asked (K1 p a x (4096 * 10 + k) r))) (o := 10) hk (by decide)
  have ea : asked (K1 p a x (4096 * 10 + k) r) = q := by
    rw [k1_asked hk, if_pos (.inr rfl), hq]
  rw [ea] at eb
  subst hm
  refine k_row ⟨c.p0, by have := c.p1; omega⟩ c.w g ?_ ?_ ?_ (h (4096 * 10 + k))
  · unfold stepS
    rw [ea, eb]
    simp [rowDone, wordRow, afterOf, K, K1, e1, e2, c.nx]
  · unfold stepM
    rw [ea, eb]
    simp
  · unfold stepT
    rw [ea, eb]
    simp
theorem k_tell (c : At m p p' 14 6) (g : G m t) (h : ∀ i, GF G n (K p' a x i r) m (t ++ [a])) : GF G (n + 2) (K p a x i r) m t := by
  have hk : 0 ≤ (6 : Int) ∧ (6 : Int) < 4096 := by decide
  have eb := k1_beat (p := p) (a := a) (x := x) (r := r) (word := m (asked (K1 p a x (4096 * 14 + 6) r))) (o := 14) hk (by decide)
  refine k_row ⟨c.p0, by have := c.p1; omega⟩ c.w g ?_ ?_ ?_ (h (4096 * 14 + 6))
  · unfold stepS
    rw [eb]
    simp [rowDone, ownRow, afterOf, K, K1, c.nx]
  · unfold stepM
    rw [eb]
    simp
  · unfold stepT
    rw [eb]
    simp
end
end G3
set_option Elab.async false
set_option linter.all false
set_option maxRecDepth 100000
set_option maxHeartbeats 1000000
namespace G3
open PySem PySem.Spec PyProof.Rows L2
/-! ### the machine's defs -/
def S.vs (s : S) : List V := [.int s.a, .int s.x, .int s.p, .int s.i, .int s.f, .int s.m, .int s.b, .int s.l, .int s.t, .int s.sa, .int s.sx, .int s.sp, .int s.c, .int s.n, .int s.h]
def setAll : List V → List (Nat × V) → List V
  | st, [] => st
  | st, (k, v) :: ps => setAll (st.set k v) ps
def PairsAt (H : Hp) : List V → List (Nat × V) → Prop
  | [], [] => True
  | .ref p :: rs, (k, v) :: ps => H p = some (.tup [.int (k : Int), v]) ∧ PairsAt H rs ps
  | _, _ => False
theorem PairsAt.same {H H' : Hp} (e : Same H H') : ∀ {rs : List V} {ps : List (Nat × V)}, PairsAt H rs ps → PairsAt H' rs ps
  | [], [], _ => trivial
  | .ref p :: rs, (k, v) :: ps, h => ⟨e _ _ h.1, PairsAt.same e h.2⟩
theorem PairsAt.len {H : Hp} : ∀ {rs : List V} {ps : List (Nat × V)}, PairsAt H rs ps → rs.length = ps.length
  | [], [], _ => rfl
  | .ref p :: rs, (k, v) :: ps, h => congrArg (· + 1) (PairsAt.len h.2)
theorem PairsAt.get {H : Hp} : ∀ {rs : List V} {ps : List (Nat × V)} {i : Nat} {x : V}, PairsAt H rs ps → rs[i]? = some x → ∃ p k v, x = .ref p ∧ ps[i]? = some (k, v) ∧ H p = some (.tup [.int (k : Int), v])
  | [], [], _, _, _, e => by simp at e
  | .ref p :: rs, (k, v) :: ps, 0, x, h, e => ⟨p, k, v, (Option.some.inj e).symm, rfl, h.1⟩
  | .ref p :: rs, (k, v) :: ps, i + 1, x, h, e => PairsAt.get (i := i) h.2 e
theorem setAll_len : ∀ {ps : List (Nat × V)} {st : List V}, (setAll st ps).length = st.length
  | [], st => rfl
  | (k, v) :: ps, st => by
    show (setAll (st.set k v) ps).length = _
    rw [setAll_len, List.length_set]
theorem setAll_take : ∀ {ps : List (Nat × V)} {st : List V} {i : Nat} {k : Nat} {v : V}, ps[i]? = some (k, v) → setAll st (ps.take (i + 1)) = (setAll st (ps.take i)).set k v
  | [], st, i, k, v, h => by simp at h
  | (a, b) :: ps, st, 0, k, v, h => by
    have e : (a, b) = (k, v) := Option.some.inj h
    cases e
    rfl
  | (a, b) :: ps, st, i + 1, k, v, h => setAll_take (ps := ps) (st := st.set a b) (i := i) h
def sp_op_of (K : PySem.W.Frag) : Sp := fun vs H Q _ => ∃ n : Int, vs = [.int n] ∧ Q (.int (n / 4096)) H
def sp_number_of (K : PySem.W.Frag) : Sp := fun vs H Q _ => ∃ n : Int, vs = [.int n] ∧ Q (.int (n % 4096)) H
def sp_first_state (K : PySem.W.Frag) : Sp := fun vs H Q _ => vs = [] ∧ ∀ p H', Same H H' → H' p = some (.tup (S.mk 0 0 0 0 0 0 0 0 0 0 0 0 0 0 0).vs) → Q (.ref p) H'
def sp_changed (K : PySem.W.Frag) : Sp := fun vs H Q _ => ∃ (a b : Addr) (st rs : List V) (ps : List (Nat × V)), vs = [.ref a, .ref b] ∧ H a = some (.tup st) ∧ H b = some (.lst rs) ∧ PairsAt H rs ps ∧ (ps.all fun q => decide (q.1 < st.length)) = true ∧
  ∀ p H', Same H H' → H' p = some (.tup (setAll st ps)) → Q (.ref p) H'
section
variable {P : Program} {w : World} {K : PySem.W.Frag} {mg : Str → Option Value} {base : Heap}
theorem ok_op_of (T : Tx K mg) (Sr : Src K mg "op_of" s_op_of) : Def P w K mg base "op_of" 1 ["word"] (sp_op_of K) := by
  refine Def.of Sr (fun f fd F => F.bindsN fun _ _ _ _ _ _ us hl => match us, hl with | [_], _ => rfl) fun f fd F => ok0 F sc_op_of (fun vs H Q E h => ?_) (fun cdv A outer s H vs Q E hr h => ?_)
  · obtain ⟨n, rfl, k⟩ := h
    rfl
  · have hu := hu_of hr
    have nd := sc_op_of.nd
    obtain ⟨n, rfl, k⟩ := h
    refine ⟨_, (pss_one (ps_ret (pe_op op_fdiv (pv 0) (pe_gi rfl T.c_PLACES_machine)))), ?_⟩
    exact ⟨_, rfl, _, _, rfl, rfl, ⟨by decide, by decide⟩, k⟩
theorem ok_number_of (T : Tx K mg) (Sr : Src K mg "number_of" s_number_of) : Def P w K mg base "number_of" 1 ["word"] (sp_number_of K) := by
  refine Def.of Sr (fun f fd F => F.bindsN fun _ _ _ _ _ _ us hl => match us, hl with | [_], _ => rfl) fun f fd F => ok0 F sc_number_of (fun vs H Q E h => ?_) (fun cdv A outer s H vs Q E hr h => ?_)
  · obtain ⟨n, rfl, k⟩ := h
    rfl
  · have hu := hu_of hr
    have nd := sc_number_of.nd
    obtain ⟨n, rfl, k⟩ := h
    refine ⟨_, (pss_one (ps_ret (pe_op op_mod (pv 0) (pe_gi rfl T.c_PLACES_machine)))), ?_⟩
    exact ⟨_, rfl, _, _, rfl, rfl, (by decide : (0 : Int) < 4096), k⟩
theorem ok_first_state (T : Tx K mg) (Sr : Src K mg "first_state" s_first_state) : Def P w K mg base "first_state" 1 [] (sp_first_state K) := by
  refine Def.of Sr (fun f fd F => F.bindsN fun _ _ _ _ _ _ us hl => match us, hl with | [], _ => rfl) fun f fd F => ok0 F sc_first_state (fun vs H Q E h => ?_) (fun cdv A outer s H vs Q E hr h => ?_)
  · obtain ⟨rfl, k⟩ := h
    rfl
  · have hu := hu_of hr
    have nd := sc_first_state.nd
    obtain ⟨rfl, k⟩ := h
    refine ⟨_, (pss_one (ps_ret (pe_op op_repT (pe_tup (pa_cons pe_int pa_nil)) pe_int))), ?_⟩
    refine ⟨(by show 1 ≤ sizeLine; decide), fun p hp => ?_⟩
    refine ⟨p, 15, [.int 0], rfl, rfl, sqt upd_same, by simp, by decide, by decide, by decide, fun q hq => ?_⟩
    exact k q _ ((same_upd hp).trans (same_upd hq)) upd_same
theorem ok_changed (T : Tx K mg) (Sr : Src K mg "changed" s_changed) : Def P w K mg base "changed" 1 ["state", "pairs"] (sp_changed K) := by
  refine Def.of Sr (fun f fd F => F.bindsN fun _ _ _ _ _ _ us hl => match us, hl with | [_, _], _ => rfl) fun f fd F => ok0 F sc_changed (fun vs H Q E h => ?_) (fun cdv A outer s H vs Q E hr h => ?_)
  · obtain ⟨a, b, st, rs, ps, rfl, ha, hb, hp, hlt, k⟩ := h
    rfl
  · have hu := hu_of hr
    have nd := sc_changed.nd
    obtain ⟨a, b, st, rs, ps, rfl, ha, hb, hp, hlt, k⟩ := h
    refine ⟨_, (pss_cons (ps_set (i := 2) nd rfl (Or.inl rfl) (pe_callTy call_list_of rfl T.b_list (by decide +kernel) (pa_cons (pv 0) pa_nil)))
      (pss_cons (ps_for PassesOwn.never rfl (pi_list (pv 1)) (pg_tup rfl (pgs_cons (pg_name (i := 3) nd rfl (Or.inl rfl)) (pgs_cons (pg_name (i := 4) nd rfl (Or.inl rfl)) pgs_nil))) (pss_one (ps_asg (pv 4) (pg_sub (pv 2) (pv 3) set_list))))
      (pss_one (ps_ret (pe_callTy call_tuple_of rfl T.b_tuple (by decide +kernel) (pa_cons (pv 2) pa_nil)))))), ?_⟩
    refine ⟨_, rfl, a, st, rfl, .inr (sqt ha), fun m hm => ?_⟩
    have s1 : Same H (upd H m (.lst st)) := same_upd hm
    refine ⟨_, rfl, b, rfl, ⟨_, sql (s1 _ _ hb)⟩, for_list (K := K) (a := b) (xs := rs) (fun i σ H2 => ∃ y3 y4, σ = [some (.ref a), some (.ref b), some (.ref m), y3, y4] ∧ Same H H2 ∧ H2 m = some (.lst (setAll st (ps.take i)))) ⟨none, none, rfl, s1, upd_same⟩ (fun i σ H2 _ ⟨_, _, _, s2, _⟩ => sql (s2 _ _ hb)) ?_ ?_⟩
    · rintro i x σ H2 hi ⟨y3, y4, rfl, s2, hm2⟩
      obtain ⟨p, n, v, rfl, hpi, hpp⟩ := hp.get hi
      have hn : n < st.length := of_decide_eq_true (List.all_eq_true.mp hlt (n, v) (List.mem_of_getElem? hpi))
      refine ⟨p, _, rfl, sqt (s2 _ _ hpp), rfl, _, _, rfl, _, _, rfl, rfl, ?_⟩
      refine ⟨_, rfl, _, rfl, _, rfl, m, _, (n : Int), n, rfl, rfl, hm2, Evl.ixN_nat (by rw [setAll_len]; exact hn), ?_⟩
      refine ⟨_, _, rfl, s2.mut hm, ?_⟩
      rw [upd_same, setAll_take hpi]
    · rintro σ H2 ⟨y3, y4, rfl, s2, hm2⟩
      rw [hp.len, List.take_length] at hm2
      exact ⟨_, rfl, m, _, rfl, .inl ⟨sql hm2, fun l hl => k l _ (s2.trans (same_upd hl)) upd_same⟩⟩
end
end G3
set_option Elab.async false
set_option linter.all false
set_option maxRecDepth 100000
set_option maxHeartbeats 1000000
namespace G3
open PySem PySem.Spec PyProof.Rows L2
local macro_rules | `(tactic| walk_at "hp") => `(tactic| first | assumption | exact upd_same | (refine same_upd (by assumption) _ _ ?_; walk_at "hp") | (refine (‹Same _ _›) _ _ ?_; walk_at "hp"))
local macro_rules | `(tactic| walk_at "sm") => `(tactic| first | exact Same.refl _ | assumption | (refine Same.trans ?_ (same_upd (by assumption)); walk_at "sm") | (refine Same.trans ?_ (by assumption); walk_at "sm"))
local macro_rules | `(tactic| walk_at "pa") => `(tactic| first | exact trivial | (refine ⟨by walk_at "hp", ?_⟩; walk_at "pa"))
/-! ### the machine's defs, further -/
theorem sz {α : Type} {xs : List α} (h : Nat.ble xs.length 1000 = true) : xs.length ≤ sizeLine := Nat.le_trans (Nat.le_of_ble_eq_true h) (by decide)
theorem sz2 {α : Type} {xs ys : List α} (h : Nat.ble (xs.length + ys.length) 1000 = true) : xs.length + ys.length ≤ sizeLine := Nat.le_trans (Nat.le_of_ble_eq_true h) (by decide)
theorem if_eq {i j : Int} {A B : Prop} (h1 : i = j → A) (h2 : i ≠ j → B) : if decide (V.int i = V.int j) = true then A else B := by
  by_cases h : i = j
  · subst h
    rw [decide_eq_true rfl]
    exact iteT (h1 rfl)
  · rw [decide_eq_false (fun z => h (V.int.inj z))]
    exact iteF (h2 h)
theorem if_ne {i j : Int} {A B : Prop} (h1 : i ≠ j → A) (h2 : i = j → B) : if (!decide (V.int i = V.int j)) = true then A else B := by
  by_cases h : i = j
  · subst h
    rw [decide_eq_true rfl]
    exact iteF (h2 rfl)
  · rw [decide_eq_false (fun z => h (V.int.inj z))]
    exact iteT (h1 h)
theorem if_dec {p A B : Prop} [Decidable p] (h1 : p → A) (h2 : ¬ p → B) : if decide p = true then A else B := by
  by_cases h : p
  · rw [decide_eq_true h]
    exact iteT (h1 h)
  · rw [decide_eq_false h]
    exact iteF (h2 h)
theorem if_bool {b : Bool} {A B : Prop} (h1 : b = true → A) (h2 : b = false → B) : if b = true then A else B := by
  cases b with
  | true => exact iteT (h1 rfl)
  | false => exact iteF (h2 rfl)
theorem inV_cons {n a : Int} {xs : List V} : inV (.int n) (.int a :: xs) = (decide (n = a) || inV (.int n) xs) := by
  show ((a == n) || inV (.int n) xs) = _
  congr 1
  by_cases h : n = a
  · rw [decide_eq_true h, h]
    exact beq_self_eq_true a
  · rw [decide_eq_false h]
    exact beq_eq_false_iff_ne.mpr fun z => h z.symm
theorem inV_nil {x : V} : inV x [] = false := rfl
/-- a state's tuple -/
abbrev StAt (H : Hp) (p : Addr) (s : S) : Prop := H p = some (.tup s.vs)
def sp_wanted (K : PySem.W.Frag) : Sp := fun vs H Q _ => ∃ (a : Addr) (s : S), vs = [.ref a] ∧ StAt H a s ∧ ∀ H', Same H H' → Q (.int (wanted s)) H'
def sp_asked (K : PySem.W.Frag) : Sp := fun vs H Q _ => ∃ (a : Addr) (s : S), vs = [.ref a] ∧ StAt H a s ∧ ∀ H', Same H H' → Q (.int (asked s)) H'
def sp_is_barred (K : PySem.W.Frag) : Sp := fun vs H Q _ => ∃ (a : Addr) (s : S), vs = [.ref a] ∧ StAt H a s ∧ ∀ H', Same H H' → Q (.bl (barred s)) H'
def sp_trap (K : PySem.W.Frag) : Sp := fun vs H Q _ => ∃ (a : Addr) (s : S) (c q : Int), vs = [.ref a, .int c, .int q] ∧ StAt H a s ∧ ∀ p H', Same H H' → StAt H' p (trap s c q) → Q (.ref p) H'
def sp_own_row (K : PySem.W.Frag) : Sp := fun vs H Q _ => ∃ (a : Addr) (s : S), vs = [.ref a] ∧ StAt H a s ∧ ∀ p H', Same H H' → StAt H' p (ownRow s) → Q (.ref p) H'
def sp_move_row (K : PySem.W.Frag) : Sp := fun vs H Q _ => ∃ (a : Addr) (s : S), vs = [.ref a] ∧ StAt H a s ∧ ∀ p H', Same H H' → StAt H' p (moveRow s) → Q (.ref p) H'
def sp_leap_row (K : PySem.W.Frag) : Sp := fun vs H Q _ => ∃ (a b : Addr) (s u : S) (op : Int), vs = [.ref a, .ref b, .int op] ∧ StAt H a s ∧ StAt H b u ∧ ∀ p H', Same H H' → StAt H' p (leapRow s u op) → Q (.ref p) H'
def sp_word_row (K : PySem.W.Frag) : Sp := fun vs H Q _ => ∃ (a : Addr) (s : S) (op wd : Int), vs = [.ref a, .int op, .int wd] ∧ StAt H a s ∧ ∀ p H', Same H H' → StAt H' p (wordRow s op wd) → Q (.ref p) H'
def sp_row_done (K : PySem.W.Frag) : Sp := fun vs H Q _ => ∃ (a : Addr) (s : S) (wd : Int), vs = [.ref a, .int wd] ∧ StAt H a s ∧ ∀ p H', Same H H' → StAt H' p (rowDone s wd) → Q (.ref p) H'
def sp_rung (K : PySem.W.Frag) : Sp := fun vs H Q _ => ∃ (a b : Addr) (s u : S), vs = [.ref a, .ref b] ∧ StAt H a s ∧ StAt H b u ∧ ∀ p H', Same H H' → StAt H' p (rung s u) → Q (.ref p) H'
def sp_trap_of (K : PySem.W.Frag) : Sp := fun vs H Q _ => ∃ (a : Addr) (s : S), vs = [.ref a] ∧ StAt H a s ∧ ∀ H', Same H H' → Q (.int (trapOf s)) H'
def sp_trapped (K : PySem.W.Frag) : Sp := fun vs H Q _ => ∃ (a : Addr) (s : S) (c : Int), vs = [.ref a, .int c] ∧ StAt H a s ∧ ∀ p H', Same H H' → StAt H' p (trapped s c) → Q (.ref p) H'
def sp_fetched (K : PySem.W.Frag) : Sp := fun vs H Q _ => ∃ (a : Addr) (s : S) (wd : Int), vs = [.ref a, .int wd] ∧ StAt H a s ∧ ∀ p H', Same H H' → StAt H' p (fetched s wd) → Q (.ref p) H'
section
variable {P : Program} {w : World} {K : PySem.W.Frag} {mg : Str → Option Value} {base : Heap}
theorem ok_wanted (T : Tx K mg) (Sr : Src K mg "wanted" s_wanted) (D_op_of : Def P w K mg base "op_of" 1 ["word"] (sp_op_of K)) (D_number_of : Def P w K mg base "number_of" 1 ["word"] (sp_number_of K)) : Def P w K mg base "wanted" 2 ["state"] (sp_wanted K) := by
  obtain ⟨f_op_of, fd_op_of, g_op_of, k_op_of, b_op_of, G_op_of⟩ := D_op_of.ex
  obtain ⟨f_number_of, fd_number_of, g_number_of, k_number_of, b_number_of, G_number_of⟩ := D_number_of.ex
  refine Def.of Sr (fun f fd F => F.bindsN fun _ _ _ _ _ _ us hl => match us, hl with | [_], _ => rfl) fun f fd F => ok0 F sc_wanted (fun vs H Q E h => ?_) (fun cdv A outer s H vs Q E hr h => ?_)
  · obtain ⟨a, s, rfl, ha, k⟩ := h
    rfl
  · have hu := hu_of hr
    have nd := sc_wanted.nd
    have R_op_of : 1 ≤ 1 := by decide
    have R_number_of : 1 ≤ 1 := by decide
    obtain ⟨a, s, rfl, ha, k⟩ := h
    refine ⟨_, (pss_cons (ps_if (pt_cmpR op_eq (pe_ix ix_tup (pv 0) (pe_gi rfl T.c_F) (fun _ _ => rfl)) pe_int (nomark _)) (pss_one (ps_ret (pe_ix ix_tup (pv 0) (pe_gi rfl T.c_P) (fun _ _ => rfl)))) pss_nil)
      (pss_cons (ps_if (pt_cmpR op_in_seq (pe_call G_op_of (hr.mono R_op_of) rfl g_op_of k_op_of b_op_of .nil pass0 (pa_cons (pe_ix ix_tup (pv 0) (pe_gi rfl T.c_I) (fun _ _ => rfl)) pa_nil)) (pe_tup (pa_cons pe_int (pa_cons pe_int pa_nil))) rfl) (pss_one (ps_ret (pe_op op_mod (pe_op op_add (pe_ix ix_tup (pv 0) (pe_gi rfl T.c_X) (fun _ _ => rfl)) (pe_call G_number_of (hr.mono R_number_of) rfl g_number_of k_number_of b_number_of .nil pass0 (pa_cons (pe_ix ix_tup (pv 0) (pe_gi rfl T.c_I) (fun _ _ => rfl)) pa_nil))) (pe_gi rfl T.c_WORDS)))) pss_nil)
      (pss_one (ps_ret (pe_call G_number_of (hr.mono R_number_of) rfl g_number_of k_number_of b_number_of .nil pass0 (pa_cons (pe_ix ix_tup (pv 0) (pe_gi rfl T.c_I) (fun _ _ => rfl)) pa_nil)))))), ?_⟩
    unfold wanted at k
    refine ⟨_, rfl, _, _, _, _, rfl, rfl, sqt ha, rfl, rfl, _, rfl, if_eq (fun c => ?_) (fun c => ?_)⟩
    · rw [if_pos c] at k
      exact ⟨_, rfl, _, _, _, _, rfl, rfl, sqt ha, rfl, k _ (Same.refl _)⟩
    rw [if_neg c] at k
    refine ⟨_, rfl, _, _, _, _, rfl, rfl, sqt ha, rfl, _, rfl, sz rfl, fun t ht => ?_⟩
    refine ⟨t, _, rfl, .inr (sqt upd_same), rfl, rfl, _, rfl, ?_⟩
    show if inV (.int (s.i / 4096)) [.int 9, .int 10] = true then _ else _
    rw [inV_cons, inV_cons, inV_nil, Bool.or_false, ← Bool.decide_or]
    have ha' : StAt (upd H t (.tup [.int 9, .int 10])) a s := by walk_at "hp"
    refine if_dec (fun c => ?_) (fun c => ?_)
    · rw [if_pos c] at k
      refine ⟨_, rfl, _, _, _, _, rfl, rfl, sqt ha', rfl, _, rfl, _, _, _, _, rfl, rfl, sqt ha', rfl, _, rfl, _, _, rfl, rfl, _, _, rfl, rfl, (by decide : (0 : Int) < 65536), ?_⟩
      exact k _ (same_upd ht)
    · rw [if_neg c] at k
      exact ⟨_, rfl, _, _, _, _, rfl, rfl, sqt ha', rfl, _, rfl, k _ (same_upd ht)⟩
theorem ok_asked (T : Tx K mg) (Sr : Src K mg "asked" s_asked) (D_wanted : Def P w K mg base "wanted" 2 ["state"] (sp_wanted K)) : Def P w K mg base "asked" 3 ["state"] (sp_asked K) := by
  obtain ⟨f_wanted, fd_wanted, g_wanted, k_wanted, b_wanted, G_wanted⟩ := D_wanted.ex
  refine Def.of Sr (fun f fd F => F.bindsN fun _ _ _ _ _ _ us hl => match us, hl with | [_], _ => rfl) fun f fd F => ok0 F sc_asked (fun vs H Q E h => ?_) (fun cdv A outer s H vs Q E hr h => ?_)
  · obtain ⟨a, s, rfl, ha, k⟩ := h
    rfl
  · have hu := hu_of hr
    have nd := sc_asked.nd
    have R_wanted : 2 ≤ 2 := by decide
    obtain ⟨a, s, rfl, ha, k⟩ := h
    refine ⟨_, (pss_cons (ps_if (pt_cmpR op_eq (pe_ix ix_tup (pv 0) (pe_gi rfl T.c_M) (fun _ _ => rfl)) pe_int (nomark _)) (pss_one (ps_ret (pe_op op_mod (pe_call G_wanted (hr.mono R_wanted) rfl g_wanted k_wanted b_wanted .nil pass0 (pa_cons (pv 0) pa_nil)) (pe_gi rfl T.c_PLACES_machine)))) pss_nil)
      (pss_one (ps_ret (pe_op op_mod (pe_op op_add (pe_ix ix_tup (pv 0) (pe_gi rfl T.c_B) (fun _ _ => rfl)) (pe_call G_wanted (hr.mono R_wanted) rfl g_wanted k_wanted b_wanted .nil pass0 (pa_cons (pv 0) pa_nil))) (pe_gi rfl T.c_PLACES_machine))))), ?_⟩
    unfold asked at k
    refine ⟨_, rfl, _, _, _, _, rfl, rfl, sqt ha, rfl, rfl, _, rfl, if_eq (fun c => ?_) (fun c => ?_)⟩
    · rw [if_pos c] at k
      exact ⟨_, rfl, a, s, rfl, ha, fun H' e => ⟨_, _, rfl, rfl, (by decide : (0 : Int) < 4096), k _ e⟩⟩
    · rw [if_neg c] at k
      exact ⟨_, rfl, _, _, _, _, rfl, rfl, sqt ha, rfl, _, rfl, a, s, rfl, ha, fun H' e => ⟨_, _, rfl, rfl, _, _, rfl, rfl, (by decide : (0 : Int) < 4096), k _ e⟩⟩
theorem ok_is_barred (T : Tx K mg) (Sr : Src K mg "is_barred" s_is_barred) (D_wanted : Def P w K mg base "wanted" 2 ["state"] (sp_wanted K)) : Def P w K mg base "is_barred" 3 ["state"] (sp_is_barred K) := by
  obtain ⟨f_wanted, fd_wanted, g_wanted, k_wanted, b_wanted, G_wanted⟩ := D_wanted.ex
  refine Def.of Sr (fun f fd F => F.bindsN fun _ _ _ _ _ _ us hl => match us, hl with | [_], _ => rfl) fun f fd F => ok0 F sc_is_barred (fun vs H Q E h => ?_) (fun cdv A outer s H vs Q E hr h => ?_)
  · obtain ⟨a, s, rfl, ha, k⟩ := h
    rfl
  · have hu := hu_of hr
    have nd := sc_is_barred.nd
    have R_wanted : 2 ≤ 2 := by decide
    obtain ⟨a, s, rfl, ha, k⟩ := h
    refine ⟨_, (pss_one (ps_ret (pe_and (pe_cmpR op_eq (pe_ix ix_tup (pv 0) (pe_gi rfl T.c_M) (fun _ _ => rfl)) pe_int (nomark _)) (pe_one (pe_cmpR op_ge (pe_call G_wanted (hr.mono R_wanted) rfl g_wanted k_wanted b_wanted .nil pass0 (pa_cons (pv 0) pa_nil)) (pe_ix ix_tup (pv 0) (pe_gi rfl T.c_L) (fun _ _ => rfl)) (nomark _)))))), ?_⟩
    unfold barred at k
    refine ⟨_, rfl, _, _, _, _, rfl, rfl, sqt ha, rfl, rfl, _, rfl, if_eq (fun c => ?_) (fun c => ?_)⟩
    · refine ⟨_, rfl, a, s, rfl, ha, fun H' e => ⟨_, rfl, _, _, _, _, rfl, rfl, sqt (e _ _ ha), rfl, _, _, rfl, rfl, ?_⟩⟩
      have q := k _ e
      rw [decide_eq_true c] at q
      exact q
    · have q := k _ (Same.refl _)
      rw [decide_eq_false c] at q
      exact q
theorem ok_trap (T : Tx K mg) (Sr : Src K mg "trap" s_trap) (D_changed : Def P w K mg base "changed" 1 ["state", "pairs"] (sp_changed K)) : Def P w K mg base "trap" 2 ["state", "cause", "place"] (sp_trap K) := by
  obtain ⟨f_changed, fd_changed, g_changed, k_changed, b_changed, G_changed⟩ := D_changed.ex
  refine Def.of Sr (fun f fd F => F.bindsN fun _ _ _ _ _ _ us hl => match us, hl with | [_, _, _], _ => rfl) fun f fd F => ok0 F sc_trap (fun vs H Q E h => ?_) (fun cdv A outer s H vs Q E hr h => ?_)
  · obtain ⟨a, s, c, q, rfl, ha, k⟩ := h
    rfl
  · have hu := hu_of hr
    have nd := sc_trap.nd
    have R_changed : 1 ≤ 1 := by decide
    obtain ⟨a, s, c, q, rfl, ha, k⟩ := h
    refine ⟨_, (pss_cons (ps_set (i := 3) nd rfl (Or.inl rfl) (pe_lst (pa_cons (pe_tup (pa_cons (pe_gi rfl T.c_SA) (pa_cons (pe_ix ix_tup (pv 0) (pe_gi rfl T.c_A) (fun _ _ => rfl)) pa_nil))) (pa_cons (pe_tup (pa_cons (pe_gi rfl T.c_SX) (pa_cons (pe_ix ix_tup (pv 0) (pe_gi rfl T.c_X) (fun _ _ => rfl)) pa_nil))) (pa_cons (pe_tup (pa_cons (pe_gi rfl T.c_SP) (pa_cons (pe_op op_mod (pv 2) (pe_gi rfl T.c_PLACES_machine)) pa_nil))) (pa_cons (pe_tup (pa_cons (pe_gi rfl T.c_C) (pa_cons (pv 1) pa_nil))) pa_nil))))))
      (pss_one (ps_ret (pe_call G_changed (hr.mono R_changed) rfl g_changed k_changed b_changed .nil pass0 (pa_cons (pv 0) (pa_cons (pe_op op_cat (pv 3) (pe_lst (pa_cons (pe_tup (pa_cons (pe_gi rfl T.c_M) (pa_cons pe_int pa_nil))) (pa_cons (pe_tup (pa_cons (pe_gi rfl T.c_P) (pa_cons pe_int pa_nil))) (pa_cons (pe_tup (pa_cons (pe_gi rfl T.c_F) (pa_cons pe_int pa_nil))) pa_nil))))) pa_nil)))))), ?_⟩
    refine ⟨_, rfl, _, _, _, _, rfl, rfl, sqt ha, rfl, sz rfl, fun p1 h1 => ?_⟩
    have g1 := same_upd (o := .tup [V.int 9, V.int s.a]) h1
    refine ⟨_, rfl, _, _, _, _, rfl, rfl, sqt (g1 _ _ ha), rfl, sz rfl, fun p2 h2 => ?_⟩
    refine ⟨_, rfl, _, _, rfl, rfl, (by decide : (0 : Int) < 4096), sz rfl, fun p3 h3 => ?_⟩
    refine ⟨_, rfl, sz rfl, fun p4 h4 => ?_⟩
    refine ⟨sz rfl, fun p5 h5 => ?_⟩
    refine ⟨_, rfl, _, rfl, sz rfl, fun p6 h6 => ⟨sz rfl, fun p7 h7 => ⟨sz rfl, fun p8 h8 => ⟨sz rfl, fun p9 h9 => ?_⟩⟩⟩⟩
    refine ⟨p5, p9, _, _, rfl, rfl, (by walk_at "hp"), (by walk_at "hp"), sz2 rfl, fun p10 h10 => ?_⟩
    refine ⟨a, p10, s.vs, _, [(9, .int s.a), (10, .int s.x), (11, .int (q % 4096)), (12, .int c), (5, .int 0), (2, .int 0), (4, .int 0)], rfl, (by walk_at "hp"), upd_same, (by walk_at "pa"), rfl, fun p H' e hp => ?_⟩
    exact k p H' (by walk_at "sm") hp
end
end G3
set_option Elab.async false
set_option linter.all false
set_option maxRecDepth 100000
set_option maxHeartbeats 1000000
namespace G3
open PySem PySem.Spec PyProof.Rows L2
local macro_rules | `(tactic| walk_at "hp") => `(tactic| first | assumption | exact upd_same | (refine same_upd (by assumption) _ _ ?_; walk_at "hp") | (refine (‹Same _ _›) _ _ ?_; walk_at "hp"))
local macro_rules | `(tactic| walk_at "sm") => `(tactic| first | exact Same.refl _ | assumption | (refine Same.trans ?_ (same_upd (by assumption)); walk_at "sm") | (refine Same.trans ?_ (by assumption); walk_at "sm"))
local macro_rules | `(tactic| walk_at "pa") => `(tactic| first | exact trivial | (refine ⟨by walk_at "hp", ?_⟩; walk_at "pa"))
/-- state[K] -/
local macro_rules | `(tactic| walk_at "ix") => `(tactic| refine ⟨_, rfl, _, _, _, _, rfl, rfl, sqt (by walk_at "hp"), rfl, ?_⟩)
/-- a tuple's or a list's display is closed -/
local macro_rules | `(tactic| walk_at "td") => `(tactic| refine ⟨sz rfl, fun _ _ => ?_⟩)
/-- (K, ..): the name of a slot -/
local macro_rules | `(tactic| walk_at "va") => `(tactic| refine ⟨_, rfl, ?_⟩)
section
variable {P : Program} {w : World} {K : PySem.W.Frag} {mg : Str → Option Value} {base : Heap}
theorem five {w : Int} (h0 : 0 ≤ w) (h : w < 5) : w = 0 ∨ w = 1 ∨ w = 2 ∨ w = 3 ∨ w = 4 := by omega
theorem ok_own_row (T : Tx K mg) (Sr : Src K mg "own_row" s_own_row) (D_number_of : Def P w K mg base "number_of" 1 ["word"] (sp_number_of K)) (D_changed : Def P w K mg base "changed" 1 ["state", "pairs"] (sp_changed K)) : Def P w K mg base "own_row" 2 ["state"] (sp_own_row K) := by
  obtain ⟨f_number_of, fd_number_of, g_number_of, k_number_of, b_number_of, G_number_of⟩ := D_number_of.ex
  obtain ⟨f_changed, fd_changed, g_changed, k_changed, b_changed, G_changed⟩ := D_changed.ex
  refine Def.of Sr (fun f fd F => F.bindsN fun _ _ _ _ _ _ us hl => match us, hl with | [_], _ => rfl) fun f fd F => ok0 F sc_own_row (fun vs H Q E h => ?_) (fun cdv A outer s H vs Q E hr h => ?_)
  · obtain ⟨a, s, rfl, ha, k⟩ := h
    rfl
  · have hu := hu_of hr
    have nd := sc_own_row.nd
    have R_number_of : 1 ≤ 1 := by decide
    have R_changed : 1 ≤ 1 := by decide
    obtain ⟨a, s, rfl, ha, k⟩ := h
    refine ⟨_, (pss_cons (ps_set (i := 1) nd rfl (Or.inl rfl) (pe_op op_mod (pe_call G_number_of (hr.mono R_number_of) rfl g_number_of k_number_of b_number_of .nil pass0 (pa_cons (pe_ix ix_tup (pv 0) (pe_gi rfl T.c_I) (fun _ _ => rfl)) pa_nil)) pe_int))
      (pss_cons (ps_if (pt_cmpR op_lt (pv 1) pe_int (nomark _)) (pss_one (ps_ret (pe_call G_changed (hr.mono R_changed) rfl g_changed k_changed b_changed .nil pass0 (pa_cons (pv 0) (pa_cons (pe_lst (pa_cons (pe_tup (pa_cons (pe_gi rfl T.c_A) (pa_cons (pe_ix ix_tup (pv 0) (pe_ix ix_tup (pe_tup (pa_cons (pe_gi rfl T.c_SA) (pa_cons (pe_gi rfl T.c_SX) (pa_cons (pe_gi rfl T.c_SP) (pa_cons (pe_gi rfl T.c_C) (pa_cons (pe_gi rfl T.c_N) pa_nil)))))) (pv 1) (fun _ _ => rfl)) (fun _ _ => rfl)) pa_nil))) pa_nil)) pa_nil))))) pss_nil)
      (pss_cons (ps_if (pt_cmpR op_eq (pv 1) pe_int (nomark _)) (pss_one (ps_ret (pe_call G_changed (hr.mono R_changed) rfl g_changed k_changed b_changed .nil pass0 (pa_cons (pv 0) (pa_cons (pe_lst (pa_cons (pe_tup (pa_cons (pe_gi rfl T.c_H) (pa_cons pe_int pa_nil))) pa_nil)) pa_nil))))) pss_nil)
      (pss_cons (ps_if (PW.pt (pw_or (pt_cmpR op_eq (pv 1) pe_int (nomark _)) (pw_or1 (pt_cmpR op_eq (pv 1) pe_int (nomark _))))) (pss_one (ps_ret (pe_call G_changed (hr.mono R_changed) rfl g_changed k_changed b_changed .nil pass0 (pa_cons (pv 0) (pa_cons (pe_lst (pa_cons (pe_tup (pa_cons (pe_ix ix_tup (pe_tup (pa_cons (pe_gi rfl T.c_SA) (pa_cons (pe_gi rfl T.c_SX) pa_nil))) (pe_op op_sub (pv 1) pe_int) (fun _ _ => rfl)) (pa_cons (pe_ix ix_tup (pv 0) (pe_gi rfl T.c_A) (fun _ _ => rfl)) pa_nil))) pa_nil)) pa_nil))))) pss_nil)
      (pss_cons (ps_if (pt_chain op_le op_lt pe_int (pv 1) pe_int) (pss_one (ps_ret (pe_call G_changed (hr.mono R_changed) rfl g_changed k_changed b_changed .nil pass0 (pa_cons (pv 0) (pa_cons (pe_lst (pa_cons (pe_tup (pa_cons (pe_ix ix_tup (pe_tup (pa_cons (pe_gi rfl T.c_SP) (pa_cons (pe_gi rfl T.c_B) (pa_cons (pe_gi rfl T.c_L) (pa_cons (pe_gi rfl T.c_T) pa_nil))))) (pe_op op_sub (pv 1) pe_int) (fun _ _ => rfl)) (pa_cons (pe_op op_mod (pe_ix ix_tup (pv 0) (pe_gi rfl T.c_A) (fun _ _ => rfl)) (pe_gi rfl T.c_PLACES_machine)) pa_nil))) pa_nil)) pa_nil))))) pss_nil)
      (pss_one (ps_ret (pv 0)))))))), ?_⟩
    have w0 : 0 ≤ s.i % 4096 % 16 := by omega
    unfold ownRow at k
    refine ⟨_, rfl, _, _, _, _, rfl, rfl, sqt ha, rfl, _, rfl, _, _, rfl, rfl, (by decide : (0 : Int) < 16), ?_⟩
    simp only
    generalize s.i % 4096 % 16 = wh at k w0 ⊢
    refine ⟨_, rfl, _, _, rfl, rfl, _, rfl, if_dec (fun c => ?_) (fun c => ?_)⟩
    · rw [if_pos c] at k
      rcases five w0 c with rfl | rfl | rfl | rfl | rfl
      all_goals
        walk_at "va"
        walk_at "va"
        walk_at "td"
        refine ⟨_, rfl, _, _, _, _, rfl, rfl, sqt upd_same, rfl, _, _, _, _, rfl, rfl, sqt (by walk_at "hp"), rfl, ?_⟩
        walk_at "td"
        walk_at "td"
      · refine ⟨a, _, s.vs, _, [(0, .int s.sa)], rfl, by walk_at "hp", upd_same, by walk_at "pa", rfl, fun p H' e hp => k p H' (by walk_at "sm") hp⟩
      · refine ⟨a, _, s.vs, _, [(0, .int s.sx)], rfl, by walk_at "hp", upd_same, by walk_at "pa", rfl, fun p H' e hp => k p H' (by walk_at "sm") hp⟩
      · refine ⟨a, _, s.vs, _, [(0, .int s.sp)], rfl, by walk_at "hp", upd_same, by walk_at "pa", rfl, fun p H' e hp => k p H' (by walk_at "sm") hp⟩
      · refine ⟨a, _, s.vs, _, [(0, .int s.c)], rfl, by walk_at "hp", upd_same, by walk_at "pa", rfl, fun p H' e hp => k p H' (by walk_at "sm") hp⟩
      · refine ⟨a, _, s.vs, _, [(0, .int s.n)], rfl, by walk_at "hp", upd_same, by walk_at "pa", rfl, fun p H' e hp => k p H' (by walk_at "sm") hp⟩
    rw [if_neg c] at k
    refine ⟨_, rfl, rfl, _, rfl, if_eq (fun c5 => ?_) (fun c5 => ?_)⟩
    · rw [if_pos c5] at k
      walk_at "va"
      walk_at "td"
      walk_at "td"
      exact ⟨a, _, s.vs, _, [(14, .int 1)], rfl, by walk_at "hp", upd_same, by walk_at "pa", rfl, fun p H' e hp => k p H' (by walk_at "sm") hp⟩
    rw [if_neg c5] at k
    refine ⟨_, rfl, rfl, _, rfl, if_eq (fun c8 => ?_) (fun c8 => ⟨_, rfl, rfl, _, rfl, if_eq (fun c9 => ?_) (fun c9 => ?_)⟩)⟩
    · rw [if_pos c8] at k
      subst c8
      walk_at "va"
      walk_at "td"
      refine ⟨_, rfl, _, _, rfl, rfl, _, _, _, _, rfl, rfl, sqt upd_same, rfl, ?_⟩
      walk_at "ix"
      walk_at "td"
      walk_at "td"
      exact ⟨a, _, s.vs, _, [(9, .int s.a)], rfl, by walk_at "hp", upd_same, by walk_at "pa", rfl, fun p H' e hp => k p H' (by walk_at "sm") hp⟩
    · rw [if_neg c8, if_pos c9] at k
      subst c9
      walk_at "va"
      walk_at "td"
      refine ⟨_, rfl, _, _, rfl, rfl, _, _, _, _, rfl, rfl, sqt upd_same, rfl, ?_⟩
      walk_at "ix"
      walk_at "td"
      walk_at "td"
      exact ⟨a, _, s.vs, _, [(10, .int s.a)], rfl, by walk_at "hp", upd_same, by walk_at "pa", rfl, fun p H' e hp => k p H' (by walk_at "sm") hp⟩
    rw [if_neg c8, if_neg c9] at k
    refine ⟨_, rfl, _, _, rfl, rfl, _, rfl, if_dec (fun c10 => ?_) (fun c10 => ?_)⟩
    · refine ⟨_, _, rfl, rfl, _, rfl, if_dec (fun c14 => ?_) (fun c14 => ?_)⟩
      · obtain rfl | rfl | rfl | rfl : wh = 10 ∨ wh = 11 ∨ wh = 12 ∨ wh = 13 := by omega
        all_goals
          walk_at "va"
          walk_at "td"
          refine ⟨_, rfl, _, _, rfl, rfl, _, _, _, _, rfl, rfl, sqt upd_same, rfl, ?_⟩
          walk_at "ix"
          refine ⟨_, _, rfl, rfl, (by decide : (0 : Int) < 4096), ?_⟩
          walk_at "td"
          walk_at "td"
        · exact ⟨a, _, s.vs, _, [(11, .int (s.a % 4096))], rfl, by walk_at "hp", upd_same, by walk_at "pa", rfl, fun p H' e hp => k p H' (by walk_at "sm") hp⟩
        · exact ⟨a, _, s.vs, _, [(6, .int (s.a % 4096))], rfl, by walk_at "hp", upd_same, by walk_at "pa", rfl, fun p H' e hp => k p H' (by walk_at "sm") hp⟩
        · exact ⟨a, _, s.vs, _, [(7, .int (s.a % 4096))], rfl, by walk_at "hp", upd_same, by walk_at "pa", rfl, fun p H' e hp => k p H' (by walk_at "sm") hp⟩
        · exact ⟨a, _, s.vs, _, [(8, .int (s.a % 4096))], rfl, by walk_at "hp", upd_same, by walk_at "pa", rfl, fun p H' e hp => k p H' (by walk_at "sm") hp⟩
      · rw [if_neg (by omega), if_neg (by omega), if_neg (by omega), if_neg (by omega)] at k
        exact ⟨_, rfl, k _ _ (Same.refl _) ha⟩
    · rw [if_neg (by omega), if_neg (by omega), if_neg (by omega), if_neg (by omega)] at k
      exact ⟨_, rfl, iteF ⟨_, rfl, k _ _ (Same.refl _) ha⟩⟩
theorem ok_move_row (T : Tx K mg) (Sr : Src K mg "move_row" s_move_row) (D_number_of : Def P w K mg base "number_of" 1 ["word"] (sp_number_of K)) (D_changed : Def P w K mg base "changed" 1 ["state", "pairs"] (sp_changed K)) : Def P w K mg base "move_row" 2 ["state"] (sp_move_row K) := by
  obtain ⟨f_number_of, fd_number_of, g_number_of, k_number_of, b_number_of, G_number_of⟩ := D_number_of.ex
  obtain ⟨f_changed, fd_changed, g_changed, k_changed, b_changed, G_changed⟩ := D_changed.ex
  refine Def.of Sr (fun f fd F => F.bindsN fun _ _ _ _ _ _ us hl => match us, hl with | [_], _ => rfl) fun f fd F => ok0 F sc_move_row (fun vs H Q E h => ?_) (fun cdv A outer s H vs Q E hr h => ?_)
  · obtain ⟨a, s, rfl, ha, k⟩ := h
    rfl
  · have hu := hu_of hr
    have nd := sc_move_row.nd
    have R_number_of : 1 ≤ 1 := by decide
    have R_changed : 1 ≤ 1 := by decide
    obtain ⟨a, s, rfl, ha, k⟩ := h
    refine ⟨_, (pss_cons (ps_set (i := 1) nd rfl (Or.inl rfl) (pe_op op_mod (pe_call G_number_of (hr.mono R_number_of) rfl g_number_of k_number_of b_number_of .nil pass0 (pa_cons (pe_ix ix_tup (pv 0) (pe_gi rfl T.c_I) (fun _ _ => rfl)) pa_nil)) pe_int))
      (pss_cons (ps_if (pt_cmpR op_eq (pv 1) pe_int (nomark _)) (pss_one (ps_ret (pe_call G_changed (hr.mono R_changed) rfl g_changed k_changed b_changed .nil pass0 (pa_cons (pv 0) (pa_cons (pe_lst (pa_cons (pe_tup (pa_cons (pe_gi rfl T.c_X) (pa_cons (pe_ix ix_tup (pv 0) (pe_gi rfl T.c_A) (fun _ _ => rfl)) pa_nil))) pa_nil)) pa_nil))))) pss_nil)
      (pss_cons (ps_if (pt_cmpR op_eq (pv 1) pe_int (nomark _)) (pss_one (ps_ret (pe_call G_changed (hr.mono R_changed) rfl g_changed k_changed b_changed .nil pass0 (pa_cons (pv 0) (pa_cons (pe_lst (pa_cons (pe_tup (pa_cons (pe_gi rfl T.c_A) (pa_cons (pe_ix ix_tup (pv 0) (pe_gi rfl T.c_X) (fun _ _ => rfl)) pa_nil))) pa_nil)) pa_nil))))) pss_nil)
      (pss_cons (ps_if (pt_cmpR op_eq (pv 1) pe_int (nomark _)) (pss_one (ps_ret (pe_call G_changed (hr.mono R_changed) rfl g_changed k_changed b_changed .nil pass0 (pa_cons (pv 0) (pa_cons (pe_lst (pa_cons (pe_tup (pa_cons (pe_gi rfl T.c_A) (pa_cons (pe_op op_fdiv (pe_ix ix_tup (pv 0) (pe_gi rfl T.c_A) (fun _ _ => rfl)) pe_int) pa_nil))) pa_nil)) pa_nil))))) pss_nil)
      (pss_one (ps_ret (pe_call G_changed (hr.mono R_changed) rfl g_changed k_changed b_changed .nil pass0 (pa_cons (pv 0) (pa_cons (pe_lst (pa_cons (pe_tup (pa_cons (pe_gi rfl T.c_P) (pa_cons (pe_op op_mod (pe_ix ix_tup (pv 0) (pe_gi rfl T.c_A) (fun _ _ => rfl)) (pe_gi rfl T.c_PLACES_machine)) pa_nil))) pa_nil)) pa_nil))))))))), ?_⟩
    unfold moveRow at k
    refine ⟨_, rfl, _, _, _, _, rfl, rfl, sqt ha, rfl, _, rfl, _, _, rfl, rfl, (by decide : (0 : Int) < 4), ?_⟩
    simp only
    generalize s.i % 4096 % 4 = wh at k ⊢
    refine ⟨_, rfl, rfl, _, rfl, if_eq (fun c => ?_) (fun c => ?_)⟩
    · rw [if_pos c] at k
      walk_at "va"
      walk_at "ix"
      walk_at "td"
      walk_at "td"
      exact ⟨a, _, s.vs, _, [(1, .int s.a)], rfl, by walk_at "hp", upd_same, by walk_at "pa", rfl, fun p H' e hp => k p H' (by walk_at "sm") hp⟩
    rw [if_neg c] at k
    refine ⟨_, rfl, rfl, _, rfl, if_eq (fun c => ?_) (fun c => ?_)⟩
    · rw [if_pos c] at k
      walk_at "va"
      walk_at "ix"
      walk_at "td"
      walk_at "td"
      exact ⟨a, _, s.vs, _, [(0, .int s.x)], rfl, by walk_at "hp", upd_same, by walk_at "pa", rfl, fun p H' e hp => k p H' (by walk_at "sm") hp⟩
    rw [if_neg c] at k
    refine ⟨_, rfl, rfl, _, rfl, if_eq (fun c => ?_) (fun c => ?_)⟩
    · rw [if_pos c] at k
      walk_at "va"
      walk_at "ix"
      refine ⟨_, _, rfl, rfl, ⟨by decide, by decide⟩, ?_⟩
      walk_at "td"
      walk_at "td"
      exact ⟨a, _, s.vs, _, [(0, .int (s.a / 2))], rfl, by walk_at "hp", upd_same, by walk_at "pa", rfl, fun p H' e hp => k p H' (by walk_at "sm") hp⟩
    rw [if_neg c] at k
    walk_at "va"
    walk_at "ix"
    refine ⟨_, _, rfl, rfl, (by decide : (0 : Int) < 4096), ?_⟩
    walk_at "td"
    walk_at "td"
    exact ⟨a, _, s.vs, _, [(2, .int (s.a % 4096))], rfl, by walk_at "hp", upd_same, by walk_at "pa", rfl, fun p H' e hp => k p H' (by walk_at "sm") hp⟩
theorem ok_leap_row (T : Tx K mg) (Sr : Src K mg "leap_row" s_leap_row) (D_number_of : Def P w K mg base "number_of" 1 ["word"] (sp_number_of K)) (D_changed : Def P w K mg base "changed" 1 ["state", "pairs"] (sp_changed K)) : Def P w K mg base "leap_row" 2 ["state", "after", "op"] (sp_leap_row K) := by
  obtain ⟨f_number_of, fd_number_of, g_number_of, k_number_of, b_number_of, G_number_of⟩ := D_number_of.ex
  obtain ⟨f_changed, fd_changed, g_changed, k_changed, b_changed, G_changed⟩ := D_changed.ex
  refine Def.of Sr (fun f fd F => F.bindsN fun _ _ _ _ _ _ us hl => match us, hl with | [_, _, _], _ => rfl) fun f fd F => ok0 F sc_leap_row (fun vs H Q E h => ?_) (fun cdv A outer s H vs Q E hr h => ?_)
  · obtain ⟨a, b, s, u, op, rfl, ha, hb, k⟩ := h
    rfl
  · have hu := hu_of hr
    have nd := sc_leap_row.nd
    have R_number_of : 1 ≤ 1 := by decide
    have R_changed : 1 ≤ 1 := by decide
    obtain ⟨a, b, s, u, op, rfl, ha, hb, k⟩ := h
    refine ⟨_, (pss_cons (ps_set (i := 3) nd rfl (Or.inl rfl) (pe_call G_number_of (hr.mono R_number_of) rfl g_number_of k_number_of b_number_of .nil pass0 (pa_cons (pe_ix ix_tup (pv 0) (pe_gi rfl T.c_I) (fun _ _ => rfl)) pa_nil)))
      (pss_cons (ps_if (pt_cmpR op_eq (pv 2) pe_int (nomark _)) (pss_one (ps_ret (pe_call G_changed (hr.mono R_changed) rfl g_changed k_changed b_changed .nil pass0 (pa_cons (pv 1) (pa_cons (pe_lst (pa_cons (pe_tup (pa_cons (pe_gi rfl T.c_A) (pa_cons (pe_ix ix_tup (pv 1) (pe_gi rfl T.c_P) (fun _ _ => rfl)) pa_nil))) (pa_cons (pe_tup (pa_cons (pe_gi rfl T.c_P) (pa_cons (pv 3) pa_nil))) pa_nil))) pa_nil))))) pss_nil)
      (pss_cons (ps_if (PW.pt (pw_or (pt_cmpR op_eq (pv 2) pe_int (nomark _)) (pw_or (PW.pt (pw_and (pt_cmpR op_eq (pv 2) pe_int (nomark _)) (pw_and1 (pt_cmpR op_eq (pe_ix ix_tup (pv 0) (pe_gi rfl T.c_A) (fun _ _ => rfl)) pe_int (nomark _))))) (pw_or1 (PW.pt (pw_and (pt_cmpR op_eq (pv 2) pe_int (nomark _)) (pw_and1 (pt_cmpR op_ge (pe_ix ix_tup (pv 0) (pe_gi rfl T.c_A) (fun _ _ => rfl)) (pe_gi rfl T.c_TOP) (nomark _))))))))) (pss_one (ps_ret (pe_call G_changed (hr.mono R_changed) rfl g_changed k_changed b_changed .nil pass0 (pa_cons (pv 1) (pa_cons (pe_lst (pa_cons (pe_tup (pa_cons (pe_gi rfl T.c_P) (pa_cons (pv 3) pa_nil))) pa_nil)) pa_nil))))) pss_nil)
      (pss_one (ps_ret (pv 1)))))), ?_⟩
    unfold leapRow at k
    refine ⟨_, rfl, _, _, _, _, rfl, rfl, sqt ha, rfl, _, rfl, ?_⟩
    refine ⟨_, rfl, rfl, _, rfl, if_eq (fun c => ?_) (fun c => ?_)⟩
    · rw [if_pos c] at k
      walk_at "va"
      walk_at "ix"
      walk_at "td"
      walk_at "va"
      walk_at "td"
      walk_at "td"
      exact ⟨b, _, u.vs, _, [(0, .int u.p), (2, .int (s.i % 4096))], rfl, by walk_at "hp", upd_same, by walk_at "pa", rfl, fun p H' e hp => k p H' (by walk_at "sm") hp⟩
    rw [if_neg c] at k
    have yes : (op = 6 ∨ (op = 7 ∧ s.a = 0) ∨ (op = 8 ∧ 32768 ≤ s.a)) → ∀ y4 y5 y6 : Option V, True → (tRet (tCall (sp_changed K) [] E0 (tCons (tVar 1) (tCons (tLst (tCons (tTup (tCons (tC (V.int 2)) (tCons (tVar 3) tNil))) tNil)) tNil)))) { nx := fun _ H' => Q V.non H', rt := Q } [some (.ref a), some (.ref b), some (.int op), some (.int (s.i % 4096))] H := by
      intro hy _ _ _ _
      rw [if_pos hy] at k
      walk_at "va"
      walk_at "va"
      walk_at "td"
      walk_at "td"
      exact ⟨b, _, u.vs, _, [(2, .int (s.i % 4096))], rfl, by walk_at "hp", upd_same, by walk_at "pa", rfl, fun p H' e hp => k p H' (by walk_at "sm") hp⟩
    refine ⟨_, rfl, rfl, _, rfl, if_eq (fun c6 => ?_) (fun c6 => ?_)⟩
    · exact yes (.inl c6) none none none trivial
    refine ⟨_, rfl, rfl, _, rfl, if_eq (fun c7 => ?_) (fun c7 => ?_)⟩
    · refine ⟨_, rfl, _, _, _, _, rfl, rfl, sqt ha, rfl, rfl, _, rfl, ?_⟩
      by_cases ca : s.a = 0
      · rw [decide_eq_true (congrArg V.int ca)]
        refine iteT (iteT ?_)
        exact yes (.inr (.inl ⟨c7, ca⟩)) none none none trivial
      · rw [decide_eq_false (fun z => ca (V.int.inj z))]
        refine iteF ?_
        refine ⟨_, rfl, rfl, _, rfl, ?_⟩
        rw [decide_eq_false (fun z => by have := V.int.inj z; omega)]
        refine iteF (iteF ?_)
        rw [if_neg (by omega)] at k
        exact ⟨_, rfl, k _ _ (Same.refl _) hb⟩
    · refine iteF ?_
      refine ⟨_, rfl, rfl, _, rfl, if_eq (fun c8 => ?_) (fun c8 => ?_)⟩
      · refine ⟨_, rfl, _, _, _, _, rfl, rfl, sqt ha, rfl, _, _, rfl, rfl, _, rfl, if_dec (fun ca => ?_) (fun ca => ?_)⟩
        · exact yes (.inr (.inr ⟨c8, ca⟩)) none none none trivial
        · rw [if_neg (by omega)] at k
          exact ⟨_, rfl, k _ _ (Same.refl _) hb⟩
      · refine iteF ?_
        rw [if_neg (by omega)] at k
        exact ⟨_, rfl, k _ _ (Same.refl _) hb⟩
theorem ok_word_row (T : Tx K mg) (Sr : Src K mg "word_row" s_word_row) (D_number_of : Def P w K mg base "number_of" 1 ["word"] (sp_number_of K)) (D_changed : Def P w K mg base "changed" 1 ["state", "pairs"] (sp_changed K)) : Def P w K mg base "word_row" 2 ["after", "op", "word"] (sp_word_row K) := by
  obtain ⟨f_number_of, fd_number_of, g_number_of, k_number_of, b_number_of, G_number_of⟩ := D_number_of.ex
  obtain ⟨f_changed, fd_changed, g_changed, k_changed, b_changed, G_changed⟩ := D_changed.ex
  refine Def.of Sr (fun f fd F => F.bindsN fun _ _ _ _ _ _ us hl => match us, hl with | [_, _, _], _ => rfl) fun f fd F => ok0 F sc_word_row (fun vs H Q E h => ?_) (fun cdv A outer s H vs Q E hr h => ?_)
  · obtain ⟨a, s, op, wd, rfl, ha, k⟩ := h
    rfl
  · have hu := hu_of hr
    have nd := sc_word_row.nd
    have R_number_of : 1 ≤ 1 := by decide
    have R_changed : 1 ≤ 1 := by decide
    obtain ⟨a, s, op, wd, rfl, ha, k⟩ := h
    refine ⟨_, (pss_cons (ps_if (pt_cmpR op_eq (pv 1) pe_int (nomark _)) (pss_one (ps_ret (pe_call G_changed (hr.mono R_changed) rfl g_changed k_changed b_changed .nil pass0 (pa_cons (pv 0) (pa_cons (pe_lst (pa_cons (pe_tup (pa_cons (pe_gi rfl T.c_A) (pa_cons (pe_call G_number_of (hr.mono R_number_of) rfl g_number_of k_number_of b_number_of .nil pass0 (pa_cons (pe_ix ix_tup (pv 0) (pe_gi rfl T.c_I) (fun _ _ => rfl)) pa_nil)) pa_nil))) pa_nil)) pa_nil))))) pss_nil)
      (pss_cons (ps_if (PW.pt (pw_or (pt_cmpR op_eq (pv 1) pe_int (nomark _)) (pw_or1 (pt_cmpR op_eq (pv 1) pe_int (nomark _))))) (pss_one (ps_ret (pe_call G_changed (hr.mono R_changed) rfl g_changed k_changed b_changed .nil pass0 (pa_cons (pv 0) (pa_cons (pe_lst (pa_cons (pe_tup (pa_cons (pe_gi rfl T.c_A) (pa_cons (pv 2) pa_nil))) pa_nil)) pa_nil))))) pss_nil)
      (pss_cons (ps_if (pt_cmpR op_eq (pv 1) pe_int (nomark _)) (pss_one (ps_ret (pe_call G_changed (hr.mono R_changed) rfl g_changed k_changed b_changed .nil pass0 (pa_cons (pv 0) (pa_cons (pe_lst (pa_cons (pe_tup (pa_cons (pe_gi rfl T.c_A) (pa_cons (pe_op op_mod (pe_op op_add (pe_ix ix_tup (pv 0) (pe_gi rfl T.c_A) (fun _ _ => rfl)) (pv 2)) (pe_gi rfl T.c_WORDS)) pa_nil))) pa_nil)) pa_nil))))) pss_nil)
      (pss_cons (ps_if (pt_cmpR op_eq (pv 1) pe_int (nomark _)) (pss_one (ps_ret (pe_call G_changed (hr.mono R_changed) rfl g_changed k_changed b_changed .nil pass0 (pa_cons (pv 0) (pa_cons (pe_lst (pa_cons (pe_tup (pa_cons (pe_gi rfl T.c_A) (pa_cons (pe_op op_mod (pe_op op_sub (pe_ix ix_tup (pv 0) (pe_gi rfl T.c_A) (fun _ _ => rfl)) (pv 2)) (pe_gi rfl T.c_WORDS)) pa_nil))) pa_nil)) pa_nil))))) pss_nil)
      (pss_cons (ps_if (pt_cmpR op_eq (pv 1) pe_int (nomark _)) (pss_one (ps_ret (pe_call G_changed (hr.mono R_changed) rfl g_changed k_changed b_changed .nil pass0 (pa_cons (pv 0) (pa_cons (pe_lst (pa_cons (pe_tup (pa_cons (pe_gi rfl T.c_A) (pa_cons (pe_op op_and (pe_ix ix_tup (pv 0) (pe_gi rfl T.c_A) (fun _ _ => rfl)) (pv 2)) pa_nil))) pa_nil)) pa_nil))))) pss_nil)
      (pss_one (ps_ret (pv 0)))))))), ?_⟩
    unfold wordRow at k
    refine ⟨_, rfl, rfl, _, rfl, if_eq (fun c => ?_) (fun c => ?_)⟩
    · rw [if_pos c] at k
      walk_at "va"
      refine ⟨_, rfl, _, _, _, _, rfl, rfl, sqt ha, rfl, _, rfl, ?_⟩
      walk_at "td"
      walk_at "td"
      exact ⟨a, _, s.vs, _, [(0, .int (s.i % 4096))], rfl, by walk_at "hp", upd_same, by walk_at "pa", rfl, fun p H' e hp => k p H' (by walk_at "sm") hp⟩
    rw [if_neg c] at k
    have yes : (op = 1 ∨ op = 9) → (tRet (tCall (sp_changed K) [] E0 (tCons (tVar 0) (tCons (tLst (tCons (tTup (tCons (tC (V.int 0)) (tCons (tVar 2) tNil))) tNil)) tNil)))) { nx := fun _ H' => Q V.non H', rt := Q } [some (.ref a), some (.int op), some (.int wd)] H := by
      intro hy
      rw [if_pos hy] at k
      walk_at "va"
      walk_at "va"
      walk_at "td"
      walk_at "td"
      exact ⟨a, _, s.vs, _, [(0, .int wd)], rfl, by walk_at "hp", upd_same, by walk_at "pa", rfl, fun p H' e hp => k p H' (by walk_at "sm") hp⟩
    refine ⟨_, rfl, rfl, _, rfl, if_eq (fun c1 => ?_) (fun c1 => ?_)⟩
    · exact yes (.inl c1)
    refine ⟨_, rfl, rfl, _, rfl, if_eq (fun c9 => ?_) (fun c9 => ?_)⟩
    · exact yes (.inr c9)
    rw [if_neg (by omega)] at k
    refine ⟨_, rfl, rfl, _, rfl, if_eq (fun c => ?_) (fun c => ?_)⟩
    · rw [if_pos c] at k
      walk_at "va"
      refine ⟨_, rfl, _, _, _, _, rfl, rfl, sqt ha, rfl, _, rfl, _, _, rfl, rfl, _, _, rfl, rfl, (by decide : (0 : Int) < 65536), ?_⟩
      walk_at "td"
      walk_at "td"
      exact ⟨a, _, s.vs, _, [(0, .int ((s.a + wd) % 65536))], rfl, by walk_at "hp", upd_same, by walk_at "pa", rfl, fun p H' e hp => k p H' (by walk_at "sm") hp⟩
    rw [if_neg c] at k
    refine ⟨_, rfl, rfl, _, rfl, if_eq (fun c => ?_) (fun c => ?_)⟩
    · rw [if_pos c] at k
      walk_at "va"
      refine ⟨_, rfl, _, _, _, _, rfl, rfl, sqt ha, rfl, _, rfl, _, _, rfl, rfl, _, _, rfl, rfl, (by decide : (0 : Int) < 65536), ?_⟩
      walk_at "td"
      walk_at "td"
      exact ⟨a, _, s.vs, _, [(0, .int ((s.a - wd) % 65536))], rfl, by walk_at "hp", upd_same, by walk_at "pa", rfl, fun p H' e hp => k p H' (by walk_at "sm") hp⟩
    rw [if_neg c] at k
    refine ⟨_, rfl, rfl, _, rfl, if_eq (fun c => ?_) (fun c => ?_)⟩
    · rw [if_pos c] at k
      walk_at "va"
      refine ⟨_, rfl, _, _, _, _, rfl, rfl, sqt ha, rfl, _, rfl, _, _, rfl, rfl, ?_⟩
      walk_at "td"
      walk_at "td"
      exact ⟨a, _, s.vs, _, [(0, .int (Builtin.bitAnd s.a wd))], rfl, by walk_at "hp", upd_same, by walk_at "pa", rfl, fun p H' e hp => k p H' (by walk_at "sm") hp⟩
    rw [if_neg c] at k
    exact ⟨_, rfl, k _ _ (Same.refl _) ha⟩
end
end G3
set_option Elab.async false
set_option linter.all false
set_option maxRecDepth 100000
set_option maxHeartbeats 1000000
namespace G3
open PySem PySem.Spec PyProof.Rows L2
local macro_rules | `(tactic| walk_at "hp") => `(tactic| first | assumption | exact upd_same | (refine same_upd (by assumption) _ _ ?_; walk_at "hp") | (refine (‹Same _ _›) _ _ ?_; walk_at "hp"))
local macro_rules | `(tactic| walk_at "sm") => `(tactic| first | exact Same.refl _ | assumption | (refine Same.trans ?_ (same_upd (by assumption)); walk_at "sm") | (refine Same.trans ?_ (by assumption); walk_at "sm"))
local macro_rules | `(tactic| walk_at "pa") => `(tactic| first | exact trivial | (refine ⟨by walk_at "hp", ?_⟩; walk_at "pa"))
local macro_rules | `(tactic| walk_at "ix") => `(tactic| refine ⟨_, rfl, _, _, _, _, rfl, rfl, sqt (by walk_at "hp"), rfl, ?_⟩)
local macro_rules | `(tactic| walk_at "td") => `(tactic| refine ⟨sz rfl, fun _ _ => ?_⟩)
local macro_rules | `(tactic| walk_at "va") => `(tactic| refine ⟨_, rfl, ?_⟩)
def optV : Option Int → V
  | some i => .int i
  | none => .non
def sp_beat_of (K : PySem.W.Frag) : Sp := fun vs H Q _ => ∃ (a : Addr) (s : S) (wd : Int), vs = [.ref a, .int wd] ∧ StAt H a s ∧
  ∀ p q H', Same H H' → StAt H' q (beatOf s wd).1 → H' p = some (.tup [.ref q, optV (beatOf s wd).2.1, optV (beatOf s wd).2.2]) → Q (.ref p) H'
section
variable {P : Program} {w : World} {K : PySem.W.Frag} {mg : Str → Option Value} {base : Heap}
theorem ok_row_done (T : Tx K mg) (Sr : Src K mg "row_done" s_row_done) (D_op_of : Def P w K mg base "op_of" 1 ["word"] (sp_op_of K)) (D_changed : Def P w K mg base "changed" 1 ["state", "pairs"] (sp_changed K)) (D_leap_row : Def P w K mg base "leap_row" 2 ["state", "after", "op"] (sp_leap_row K)) (D_move_row : Def P w K mg base "move_row" 2 ["state"] (sp_move_row K)) (D_own_row : Def P w K mg base "own_row" 2 ["state"] (sp_own_row K)) (D_word_row : Def P w K mg base "word_row" 2 ["after", "op", "word"] (sp_word_row K)) : Def P w K mg base "row_done" 3 ["state", "word"] (sp_row_done K) := by
  obtain ⟨f_op_of, fd_op_of, g_op_of, k_op_of, b_op_of, G_op_of⟩ := D_op_of.ex
  obtain ⟨f_changed, fd_changed, g_changed, k_changed, b_changed, G_changed⟩ := D_changed.ex
  obtain ⟨f_leap_row, fd_leap_row, g_leap_row, k_leap_row, b_leap_row, G_leap_row⟩ := D_leap_row.ex
  obtain ⟨f_move_row, fd_move_row, g_move_row, k_move_row, b_move_row, G_move_row⟩ := D_move_row.ex
  obtain ⟨f_own_row, fd_own_row, g_own_row, k_own_row, b_own_row, G_own_row⟩ := D_own_row.ex
  obtain ⟨f_word_row, fd_word_row, g_word_row, k_word_row, b_word_row, G_word_row⟩ := D_word_row.ex
  refine Def.of Sr (fun f fd F => F.bindsN fun _ _ _ _ _ _ us hl => match us, hl with | [_, _], _ => rfl) fun f fd F => ok0 F sc_row_done (fun vs H Q E h => ?_) (fun cdv A outer s H vs Q E hr h => ?_)
  · obtain ⟨a, s, wd, rfl, ha, k⟩ := h
    rfl
  · have hu := hu_of hr
    have nd := sc_row_done.nd
    have R_op_of : 1 ≤ 2 := by decide
    have R_changed : 1 ≤ 2 := by decide
    have R_leap_row : 2 ≤ 2 := by decide
    have R_move_row : 2 ≤ 2 := by decide
    have R_own_row : 2 ≤ 2 := by decide
    have R_word_row : 2 ≤ 2 := by decide
    obtain ⟨a, s, wd, rfl, ha, k⟩ := h
    refine ⟨_, (pss_cons (ps_set (i := 2) nd rfl (Or.inl rfl) (pe_call G_op_of (hr.mono R_op_of) rfl g_op_of k_op_of b_op_of .nil pass0 (pa_cons (pe_ix ix_tup (pv 0) (pe_gi rfl T.c_I) (fun _ _ => rfl)) pa_nil)))
      (pss_cons (ps_set (i := 3) nd rfl (Or.inl rfl) (pe_call G_changed (hr.mono R_changed) rfl g_changed k_changed b_changed .nil pass0 (pa_cons (pv 0) (pa_cons (pe_lst (pa_cons (pe_tup (pa_cons (pe_gi rfl T.c_F) (pa_cons pe_int pa_nil))) (pa_cons (pe_tup (pa_cons (pe_gi rfl T.c_P) (pa_cons (pe_op op_mod (pe_op op_add (pe_ix ix_tup (pv 0) (pe_gi rfl T.c_P) (fun _ _ => rfl)) pe_int) (pe_gi rfl T.c_PLACES_machine)) pa_nil))) pa_nil))) pa_nil))))
      (pss_cons (ps_if (pt_cmpR op_in_seq (pv 2) (pe_tup (pa_cons pe_int (pa_cons pe_int (pa_cons pe_int (pa_cons pe_int pa_nil))))) rfl) (pss_one (ps_ret (pe_call G_leap_row (hr.mono R_leap_row) rfl g_leap_row k_leap_row b_leap_row .nil pass0 (pa_cons (pv 0) (pa_cons (pv 3) (pa_cons (pv 2) pa_nil)))))) pss_nil)
      (pss_cons (ps_if (pt_cmpR op_eq (pv 2) pe_int (nomark _)) (pss_one (ps_ret (pe_call G_move_row (hr.mono R_move_row) rfl g_move_row k_move_row b_move_row .nil pass0 (pa_cons (pv 3) pa_nil)))) pss_nil)
      (pss_cons (ps_if (pt_cmpR op_eq (pv 2) pe_int (nomark _)) (pss_one (ps_ret (pe_call G_own_row (hr.mono R_own_row) rfl g_own_row k_own_row b_own_row .nil pass0 (pa_cons (pv 3) pa_nil)))) pss_nil)
      (pss_cons (ps_if (pt_cmpR op_eq (pv 2) pe_int (nomark _)) (pss_one (ps_ret (pe_call G_changed (hr.mono R_changed) rfl g_changed k_changed b_changed .nil pass0 (pa_cons (pv 3) (pa_cons (pe_lst (pa_cons (pe_tup (pa_cons (pe_gi rfl T.c_A) (pa_cons (pe_ix ix_tup (pv 0) (pe_gi rfl T.c_SA) (fun _ _ => rfl)) pa_nil))) (pa_cons (pe_tup (pa_cons (pe_gi rfl T.c_X) (pa_cons (pe_ix ix_tup (pv 0) (pe_gi rfl T.c_SX) (fun _ _ => rfl)) pa_nil))) (pa_cons (pe_tup (pa_cons (pe_gi rfl T.c_P) (pa_cons (pe_ix ix_tup (pv 0) (pe_gi rfl T.c_SP) (fun _ _ => rfl)) pa_nil))) (pa_cons (pe_tup (pa_cons (pe_gi rfl T.c_M) (pa_cons pe_int pa_nil))) pa_nil))))) pa_nil))))) pss_nil)
      (pss_one (ps_ret (pe_call G_word_row (hr.mono R_word_row) rfl g_word_row k_word_row b_word_row .nil pass0 (pa_cons (pv 3) (pa_cons (pv 2) (pa_cons (pv 1) pa_nil)))))))))))), ?_⟩
    unfold rowDone at k
    refine ⟨_, rfl, _, _, _, _, rfl, rfl, sqt ha, rfl, _, rfl, ?_⟩
    walk_at "va"
    walk_at "td"
    walk_at "ix"
    refine ⟨_, _, rfl, rfl, _, _, rfl, rfl, (by decide : (0 : Int) < 4096), ?_⟩
    walk_at "td"
    walk_at "td"
    refine ⟨a, _, s.vs, _, [(4, .int 0), (2, .int ((s.p + 1) % 4096))], rfl, by walk_at "hp", upd_same, by walk_at "pa", rfl, fun b H1 e1 hb => ?_⟩
    have hb : StAt H1 b (afterOf s) := hb
    have e0 : Same H H1 := by walk_at "sm"
    have ha1 : StAt H1 a s := e0 _ _ ha
    clear e1
    refine ⟨_, rfl, sz rfl, fun t ht => ?_⟩
    refine ⟨t, _, rfl, .inr (sqt upd_same), rfl, rfl, _, rfl, ?_⟩
    show if inV (.int (s.i / 4096)) [.int 6, .int 7, .int 8, .int 12] = true then _ else _
    rw [inV_cons, inV_cons, inV_cons, inV_cons, inV_nil, Bool.or_false, ← Bool.decide_or, ← Bool.decide_or, ← Bool.decide_or]
    refine if_dec (fun c => ?_) (fun c => ?_)
    · rw [if_pos c] at k
      exact ⟨_, rfl, _, rfl, _, rfl, a, b, s, afterOf s, _, rfl, by walk_at "hp", by walk_at "hp", fun p H' e hp => k p H' (by walk_at "sm") hp⟩
    rw [if_neg c] at k
    refine ⟨_, rfl, rfl, _, rfl, if_eq (fun c => ?_) (fun c => ?_)⟩
    · rw [if_pos c] at k
      exact ⟨_, rfl, b, afterOf s, rfl, by walk_at "hp", fun p H' e hp => k p H' (by walk_at "sm") hp⟩
    rw [if_neg c] at k
    refine ⟨_, rfl, rfl, _, rfl, if_eq (fun c => ?_) (fun c => ?_)⟩
    · rw [if_pos c] at k
      exact ⟨_, rfl, b, afterOf s, rfl, by walk_at "hp", fun p H' e hp => k p H' (by walk_at "sm") hp⟩
    rw [if_neg c] at k
    refine ⟨_, rfl, rfl, _, rfl, if_eq (fun c => ?_) (fun c => ?_)⟩
    · rw [if_pos c] at k
      walk_at "va"
      walk_at "ix"
      walk_at "td"
      walk_at "ix"
      walk_at "td"
      walk_at "ix"
      walk_at "td"
      walk_at "td"
      walk_at "td"
      exact ⟨b, _, (afterOf s).vs, _, [(0, .int s.sa), (1, .int s.sx), (2, .int s.sp), (5, .int 1)], rfl, by walk_at "hp", upd_same, by walk_at "pa", rfl, fun p H' e hp => k p H' (by walk_at "sm") hp⟩
    rw [if_neg c] at k
    exact ⟨_, rfl, _, rfl, _, rfl, b, afterOf s, _, _, rfl, by walk_at "hp", fun p H' e hp => k p H' (by walk_at "sm") hp⟩
theorem ok_rung (T : Tx K mg) (Sr : Src K mg "rung" s_rung) (D_changed : Def P w K mg base "changed" 1 ["state", "pairs"] (sp_changed K)) (D_trap : Def P w K mg base "trap" 2 ["state", "cause", "place"] (sp_trap K)) : Def P w K mg base "rung" 3 ["state", "after"] (sp_rung K) := by
  obtain ⟨f_changed, fd_changed, g_changed, k_changed, b_changed, G_changed⟩ := D_changed.ex
  obtain ⟨f_trap, fd_trap, g_trap, k_trap, b_trap, G_trap⟩ := D_trap.ex
  refine Def.of Sr (fun f fd F => F.bindsN fun _ _ _ _ _ _ us hl => match us, hl with | [_, _], _ => rfl) fun f fd F => ok0 F sc_rung (fun vs H Q E h => ?_) (fun cdv A outer s H vs Q E hr h => ?_)
  · obtain ⟨a, b, s, u, rfl, ha, hb, k⟩ := h
    rfl
  · have hu := hu_of hr
    have nd := sc_rung.nd
    have R_changed : 1 ≤ 2 := by decide
    have R_trap : 2 ≤ 2 := by decide
    obtain ⟨a, b, s, u, rfl, ha, hb, k⟩ := h
    refine ⟨_, (pss_cons (ps_if (PW.pt (pw_or (pt_cmpR op_eq (pe_ix ix_tup (pv 0) (pe_gi rfl T.c_M) (fun _ _ => rfl)) pe_int (nomark _)) (pw_or1 (pt_cmpR op_eq (pe_ix ix_tup (pv 0) (pe_gi rfl T.c_T) (fun _ _ => rfl)) pe_int (nomark _))))) (pss_one (ps_ret (pv 1))) pss_nil)
      (pss_cons (ps_set (i := 2) nd rfl (Or.inl rfl) (pe_call G_changed (hr.mono R_changed) rfl g_changed k_changed b_changed .nil pass0 (pa_cons (pv 1) (pa_cons (pe_lst (pa_cons (pe_tup (pa_cons (pe_gi rfl T.c_T) (pa_cons (pe_op op_sub (pe_ix ix_tup (pv 0) (pe_gi rfl T.c_T) (fun _ _ => rfl)) pe_int) pa_nil))) pa_nil)) pa_nil))))
      (pss_cons (ps_if (pt_cmpR op_eq (pe_ix ix_tup (pv 2) (pe_gi rfl T.c_T) (fun _ _ => rfl)) pe_int (nomark _)) (pss_one (ps_ret (pe_call G_trap (hr.mono R_trap) rfl g_trap k_trap b_trap .nil pass0 (pa_cons (pv 2) (pa_cons (pe_gi rfl T.c_BELL) (pa_cons (pe_ix ix_tup (pv 2) (pe_gi rfl T.c_P) (fun _ _ => rfl)) pa_nil)))))) pss_nil)
      (pss_one (ps_ret (pv 2)))))), ?_⟩
    unfold rung at k
    have stop : (s.m = 0 ∨ s.t = 0) → tRet (tVar 1) { nx := fun x H' => Q V.non H', rt := Q } [some (.ref a), some (.ref b), none] H := fun c => by
      rw [if_pos c] at k
      exact ⟨_, rfl, k _ _ (Same.refl _) hb⟩
    refine ⟨_, rfl, _, _, _, _, rfl, rfl, sqt ha, rfl, rfl, _, rfl, if_eq (fun c => ?_) (fun c => ?_)⟩
    · exact iteT (stop (.inl c))
    refine ⟨_, rfl, _, _, _, _, rfl, rfl, sqt ha, rfl, rfl, _, rfl, if_eq (fun c2 => ?_) (fun c2 => ?_)⟩
    · exact stop (.inr c2)
    rw [if_neg (by omega)] at k
    walk_at "va"
    walk_at "ix"
    refine ⟨_, _, rfl, rfl, ?_⟩
    walk_at "td"
    walk_at "td"
    refine ⟨b, _, u.vs, _, [(8, .int (s.t - 1))], rfl, by walk_at "hp", upd_same, by walk_at "pa", rfl, fun q H1 e1 hq => ?_⟩
    have hq : StAt H1 q (counted s u) := hq
    refine ⟨_, rfl, _, _, _, _, rfl, rfl, sqt hq, rfl, rfl, _, rfl, if_eq (fun c => ?_) (fun c => ?_)⟩
    · have c : s.t - 1 = 0 := c
      rw [if_pos c] at k
      refine ⟨_, rfl, _, rfl, _, _, _, _, rfl, rfl, sqt hq, rfl, q, counted s u, 4, u.p, rfl, hq, fun p H' e hp => k p H' (by walk_at "sm") hp⟩
    · have c : ¬ s.t - 1 = 0 := c
      rw [if_neg c] at k
      exact ⟨_, rfl, k _ _ (by walk_at "sm") hq⟩
theorem ok_trap_of (T : Tx K mg) (Sr : Src K mg "trap_of" s_trap_of) (D_op_of : Def P w K mg base "op_of" 1 ["word"] (sp_op_of K)) (D_is_barred : Def P w K mg base "is_barred" 3 ["state"] (sp_is_barred K)) : Def P w K mg base "trap_of" 4 ["state"] (sp_trap_of K) := by
  obtain ⟨f_op_of, fd_op_of, g_op_of, k_op_of, b_op_of, G_op_of⟩ := D_op_of.ex
  obtain ⟨f_is_barred, fd_is_barred, g_is_barred, k_is_barred, b_is_barred, G_is_barred⟩ := D_is_barred.ex
  refine Def.of Sr (fun f fd F => F.bindsN fun _ _ _ _ _ _ us hl => match us, hl with | [_], _ => rfl) fun f fd F => ok0 F sc_trap_of (fun vs H Q E h => ?_) (fun cdv A outer s H vs Q E hr h => ?_)
  · obtain ⟨a, s, rfl, ha, k⟩ := h
    rfl
  · have hu := hu_of hr
    have nd := sc_trap_of.nd
    have R_op_of : 1 ≤ 3 := by decide
    have R_is_barred : 3 ≤ 3 := by decide
    obtain ⟨a, s, rfl, ha, k⟩ := h
    refine ⟨_, (pss_cons (ps_set (i := 1) nd rfl (Or.inl rfl) (pe_call G_op_of (hr.mono R_op_of) rfl g_op_of k_op_of b_op_of .nil pass0 (pa_cons (pe_ix ix_tup (pv 0) (pe_gi rfl T.c_I) (fun _ _ => rfl)) pa_nil)))
      (pss_cons (ps_if (PW.pt (pw_and (pt_cmpR op_in_seq (pv 1) (pe_tup (pa_cons pe_int (pa_cons pe_int (pa_cons pe_int (pa_cons pe_int (pa_cons pe_int (pa_cons pe_int (pa_cons pe_int pa_nil)))))))) rfl) (pw_and1 (pt_val (pe_call G_is_barred (hr.mono R_is_barred) rfl g_is_barred k_is_barred b_is_barred .nil pass0 (pa_cons (pv 0) pa_nil)))))) (pss_one (ps_ret (pe_gi rfl T.c_GUARD))) pss_nil)
      (pss_cons (ps_if (PW.pt (pw_and (pt_cmpR op_ge (pv 1) pe_int (nomark _)) (pw_and1 (pt_cmpR op_eq (pe_ix ix_tup (pv 0) (pe_gi rfl T.c_M) (fun _ _ => rfl)) pe_int (nomark _))))) (pss_one (ps_ret (pe_gi rfl T.c_BARRED))) pss_nil)
      (pss_cons (ps_if (pt_cmpR op_eq (pv 1) pe_int (nomark _)) (pss_one (ps_ret (pe_gi rfl T.c_CALL))) pss_nil)
      (pss_one (ps_ret pe_int)))))), ?_⟩
    unfold trapOf at k
    refine ⟨_, rfl, _, _, _, _, rfl, rfl, sqt ha, rfl, _, rfl, ?_⟩
    have rest : ∀ H1 : Hp, Same H H1 → ¬ (memOp (s.i / 4096) ∧ barred s = true) → StAt H1 a s → _ := fun H1 e1 c1 h1 => by
      rw [if_neg c1] at k
      exact (show (tSeq (tIfS (tAnd (tTest (tOp (rI0 fun i j => .bl (decide (j ≤ i))) (tVar 1) (tC (.int 14)))) (tTest (tOp rEq (tOp (rIxT K) (tVar 0) (tC (.int 5))) (tC (.int 1))))) (tRet (tC (.int 2))) tNext)
        (tSeq (tIfS (tTest (tOp rEq (tVar 1) (tC (.int 13)))) (tRet (tC (.int 3))) tNext) (tRet (tC (.int 0))))) { nx := fun _ H' => Q .non H', rt := Q } [some (.ref a), some (.int (s.i / 4096))] H1 from by
          refine ⟨_, rfl, _, _, rfl, rfl, _, rfl, if_dec (fun c => ?_) (fun c => ?_)⟩
          · refine ⟨_, rfl, _, _, _, _, rfl, rfl, sqt h1, rfl, rfl, _, rfl, if_eq (fun c5 => ?_) (fun c5 => ?_)⟩
            · rw [if_pos ⟨c, c5⟩] at k
              exact k _ e1
            · rw [if_neg (fun z => c5 z.2)] at k
              refine ⟨_, rfl, rfl, _, rfl, if_eq (fun c => ?_) (fun c => ?_)⟩
              · rw [if_pos c] at k
                exact k _ e1
              · rw [if_neg c] at k
                exact k _ e1
          · rw [if_neg (fun z => c z.1)] at k
            refine iteF ?_
            refine ⟨_, rfl, rfl, _, rfl, if_eq (fun c => ?_) (fun c => ?_)⟩
            · rw [if_pos c] at k
              exact k _ e1
            · rw [if_neg c] at k
              exact k _ e1)
    refine ⟨_, rfl, sz rfl, fun t ht => ?_⟩
    refine ⟨t, _, rfl, .inr (sqt upd_same), rfl, rfl, _, rfl, ?_⟩
    show if inV (.int (s.i / 4096)) [.int 1, .int 2, .int 3, .int 4, .int 5, .int 9, .int 10] = true then _ else _
    rw [inV_cons, inV_cons, inV_cons, inV_cons, inV_cons, inV_cons, inV_cons, inV_nil, Bool.or_false, ← Bool.decide_or, ← Bool.decide_or, ← Bool.decide_or, ← Bool.decide_or, ← Bool.decide_or, ← Bool.decide_or]
    refine if_dec (fun c => ?_) (fun c => ?_)
    · refine ⟨_, rfl, a, s, rfl, by walk_at "hp", fun H1 e1 => ⟨_, rfl, if_bool (fun cb => ?_) (fun cb => ?_)⟩⟩
      · rw [if_pos ⟨c, cb⟩] at k
        exact k _ (by walk_at "sm")
      · exact rest H1 (by walk_at "sm") (fun z => by rw [cb] at z; exact absurd z.2 (by decide)) (by walk_at "hp")
    · exact iteF (rest _ (by walk_at "sm") (fun z => c z.1) (by walk_at "hp"))
theorem ok_trapped (T : Tx K mg) (Sr : Src K mg "trapped" s_trapped) (D_number_of : Def P w K mg base "number_of" 1 ["word"] (sp_number_of K)) (D_changed : Def P w K mg base "changed" 1 ["state", "pairs"] (sp_changed K)) (D_trap : Def P w K mg base "trap" 2 ["state", "cause", "place"] (sp_trap K)) : Def P w K mg base "trapped" 3 ["state", "cause"] (sp_trapped K) := by
  obtain ⟨f_number_of, fd_number_of, g_number_of, k_number_of, b_number_of, G_number_of⟩ := D_number_of.ex
  obtain ⟨f_changed, fd_changed, g_changed, k_changed, b_changed, G_changed⟩ := D_changed.ex
  obtain ⟨f_trap, fd_trap, g_trap, k_trap, b_trap, G_trap⟩ := D_trap.ex
  refine Def.of Sr (fun f fd F => F.bindsN fun _ _ _ _ _ _ us hl => match us, hl with | [_, _], _ => rfl) fun f fd F => ok0 F sc_trapped (fun vs H Q E h => ?_) (fun cdv A outer s H vs Q E hr h => ?_)
  · obtain ⟨a, s, c, rfl, ha, k⟩ := h
    rfl
  · have hu := hu_of hr
    have nd := sc_trapped.nd
    have R_number_of : 1 ≤ 2 := by decide
    have R_changed : 1 ≤ 2 := by decide
    have R_trap : 2 ≤ 2 := by decide
    obtain ⟨a, s, c, rfl, ha, k⟩ := h
    refine ⟨_, (pss_cons (ps_if (pt_cmpR op_eq (pv 1) (pe_gi rfl T.c_CALL) (nomark _)) (pss_one (ps_ret (pe_call G_trap (hr.mono R_trap) rfl g_trap k_trap b_trap .nil pass0 (pa_cons (pe_call G_changed (hr.mono R_changed) rfl g_changed k_changed b_changed .nil pass0 (pa_cons (pv 0) (pa_cons (pe_lst (pa_cons (pe_tup (pa_cons (pe_gi rfl T.c_N) (pa_cons (pe_call G_number_of (hr.mono R_number_of) rfl g_number_of k_number_of b_number_of .nil pass0 (pa_cons (pe_ix ix_tup (pv 0) (pe_gi rfl T.c_I) (fun _ _ => rfl)) pa_nil)) pa_nil))) pa_nil)) pa_nil))) (pa_cons (pv 1) (pa_cons (pe_op op_add (pe_ix ix_tup (pv 0) (pe_gi rfl T.c_P) (fun _ _ => rfl)) pe_int) pa_nil)))))) pss_nil)
      (pss_one (ps_ret (pe_call G_trap (hr.mono R_trap) rfl g_trap k_trap b_trap .nil pass0 (pa_cons (pv 0) (pa_cons (pv 1) (pa_cons (pe_ix ix_tup (pv 0) (pe_gi rfl T.c_P) (fun _ _ => rfl)) pa_nil))))))), ?_⟩
    unfold trapped at k
    refine ⟨_, rfl, rfl, _, rfl, if_eq (fun c3 => ?_) (fun c3 => ?_)⟩
    · rw [if_pos c3] at k
      subst c3
      walk_at "va"
      refine ⟨_, rfl, _, _, _, _, rfl, rfl, sqt ha, rfl, _, rfl, ?_⟩
      walk_at "td"
      walk_at "td"
      refine ⟨a, _, s.vs, _, [(13, .int (s.i % 4096))], rfl, by walk_at "hp", upd_same, by walk_at "pa", rfl, fun q H1 e1 hq => ?_⟩
      have hq : StAt H1 q { s with n := s.i % 4096 } := hq
      have e0 : Same H H1 := by walk_at "sm"
      refine ⟨_, rfl, _, rfl, _, _, _, _, rfl, rfl, sqt (e0 _ _ ha), rfl, _, _, rfl, rfl, q, { s with n := s.i % 4096 }, 3, _, rfl, hq, fun p H' e hp => k p H' (by walk_at "sm") hp⟩
    · rw [if_neg c3] at k
      exact ⟨_, rfl, _, rfl, _, rfl, _, _, _, _, rfl, rfl, sqt ha, rfl, a, s, c, s.p, rfl, ha, k⟩
theorem ok_fetched (T : Tx K mg) (Sr : Src K mg "fetched" s_fetched) (D_is_barred : Def P w K mg base "is_barred" 3 ["state"] (sp_is_barred K)) (D_trap : Def P w K mg base "trap" 2 ["state", "cause", "place"] (sp_trap K)) (D_changed : Def P w K mg base "changed" 1 ["state", "pairs"] (sp_changed K)) : Def P w K mg base "fetched" 4 ["state", "word"] (sp_fetched K) := by
  obtain ⟨f_is_barred, fd_is_barred, g_is_barred, k_is_barred, b_is_barred, G_is_barred⟩ := D_is_barred.ex
  obtain ⟨f_trap, fd_trap, g_trap, k_trap, b_trap, G_trap⟩ := D_trap.ex
  obtain ⟨f_changed, fd_changed, g_changed, k_changed, b_changed, G_changed⟩ := D_changed.ex
  refine Def.of Sr (fun f fd F => F.bindsN fun _ _ _ _ _ _ us hl => match us, hl with | [_, _], _ => rfl) fun f fd F => ok0 F sc_fetched (fun vs H Q E h => ?_) (fun cdv A outer s H vs Q E hr h => ?_)
  · obtain ⟨a, s, wd, rfl, ha, k⟩ := h
    rfl
  · have hu := hu_of hr
    have nd := sc_fetched.nd
    have R_is_barred : 3 ≤ 3 := by decide
    have R_trap : 2 ≤ 3 := by decide
    have R_changed : 1 ≤ 3 := by decide
    obtain ⟨a, s, wd, rfl, ha, k⟩ := h
    refine ⟨_, (pss_cons (ps_if (pt_val (pe_call G_is_barred (hr.mono R_is_barred) rfl g_is_barred k_is_barred b_is_barred .nil pass0 (pa_cons (pv 0) pa_nil))) (pss_one (ps_ret (pe_call G_trap (hr.mono R_trap) rfl g_trap k_trap b_trap .nil pass0 (pa_cons (pv 0) (pa_cons (pe_gi rfl T.c_GUARD) (pa_cons (pe_ix ix_tup (pv 0) (pe_gi rfl T.c_P) (fun _ _ => rfl)) pa_nil)))))) pss_nil)
      (pss_one (ps_ret (pe_call G_changed (hr.mono R_changed) rfl g_changed k_changed b_changed .nil pass0 (pa_cons (pv 0) (pa_cons (pe_lst (pa_cons (pe_tup (pa_cons (pe_gi rfl T.c_I) (pa_cons (pv 1) pa_nil))) (pa_cons (pe_tup (pa_cons (pe_gi rfl T.c_F) (pa_cons pe_int pa_nil))) pa_nil))) pa_nil)))))), ?_⟩
    unfold fetched at k
    refine ⟨_, rfl, a, s, rfl, ha, fun H1 e1 => ⟨_, rfl, if_bool (fun cb => ?_) (fun cb => ?_)⟩⟩
    · rw [if_pos cb] at k
      exact ⟨_, rfl, _, rfl, _, _, _, _, rfl, rfl, sqt (e1 _ _ ha), rfl, a, s, 1, s.p, rfl, e1 _ _ ha, fun p H' e hp => k p H' (by walk_at "sm") hp⟩
    · rw [if_neg (by rw [cb]; decide)] at k
      walk_at "va"
      walk_at "va"
      walk_at "td"
      walk_at "td"
      walk_at "td"
      exact ⟨a, _, s.vs, _, [(3, .int wd), (4, .int 1)], rfl, by walk_at "hp", upd_same, by walk_at "pa", rfl, fun p H' e hp => k p H' (by walk_at "sm") hp⟩
theorem ok_beat_of (T : Tx K mg) (Sr : Src K mg "beat_of" s_beat_of) (D_fetched : Def P w K mg base "fetched" 4 ["state", "word"] (sp_fetched K)) (D_trap_of : Def P w K mg base "trap_of" 4 ["state"] (sp_trap_of K)) (D_trapped : Def P w K mg base "trapped" 3 ["state", "cause"] (sp_trapped K)) (D_op_of : Def P w K mg base "op_of" 1 ["word"] (sp_op_of K)) (D_number_of : Def P w K mg base "number_of" 1 ["word"] (sp_number_of K)) (D_row_done : Def P w K mg base "row_done" 3 ["state", "word"] (sp_row_done K)) (D_rung : Def P w K mg base "rung" 3 ["state", "after"] (sp_rung K)) : Def P w K mg base "beat_of" 5 ["state", "word"] (sp_beat_of K) := by
  obtain ⟨f_fetched, fd_fetched, g_fetched, k_fetched, b_fetched, G_fetched⟩ := D_fetched.ex
  obtain ⟨f_trap_of, fd_trap_of, g_trap_of, k_trap_of, b_trap_of, G_trap_of⟩ := D_trap_of.ex
  obtain ⟨f_trapped, fd_trapped, g_trapped, k_trapped, b_trapped, G_trapped⟩ := D_trapped.ex
  obtain ⟨f_op_of, fd_op_of, g_op_of, k_op_of, b_op_of, G_op_of⟩ := D_op_of.ex
  obtain ⟨f_number_of, fd_number_of, g_number_of, k_number_of, b_number_of, G_number_of⟩ := D_number_of.ex
  obtain ⟨f_row_done, fd_row_done, g_row_done, k_row_done, b_row_done, G_row_done⟩ := D_row_done.ex
  obtain ⟨f_rung, fd_rung, g_rung, k_rung, b_rung, G_rung⟩ := D_rung.ex
  refine Def.of Sr (fun f fd F => F.bindsN fun _ _ _ _ _ _ us hl => match us, hl with | [_, _], _ => rfl) fun f fd F => ok0 F sc_beat_of (fun vs H Q E h => ?_) (fun cdv A outer s H vs Q E hr h => ?_)
  · obtain ⟨a, s, wd, rfl, ha, k⟩ := h
    rfl
  · have hu := hu_of hr
    have nd := sc_beat_of.nd
    have R_fetched : 4 ≤ 4 := by decide
    have R_trap_of : 4 ≤ 4 := by decide
    have R_trapped : 3 ≤ 4 := by decide
    have R_op_of : 1 ≤ 4 := by decide
    have R_number_of : 1 ≤ 4 := by decide
    have R_row_done : 3 ≤ 4 := by decide
    have R_rung : 3 ≤ 4 := by decide
    obtain ⟨a, s, wd, rfl, ha, k⟩ := h
    refine ⟨_, (pss_cons (ps_if (pt_cmpR op_eq (pe_ix ix_tup (pv 0) (pe_gi rfl T.c_H) (fun _ _ => rfl)) pe_int (nomark _)) (pss_one (ps_ret (pe_tup (pa_cons (pv 0) (pa_cons pe_non (pa_cons pe_non pa_nil)))))) pss_nil)
      (pss_cons (ps_if (pt_cmpR op_eq (pe_ix ix_tup (pv 0) (pe_gi rfl T.c_F) (fun _ _ => rfl)) pe_int (nomark _)) (pss_one (ps_ret (pe_tup (pa_cons (pe_call G_fetched (hr.mono R_fetched) rfl g_fetched k_fetched b_fetched .nil pass0 (pa_cons (pv 0) (pa_cons (pv 1) pa_nil))) (pa_cons pe_non (pa_cons pe_non pa_nil)))))) pss_nil)
      (pss_cons (ps_set (i := 2) nd rfl (Or.inl rfl) (pe_call G_trap_of (hr.mono R_trap_of) rfl g_trap_of k_trap_of b_trap_of .nil pass0 (pa_cons (pv 0) pa_nil)))
      (pss_cons (ps_if (pt_cmpR op_gt (pv 2) pe_int (nomark _)) (pss_one (ps_ret (pe_tup (pa_cons (pe_call G_trapped (hr.mono R_trapped) rfl g_trapped k_trapped b_trapped .nil pass0 (pa_cons (pv 0) (pa_cons (pv 2) pa_nil))) (pa_cons pe_non (pa_cons pe_non pa_nil)))))) pss_nil)
      (pss_cons (ps_set (i := 3) nd rfl (Or.inl rfl) (pe_call G_op_of (hr.mono R_op_of) rfl g_op_of k_op_of b_op_of .nil pass0 (pa_cons (pe_ix ix_tup (pv 0) (pe_gi rfl T.c_I) (fun _ _ => rfl)) pa_nil)))
      (pss_cons (ps_set (i := 4) nd rfl (Or.inl rfl) pe_non)
      (pss_cons (ps_set (i := 5) nd rfl (Or.inl rfl) pe_non)
      (pss_cons (ps_if (PW.pt (pw_or (pt_cmpR op_eq (pv 3) pe_int (nomark _)) (pw_or1 (pt_cmpR op_eq (pv 3) pe_int (nomark _))))) (pss_one (ps_set (i := 4) nd rfl (Or.inl rfl) (pe_ix ix_tup (pv 0) (pe_gi rfl T.c_A) (fun _ _ => rfl)))) pss_nil)
      (pss_cons (ps_if (PW.pt (pw_and (pt_cmpR op_eq (pv 3) pe_int (nomark _)) (pw_and1 (pt_cmpR op_eq (pe_op op_mod (pe_call G_number_of (hr.mono R_number_of) rfl g_number_of k_number_of b_number_of .nil pass0 (pa_cons (pe_ix ix_tup (pv 0) (pe_gi rfl T.c_I) (fun _ _ => rfl)) pa_nil)) pe_int) pe_int (nomark _))))) (pss_one (ps_set (i := 5) nd rfl (Or.inl rfl) (pe_ix ix_tup (pv 0) (pe_gi rfl T.c_A) (fun _ _ => rfl)))) pss_nil)
      (pss_one (ps_ret (pe_tup (pa_cons (pe_call G_rung (hr.mono R_rung) rfl g_rung k_rung b_rung .nil pass0 (pa_cons (pv 0) (pa_cons (pe_call G_row_done (hr.mono R_row_done) rfl g_row_done k_row_done b_row_done .nil pass0 (pa_cons (pv 0) (pa_cons (pv 1) pa_nil))) pa_nil))) (pa_cons (pv 4) (pa_cons (pv 5) pa_nil))))))))))))))), ?_⟩
    unfold beatOf at k
    refine ⟨_, rfl, _, _, _, _, rfl, rfl, sqt ha, rfl, rfl, _, rfl, if_eq (fun c => ?_) (fun c => ?_)⟩
    · have c : s.h = 1 := c
      rw [if_pos c] at k
      exact ⟨_, rfl, sz rfl, fun p hp => k p a _ (same_upd hp) (by walk_at "hp") upd_same⟩
    have c : ¬ s.h = 1 := c
    rw [if_neg c] at k
    refine ⟨_, rfl, _, _, _, _, rfl, rfl, sqt ha, rfl, rfl, _, rfl, if_eq (fun c => ?_) (fun c => ?_)⟩
    · have c : s.f = 0 := c
      rw [if_pos c] at k
      refine ⟨_, rfl, _, rfl, a, s, wd, rfl, ha, fun q H1 e1 hq => ⟨sz rfl, fun p hp => k p q _ (by walk_at "sm") (by walk_at "hp") upd_same⟩⟩
    have c : ¬ s.f = 0 := c
    rw [if_neg c] at k
    refine ⟨_, rfl, a, s, rfl, ha, fun H1 e1 => ?_⟩
    have ha1 : StAt H1 a s := e1 _ _ ha
    refine ⟨_, rfl, _, _, rfl, rfl, _, rfl, if_dec (fun c => ?_) (fun c => ?_)⟩
    · rw [if_pos c] at k
      refine ⟨_, rfl, _, rfl, a, s, _, rfl, ha1, fun q H2 e2 hq => ⟨sz rfl, fun p hp => k p q _ (by walk_at "sm") (by walk_at "hp") upd_same⟩⟩
    rw [if_neg c] at k
    refine ⟨_, rfl, _, _, _, _, rfl, rfl, sqt ha1, rfl, _, rfl, ?_⟩
    -- write and tell
    have fin : ∀ (wr te : V) (H2 : Hp), Same H H2 → wr = optV (if s.i / 4096 = 2 ∨ s.i / 4096 = 10 then some s.a else none) →
        te = optV (if s.i / 4096 = 14 ∧ s.i % 4096 % 16 = 6 then some s.a else none) →
        (tRet (tTup (tCons (tCall (sp_rung K) [] E0 (tCons (tVar 0) (tCons (tCall (sp_row_done K) [] E0 (tCons (tVar 0) (tCons (tVar 1) tNil))) tNil))) (tCons (tVar 4) (tCons (tVar 5) tNil))))) { nx := fun _ H' => Q .non H', rt := Q }
          [some (.ref a), some (.int wd), some (.int (trapOf s)), some (.int (s.i / 4096)), some wr, some te] H2 := by
      intro wr te H2 e2 ew et
      subst ew et
      refine ⟨_, rfl, _, rfl, _, rfl, a, s, wd, rfl, e2 _ _ ha, fun b H3 e3 hb => ?_⟩
      refine ⟨a, b, s, rowDone s wd, rfl, by walk_at "hp", hb, fun q H4 e4 hq => ⟨_, rfl, _, rfl, sz rfl, fun p hp => ?_⟩⟩
      exact k p q _ (by walk_at "sm") (by walk_at "hp") upd_same
    -- tell, behind write
    have mid : ∀ (wr : V), wr = optV (if s.i / 4096 = 2 ∨ s.i / 4096 = 10 then some s.a else none) →
        (tSeq (tIfS (tAnd (tTest (tOp rEq (tVar 3) (tC (.int 14)))) (tTest (tOp rEq (tOp (rI (fun _ j => 0 < j) fun i j => V.int (i % j)) (tCall (sp_number_of K) [] E0 (tCons (tOp (rIxT K) (tVar 0) (tC (.int 3))) tNil)) (tC (.int 16))) (tC (.int 6)))))
          (tAsg (tOp (rIxT K) (tVar 0) (tC (.int 0))) (gName 5)) tNext) (tRet (tTup (tCons (tCall (sp_rung K) [] E0 (tCons (tVar 0) (tCons (tCall (sp_row_done K) [] E0 (tCons (tVar 0) (tCons (tVar 1) tNil))) tNil))) (tCons (tVar 4) (tCons (tVar 5) tNil))))))
          { nx := fun _ H' => Q .non H', rt := Q } [some (.ref a), some (.int wd), some (.int (trapOf s)), some (.int (s.i / 4096)), some wr, some .non] H1 := by
      intro wr ew
      refine ⟨_, rfl, rfl, _, rfl, if_eq (fun c => ?_) (fun c => ?_)⟩
      · refine ⟨_, rfl, _, _, _, _, rfl, rfl, sqt ha1, rfl, _, rfl, _, _, rfl, rfl, (by decide : (0 : Int) < 16), rfl, _, rfl, if_eq (fun c6 => ?_) (fun c6 => ?_)⟩
        · refine ⟨_, rfl, _, _, _, _, rfl, rfl, sqt ha1, rfl, fin _ _ H1 e1 ew ?_⟩
          rw [if_pos ⟨c, c6⟩] <;> rfl
        · refine fin _ _ H1 e1 ew ?_
          rw [if_neg (fun z => c6 z.2)] <;> rfl
      · refine iteF (fin _ _ H1 e1 ew ?_)
        rw [if_neg (fun z => c z.1)] <;> rfl
    refine ⟨_, rfl, rfl, _, rfl, if_eq (fun c => ?_) (fun c => ?_)⟩
    · refine iteT ⟨_, rfl, _, _, _, _, rfl, rfl, sqt ha1, rfl, mid _ ?_⟩
      rw [if_pos (.inl c)] <;> rfl
    · refine ⟨_, rfl, rfl, _, rfl, if_eq (fun c2 => ?_) (fun c2 => ?_)⟩
      · refine ⟨_, rfl, _, _, _, _, rfl, rfl, sqt ha1, rfl, mid _ ?_⟩
        rw [if_pos (.inr c2)] <;> rfl
      · refine mid _ ?_
        rw [if_neg (by omega)] <;> rfl
end
end G3
set_option Elab.async false
set_option linter.all false
set_option maxRecDepth 100000
set_option maxHeartbeats 1000000
namespace G3
open PySem PySem.Spec PyProof.Rows L2
local macro_rules | `(tactic| walk_at "hp") => `(tactic| first | assumption | exact upd_same | (refine same_upd (by assumption) _ _ ?_; walk_at "hp") | (refine (‹Same _ _›) _ _ ?_; walk_at "hp"))
local macro_rules | `(tactic| walk_at "sm") => `(tactic| first | exact Same.refl _ | assumption | (refine Same.trans ?_ (same_upd (by assumption)); walk_at "sm") | (refine Same.trans ?_ (by assumption); walk_at "sm"))
/-! ### a memory as a dict -/
structure MemIs (kvs : List (Key × V)) (m : Mem) : Prop where
  allI : ∀ q ∈ kvs, ∃ i v : Int, q = (Sum.inl i, V.int v)
  look : ∀ n : Int, (valV kvs (Sum.inl n)).getD (.int 0) = .int (m n)
def MemAt (H : Hp) (d : Addr) (m : Mem) (n : Nat) : Prop := ∃ kvs, H d = some (.dK kvs) ∧ MemIs kvs m ∧ kvs.length ≤ n
theorem mem_putK {kvs : List (Key × V)} {k : Key} {v : V} {q : Key × V} (h : q ∈ putK kvs k v) : q ∈ kvs ∨ q = (k, v) := by
  unfold putK at h
  split at h
  · obtain ⟨p, hp, e⟩ := List.mem_map.mp h
    by_cases c : p.1 = k
    · rw [if_pos c] at e
      refine .inr ?_
      rw [← e, ← c]
    · rw [if_neg c] at e
      exact .inl (e ▸ hp)
  · rcases List.mem_append.mp h with h | h
    · exact .inl h
    · exact .inr (List.mem_singleton.mp h)
theorem putK_len (kvs : List (Key × V)) (k : Key) (v : V) : (putK kvs k v).length ≤ kvs.length + 1 := by
  unfold putK
  split
  · rw [List.length_map]
    omega
  · rw [List.length_append]
    exact Nat.le_refl _
theorem MemIs.put {kvs : List (Key × V)} {m : Mem} (h : MemIs kvs m) (n v : Int) : MemIs (putK kvs (Sum.inl n) (.int v)) (put m n v) := by
  refine ⟨fun q hq => ?_, fun j => ?_⟩
  · rcases mem_putK hq with hq | hq
    · exact h.allI q hq
    · exact ⟨n, v, hq⟩
  · rw [valV_put]
    by_cases e : j = n
    · subst e
      rw [if_pos rfl, put_same]
      rfl
    · rw [if_neg (fun z => e (Sum.inl.inj z)), put_ne e]
      exact h.look j
theorem valV_in {kvs : List (Key × V)} {k : Key} {v : V} (h : (k, v) ∈ kvs) : ∃ u, valV kvs k = some u := by
  have q : (kvs.any fun kv => decide (kv.1 = k)) = true := List.any_eq_true.mpr ⟨(k, v), h, decide_eq_true rfl⟩
  rw [valV_any] at q
  exact Option.isSome_iff_exists.mp q
theorem valV_none {kvs : List (Key × V)} {k : Key} (h : k ∉ kvs.map (·.1)) : valV kvs k = none := by
  cases e : valV kvs k with
  | none => rfl
  | some v =>
    have q : (kvs.any fun kv => decide (kv.1 = k)) = true := by
      rw [valV_any, e]
      rfl
    obtain ⟨p, hp, c⟩ := List.any_eq_true.mp q
    exact absurd (List.mem_map.mpr ⟨p, hp, of_decide_eq_true c⟩) h
def sp_without_noughts (K : PySem.W.Frag) : Sp := fun vs H Q _ => ∃ (a : Addr) (m : Mem) (n : Nat), vs = [.ref a] ∧ MemAt H a m n ∧ n ≤ 100000 ∧ ∀ p H', Same H H' → H p = none → MemAt H' p m n → Q (.ref p) H'
def sp_one_beat (K : PySem.W.Frag) : Sp := fun vs H Q _ => ∃ (a d u : Addr) (s : S) (m : Mem) (n : Nat) (t : List Int), vs = [.ref a, .ref d, .ref u] ∧ StAt H a s ∧ MemAt H d m n ∧ n ≤ 100000 ∧ H u = some (.lst (t.map V.int)) ∧ t.length ≤ 100000 ∧
  ∀ (p q : Addr) (wd : Int) H', (∀ b o, b ≠ d → b ≠ u → H b = some o → H' b = some o) → StAt H' q (stepS s m) → MemAt H' d (stepM s m) (n + 1) → H' u = some (.lst ((stepT s m t).map V.int)) → H' p = some (.tup [.ref q, .int wd]) → H p = none → Q (.ref p) H'
def sp_run (K : PySem.W.Frag) : Sp := fun vs H Q _ => ∃ (a d : Addr) (s : S) (m : Mem) (n b : Nat), vs = [.ref a, .ref d, .int (b : Int)] ∧ StAt H a s ∧ MemAt H d m n ∧ n ≤ 10000 ∧ b ≤ 1000 ∧
  ∀ (p q e u tr : Addr) H', Same H H' → MemAt H' e (runC b s m []).2.1 (n + b) → H' u = some (.lst ((runC b s m []).2.2.map V.int)) → H' p = some (.tup [.ref q, .ref e, .ref u, .ref tr]) → Q (.ref p) H'
theorem stepT_len (s : S) (m : Mem) (t : List Int) : (stepT s m t).length ≤ t.length + 1 := by
  unfold stepT
  split
  · rw [List.length_append]
    exact Nat.le_refl _
  · omega
def appT (t : List Int) : Option Int → List Int
  | some w => t ++ [w]
  | none => t
theorem small5 {n : Nat} (h : n ≤ 200000) : n < sizeLine := Nat.lt_of_le_of_lt h (by decide)
section
variable {P : Program} {w : World} {K : PySem.W.Frag} {mg : Str → Option Value} {base : Heap}
theorem ok_without_noughts (T : Tx K mg) (Sr : Src K mg "without_noughts" s_without_noughts) : Def P w K mg base "without_noughts" 1 ["memory"] (sp_without_noughts K) := by
  refine Def.of Sr (fun f fd F => F.bindsN fun _ _ _ _ _ _ us hl => match us, hl with | [_], _ => rfl) fun f fd F => ok0 F sc_without_noughts (fun vs H Q E h => ?_) (fun cdv A outer s H vs Q E hr h => ?_)
  · obtain ⟨a, m, n, rfl, ⟨kvs, ha, hm, hl⟩, hn, k⟩ := h
    rfl
  · have hu := hu_of hr
    have nd := sc_without_noughts.nd
    obtain ⟨a, m, n, rfl, ⟨kvs, ha, hm, hl⟩, hn, k⟩ := h
    refine ⟨_, (pss_cons (ps_set (i := 1) nd rfl (Or.inl rfl) pe_dnewK)
      (pss_cons (ps_lock (ps_for PassesOwn.never rfl (pi_keys (pv 0)) (pg_name (i := 2) nd rfl (Or.inl rfl)) (pss_one (ps_if (pt_cmpR op_ne (pe_dget hu (pv 0) (pv 2) (fun _ _ => rfl)) pe_int (nomark _)) (pss_one (ps_dput hu (pv 1) (pv 2) (pe_dget hu (pv 0) (pv 2) (fun _ _ => rfl)) rfl)) pss_nil))))
      (pss_one (ps_ret (pv 1))))), ?_⟩
    intro d hd
    have nad : a ≠ d := ne_of_none ha hd
    refine ⟨a, .dK kvs, by rw [upd_ne nad]; exact ha, trivial, fun od => ?_⟩
    refine ⟨_, rfl, a, od, rfl, .inl ⟨kvs, upd_same, ?_⟩⟩
    refine for_it (walk_keys (d := a) (o := od) (kvs := kvs)) (fun i σ H2 => ∃ (y2 : Option V) (made : List (Key × V)), σ = [some (.ref a), some (.ref d), y2] ∧ (∀ b o, H b = some o → b ≠ a → H2 b = some o) ∧ H2 a = some (.frz od (.dK kvs)) ∧ H2 d = some (.dK made) ∧ made.length ≤ i ∧
        (∀ q ∈ made, ∃ i v : Int, q = (Sum.inl i, V.int v)) ∧ (∀ j : Int, (((Sum.inl j : Key) ∈ (kvs.take i).map (·.1) ∧ m j ≠ 0) → valV made (Sum.inl j) = some (.int (m j))) ∧ (¬ ((Sum.inl j : Key) ∈ (kvs.take i).map (·.1) ∧ m j ≠ 0) → valV made (Sum.inl j) = none)))
      ⟨none, [], rfl, fun b o hb nb => by rw [upd_ne nb, upd_ne (ne_of_none hb hd)]; exact hb, upd_same, by rw [upd_ne nad.symm, upd_same], Nat.le_refl _, fun q hq => by simp at hq, fun j => ⟨fun z => by simp at z, fun _ => rfl⟩⟩ (fun i σ H2 _ h2 => by obtain ⟨_, _, _, _, e, _⟩ := h2; exact e) ?_ ?_
    · rintro i x σ H2 H3 hi ⟨y2, made, rfl, s2, e2, d2, l2, i2, v2⟩ ⟨rfl, kk, vv, hk, rfl⟩
      obtain ⟨ki, kv, eq⟩ := hm.allI (kk, vv) (List.mem_of_getElem? hk)
      cases eq
      obtain ⟨u, hu'⟩ := valV_in (List.mem_of_getElem? hk)
      have hval := hm.look ki
      rw [hu'] at hval
      have eu : u = .int (m ki) := hval
      subst eu
      have tk : ∀ j : Int, (Sum.inl j : Key) ∈ (kvs.take (i + 1)).map (·.1) ↔ ((Sum.inl j : Key) ∈ (kvs.take i).map (·.1) ∨ j = ki) := by
        intro j
        rw [List.take_add_one, hk, List.map_append, List.mem_append]
        simp
      have g2 : DGet H3 a (.int ki) (some (.int (m ki))) := .inl ⟨kvs, Sum.inl ki, .inr ⟨od, e2⟩, rfl, hu'.symm⟩
      refine ⟨_, rfl, _, rfl, a, _, rfl, g2, rfl, _, rfl, if_ne (fun c => ?_) (fun c => ?_)⟩
      · refine ⟨_, rfl, _, rfl, a, _, rfl, g2, _, rfl, _, rfl, d, _, rfl, DPut.k (k := Sum.inl ki) d2 (small5 (by omega)), ?_⟩
        refine ⟨_, _, rfl, fun b o hb nb => ?_, ?_, upd_same, ?_, fun q hq => ?_, fun j => ⟨fun z => ?_, fun z => ?_⟩⟩
        · rw [upd_ne (ne_of_none hb hd)]
          exact s2 b o hb nb
        · rw [upd_ne nad]
          exact e2
        · exact Nat.le_trans (putK_len _ _ _) (by omega)
        · rcases mem_putK hq with hq | hq
          · exact i2 q hq
          · exact ⟨ki, m ki, hq⟩
        · rw [valV_put]
          by_cases e : j = ki
          · rw [e, if_pos rfl]
          · rw [if_neg (fun z => e (Sum.inl.inj z))]
            exact (v2 j).1 ⟨((tk j).mp z.1).resolve_right e, z.2⟩
        · rw [valV_put]
          by_cases e : j = ki
          · exact absurd ⟨(tk j).mpr (.inr e), by rw [e]; exact c⟩ z
          · rw [if_neg (fun z => e (Sum.inl.inj z))]
            exact (v2 j).2 fun y => z ⟨(tk j).mpr (.inl y.1), y.2⟩
      · refine ⟨_, _, rfl, s2, e2, d2, by omega, i2, fun j => ⟨fun z => ?_, fun z => ?_⟩⟩
        · refine (v2 j).1 ⟨((tk j).mp z.1).resolve_right fun e => z.2 ?_, z.2⟩
          rw [e]
          exact c
        · exact (v2 j).2 fun y => z ⟨(tk j).mpr (.inl y.1), y.2⟩
    · rintro σ H2 ⟨y2, made, rfl, s2, e2, d2, l2, i2, v2⟩
      refine ⟨e2, _, rfl, k d _ (fun b o hb => ?_) hd ⟨made, ?_, ⟨i2, fun j => ?_⟩, by omega⟩⟩
      · by_cases e : b = a
        · subst e
          rw [ha] at hb
          rw [upd_same]
          exact hb
        · rw [upd_ne e]
          exact s2 b o hb e
      · rw [upd_ne nad.symm]
        exact d2
      · rw [List.take_length] at v2
        by_cases z : m j = 0
        · rw [(v2 j).2 (fun y => y.2 z), z]
          rfl
        · by_cases y : (Sum.inl j : Key) ∈ kvs.map (·.1)
          · rw [(v2 j).1 ⟨y, z⟩]
            rfl
          · have hv := hm.look j
            rw [valV_none y] at hv
            rw [(v2 j).2 (fun q => y q.1)]
            exact hv
theorem ok_one_beat (T : Tx K mg) (Sr : Src K mg "one_beat" s_one_beat) (D_asked : Def P w K mg base "asked" 3 ["state"] (sp_asked K)) (D_beat_of : Def P w K mg base "beat_of" 5 ["state", "word"] (sp_beat_of K)) : Def P w K mg base "one_beat" 6 ["state", "memory", "told"] (sp_one_beat K) := by
  obtain ⟨f_asked, fd_asked, g_asked, k_asked, b_asked, G_asked⟩ := D_asked.ex
  obtain ⟨f_beat_of, fd_beat_of, g_beat_of, k_beat_of, b_beat_of, G_beat_of⟩ := D_beat_of.ex
  refine Def.of Sr (fun f fd F => F.bindsN fun _ _ _ _ _ _ us hl => match us, hl with | [_, _, _], _ => rfl) fun f fd F => ok0 F sc_one_beat (fun vs H Q E h => ?_) (fun cdv A outer s H vs Q E hr h => ?_)
  · obtain ⟨a, d, u, s, m, n, t, rfl, ha, ⟨kvs, hd, hm, hl⟩, hn, hu2, htl, k⟩ := h
    rfl
  · have hu := hu_of hr
    have nd := sc_one_beat.nd
    have R_asked : 3 ≤ 5 := by decide
    have R_beat_of : 5 ≤ 5 := by decide
    obtain ⟨a, d, u, s, m, n, t, rfl, ha, ⟨kvs, hd, hm, hl⟩, hn, hu2, htl, k⟩ := h
    refine ⟨_, (pss_cons (ps_set (i := 3) nd rfl (Or.inl rfl) (pe_call G_asked (hr.mono R_asked) rfl g_asked k_asked b_asked .nil pass0 (pa_cons (pv 0) pa_nil)))
      (pss_cons (ps_set (i := 4) nd rfl (Or.inl rfl) (pe_dget2 hu (pv 1) (pv 3) pe_int ⟨rfl, rfl, rfl, rfl⟩))
      (pss_cons (ps_asg (pe_call G_beat_of (hr.mono R_beat_of) rfl g_beat_of k_beat_of b_beat_of .nil pass0 (pa_cons (pv 0) (pa_cons (pv 4) pa_nil))) (pg_tup rfl (pgs_cons (pg_name (i := 5) nd rfl (Or.inl rfl)) (pgs_cons (pg_name (i := 6) nd rfl (Or.inl rfl)) (pgs_cons (pg_name (i := 7) nd rfl (Or.inl rfl)) pgs_nil)))))
      (pss_cons (ps_if (pt_cmpR op_notN (pv 6) pe_non (nomark _)) (pss_one (ps_dput hu (pv 1) (pv 3) (pv 6) rfl)) pss_nil)
      (pss_cons (ps_if (pt_cmpR op_notN (pv 7) pe_non (nomark _)) (pss_one (ps_expr (pe_bm PySem.F.plainAttrs_list PySem.F.slot_list_append PySem.F.type_list_append mt_append (pv 2) (pa_cons (pv 7) pa_nil)))) pss_nil)
      (pss_one (ps_ret (pe_tup (pa_cons (pv 5) (pa_cons (pv 4) pa_nil)))))))))), ?_⟩
    have ndu : d ≠ u := ne_of hd hu2 (by intro z; cases z)
    unfold stepS stepM stepT at k
    refine ⟨_, rfl, a, s, rfl, ha, fun H1 e1 => ?_⟩
    refine ⟨_, rfl, d, rfl, .inl ⟨kvs, .inl (e1 _ _ hd)⟩, _, rfl, _, DGet.k (k := Sum.inl (asked s)) (e1 _ _ hd), ?_⟩
    rw [hm.look]
    refine ⟨_, rfl, _, rfl, a, s, m (asked s), rfl, e1 _ _ ha, fun p0 q H2 e2 hq hp => ?_⟩
    generalize hbt : beatOf s (m (asked s)) = bt at k hq hp
    obtain ⟨s', wr, te⟩ := bt
    have e02 : Same H H2 := e1.trans e2
    refine ⟨p0, _, rfl, sqt hp, rfl, _, _, rfl, _, _, rfl, _, _, rfl, rfl, ?_⟩
    have fin : ∀ (H3 : Hp) (m' : Mem) (t' : List Int) (y6 y7 : V), (∀ b o, b ≠ d → b ≠ u → H2 b = some o → H3 b = some o) → MemAt H3 d m' (n + 1) → H3 u = some (.lst (t'.map V.int)) →
        (∀ (p q : Addr) (wd : Int) H', (∀ b o, b ≠ d → b ≠ u → H b = some o → H' b = some o) → StAt H' q s' → MemAt H' d m' (n + 1) → H' u = some (.lst (t'.map V.int)) → H' p = some (.tup [.ref q, .int wd]) → H p = none → Q (.ref p) H') →
        (tRet (tTup (tCons (tVar 5) (tCons (tVar 4) tNil)))) { nx := fun _ H' => Q .non H', rt := Q } [some (.ref a), some (.ref d), some (.ref u), some (.int (asked s)), some (.int (m (asked s))), some (.ref q), some y6, some y7] H3 := by
      intro H3 m' t' y6 y7 e3 hm3 ht3 k3
      refine ⟨_, rfl, _, rfl, sz rfl, fun p hp3 => ?_⟩
      have qd : q ≠ d := ne_of hq (e02 _ _ hd) (by intro z; cases z)
      have qu : q ≠ u := ne_of hq (e02 _ _ hu2) (by intro z; cases z)
      have hnew : H p = none := by
        by_cases pd : p = d
        · subst pd
          obtain ⟨kvs3, h3, _⟩ := hm3
          rw [h3] at hp3
          cases hp3
        · by_cases pu : p = u
          · subst pu
            rw [ht3] at hp3
            cases hp3
          · cases hh : H p with
            | none => rfl
            | some o =>
              rw [e3 p o pd pu (e02 _ _ hh)] at hp3
              cases hp3
      refine k3 p q (m (asked s)) _ (fun b o nb1 nb2 hb => same_upd hp3 _ _ (e3 b o nb1 nb2 (e02 _ _ hb))) (same_upd hp3 _ _ (e3 _ _ qd qu hq)) ?_ (same_upd hp3 _ _ ht3) upd_same hnew
      obtain ⟨kvs3, h3, r3⟩ := hm3
      exact ⟨kvs3, same_upd hp3 _ _ h3, r3⟩
    -- told, behind the write
    have mid : ∀ (H3 : Hp) (m' : Mem) (y6 : V), (∀ b o, b ≠ d → H2 b = some o → H3 b = some o) → MemAt H3 d m' (n + 1) →
        (∀ (p q : Addr) (wd : Int) H', (∀ b o, b ≠ d → b ≠ u → H b = some o → H' b = some o) → StAt H' q s' → MemAt H' d m' (n + 1) → H' u = some (.lst ((appT t te).map V.int)) → H' p = some (.tup [.ref q, .int wd]) → H p = none → Q (.ref p) H') →
        (tSeq (tIfS (tTest (tOp (fun x y H Q => y = .non ∧ Q (.bl (!decide (x = .non))) H) (tVar 7) (tC .non))) (tDrop (tBM K "list" rAppend (tVar 2) (tCons (tVar 7) tNil))) tNext) (tRet (tTup (tCons (tVar 5) (tCons (tVar 4) tNil)))))
          { nx := fun _ H' => Q .non H', rt := Q } [some (.ref a), some (.ref d), some (.ref u), some (.int (asked s)), some (.int (m (asked s))), some (.ref q), some y6, some (optV te)] H3 := by
      intro H3 m' y6 e3 hm3 k3
      have hu3 : H3 u = some (.lst (t.map V.int)) := e3 _ _ ndu.symm (e02 _ _ hu2)
      cases te with
      | none => exact ⟨_, rfl, rfl, _, rfl, iteF (fin H3 m' t _ _ (fun b o nb1 _ hb => e3 b o nb1 hb) hm3 hu3 k3)⟩
      | some z =>
        refine ⟨_, rfl, rfl, _, rfl, iteT ⟨_, rfl, .inl ⟨rfl, _, sql hu3⟩, _, rfl, u, _, _, rfl, rfl, hu3, small5 (by rw [List.length_map]; omega), ?_⟩⟩
        refine fin _ m' (t ++ [z]) _ _ (fun b o nb1 nb2 hb => by rw [upd_ne nb2]; exact e3 b o nb1 hb) ?_ (by rw [upd_same, List.map_append]; rfl) k3
        obtain ⟨kvs3, h3, r3⟩ := hm3
        exact ⟨kvs3, by rw [upd_ne ndu]; exact h3, r3⟩
    cases wr with
    | none => exact ⟨_, rfl, rfl, _, rfl, iteF (mid H2 m _ (fun b o _ hb => hb) ⟨kvs, e02 _ _ hd, hm, by omega⟩ k)⟩
    | some z =>
      refine ⟨_, rfl, rfl, _, rfl, iteT ⟨_, rfl, _, rfl, _, rfl, d, _, rfl, DPut.k (k := Sum.inl (asked s)) (e02 _ _ hd) (small5 (by omega)), ?_⟩⟩
      exact mid _ (put m (asked s) z) _ (fun b o nb hb => by rw [upd_ne nb]; exact hb) ⟨_, upd_same, hm.put _ _, Nat.le_trans (putK_len _ _ _) (by omega)⟩ k
theorem ok_run (T : Tx K mg) (Sr : Src K mg "run" s_run) (D_without_noughts : Def P w K mg base "without_noughts" 1 ["memory"] (sp_without_noughts K)) (D_one_beat : Def P w K mg base "one_beat" 6 ["state", "memory", "told"] (sp_one_beat K)) : Def P w K mg base "run" 7 ["state", "memory", "beats"] (sp_run K) := by
  obtain ⟨f_without_noughts, fd_without_noughts, g_without_noughts, k_without_noughts, b_without_noughts, G_without_noughts⟩ := D_without_noughts.ex
  obtain ⟨f_one_beat, fd_one_beat, g_one_beat, k_one_beat, b_one_beat, G_one_beat⟩ := D_one_beat.ex
  refine Def.of Sr (fun f fd F => F.bindsN fun _ _ _ _ _ _ us hl => match us, hl with | [_, _, _], _ => rfl) fun f fd F => ok0 F sc_run (fun vs H Q E h => ?_) (fun cdv A outer s H vs Q E hr h => ?_)
  · obtain ⟨a, d, s, m, n, b, rfl, ha, hd, hn, hb, k⟩ := h
    rfl
  · have hu := hu_of hr
    have nd := sc_run.nd
    have R_without_noughts : 1 ≤ 6 := by decide
    have R_one_beat : 6 ≤ 6 := by decide
    obtain ⟨a, d, s, m, n, b, rfl, ha, hd, hn, hb, k⟩ := h
    refine ⟨_, (pss_cons (ps_set (i := 3) nd rfl (Or.inl rfl) (pe_call G_without_noughts (hr.mono R_without_noughts) rfl g_without_noughts k_without_noughts b_without_noughts .nil pass0 (pa_cons (pv 1) pa_nil)))
      (pss_cons (ps_set (i := 4) nd rfl (Or.inl rfl) (pe_lst pa_nil))
      (pss_cons (ps_set (i := 5) nd rfl (Or.inl rfl) (pe_lst pa_nil))
      (pss_cons (ps_while PassesOwn.never (PW.pt (pw_and (pt_cmpR op_lt (pe_callB call_len_seq rfl T.b_len PySem.boot_len (pa_cons (pv 5) pa_nil)) (pv 2) (nomark _)) (pw_and1 (pt_cmpR op_eq (pe_ix ix_tup (pv 0) (pe_gi rfl T.c_H) (fun _ _ => rfl)) pe_int (nomark _))))) (pss_cons (ps_asg (pe_call G_one_beat (hr.mono R_one_beat) rfl g_one_beat k_one_beat b_one_beat .nil pass0 (pa_cons (pv 0) (pa_cons (pv 3) (pa_cons (pv 4) pa_nil)))) (pg_tup rfl (pgs_cons (pg_name (i := 6) nd rfl (Or.inl rfl)) (pgs_cons (pg_name (i := 7) nd rfl (Or.inl rfl)) pgs_nil))))
      (pss_cons (ps_expr (pe_bm PySem.F.plainAttrs_list PySem.F.slot_list_append PySem.F.type_list_append mt_append (pv 5) (pa_cons (pe_tup (pa_cons (pv 0) (pa_cons (pv 7) pa_nil))) pa_nil)))
      (pss_one (ps_set (i := 0) nd rfl (Or.inl rfl) (pv 6))))))
      (pss_one (ps_ret (pe_tup (pa_cons (pv 0) (pa_cons (pe_call G_without_noughts (hr.mono R_without_noughts) rfl g_without_noughts k_without_noughts b_without_noughts .nil pass0 (pa_cons (pv 3) pa_nil)) (pa_cons (pv 4) (pa_cons (pv 5) pa_nil))))))))))), ?_⟩
    refine ⟨_, rfl, d, m, n, rfl, hd, by omega, fun own H1 e1 no ho => ?_⟩
    refine ⟨Nat.zero_le _, fun u nu => ?_⟩
    refine ⟨Nat.zero_le _, fun tr ntr => ?_⟩
    have e2 : Same H (upd (upd H1 u (.lst [])) tr (.lst [])) := by walk_at "sm"
    have ho2 : MemAt (upd (upd H1 u (.lst [])) tr (.lst [])) own m n := by
      obtain ⟨kvs, h1, r1⟩ := ho
      exact ⟨kvs, by walk_at "hp", r1⟩
    have ntu : u ≠ tr := ne_of_none (o := .lst []) upd_same ntr
    have nu0 : H u = none := e1.free nu
    have ntr0 : H tr = none := (e1.trans (same_upd nu)).free ntr
    refine ⟨fun μ σ H2 => ∃ (c : Nat) (sa : Addr) (s2 : S) (m2 : Mem) (t2 : List Int) (trs : List V) (y6 y7 : Option V), μ = b - c ∧ c ≤ b ∧ σ = [some (.ref sa), some (.ref d), some (.int (b : Int)), some (.ref own), some (.ref u), some (.ref tr), y6, y7] ∧ Same H H2 ∧ StAt H2 sa s2 ∧
        MemAt H2 own m2 (n + c) ∧ H2 u = some (.lst (t2.map V.int)) ∧ t2.length ≤ c ∧ H2 tr = some (.lst trs) ∧ trs.length = c ∧ runC b s m [] = runC (b - c) s2 m2 t2,
      ⟨b, 0, a, s, m, [], [], none, none, rfl, Nat.zero_le _, rfl, e2, e2 _ _ ha, ho2, by rw [upd_ne ntu]; exact upd_same, Nat.le_refl _, upd_same, rfl, rfl⟩, ?_⟩
    rintro μ σ H2 ⟨c, sa, s2, m2, t2, trs, y6, y7, rfl, hc, rfl, e2, hs2, hm2, ht2, hl2, htr2, hlt2, hrun⟩
    have stop : runC b s m [] = (s2, m2, t2) → (tRet (tTup (tCons (tVar 0) (tCons (tCall (sp_without_noughts K) [] E0 (tCons (tVar 3) tNil)) (tCons (tVar 4) (tCons (tVar 5) tNil)))))) { nx := fun _ H' => Q .non H', rt := Q }
        [some (.ref sa), some (.ref d), some (.int (b : Int)), some (.ref own), some (.ref u), some (.ref tr), y6, y7] H2 := by
      intro he
      refine ⟨_, rfl, _, rfl, own, m2, n + c, rfl, hm2, by omega, fun e H3 e3 _ hm3 => ⟨_, rfl, _, rfl, sz rfl, fun p hp => ?_⟩⟩
      obtain ⟨kvs3, h3, r3, l3⟩ := hm3
      refine k p sa e u tr _ (by walk_at "sm") ⟨kvs3, by walk_at "hp", ?_, by omega⟩ ?_ upd_same
      · rw [he]
        exact r3
      · rw [he]
        have := e3 _ _ ht2
        walk_at "hp"
    refine ⟨_, rfl, tr, _, rfl, .inl (sql htr2), _, rfl, _, _, rfl, rfl, _, rfl, if_dec (fun c1 => ?_) (fun c1 => ?_)⟩
    · have c1 : c < b := by
        rw [hlt2] at c1
        omega
      refine ⟨_, rfl, _, _, _, _, rfl, rfl, sqt hs2, rfl, rfl, _, rfl, if_eq (fun ch => ?_) (fun ch => ?_)⟩
      · have ch : s2.h = 0 := ch
        have hr2 : runC (b - c) s2 m2 t2 = runC (b - (c + 1)) (stepS s2 m2) (stepM s2 m2) (stepT s2 m2 t2) := by
          have : b - c = (b - (c + 1)) + 1 := by omega
          rw [this]
          exact if_pos ch
        refine ⟨fun σ' H' => ∃ (sa : Addr) (s2 : S) (m2 : Mem) (t2 : List Int) (trs : List V) (y6 y7 : Option V), σ' = [some (.ref sa), some (.ref d), some (.int (b : Int)), some (.ref own), some (.ref u), some (.ref tr), y6, y7] ∧ Same H H' ∧ StAt H' sa s2 ∧
          MemAt H' own m2 (n + (c + 1)) ∧ H' u = some (.lst (t2.map V.int)) ∧ t2.length ≤ c + 1 ∧ H' tr = some (.lst trs) ∧ trs.length = c + 1 ∧ runC b s m [] = runC (b - (c + 1)) s2 m2 t2, ?_, ?_⟩
        · rintro σ' H' ⟨sa, s2, m2, t2, trs, y6, y7, q⟩
          exact ⟨b - (c + 1), by omega, c + 1, sa, s2, m2, t2, trs, y6, y7, rfl, c1, q⟩
        refine ⟨_, rfl, _, rfl, _, rfl, sa, own, u, s2, m2, n + c, t2, rfl, hs2, hm2, by omega, ht2, by omega, fun p q wd H3 e3 hq hm3 ht3 hp hpn => ?_⟩
        obtain ⟨kvo, hko, _⟩ := id hm2
        have t_own : tr ≠ own := ne_of htr2 hko (by intro z; cases z)
        have t_u : tr ≠ u := ntu.symm
        have htr3 : H3 tr = some (.lst trs) := e3 _ _ t_own t_u htr2
        have keep : Same H H3 := fun x o hx => e3 x o (ne_of_none hx no) (ne_of_none hx nu0) (e2 _ _ hx)
        refine ⟨p, _, rfl, sqt hp, rfl, _, _, rfl, _, _, rfl, rfl, ?_⟩
        refine ⟨_, rfl, .inl ⟨rfl, _, sql htr3⟩, _, rfl, _, rfl, sz rfl, fun pr hpr => ?_⟩
        refine ⟨tr, trs, _, rfl, rfl, same_upd hpr _ _ htr3, small5 (by omega), ?_⟩
        have n1 : tr ≠ pr := ne_of_none htr3 hpr
        refine ⟨_, rfl, ?_⟩
        have qt : q ≠ tr := ne_of hq htr3 (by intro z; cases z)
        have ut : u ≠ tr := ntu
        refine ⟨q, stepS s2 m2, stepM s2 m2, stepT s2 m2 t2, _, _, _, rfl, ?_, ?_, ?_, ?_, ?_, upd_same, ?_, hrun.trans hr2⟩
        · exact ((keep.trans (same_upd hpr))).mut ntr0
        · show upd _ tr _ q = _
          rw [upd_ne qt]
          exact same_upd hpr _ _ hq
        · obtain ⟨kvs3, h3, r3, l3⟩ := hm3
          exact ⟨kvs3, by rw [upd_ne t_own.symm]; exact same_upd hpr _ _ h3, r3, by omega⟩
        · rw [upd_ne ut]
          exact same_upd hpr _ _ ht3
        · exact Nat.le_trans (stepT_len _ _ _) (by omega)
        · rw [List.length_append, hlt2]
          rfl
      · refine stop ?_
        have ch : ¬ s2.h = 0 := ch
        rw [hrun]
        have : b - c = (b - (c + 1)) + 1 := by omega
        rw [this]
        exact if_neg ch
    · refine iteF (stop ?_)
      have : b - c = 0 := by
        rw [hlt2] at c1
        omega
      rw [hrun, this]
      rfl
end
end G3
set_option Elab.async false
set_option linter.all false
set_option maxRecDepth 100000
set_option maxHeartbeats 4000000
namespace G3
/-! ### a task by itself -/
structure Tk where
  a : Int
  x : Int
  p : Int
  i : Int
  f : Int
  mem : Mem
  gs : List Int
  told : List Int
  how : Int
/-- a row that neither traps nor halts: the working words and the place behind it -/
def exe (a x p i word : Int) : Int × Int × Int :=
  if i / 4096 = 12 then ((p + 1) % 4096, x, i % 4096)
  else if i / 4096 = 6 ∨ (i / 4096 = 7 ∧ a = 0) ∨ (i / 4096 = 8 ∧ 32768 ≤ a) then (a, x, i % 4096)
  else if i / 4096 = 11 then
    (if i % 4096 % 4 = 0 then (a, a, (p + 1) % 4096) else if i % 4096 % 4 = 1 then (x, x, (p + 1) % 4096) else if i % 4096 % 4 = 2 then (a / 2, x, (p + 1) % 4096) else (a, x, a % 4096))
  else if i / 4096 = 0 then (i % 4096, x, (p + 1) % 4096)
  else if i / 4096 = 1 ∨ i / 4096 = 9 then (word, x, (p + 1) % 4096)
  else if i / 4096 = 3 then ((a + word) % 65536, x, (p + 1) % 4096)
  else if i / 4096 = 4 then ((a - word) % 65536, x, (p + 1) % 4096)
  else if i / 4096 = 5 then (PySem.Builtin.bitAnd a word, x, (p + 1) % 4096)
  else (a, x, (p + 1) % 4096)
def wantT (τ : Tk) : Int := if τ.i / 4096 = 9 ∨ τ.i / 4096 = 10 then (τ.x + τ.i % 4096) % 65536 else τ.i % 4096
def faultT (τ : Tk) : Tk := { τ with how := 2 }
def callT (τ : Tk) : Tk :=
  if τ.i % 4096 = 0 then { τ with how := 0 }
  else if τ.i % 4096 = 1 then { τ with f := 0, p := (τ.p + 1) % 4096, told := τ.told ++ [τ.a] }
  else if τ.i % 4096 = 2 then { τ with f := 0, p := (τ.p + 1) % 4096 }
  else if τ.i % 4096 = 3 then (match τ.gs with
    | [] => { τ with f := 0, p := (τ.p + 1) % 4096, a := 65535 }
    | g :: r => { τ with f := 0, p := (τ.p + 1) % 4096, a := g, gs := r })
  else faultT τ
def exeT (τ : Tk) : Int × Int × Int := exe τ.a τ.x τ.p τ.i (τ.mem (wantT τ))
def memT (τ : Tk) : Mem := if τ.i / 4096 = 2 ∨ τ.i / 4096 = 10 then put τ.mem (wantT τ) τ.a else τ.mem
def doneT (τ : Tk) : Tk := ⟨(exeT τ).1, (exeT τ).2.1, (exeT τ).2.2, τ.i, 0, memT τ, τ.gs, τ.told, τ.how⟩
/-- one beat of the task by itself, in a stretch of l words, its calls being done -/
def stepK (l : Int) (τ : Tk) : Tk :=
  if ¬ τ.how = 1 then τ
  else if τ.f = 0 then (if l ≤ τ.p then faultT τ else { τ with i := τ.mem τ.p, f := 1 })
  else if memOp (τ.i / 4096) ∧ l ≤ wantT τ then faultT τ
  else if 14 ≤ τ.i / 4096 then faultT τ
  else if τ.i / 4096 = 13 then callT τ
  else doneT τ
def iter (l : Int) : Nat → Tk → Tk
  | 0, τ => τ
  | n + 1, τ => stepK l (iter l n τ)
/-! ### a town's layout -/
structure Lay where
  T : Nat
  me : Nat
  b : Nat → Int
  l : Nat → Int
  gb : Int
  gw : List Int
  w0 : Mem
def r (j : Nat) : Int := 104 + 16 * (j : Int)
structure Lay.Ok (L : Lay) : Prop where
  me : L.me < L.T
  t8 : L.T ≤ 8
  gb : 104 + 16 * (L.T : Int) ≤ L.gb
  st : ∀ j, j < L.T → L.gb + (L.gw.length : Int) ≤ L.b j ∧ 0 ≤ L.l j ∧ L.b j + L.l j ≤ 4095
  dis : ∀ j, j < L.T → j ≠ L.me → L.b j + L.l j ≤ L.b L.me ∨ L.b L.me + L.l L.me ≤ L.b j
def Lay.al (L : Lay) (n : Nat) : Tk := iter (L.l L.me) n ⟨0, 0, 0, 0, 0, L.w0, L.gw, [], 1⟩
def codeL : List Int := [57347, 28759, 4189, 45056, 57346, 40960, 57344, 40961, 57345, 40962, 57347, 16481, 28730, 57347, 16480, 28690, 2, 24604, 57348, 28699, 16479, 28705, 16479, 28730, 16479, 28710, 24592, 0, 40965, 4190, 16479, 8286, 24634, 36872, 57350, 36865, 57350, 24634, 36871, 8292, 36870, 16484, 28727, 36870, 45056, 36864, 8293, 4189, 45056, 4197, 40961, 36870, 12383, 40966, 24634, 0, 16479, 40961, 4190, 28763, 4189, 12386, 8285, 16487, 28743, 4189, 45056, 36869, 16479, 28746, 24636, 4198, 8285, 24641, 36864, 57354, 36865, 57352, 36866, 57353, 36867, 57355, 36868, 57356, 4195, 57357, 61440, 4199, 16482, 8285, 24636, 57349, 24667]
/-- the words told of one task -/
def foc (me : Nat) : List Int → List Int
  | t :: w :: rest => if t = (me : Int) then w :: foc me rest else foc me rest
  | _ => []
theorem foc_app (me : Nat) : ∀ (n : Nat) (t : List Int), t.length = 2 * n → ∀ u, foc me (t ++ u) = foc me t ++ foc me u
  | 0, t, h, u => by
    have : t = [] := List.length_eq_zero_iff.mp (by omega)
    subst this
    rfl
  | n + 1, [], h, u => by simp at h
  | n + 1, [a], h, u => by simp at h; omega
  | n + 1, a :: b :: t, h, u => by
    have ih := foc_app me n t (by simp at h; omega) u
    show (if a = (me : Int) then b :: foc me (t ++ u) else foc me (t ++ u)) = (if a = (me : Int) then b :: foc me t else foc me t) ++ foc me u
    rw [ih]
    split <;> rfl
structure KI (L : Lay) (m : Mem) (t : List Int) : Prop where
  code : ∀ k : Nat, k < 93 → m (k : Int) = codeL.getD k 0
  one : m 95 = 1
  three : m 96 = 3
  four : m 97 = 4
  size : m 98 = 16
  fst : m 102 = 104
  last : m 103 = 104 + 16 * (L.T : Int)
  rec3 : ∀ j, j < L.T → m (r j + 3) = L.b j
  rec4 : ∀ j, j < L.T → m (r j + 4) = L.l j
  rec8 : ∀ j, j < L.T → m (r j + 8) = (j : Int)
  how : ∀ j, j < L.T → m (r j + 5) = 0 ∨ m (r j + 5) = 1 ∨ m (r j + 5) = 2
  gvn : ∀ k (h : k < L.gw.length), m (L.gb + (k : Int)) = L.gw[k]
  end7 : m (r L.me + 7) = L.gb + (L.gw.length : Int)
  even : ∃ n, t.length = 2 * n
/-- the one task stands still in its record, as τ -/
structure FS (L : Lay) (m : Mem) (t : List Int) (τ : Tk) : Prop where
  how : m (r L.me + 5) = τ.how
  told : foc L.me t = τ.told
  mem : ∀ k, 0 ≤ k → k < L.l L.me → m (L.b L.me + k) = τ.mem k
  going : τ.how = 1 → τ.f = 0 ∧ m (r L.me) = τ.p ∧ m (r L.me + 1) = τ.a ∧ m (r L.me + 2) = τ.x ∧ 0 ≤ τ.p ∧ τ.p < 4096 ∧
    ∃ k : Nat, k ≤ L.gw.length ∧ m (r L.me + 6) = L.gb + (k : Int) ∧ τ.gs = L.gw.drop k
def Susp (L : Lay) (m : Mem) (t : List Int) : Prop := ∃ n, FS L m t (L.al n)
/-- what is wanted at every beat -/
def Good (L : Lay) (m : Mem) (t : List Int) : Prop :=
  (∀ j, j < L.T → m (r j + 5) = 0 ∨ m (r j + 5) = 1 ∨ m (r j + 5) = 2) ∧
  ∃ n, foc L.me t = (L.al n).told ∧ (m (r L.me + 5) ≠ 1 → (L.al n).how = m (r L.me + 5) ∧ ∀ k, 0 ≤ k → k < L.l L.me → m (L.b L.me + k) = (L.al n).mem k)
def Scr (L : Lay) (k : Int) : Prop := (k = 93 ∨ k = 94 ∨ k = 100 ∨ k = 101) ∨ ∃ j : Nat, j < L.T ∧ (k = r j ∨ k = r j + 1 ∨ k = r j + 2 ∨ k = r j + 6)
section
variable {L : Lay} {m : Mem} {t : List Int} {k v : Int} {j : Nat}
theorem KI.good (ok : L.Ok) (h : KI L m t) (f : Susp L m t) : Good L m t := by
  obtain ⟨n, f⟩ := f
  exact ⟨h.how, n, f.told, fun _ => ⟨f.how.symm, f.mem⟩⟩
/-- a word that is no part of what is fixed is written: how is spared -/
theorem KI.put (ok : L.Ok) (h : KI L m t) (hk : Scr L k) : KI L (put m k v) t := by
  have g := ok.gb
  have me := ok.me
  have st : ∀ {q : Int}, q ≠ k → G3.put m k v q = m q := fun e => put_ne e
  have nr : ∀ i : Nat, i < L.T → ∀ o : Int, (o = 3 ∨ o = 4 ∨ o = 5 ∨ o = 7 ∨ o = 8) → r i + o ≠ k := by
    intro i hi o ho e
    unfold r at e
    rcases hk with hk | ⟨j, hj, hk⟩
    · omega
    · unfold r at hk
      omega
  have nc : ∀ q : Int, q < 104 → (q ≠ 93 ∧ q ≠ 94 ∧ q ≠ 100 ∧ q ≠ 101) → q ≠ k := by
    intro q h1 h2 e
    rcases hk with hk | ⟨j, hj, hk⟩
    · omega
    · unfold r at hk
      omega
  have ng : ∀ q : Int, L.gb ≤ q → q ≠ k := by
    intro q h1 e
    rcases hk with hk | ⟨j, hj, hk⟩
    · omega
    · unfold r at hk
      omega
  refine ⟨fun q hq => ?_, ?_, ?_, ?_, ?_, ?_, ?_, fun i hi => ?_, fun i hi => ?_, fun i hi => ?_, fun i hi => ?_, fun q hq => ?_, ?_, h.even⟩
  · rw [st (nc _ (by omega) (by omega))]; exact h.code q hq
  · rw [st (nc _ (by omega) (by omega))]; exact h.one
  · rw [st (nc _ (by omega) (by omega))]; exact h.three
  · rw [st (nc _ (by omega) (by omega))]; exact h.four
  · rw [st (nc _ (by omega) (by omega))]; exact h.size
  · rw [st (nc _ (by omega) (by omega))]; exact h.fst
  · rw [st (nc _ (by omega) (by omega))]; exact h.last
  · rw [st (nr i hi _ (by omega))]; exact h.rec3 i hi
  · rw [st (nr i hi _ (by omega))]; exact h.rec4 i hi
  · rw [st (nr i hi _ (by omega))]; exact h.rec8 i hi
  · rw [st (nr i hi _ (by omega))]; exact h.how i hi
  · rw [st (ng _ (by omega))]; exact h.gvn q hq
  · rw [st (nr _ me _ (by omega))]; exact h.end7
/-- how a task is -/
theorem KI.puthow (ok : L.Ok) (h : KI L m t) (hj : j < L.T) (hv : v = 0 ∨ v = 1 ∨ v = 2) : KI L (G3.put m (r j + 5) v) t := by
  have g := ok.gb
  have st : ∀ {q : Int}, q ≠ r j + 5 → G3.put m (r j + 5) v q = m q := fun e => put_ne e
  have nr : ∀ i : Nat, ∀ o : Int, (o = 3 ∨ o = 4 ∨ o = 7 ∨ o = 8) → r i + o ≠ r j + 5 := by
    intro i o ho e
    unfold r at e
    omega
  have nc : ∀ q : Int, q < 104 → q ≠ r j + 5 := by
    intro q h1 e
    unfold r at e
    omega
  refine ⟨fun q hq => ?_, ?_, ?_, ?_, ?_, ?_, ?_, fun i hi => ?_, fun i hi => ?_, fun i hi => ?_, fun i hi => ?_, fun q hq => ?_, ?_, h.even⟩
  · rw [st (nc _ (by omega))]; exact h.code q hq
  · rw [st (nc _ (by omega))]; exact h.one
  · rw [st (nc _ (by omega))]; exact h.three
  · rw [st (nc _ (by omega))]; exact h.four
  · rw [st (nc _ (by omega))]; exact h.size
  · rw [st (nc _ (by omega))]; exact h.fst
  · rw [st (nc _ (by omega))]; exact h.last
  · rw [st (nr i _ (by omega))]; exact h.rec3 i hi
  · rw [st (nr i _ (by omega))]; exact h.rec4 i hi
  · rw [st (nr i _ (by omega))]; exact h.rec8 i hi
  · by_cases e : i = j
    · subst e
      rw [put_same]
      exact hv
    · rw [st (by unfold r; omega)]; exact h.how i hi
  · rw [st (by unfold r; omega)]; exact h.gvn q hq
  · rw [st (nr _ _ (by omega))]; exact h.end7
theorem scr_low (ok : L.Ok) (hk : Scr L k) : k < 104 + 16 * (L.T : Int) := by
  rcases hk with hk | ⟨j, hj, hk⟩
  · omega
  · unfold r at hk
    omega
theorem Good.put (ok : L.Ok) (h : Good L m t) (hk : Scr L k) : Good L (G3.put m k v) t := by
  have lo := scr_low ok hk
  have g := ok.gb
  have nr : ∀ i : Nat, r i + 5 ≠ k := by
    intro i e
    unfold r at e
    rcases hk with hk | ⟨j, hj, hk⟩
    · omega
    · unfold r at hk
      omega
  obtain ⟨h1, n, h2, h3⟩ := h
  refine ⟨fun i hi => ?_, n, h2, fun q => ?_⟩
  · rw [put_ne (nr i)]; exact h1 i hi
  · rw [put_ne (nr _)] at q ⊢
    obtain ⟨q1, q2⟩ := h3 q
    refine ⟨q1, fun y y0 y1 => ?_⟩
    have s := ok.st _ ok.me
    rw [put_ne (by omega)]
    exact q2 y y0 y1
/-- the kernel's own cells and other tasks' records are nothing to it -/
theorem Susp.put (ok : L.Ok) (h : Susp L m t) (hk : (k = 93 ∨ k = 94 ∨ k = 100 ∨ k = 101) ∨ ∃ j : Nat, j < L.T ∧ j ≠ L.me ∧ ∃ o : Int, 0 ≤ o ∧ o < 16 ∧ k = r j + o) : Susp L (G3.put m k v) t := by
  obtain ⟨n, h⟩ := h
  have g := ok.gb
  have s := ok.st _ ok.me
  have me := ok.me
  have nr : ∀ o : Int, 0 ≤ o → o < 16 → r L.me + o ≠ k := by
    intro o o0 o1 e
    unfold r at e
    rcases hk with hk | ⟨j, hj, hne, o', h0, h1, hk⟩
    · omega
    · unfold r at hk
      omega
  have n0 : r L.me ≠ k := by
    have := nr 0 (by decide) (by decide)
    omega
  have lo : k < 104 + 16 * (L.T : Int) := by
    rcases hk with hk | ⟨j, hj, hne, o', h0, h1, hk⟩
    · omega
    · unfold r at hk
      omega
  refine ⟨n, ⟨?_, h.told, fun y y0 y1 => ?_, fun z => ?_⟩⟩
  · rw [put_ne (nr _ (by decide) (by decide))]; exact h.how
  · rw [put_ne (by omega)]; exact h.mem y y0 y1
  · rw [put_ne n0, put_ne (nr 1 (by decide) (by decide)), put_ne (nr 2 (by decide) (by decide)), put_ne (nr 6 (by decide) (by decide))]
    exact h.going z
theorem Susp.cell (ok : L.Ok) (h : Susp L m t) (hk : k = 93 ∨ k = 94 ∨ k = 100 ∨ k = 101) : Susp L (G3.put m k v) t := h.put ok (.inl hk)
theorem KI.at (h : KI L m t) (q : Nat) {o y : Int} (e : codeL.getD q 0 = 4096 * o + y) (hq : q < 93) (h0 : 0 ≤ y ∧ y < 4096) {p p' : Int} (hp : p = (q : Int)) (hp' : p' = (q : Int) + 1) : At m p p' o y := by
  subst hp hp'
  refine ⟨?_, ?_, ?_, ?_, h0.1, h0.2⟩
  · rw [h.code q hq, e]
  · omega
  · omega
  · omega
end
end G3
set_option Elab.async false
set_option linter.all false
set_option maxRecDepth 100000
set_option maxHeartbeats 4000000
namespace G3
def StepH (L : Lay) (n : Nat) : Prop := ∀ (a x i : Int) (rg : Rg) (m : Mem) (t : List Int), KI L m t → Susp L m t → (∃ j, j < L.T ∧ m 93 = r j) → GF (Good L) n (K 60 a x i rg) m t
section
variable {L : Lay} {n : Nat} {m : Mem} {t : List Int} {k v a x i : Int} {j : Nat} {rg : Rg}
theorem r_ix (ok : L.Ok) (hj : j < L.T) {o : Int} (h0 : 0 ≤ o) (h1 : o < 16) : (r j + o) % 65536 % 4096 = r j + o := by
  have := ok.t8
  unfold r
  omega
theorem r_ix0 (ok : L.Ok) (hj : j < L.T) : (r j + 0) % 65536 % 4096 = r j := by
  have := ok.t8
  unfold r
  omega
theorem k_next (ok : L.Ok) (SH : StepH L n) (hK : KI L m t) (hS : Susp L m t) (h93 : ∃ j, j < L.T ∧ m 93 = r j) : GF (Good L) n (K 58 a x i rg) m t := by
  have g := hK.good ok hS
  refine less2 (k_load (hK.at 58 (y := 94) rfl (by decide) (by decide) rfl rfl) rfl g fun i1 => ?_)
  refine less2 (k_zero (hK.at 59 (y := 91) rfl (by decide) (by decide) rfl rfl) g (fun _ i2 => ?_) (fun _ i2 => ?_))
  · exact less2 (k_halt (hK.at 91 (y := 5) rfl (by decide) (by decide) rfl rfl) g)
  · exact SH _ _ _ _ _ _ hK hS h93
theorem k_ends (ok : L.Ok) (SH : StepH L n) (hK : KI L m t) (hG : Good L m t) (hj : j < L.T) (h93 : m 93 = r j) (hv : v = 0 ∨ v = 2) (hS : Susp L (put m (r j + 5) v) t) : GF (Good L) n (K 28 v (r j) i rg) m t := by
  refine less2 (k_into (q := r j + 5) (hK.at 28 (y := 5) rfl (by decide) (by decide) rfl rfl) (r_ix ok hj (by decide) (by decide)) rfl hG fun i1 => ?_)
  have hK1 := hK.puthow (v := v) ok hj (by omega)
  have g1 := hK1.good ok hS
  have e1 : put m (r j + 5) v 93 = r j := by
    rw [put_ne (by unfold r; omega)]
    exact h93
  refine less2 (k_load (hK1.at 29 (y := 94) rfl (by decide) (by decide) rfl rfl) rfl g1 fun i2 => ?_)
  refine less2 (k_take (hK1.at 30 (y := 95) rfl (by decide) (by decide) rfl rfl) rfl g1 fun i3 => ?_)
  refine less2 (k_store (hK1.at 31 (y := 94) rfl (by decide) (by decide) rfl rfl) rfl g1 fun i4 => ?_)
  have hK2 := hK1.put (k := 94) (v := (put m (r j + 5) v 94 - put m (r j + 5) v 95) % 65536) ok (.inl (by omega))
  have hS2 := hS.cell (k := 94) (v := (put m (r j + 5) v 94 - put m (r j + 5) v 95) % 65536) ok (by omega)
  refine less2 (k_goto (hK2.at 32 (y := 58) rfl (by decide) (by decide) rfl rfl) (hK2.good ok hS2) fun i5 => ?_)
  exact k_next ok SH hK2 hS2 ⟨j, hj, by rw [put_ne (by decide)]; exact e1⟩
theorem k_fault (ok : L.Ok) (SH : StepH L n) (hK : KI L m t) (hG : Good L m t) (hj : j < L.T) (h93 : m 93 = r j) (hS : Susp L (put m (r j + 5) 2) t) : GF (Good L) n (K 16 a (r j) i rg) m t := by
  refine less2 (k_set (hK.at 16 (y := 2) rfl (by decide) (by decide) rfl rfl) hG fun i1 => ?_)
  refine less2 (k_goto (hK.at 17 (y := 28) rfl (by decide) (by decide) rfl rfl) hG fun i2 => ?_)
  exact k_ends ok SH hK hG hj h93 (.inr rfl) hS
theorem good_one (h : Good L m t) (he : ∃ n, t.length = 2 * n) : Good L m (t ++ [v]) := by
  obtain ⟨h1, n, h2, h3⟩ := h
  obtain ⟨q, hq⟩ := he
  refine ⟨h1, n, ?_, h3⟩
  rw [foc_app _ q t hq, ← h2]
  show _ ++ [] = _
  rw [List.append_nil]
theorem KI.two {u : Int} (h : KI L m t) : KI L m (t ++ [v, u]) := ⟨h.code, h.one, h.three, h.four, h.size, h.fst, h.last, h.rec3, h.rec4, h.rec8, h.how, h.gvn, h.end7, by
  obtain ⟨n, e⟩ := h.even
  exact ⟨n + 1, by rw [List.length_append, e]; rfl⟩⟩
theorem k_tells (ok : L.Ok) (SH : StepH L n) (hK : KI L m t) (hG : Good L m t) (hj : j < L.T) (h93 : m 93 = r j) (hv : m (r j + 1) = v) (hS : Susp L m (t ++ [(j : Int), v])) : GF (Good L) n (K 33 a (r j) i rg) m t := by
  refine less2 (k_from (q := r j + 8) (hK.at 33 (y := 8) rfl (by decide) (by decide) rfl rfl) (r_ix ok hj (by decide) (by decide)) (hK.rec8 j hj) hG fun i1 => ?_)
  refine less2 (k_tell (hK.at 34 (y := 6) rfl (by decide) (by decide) rfl rfl) hG fun i2 => ?_)
  have g1 := good_one (v := (j : Int)) hG hK.even
  refine less2 (k_from (q := r j + 1) (hK.at 35 (y := 1) rfl (by decide) (by decide) rfl rfl) (r_ix ok hj (by decide) (by decide)) hv g1 fun i3 => ?_)
  refine less2 (k_tell (hK.at 36 (y := 6) rfl (by decide) (by decide) rfl rfl) g1 fun i4 => ?_)
  rw [List.append_assoc]
  have hK2 : KI L m (t ++ [(j : Int), v]) := hK.two
  refine less2 (k_goto (hK.at 37 (y := 58) rfl (by decide) (by decide) rfl rfl) (hK2.good ok hS) fun i5 => ?_)
  exact k_next ok SH hK2 hS ⟨j, hj, h93⟩
/-- a word is asked for: none is left, or the next one -/
theorem k_asks (ok : L.Ok) (SH : StepH L n) (hK : KI L m t) (hG : Good L m t) (hj : j < L.T) (h93 : m 93 = r j)
    (h0 : (m (r j + 6) - m (r j + 7)) % 65536 = 0 → Susp L (put m (r j + 1) 65535) t)
    (h1 : ¬ (m (r j + 6) - m (r j + 7)) % 65536 = 0 → Susp L (put (put m (r j + 1) (put m 100 (m (r j + 7)) (m (r j + 6) % 65536 % 4096))) (r j + 6) ((m (r j + 6) + 1) % 65536)) t) :
    GF (Good L) n (K 38 a (r j) i rg) m t := by
  have lt : r j < 104 + 16 * (L.T : Int) := by unfold r; omega
  have r0 : 104 ≤ r j := by unfold r; omega
  refine less2 (k_from (q := r j + 7) (hK.at 38 (y := 7) rfl (by decide) (by decide) rfl rfl) (r_ix ok hj (by decide) (by decide)) rfl hG fun i1 => ?_)
  refine less2 (k_store (hK.at 39 (y := 100) rfl (by decide) (by decide) rfl rfl) rfl hG fun i2 => ?_)
  have hK1 := hK.put (k := 100) (v := m (r j + 7)) ok (.inl (by omega))
  have g1 := hG.put (k := 100) (v := m (r j + 7)) ok (.inl (by omega))
  have e6 : put m 100 (m (r j + 7)) (r j + 6) = m (r j + 6) := put_ne (by omega)
  have e100 : put m 100 (m (r j + 7)) 100 = m (r j + 7) := put_same
  have e93 : put m 100 (m (r j + 7)) 93 = r j := by rw [put_ne (by decide)]; exact h93
  refine less2 (k_from (q := r j + 6) (hK1.at 40 (y := 6) rfl (by decide) (by decide) rfl rfl) (r_ix ok hj (by decide) (by decide)) e6 g1 fun i3 => ?_)
  refine less2 (k_take (hK1.at 41 (y := 100) rfl (by decide) (by decide) rfl rfl) (by rw [e100]) g1 fun i4 => ?_)
  refine less2 (k_zero (hK1.at 42 (y := 55) rfl (by decide) (by decide) rfl rfl) g1 (fun z i5 => ?_) (fun z i5 => ?_))
  · refine less2 (k_set (hK1.at 55 (y := 0) rfl (by decide) (by decide) rfl rfl) g1 fun i6 => ?_)
    refine less2 (k_take (v := 65535) (hK1.at 56 (y := 95) rfl (by decide) (by decide) rfl rfl) (by rw [hK1.one]; decide) g1 fun i7 => ?_)
    refine less2 (k_into (q := r j + 1) (hK1.at 57 (y := 1) rfl (by decide) (by decide) rfl rfl) (r_ix ok hj (by decide) (by decide)) rfl g1 fun i8 => ?_)
    have hS := h0 z
    have sc : Scr L (r j + 1) := .inr ⟨j, hj, by omega⟩
    have hK2 := hK1.put (k := r j + 1) (v := 65535) ok sc
    have hS2 : Susp L (put (put m 100 (m (r j + 7))) (r j + 1) 65535) t := by
      have e : put (put m 100 (m (r j + 7))) (r j + 1) 65535 = put (put m (r j + 1) 65535) 100 (m (r j + 7)) := by
        funext q
        unfold put
        split <;> split <;> first | rfl | omega
      rw [e]
      exact hS.cell ok (by omega)
    exact k_next ok SH hK2 hS2 ⟨j, hj, by rw [put_ne (by omega)]; exact e93⟩
  · have hS := h1 z
    refine less2 (k_from (q := r j + 6) (hK1.at 43 (y := 6) rfl (by decide) (by decide) rfl rfl) (r_ix ok hj (by decide) (by decide)) e6 g1 fun i6 => ?_)
    refine less2 (k_movex (hK1.at 44 (y := 0) rfl (by decide) (by decide) rfl rfl) g1 fun i7 => ?_)
    refine less2 (k_from (q := m (r j + 6) % 65536 % 4096) (hK1.at 45 (y := 0) rfl (by decide) (by decide) rfl rfl) (by rw [Int.add_zero]) rfl g1 fun i8 => ?_)
    refine less2 (k_store (hK1.at 46 (y := 101) rfl (by decide) (by decide) rfl rfl) rfl g1 fun i9 => ?_)
    generalize hgot : put m 100 (m (r j + 7)) (m (r j + 6) % 65536 % 4096) = got at hS ⊢
    have hK2 := hK1.put (k := 101) (v := got) ok (.inl (by omega))
    have g2 := g1.put (k := 101) (v := got) ok (.inl (by omega))
    refine less2 (k_load (v := r j) (hK2.at 47 (y := 93) rfl (by decide) (by decide) rfl rfl) (by rw [put_ne (by decide)]; exact e93) g2 fun i10 => ?_)
    refine less2 (k_movex (hK2.at 48 (y := 0) rfl (by decide) (by decide) rfl rfl) g2 fun i11 => ?_)
    refine less2 (k_load (v := got) (hK2.at 49 (y := 101) rfl (by decide) (by decide) rfl rfl) put_same g2 fun i12 => ?_)
    refine less2 (k_into (q := r j + 1) (hK2.at 50 (y := 1) rfl (by decide) (by decide) rfl rfl) (r_ix ok hj (by decide) (by decide)) rfl g2 fun i13 => ?_)
    have sc : Scr L (r j + 1) := .inr ⟨j, hj, by omega⟩
    have hK3 := hK2.put (k := r j + 1) (v := got) ok sc
    have g3 := g2.put (k := r j + 1) (v := got) ok sc
    refine less2 (k_from (q := r j + 6) (v := m (r j + 6)) (hK3.at 51 (y := 6) rfl (by decide) (by decide) rfl rfl) (r_ix ok hj (by decide) (by decide)) (by rw [put_ne (by omega), put_ne (by omega)]; exact e6) g3 fun i14 => ?_)
    refine less2 (k_add (v := (m (r j + 6) + 1) % 65536) (hK3.at 52 (y := 95) rfl (by decide) (by decide) rfl rfl) (by rw [hK3.one]) g3 fun i15 => ?_)
    refine less2 (k_into (q := r j + 6) (hK3.at 53 (y := 6) rfl (by decide) (by decide) rfl rfl) (r_ix ok hj (by decide) (by decide)) rfl g3 fun i16 => ?_)
    have sc6 : Scr L (r j + 6) := .inr ⟨j, hj, by omega⟩
    have hK4 := hK3.put (k := r j + 6) (v := (m (r j + 6) + 1) % 65536) ok sc6
    have e : put (put (put (put m 100 (m (r j + 7))) 101 got) (r j + 1) got) (r j + 6) ((m (r j + 6) + 1) % 65536) = put (put (put (put m (r j + 1) got) (r j + 6) ((m (r j + 6) + 1) % 65536)) 100 (m (r j + 7))) 101 got := by
      funext q
      unfold put
      repeat' split
      all_goals first | rfl | omega
    have hS4 : Susp L (put (put (put (put m 100 (m (r j + 7))) 101 got) (r j + 1) got) (r j + 6) ((m (r j + 6) + 1) % 65536)) t := by
      rw [e]
      exact (hS.cell ok (by omega)).cell ok (by omega)
    refine less2 (k_goto (hK4.at 54 (y := 58) rfl (by decide) (by decide) rfl rfl) (hK4.good ok hS4) fun i17 => ?_)
    exact k_next ok SH hK4 hS4 ⟨j, hj, by rw [put_ne (by omega), put_ne (by omega), put_ne (by omega)]; exact e93⟩
/-- what a trap leaves in the record -/
def saved (m : Mem) (j : Nat) (rg : Rg) : Mem := put (put (put m (r j) rg.sp) (r j + 1) rg.sa) (r j + 2) rg.sx
/-- at a trap: what the kernel is to find -/
structure Trapped (L : Lay) (rg : Rg) (m : Mem) (t : List Int) (j : Nat) : Prop where
  ki : KI L m t
  good : Good L m t
  lt : j < L.T
  now : m 93 = r j
  c : rg.c = 1 ∨ rg.c = 2 ∨ rg.c = 3 ∨ rg.c = 4
  n : rg.c = 3 → 0 ≤ rg.n ∧ rg.n < 4096
  bell : rg.c = 4 ∨ (rg.c = 3 ∧ rg.n = 2) → Susp L (saved m j rg) t
  fault : (rg.c = 1 ∨ rg.c = 2 ∨ (rg.c = 3 ∧ 3 < rg.n)) → Susp L (put (saved m j rg) (r j + 5) 2) t
  done : rg.c = 3 ∧ rg.n = 0 → Susp L (put (saved m j rg) (r j + 5) 0) t
  tell : rg.c = 3 ∧ rg.n = 1 → Susp L (saved m j rg) (t ++ [(j : Int), rg.sa])
  ask0 : rg.c = 3 ∧ rg.n = 3 → (m (r j + 6) - m (r j + 7)) % 65536 = 0 → Susp L (put (saved m j rg) (r j + 1) 65535) t
  ask1 : rg.c = 3 ∧ rg.n = 3 → ¬ (m (r j + 6) - m (r j + 7)) % 65536 = 0 → Susp L (put (put (saved m j rg) (r j + 1) (put (saved m j rg) 100 (m (r j + 7)) (m (r j + 6) % 65536 % 4096))) (r j + 6) ((m (r j + 6) + 1) % 65536)) t
theorem tc4 {c : Int} (h : c = 1 ∨ c = 2 ∨ c = 3 ∨ c = 4) (z : (c - 4) % 65536 = 0) : c = 4 := by omega
theorem tc3 {c : Int} (h : c = 1 ∨ c = 2 ∨ c = 3 ∨ c = 4) (z : (c - 3) % 65536 = 0) : c = 3 := by omega
theorem tcf {c n : Int} (h : c = 1 ∨ c = 2 ∨ c = 3 ∨ c = 4) (z : ¬ (c - 4) % 65536 = 0) (y : ¬ (c - 3) % 65536 = 0) : c = 1 ∨ c = 2 ∨ (c = 3 ∧ 3 < n) := by omega
theorem tn1 {n : Int} (h0 : 0 ≤ n) (h1 : n < 4096) (z : (n - 1) % 65536 = 0) : n = 1 := by omega
theorem tn2 {n : Int} (h0 : 0 ≤ n) (h1 : n < 4096) (z : ¬ n = 0) (y : ¬ (n - 1) % 65536 = 0) : ((n - 1) % 65536 - 1) % 65536 = n - 2 ∧ 2 ≤ n := by omega
theorem tn3 {n : Int} (h1 : n < 4096) (h2 : 2 ≤ n) (y : ¬ n - 2 = 0) : (n - 2 - 1) % 65536 = n - 3 ∧ 3 ≤ n := by omega
theorem k_trap (ok : L.Ok) (SH : StepH L n) (h : Trapped L rg m t j) : GF (Good L) (n + 1) (K 0 a x i rg) m t := by
  obtain ⟨hK, hG, hj, h93, hc, hn, hbell, hfault, hdone, htell, hask0, hask1⟩ := h
  have r0 : 104 ≤ r j := by unfold r; omega
  refine less1 (k_ownget (hK.at 0 (y := 3) rfl (by decide) (by decide) rfl rfl) (by decide) hG fun i1 => ?_)
  refine less2 (k_zero (hK.at 1 (y := 87) rfl (by decide) (by decide) rfl rfl) hG (fun z i2 => ?_) (fun z i2 => ?_))
  · exact absurd (show rg.c = 0 from z) (by clear hbell hfault hdone htell hask0 hask1; omega)
  refine less2 (k_load (hK.at 2 (y := 93) rfl (by decide) (by decide) rfl rfl) h93 hG fun i3 => ?_)
  refine less2 (k_movex (hK.at 3 (y := 0) rfl (by decide) (by decide) rfl rfl) hG fun i4 => ?_)
  refine less2 (k_ownget (hK.at 4 (y := 2) rfl (by decide) (by decide) rfl rfl) (by decide) hG fun i5 => ?_)
  show GF (Good L) n (K 5 rg.sp (r j) i5 rg) m t
  refine less2 (k_into (q := r j) (hK.at 5 (y := 0) rfl (by decide) (by decide) rfl rfl) (r_ix0 ok hj) rfl hG fun i6 => ?_)
  have s0 : Scr L (r j) := .inr ⟨j, hj, by omega⟩
  have s1 : Scr L (r j + 1) := .inr ⟨j, hj, by omega⟩
  have s2 : Scr L (r j + 2) := .inr ⟨j, hj, by omega⟩
  have hK1 := hK.put (v := rg.sp) ok s0
  have g1 := hG.put (v := rg.sp) ok s0
  refine less2 (k_ownget (hK1.at 6 (y := 0) rfl (by decide) (by decide) rfl rfl) (by decide) g1 fun i7 => ?_)
  show GF (Good L) n (K 7 rg.sa (r j) i7 rg) _ t
  refine less2 (k_into (q := r j + 1) (hK1.at 7 (y := 1) rfl (by decide) (by decide) rfl rfl) (r_ix ok hj (by decide) (by decide)) rfl g1 fun i8 => ?_)
  have hK2 := hK1.put (v := rg.sa) ok s1
  have g2 := g1.put (v := rg.sa) ok s1
  refine less2 (k_ownget (hK2.at 8 (y := 1) rfl (by decide) (by decide) rfl rfl) (by decide) g2 fun i9 => ?_)
  show GF (Good L) n (K 9 rg.sx (r j) i9 rg) _ t
  refine less2 (k_into (q := r j + 2) (hK2.at 9 (y := 2) rfl (by decide) (by decide) rfl rfl) (r_ix ok hj (by decide) (by decide)) rfl g2 fun i10 => ?_)
  have hK3 : KI L (saved m j rg) t := hK2.put (v := rg.sx) ok s2
  have g3 : Good L (saved m j rg) t := g2.put (v := rg.sx) ok s2
  show GF (Good L) n (K 10 rg.sx (r j) i10 rg) (saved m j rg) t
  have n93 : saved m j rg 93 = r j := by
    unfold saved
    rw [put_ne (by omega), put_ne (by omega), put_ne (by omega)]
    exact h93
  have n6 : saved m j rg (r j + 6) = m (r j + 6) := by
    unfold saved
    rw [put_ne (by omega), put_ne (by omega), put_ne (by omega)]
  have n7 : saved m j rg (r j + 7) = m (r j + 7) := by
    unfold saved
    rw [put_ne (by omega), put_ne (by omega), put_ne (by omega)]
  have n1 : saved m j rg (r j + 1) = rg.sa := by
    unfold saved
    rw [put_ne (by omega), put_same]
  generalize saved m j rg = m1 at *
  refine less2 (k_ownget (hK3.at 10 (y := 3) rfl (by decide) (by decide) rfl rfl) (by decide) g3 fun i11 => ?_)
  show GF (Good L) n (K 11 rg.c (r j) i11 rg) m1 t
  refine less2 (k_take (v := (rg.c - 4) % 65536) (hK3.at 11 (y := 97) rfl (by decide) (by decide) rfl rfl) (by rw [hK3.four]) g3 fun i12 => ?_)
  refine less2 (k_zero (hK3.at 12 (y := 58) rfl (by decide) (by decide) rfl rfl) g3 (fun z i13 => ?_) (fun z i13 => ?_))
  · exact k_next ok SH hK3 (hbell (.inl (tc4 hc z))) ⟨j, hj, n93⟩
  refine less2 (k_ownget (hK3.at 13 (y := 3) rfl (by decide) (by decide) rfl rfl) (by decide) g3 fun i14 => ?_)
  show GF (Good L) n (K 14 rg.c (r j) i14 rg) m1 t
  refine less2 (k_take (v := (rg.c - 3) % 65536) (hK3.at 14 (y := 96) rfl (by decide) (by decide) rfl rfl) (by rw [hK3.three]) g3 fun i15 => ?_)
  refine less2 (k_zero (hK3.at 15 (y := 18) rfl (by decide) (by decide) rfl rfl) g3 (fun z2 i16 => ?_) (fun z2 i16 => ?_))
  · have c3 : rg.c = 3 := tc3 hc z2
    obtain ⟨m0, m1'⟩ := hn c3
    refine less2 (k_ownget (hK3.at 18 (y := 4) rfl (by decide) (by decide) rfl rfl) (by decide) g3 fun i17 => ?_)
    show GF (Good L) n (K 19 rg.n (r j) i17 rg) m1 t
    refine less2 (k_zero (hK3.at 19 (y := 27) rfl (by decide) (by decide) rfl rfl) g3 (fun y0 i18 => ?_) (fun y0 i18 => ?_))
    · refine less2 (k_set (hK3.at 27 (y := 0) rfl (by decide) (by decide) rfl rfl) g3 fun i19 => ?_)
      exact k_ends ok SH hK3 g3 hj n93 (.inl rfl) (hdone ⟨c3, y0⟩)
    refine less2 (k_take (v := (rg.n - 1) % 65536) (hK3.at 20 (y := 95) rfl (by decide) (by decide) rfl rfl) (by rw [hK3.one]) g3 fun i20 => ?_)
    refine less2 (k_zero (hK3.at 21 (y := 33) rfl (by decide) (by decide) rfl rfl) g3 (fun y1 i21 => ?_) (fun y1 i21 => ?_))
    · exact k_tells ok SH hK3 g3 hj n93 n1 (htell ⟨c3, tn1 m0 m1' y1⟩)
    obtain ⟨q2, l2⟩ := tn2 m0 m1' y0 y1
    refine less2 (k_take (v := rg.n - 2) (hK3.at 22 (y := 95) rfl (by decide) (by decide) rfl rfl) (by rw [hK3.one]; exact q2) g3 fun i22 => ?_)
    refine less2 (k_zero (hK3.at 23 (y := 58) rfl (by decide) (by decide) rfl rfl) g3 (fun y2 i23 => ?_) (fun y2 i23 => ?_))
    · exact k_next ok SH hK3 (hbell (.inr ⟨c3, Int.eq_of_sub_eq_zero y2⟩)) ⟨j, hj, n93⟩
    obtain ⟨q3, l3⟩ := tn3 m1' l2 y2
    refine less2 (k_take (v := rg.n - 3) (hK3.at 24 (y := 95) rfl (by decide) (by decide) rfl rfl) (by rw [hK3.one]; exact q3) g3 fun i24 => ?_)
    refine less2 (k_zero (hK3.at 25 (y := 38) rfl (by decide) (by decide) rfl rfl) g3 (fun y3 i25 => ?_) (fun y3 i25 => ?_))
    · refine k_asks ok SH hK3 g3 hj n93 (fun q => ?_) (fun q => ?_)
      · rw [n6, n7] at q
        exact hask0 ⟨c3, Int.eq_of_sub_eq_zero y3⟩ q
      · rw [n6, n7] at q ⊢
        exact hask1 ⟨c3, Int.eq_of_sub_eq_zero y3⟩ q
    refine less2 (k_goto (hK3.at 26 (y := 16) rfl (by decide) (by decide) rfl rfl) g3 fun i26 => ?_)
    exact k_fault ok SH hK3 g3 hj n93 (hfault (.inr (.inr ⟨c3, by clear hbell hfault hdone htell hask0 hask1 q2 q3 m0 m1' y0 y1 y2 z z2; omega⟩)))
  · exact k_fault ok SH hK3 g3 hj n93 (hfault (tcf hc z z2))
end
end G3
set_option Elab.async false
set_option linter.all false
set_option maxRecDepth 100000
set_option maxHeartbeats 400000
namespace G3
/-- the one task runs, as τ -/
structure FR (L : Lay) (s : S) (m : Mem) (t : List Int) (τ : Tk) : Prop where
  how : τ.how = 1
  a : s.a = τ.a
  x : s.x = τ.x
  p : s.p = τ.p
  f : s.f = τ.f
  i : s.f = 1 → s.i = τ.i
  told : foc L.me t = τ.told
  mem : ∀ k, 0 ≤ k → k < L.l L.me → m (L.b L.me + k) = τ.mem k
  gvn : ∃ k : Nat, k ≤ L.gw.length ∧ m (r L.me + 6) = L.gb + (k : Int) ∧ τ.gs = L.gw.drop k
/-- a task runs -/
structure TI (L : Lay) (s : S) (m : Mem) (t : List Int) (j : Nat) : Prop where
  ki : KI L m t
  lt : j < L.T
  now : m 93 = r j
  how : m (r j + 5) = 1
  m1 : s.m = 1
  h0 : s.h = 0
  f : s.f = 0 ∨ s.f = 1
  b : s.b = L.b j
  l : s.l = L.l j
  p0 : 0 ≤ s.p
  p1 : s.p < 4096
  mine : j = L.me → ∃ n, FR L s m t (L.al n)
  other : j ≠ L.me → Susp L m t
def TaskH (L : Lay) (n : Nat) : Prop := ∀ (s : S) (m : Mem) (t : List Int) (j : Nat), TI L s m t j → GF (Good L) n s m t
def TrapH (L : Lay) (n : Nat) : Prop := ∀ (a x i : Int) (rg : Rg) (m : Mem) (t : List Int) (j : Nat), Trapped L rg m t j → GF (Good L) n (K 0 a x i rg) m t
section
variable {L : Lay} {n : Nat} {m : Mem} {t : List Int} {k v a x i : Int} {j : Nat} {rg : Rg} {s : S}
theorem wrap_no {T : Nat} {y : Int} (hT : T ≤ 8) (hj : j < T) (e : y = r j) (z : ¬ (((y + 16) % 65536 - (104 + 16 * (T : Int))) % 65536 = 0)) : j + 1 < T ∧ (y + 16) % 65536 = r (j + 1) := by
  unfold r at *
  omega
theorem k_look (ok : L.Ok) (SH : StepH L n) (TH : TaskH L n) (hK : KI L m t) (hS : Susp L m t) (hj : j < L.T) (h93 : m 93 = r j) : GF (Good L) n (K 65 a x i rg) m t := by
  have g := hK.good ok hS
  have st := ok.st j hj
  have t8 := ok.t8
  have gb := ok.gb
  refine less2 (k_load (hK.at 65 (y := 93) rfl (by decide) (by decide) rfl rfl) h93 g fun i1 => ?_)
  refine less2 (k_movex (hK.at 66 (y := 0) rfl (by decide) (by decide) rfl rfl) g fun i2 => ?_)
  refine less2 (k_from (q := r j + 5) (hK.at 67 (y := 5) rfl (by decide) (by decide) rfl rfl) (r_ix ok hj (by decide) (by decide)) rfl g fun i3 => ?_)
  refine less2 (k_take (v := (m (r j + 5) - 1) % 65536) (hK.at 68 (y := 95) rfl (by decide) (by decide) rfl rfl) (by rw [hK.one]) g fun i4 => ?_)
  refine less2 (k_zero (hK.at 69 (y := 74) rfl (by decide) (by decide) rfl rfl) g (fun z i5 => ?_) (fun z i5 => ?_))
  · have how : m (r j + 5) = 1 := by
      have := hK.how j hj
      omega
    refine less2 (k_from (q := r j) (v := m (r j)) (hK.at 74 (y := 0) rfl (by decide) (by decide) rfl rfl) (r_ix0 ok hj) rfl g fun i6 => ?_)
    refine less2 (k_ownsp (hK.at 75 (y := 10) rfl (by decide) (by decide) rfl rfl) g fun i7 => ?_)
    refine less2 (k_from (q := r j + 1) (v := m (r j + 1)) (hK.at 76 (y := 1) rfl (by decide) (by decide) rfl rfl) (r_ix ok hj (by decide) (by decide)) rfl g fun i8 => ?_)
    refine less2 (k_ownsa (hK.at 77 (y := 8) rfl (by decide) (by decide) rfl rfl) g fun i9 => ?_)
    refine less2 (k_from (q := r j + 2) (v := m (r j + 2)) (hK.at 78 (y := 2) rfl (by decide) (by decide) rfl rfl) (r_ix ok hj (by decide) (by decide)) rfl g fun i10 => ?_)
    refine less2 (k_ownsx (hK.at 79 (y := 9) rfl (by decide) (by decide) rfl rfl) g fun i11 => ?_)
    refine less2 (k_from (q := r j + 3) (v := L.b j) (hK.at 80 (y := 3) rfl (by decide) (by decide) rfl rfl) (r_ix ok hj (by decide) (by decide)) (hK.rec3 j hj) g fun i12 => ?_)
    refine less2 (k_ownb (hK.at 81 (y := 11) rfl (by decide) (by decide) rfl rfl) g fun i13 => ?_)
    refine less2 (k_from (q := r j + 4) (v := L.l j) (hK.at 82 (y := 4) rfl (by decide) (by decide) rfl rfl) (r_ix ok hj (by decide) (by decide)) (hK.rec4 j hj) g fun i14 => ?_)
    refine less2 (k_ownl (hK.at 83 (y := 12) rfl (by decide) (by decide) rfl rfl) g fun i15 => ?_)
    refine less2 (k_load (v := m 99) (hK.at 84 (y := 99) rfl (by decide) (by decide) rfl rfl) rfl g fun i16 => ?_)
    refine less2 (k_ownt (hK.at 85 (y := 13) rfl (by decide) (by decide) rfl rfl) g fun i17 => ?_)
    refine less2 (k_back (hK.at 86 (y := 0) rfl (by decide) (by decide) rfl rfl) g fun i18 => ?_)
    have eb : L.b j % 4096 = L.b j := by omega
    have el : L.l j % 4096 = L.l j := by omega
    refine TH _ _ _ j ⟨hK, hj, h93, how, rfl, rfl, .inl rfl, eb, el, ?_, ?_, fun e => ?_, fun _ => hS⟩
    · show 0 ≤ m (r j) % 4096
      omega
    · show m (r j) % 4096 < 4096
      omega
    · subst e
      obtain ⟨N, f⟩ := hS
      have h1 : (L.al N).how = 1 := f.how.symm.trans how
      obtain ⟨q1, q2, q3, q4, q5, q6, q7⟩ := f.going h1
      refine ⟨N, ⟨h1, q3, q4, ?_, q1.symm, fun z => absurd (show (0 : Int) = 1 from z) (by decide), f.told, f.mem, q7⟩⟩
      show m (r L.me) % 4096 = (L.al N).p
      rw [q2]
      omega
  · refine less2 (k_goto (hK.at 70 (y := 60) rfl (by decide) (by decide) rfl rfl) g fun i6 => ?_)
    exact SH _ _ _ _ _ _ hK hS ⟨j, hj, h93⟩
theorem k_step (ok : L.Ok) (SH : StepH L n) (TH : TaskH L n) : StepH L (n + 1) := by
  intro a x i rg m t hK hS h93
  obtain ⟨j, hj, h93⟩ := h93
  have g := hK.good ok hS
  have gb := ok.gb
  have t8 := ok.t8
  refine less1 (k_load (hK.at 60 (y := 93) rfl (by decide) (by decide) rfl rfl) h93 g fun i1 => ?_)
  refine less2 (k_add (v := (r j + 16) % 65536) (hK.at 61 (y := 98) rfl (by decide) (by decide) rfl rfl) (by rw [hK.size]) g fun i2 => ?_)
  refine less2 (k_store (hK.at 62 (y := 93) rfl (by decide) (by decide) rfl rfl) rfl g fun i3 => ?_)
  have hK1 := hK.put (k := 93) (v := (r j + 16) % 65536) ok (.inl (by omega))
  have hS1 := hS.cell (k := 93) (v := (r j + 16) % 65536) ok (by omega)
  have g1 := hK1.good ok hS1
  refine less2 (k_take (v := ((r j + 16) % 65536 - (104 + 16 * (L.T : Int))) % 65536) (hK1.at 63 (y := 103) rfl (by decide) (by decide) rfl rfl) (by rw [hK1.last]) g1 fun i4 => ?_)
  refine less2 (k_zero (hK1.at 64 (y := 71) rfl (by decide) (by decide) rfl rfl) g1 (fun z i5 => ?_) (fun z i5 => ?_))
  · refine less2 (k_load (v := 104) (hK1.at 71 (y := 102) rfl (by decide) (by decide) rfl rfl) hK1.fst g1 fun i6 => ?_)
    refine less2 (k_store (hK1.at 72 (y := 93) rfl (by decide) (by decide) rfl rfl) rfl g1 fun i7 => ?_)
    have hK2 := hK1.put (k := 93) (v := 104) ok (.inl (by omega))
    have hS2 := hS1.cell (k := 93) (v := 104) ok (by omega)
    refine less2 (k_goto (hK2.at 73 (y := 65) rfl (by decide) (by decide) rfl rfl) (hK2.good ok hS2) fun i8 => ?_)
    exact k_look (j := 0) ok SH TH hK2 hS2 (by have := ok.me; omega) (by rw [put_same]; rfl)
  · obtain ⟨w1, w2⟩ := wrap_no t8 hj rfl z
    exact k_look (j := j + 1) ok SH TH hK1 hS1 w1 (by rw [put_same]; exact w2)
/-! ### a task's beat -/
theorem scr0 (hj : j < L.T) {o : Int} (ho : o = 0 ∨ o = 1 ∨ o = 2 ∨ o = 6) : Scr L (r j + o) := .inr ⟨j, hj, by omega⟩
theorem susp_tell (h : Susp L m t) (he : ∃ n, t.length = 2 * n) (hne : j ≠ L.me) : Susp L m (t ++ [(j : Int), v]) := by
  obtain ⟨n, h⟩ := h
  obtain ⟨q, hq⟩ := he
  refine ⟨n, h.how, ?_, h.mem, h.going⟩
  rw [foc_app _ q t hq, ← h.told]
  show _ ++ (if (j : Int) = (L.me : Int) then [v] else []) = _
  rw [if_neg (by omega), List.append_nil]
theorem trapped_other (ok : L.Ok) (hK : KI L m t) (hj : j < L.T) (h93 : m 93 = r j) (hne : j ≠ L.me) (hS : Susp L m t) (hc : rg.c = 1 ∨ rg.c = 2 ∨ rg.c = 3 ∨ rg.c = 4) (hn : rg.c = 3 → 0 ≤ rg.n ∧ rg.n < 4096) : Trapped L rg m t j := by
  have at_ : ∀ o : Int, 0 ≤ o → o < 16 → ∀ (m : Mem) (t : List Int) (v : Int), Susp L m t → Susp L (put m (r j + o) v) t := fun o o0 o1 m t v h => h.put ok (.inr ⟨j, hj, hne, o, o0, o1, rfl⟩)
  have at0 : ∀ (m : Mem) (t : List Int) (v : Int), Susp L m t → Susp L (put m (r j) v) t := fun m t v h => h.put ok (.inr ⟨j, hj, hne, 0, by decide, by decide, by omega⟩)
  have sv : ∀ t, Susp L m t → Susp L (saved m j rg) t := fun t h => at_ 2 (by decide) (by decide) _ _ _ (at_ 1 (by decide) (by decide) _ _ _ (at0 _ _ _ h))
  refine ⟨hK, hK.good ok hS, hj, h93, hc, hn, fun _ => sv _ hS, fun _ => at_ 5 (by decide) (by decide) _ _ _ (sv _ hS), fun _ => at_ 5 (by decide) (by decide) _ _ _ (sv _ hS), fun _ => sv _ (susp_tell hS hK.even hne), fun _ _ => at_ 1 (by decide) (by decide) _ _ _ (sv _ hS), fun _ _ => at_ 6 (by decide) (by decide) _ _ _ (at_ 1 (by decide) (by decide) _ _ _ (sv _ hS))⟩
/-- the words and the stretch are τ's -/
structure Live (L : Lay) (m : Mem) (t : List Int) (τ : Tk) : Prop where
  told : foc L.me t = τ.told
  mem : ∀ k, 0 ≤ k → k < L.l L.me → m (L.b L.me + k) = τ.mem k
  gvn : ∃ k : Nat, k ≤ L.gw.length ∧ m (r L.me + 6) = L.gb + (k : Int) ∧ τ.gs = L.gw.drop k
theorem saved_ne {q : Int} (h0 : q ≠ r j) (h1 : q ≠ r j + 1) (h2 : q ≠ r j + 2) : saved m j rg q = m q := by
  unfold saved
  rw [put_ne h2, put_ne h1, put_ne h0]
theorem own_far (ok : L.Ok) (hk : 0 ≤ k) (hj : j < L.T) {o : Int} (ho : o < 16) : L.b L.me + k ≠ r j + o := by
  have := ok.st _ ok.me
  have := ok.gb
  have : r j = 104 + 16 * (j : Int) := rfl
  omega
theorem own_far0 (ok : L.Ok) (hk : 0 ≤ k) (hj : j < L.T) : L.b L.me + k ≠ r j := by
  have := own_far (o := 0) ok hk hj (by decide)
  omega
theorem saved_own (ok : L.Ok) (hk : 0 ≤ k) (hj : j < L.T) : saved m j rg (L.b L.me + k) = m (L.b L.me + k) := saved_ne (own_far0 ok hk hj) (own_far ok hk hj (by decide)) (own_far ok hk hj (by decide))
theorem fs_saved (ok : L.Ok) {τ : Tk} (h : Live L m t τ) (hh : m (r L.me + 5) = 1) (h1 : τ.how = 1) (hf : τ.f = 0) (hp : rg.sp = τ.p) (ha : rg.sa = τ.a) (hx : rg.sx = τ.x) (p0 : 0 ≤ τ.p) (p1 : τ.p < 4096) : FS L (saved m L.me rg) t τ := by
  refine ⟨?_, h.told, fun y y0 y1 => ?_, fun _ => ⟨hf, ?_, ?_, ?_, p0, p1, ?_⟩⟩
  · rw [saved_ne (by omega) (by omega) (by omega), h1]
    exact hh
  · rw [saved_own ok y0 ok.me]
    exact h.mem y y0 y1
  · unfold saved
    rw [put_ne (by omega), put_ne (by omega), put_same]
    exact hp
  · unfold saved
    rw [put_ne (by omega), put_same]
    exact ha
  · unfold saved
    rw [put_same]
    exact hx
  · obtain ⟨q, q1, q2, q3⟩ := h.gvn
    refine ⟨q, q1, ?_, q3⟩
    rw [saved_ne (by omega) (by omega) (by omega)]
    exact q2
theorem fs_dead (ok : L.Ok) {τ : Tk} (ht : foc L.me t = τ.told) (hm : ∀ k, 0 ≤ k → k < L.l L.me → m (L.b L.me + k) = τ.mem k) (hv : τ.how = v) (h1 : v ≠ 1) : FS L (put (saved m L.me rg) (r L.me + 5) v) t τ := by
  refine ⟨?_, ht, fun y y0 y1 => ?_, fun z => absurd (hv.symm.trans z) h1⟩
  · rw [put_same, hv]
  · rw [put_ne (own_far ok y0 ok.me (by decide)), saved_own ok y0 ok.me]
    exact hm y y0 y1
/-- the state as a trap leaves it -/
theorem trap_K (hh : s.h = 0) {c q : Int} : trap s c q = K 0 s.a s.x s.i ⟨s.b, s.l, s.t, s.a, s.x, q % 4096, c, s.n⟩ := by
  unfold trap K
  rw [hh]
theorem wanted0 (hf : s.f = 0) : wanted s = s.p := if_pos hf
theorem barred_iff (hm : s.m = 1) : barred s = true ↔ s.l ≤ wanted s := by
  unfold barred
  simp [hm]
/-- a beat whose step makes no write and tells nothing -/
theorem gf_quiet {G : Mem → List Int → Prop} {s' : S} (g : G m t) (e : beatOf s (m (asked s)) = (s', none, none)) (h : GF G n s' m t) : GF G (n + 1) s m t := by
  refine GF.step g ?_ ?_ ?_ h
  · unfold stepS
    rw [e]
  · unfold stepM
    rw [e]
  · unfold stepT
    rw [e]
theorem gf_write {G : Mem → List Int → Prop} {s' : S} {w : Int} (g : G m t) (e : beatOf s (m (asked s)) = (s', some w, none)) (h : GF G n s' (put m (asked s) w) t) : GF G (n + 1) s m t := by
  refine GF.step g ?_ ?_ ?_ h
  · unfold stepS
    rw [e]
  · unfold stepM
    rw [e]
  · unfold stepT
    rw [e]
/-! ### a task's row that is done -/
theorem rowDone_exe (h : s.i / 4096 < 14) (word : Int) : rowDone s word = { s with a := (exe s.a s.x s.p s.i word).1, x := (exe s.a s.x s.p s.i word).2.1, p := (exe s.a s.x s.p s.i word).2.2, f := 0 } := by
  obtain ⟨a, x, p, i, f, m, b, l, t, sa, sx, sp, c, n, h'⟩ := s
  simp only at h
  simp only [rowDone, leapRow, moveRow, wordRow, afterOf, exe]
  repeat' split
  all_goals first
    | rfl
    | omega
    | (simp_all; done)
    | (simp_all; (repeat' split) <;> rfl)
theorem exe_word {a x p i w w' : Int} (h : i / 4096 ≠ 1 ∧ i / 4096 ≠ 3 ∧ i / 4096 ≠ 4 ∧ i / 4096 ≠ 5 ∧ i / 4096 ≠ 9) : exe a x p i w = exe a x p i w' := by
  unfold exe
  repeat' split
  all_goals first
    | rfl
    | omega
theorem exe_p {a x p i w : Int} : 0 ≤ (exe a x p i w).2.2 ∧ (exe a x p i w).2.2 < 4096 := by
  unfold exe
  repeat' split
  all_goals
    simp only
    omega
/-! ### the three ways of a task's beat -/
def newRg (s : S) (c q nn : Int) : Rg := ⟨s.b, s.l, s.t, s.a, s.x, q % 4096, c, nn⟩
/-- a trap of a task's: the one task is to be told of alone -/
theorem go_trap (ok : L.Ok) (TR : TrapH L n) (h : TI L s m t j) {c q nn : Int} (hc : c = 1 ∨ c = 2 ∨ c = 3 ∨ c = 4) (hn : c = 3 → 0 ≤ nn ∧ nn < 4096)
    (mine : j = L.me → Trapped L (newRg s c q nn) m t j) : ∀ i, GF (Good L) n (K 0 s.a s.x i (newRg s c q nn)) m t := by
  intro i
  refine TR _ _ _ _ _ _ j ?_
  by_cases e : j = L.me
  · exact mine e
  · exact trapped_other ok h.ki h.lt h.now e (h.other e) hc hn
theorem FR.live {τ : Tk} (h : FR L s m t τ) : Live L m t τ := ⟨h.told, h.mem, h.gvn⟩
theorem TI.good (ok : L.Ok) (h : TI L s m t j) : Good L m t := by
  by_cases e : j = L.me
  · obtain ⟨N, f⟩ := h.mine e
    refine ⟨h.ki.how, N, f.told, fun z => absurd ?_ z⟩
    rw [← e]
    exact h.how
  · exact h.ki.good ok (h.other e)
theorem al_next (N : Nat) : L.al (N + 1) = stepK (L.l L.me) (L.al N) := rfl
/-- the one task faults -/
theorem mine_fault (ok : L.Ok) (h : TI L s m t L.me) {N : Nat} (f : FR L s m t (L.al N)) (e : stepK (L.l L.me) (L.al N) = faultT (L.al N)) {c q nn : Int} (hc : c = 1 ∨ c = 2 ∨ (c = 3 ∧ 3 < nn)) (hn : c = 3 → 0 ≤ nn ∧ nn < 4096) :
    Trapped L (newRg s c q nn) m t L.me := by
  have d : (c = 3 → ¬ nn = 0 ∧ ¬ nn = 1 ∧ ¬ nn = 2 ∧ ¬ nn = 3) ∧ ¬ c = 4 := by omega
  refine ⟨h.ki, h.good ok, ok.me, h.now, by show c = 1 ∨ c = 2 ∨ c = 3 ∨ c = 4; omega, hn, fun z => ?_, fun _ => ?_, fun z => absurd z.2 (d.1 z.1).1, fun z => absurd z.2 (d.1 z.1).2.1, fun z => absurd z.2 (d.1 z.1).2.2.2, fun z => absurd z.2 (d.1 z.1).2.2.2⟩
  · exact absurd z (by show ¬ (c = 4 ∨ (c = 3 ∧ nn = 2)); omega)
  · refine ⟨N + 1, ?_⟩
    rw [al_next, e]
    exact fs_dead ok f.told f.mem rfl (by decide)
theorem call_num (e13 : s.i / 4096 = 13) : 0 ≤ s.i % 4096 ∧ s.i % 4096 < 4096 := by omega
/-- the one task calls -/
theorem mine_call (ok : L.Ok) (h : TI L s m t L.me) {N : Nat} (f : FR L s m t (L.al N)) (hi : s.i = (L.al N).i) (e : stepK (L.l L.me) (L.al N) = callT (L.al N)) :
    Trapped L (newRg s 3 (s.p + 1) (s.i % 4096)) m t L.me := by
  generalize hτ : L.al N = τ at f hi e
  have hn : 0 ≤ s.i % 4096 ∧ s.i % 4096 < 4096 := by omega
  have gb := ok.gb
  obtain ⟨st1, st2, st3⟩ := ok.st _ ok.me
  have nx : ∀ {τ' : Tk}, stepK (L.l L.me) τ = τ' → L.al (N + 1) = τ' := fun z => by rw [al_next, hτ, z]
  have pp : 0 ≤ (τ.p + 1) % 4096 ∧ (τ.p + 1) % 4096 < 4096 := by omega
  refine ⟨h.ki, h.good ok, ok.me, h.now, .inr (.inr (.inl rfl)), fun _ => hn, fun z => ?_, fun z => ?_, fun z => ?_, fun z => ?_, fun z q => ?_, fun z q => ?_⟩
  · -- nothing
    have z2 : s.i % 4096 = 2 := by
      rcases z with z | z
      · exact absurd (show (3 : Int) = 4 from z) (by decide)
      · exact z.2
    have e2 : callT τ = { τ with f := 0, p := (τ.p + 1) % 4096 } := by
      unfold callT
      rw [← hi, if_neg (by omega), if_neg (by omega), if_pos z2]
    refine ⟨N + 1, ?_⟩
    rw [nx e, e2]
    refine fs_saved ok ⟨f.told, f.mem, f.gvn⟩ h.how f.how rfl ?_ f.a f.x pp.1 pp.2
    show (s.p + 1) % 4096 = (τ.p + 1) % 4096
    rw [f.p]
  · have z2 : 3 < s.i % 4096 := by
      rcases z with z | z | z
      · exact absurd (show (3 : Int) = 1 from z) (by decide)
      · exact absurd (show (3 : Int) = 2 from z) (by decide)
      · exact z.2
    have e2 : callT τ = faultT τ := by
      unfold callT
      rw [← hi, if_neg (by omega), if_neg (by omega), if_neg (by omega), if_neg (by omega)]
    refine ⟨N + 1, ?_⟩
    rw [nx e, e2]
    exact fs_dead ok f.told f.mem rfl (by decide)
  · have z2 : s.i % 4096 = 0 := z.2
    have e2 : callT τ = { τ with how := 0 } := by
      unfold callT
      rw [← hi, if_pos z2]
    refine ⟨N + 1, ?_⟩
    rw [nx e, e2]
    exact fs_dead ok f.told f.mem rfl (by decide)
  · have z2 : s.i % 4096 = 1 := z.2
    have e2 : callT τ = { τ with f := 0, p := (τ.p + 1) % 4096, told := τ.told ++ [τ.a] } := by
      unfold callT
      rw [← hi, if_neg (by omega), if_pos z2]
    refine ⟨N + 1, ?_⟩
    rw [nx e, e2]
    refine fs_saved ok ⟨?_, f.mem, f.gvn⟩ h.how f.how rfl ?_ f.a f.x pp.1 pp.2
    · obtain ⟨ne, hne⟩ := h.ki.even
      rw [foc_app _ ne t hne, f.told]
      show _ ++ (if (L.me : Int) = (L.me : Int) then [s.a] else []) = τ.told ++ [τ.a]
      rw [if_pos rfl, f.a]
    · show (s.p + 1) % 4096 = (τ.p + 1) % 4096
      rw [f.p]
  · -- no word is left
    have z2 : s.i % 4096 = 3 := z.2
    obtain ⟨y, y1, y2, y3⟩ := f.gvn
    have g0 : τ.gs = [] := by
      rw [h.ki.end7, y2] at q
      rw [y3, List.drop_of_length_le (by omega)]
    have e2 : callT τ = { τ with f := 0, p := (τ.p + 1) % 4096, a := 65535 } := by
      unfold callT
      rw [← hi, if_neg (by omega), if_neg (by omega), if_neg (by omega), if_pos z2, g0]
    refine ⟨N + 1, ?_⟩
    rw [nx e, e2]
    have fs := fs_saved (rg := newRg s 3 (s.p + 1) (s.i % 4096)) (τ := { τ with f := 0, p := (τ.p + 1) % 4096 }) ok ⟨f.told, f.mem, f.gvn⟩ h.how f.how rfl (by show (s.p + 1) % 4096 = (τ.p + 1) % 4096; rw [f.p]) f.a f.x pp.1 pp.2
    refine ⟨?_, fs.told, fun y y0 y1 => ?_, fun z => ?_⟩
    · rw [put_ne (by omega)]
      exact fs.how
    · rw [put_ne (own_far ok y0 ok.me (by decide))]
      exact fs.mem y y0 y1
    · obtain ⟨q1, q2, q3, q4, q5, q6, q7⟩ := fs.going z
      refine ⟨q1, ?_, put_same, ?_, q5, q6, ?_⟩
      · rw [put_ne (by omega)]
        exact q2
      · rw [put_ne (by omega)]
        exact q4
      · rw [put_ne (by omega)]
        exact q7
  · -- the next word
    have z2 : s.i % 4096 = 3 := z.2
    obtain ⟨y, y1, y2, y3⟩ := f.gvn
    have ylt : y < L.gw.length := by
      rw [h.ki.end7, y2] at q
      omega
    have e2 : callT τ = { τ with f := 0, p := (τ.p + 1) % 4096, a := L.gw[y], gs := L.gw.drop (y + 1) } := by
      unfold callT
      rw [← hi, if_neg (by omega), if_neg (by omega), if_neg (by omega), if_pos z2, y3, List.drop_eq_getElem_cons ylt]
    refine ⟨N + 1, ?_⟩
    rw [nx e, e2]
    have rm : r L.me = 104 + 16 * (L.me : Int) := rfl
    have mt := ok.me
    have got : put (saved m L.me (newRg s 3 (s.p + 1) (s.i % 4096))) 100 (m (r L.me + 7)) (m (r L.me + 6) % 65536 % 4096) = L.gw[y] := by
      have ep : m (r L.me + 6) % 65536 % 4096 = L.gb + (y : Int) := by
        rw [y2]
        omega
      rw [ep, put_ne (by omega), saved_ne (by omega) (by omega) (by omega)]
      exact h.ki.gvn y ylt
    rw [got]
    have fs := fs_saved (rg := newRg s 3 (s.p + 1) (s.i % 4096)) (τ := { τ with f := 0, p := (τ.p + 1) % 4096 }) ok ⟨f.told, f.mem, f.gvn⟩ h.how f.how rfl (by show (s.p + 1) % 4096 = (τ.p + 1) % 4096; rw [f.p]) f.a f.x pp.1 pp.2
    refine ⟨?_, fs.told, fun y y0 y1 => ?_, fun z => ?_⟩
    · rw [put_ne (by omega), put_ne (by omega)]
      exact fs.how
    · rw [put_ne (own_far ok y0 ok.me (by decide)), put_ne (own_far ok y0 ok.me (by decide))]
      exact fs.mem y y0 y1
    · obtain ⟨q1, q2, q3, q4, q5, q6, q7⟩ := fs.going z
      refine ⟨q1, ?_, ?_, ?_, q5, q6, y + 1, by omega, ?_, rfl⟩
      · rw [put_ne (by omega), put_ne (by omega)]
        exact q2
      · rw [put_ne (by omega), put_same]
      · rw [put_ne (by omega), put_ne (by omega)]
        exact q4
      · rw [put_same, y2]
        omega
theorem asked_task (hm : s.m = 1) : asked s = (s.b + wanted s) % 4096 := if_neg (by rw [hm]; decide)
theorem asked_in (ok : L.Ok) (h : TI L s m t j) (h0 : 0 ≤ wanted s) (h1 : wanted s < s.l) : asked s = L.b j + wanted s ∧ wanted s < L.l j := by
  obtain ⟨q1, q2, q3⟩ := ok.st j h.lt
  have gb := ok.gb
  have e := h.l
  rw [asked_task h.m1, h.b]
  omega
theorem want_nn (hf : s.f = 1) : 0 ≤ wanted s := by
  unfold wanted
  rw [if_neg (by omega)]
  split <;> omega
/-- a word is written into the stretch of the task that runs -/
theorem KI.putown (ok : L.Ok) (h : KI L m t) (hk0 : L.b j ≤ k) (hj : j < L.T) : KI L (G3.put m k v) t := by
  obtain ⟨q1, q2, q3⟩ := ok.st j hj
  have gb := ok.gb
  have me := ok.me
  have st : ∀ {q : Int}, q < L.gb + (L.gw.length : Int) → G3.put m k v q = m q := fun e => put_ne (by omega)
  have lo : ∀ i : Nat, i < L.T → ∀ o : Int, o < 16 → r i + o < L.gb + (L.gw.length : Int) := fun i hi o ho => by
    unfold r
    omega
  refine ⟨fun q hq => ?_, ?_, ?_, ?_, ?_, ?_, ?_, fun i hi => ?_, fun i hi => ?_, fun i hi => ?_, fun i hi => ?_, fun q hq => ?_, ?_, h.even⟩
  · rw [st (by omega)]; exact h.code q hq
  · rw [st (by omega)]; exact h.one
  · rw [st (by omega)]; exact h.three
  · rw [st (by omega)]; exact h.four
  · rw [st (by omega)]; exact h.size
  · rw [st (by omega)]; exact h.fst
  · rw [st (by omega)]; exact h.last
  · rw [st (lo i hi _ (by omega))]; exact h.rec3 i hi
  · rw [st (lo i hi _ (by omega))]; exact h.rec4 i hi
  · rw [st (lo i hi _ (by omega))]; exact h.rec8 i hi
  · rw [st (lo i hi _ (by omega))]; exact h.how i hi
  · rw [st (by omega)]; exact h.gvn q hq
  · rw [st (lo _ me _ (by omega))]; exact h.end7
theorem Susp.putother (ok : L.Ok) (h : Susp L m t) (hj : j < L.T) (hne : j ≠ L.me) (hk0 : L.b j ≤ k) (hk1 : k < L.b j + L.l j) : Susp L (G3.put m k v) t := by
  obtain ⟨q1, q2, q3⟩ := ok.st j hj
  obtain ⟨z1, z2, z3⟩ := ok.st _ ok.me
  have gb := ok.gb
  have me := ok.me
  have dis := ok.dis j hj hne
  obtain ⟨n, h⟩ := h
  have rm : r L.me = 104 + 16 * (L.me : Int) := rfl
  refine ⟨n, ?_, h.told, fun y y0 y1 => ?_, fun z => ?_⟩
  · rw [put_ne (by omega)]; exact h.how
  · rw [put_ne (by omega)]; exact h.mem y y0 y1
  · rw [put_ne (by omega), put_ne (by omega), put_ne (by omega), put_ne (by omega)]
    exact h.going z
/-- behind a row that is done: on, or the bell -/
theorem k_done (ok : L.Ok) (TH : TaskH L n) (TR : TrapH L n) {s' : S} {m' : Mem} (h : TI L s m t j)
    (hs : s' = { s with a := s'.a, x := s'.x, p := s'.p, f := 0 }) (p0 : 0 ≤ s'.p) (p1 : s'.p < 4096) (hK : KI L m' t) (h93 : m' 93 = r j) (hh : m' (r j + 5) = 1)
    (mine : j = L.me → ∃ N, Live L m' t (L.al N) ∧ (L.al N).how = 1 ∧ (L.al N).f = 0 ∧ s'.a = (L.al N).a ∧ s'.x = (L.al N).x ∧ s'.p = (L.al N).p) (other : j ≠ L.me → Susp L m' t) :
    GF (Good L) n (rung s s') m' t := by
  have e1 : s'.m = 1 := by rw [hs]; exact h.m1
  have e2 : s'.h = 0 := by rw [hs]; exact h.h0
  have e3 : s'.b = L.b j := by rw [hs]; exact h.b
  have e4 : s'.l = L.l j := by rw [hs]; exact h.l
  have e5 : s'.f = 0 := by rw [hs]
  have go : ∀ s2 : S, s2.a = s'.a → s2.x = s'.x → s2.p = s'.p → s2.f = 0 → s2.m = 1 → s2.h = 0 → s2.b = L.b j → s2.l = L.l j → TI L s2 m' t j := by
    intro s2 q1 q2 q3 q4 q5 q6 q7 q8
    refine ⟨hK, h.lt, h93, hh, q5, q6, .inl q4, q7, q8, by rw [q3]; exact p0, by rw [q3]; exact p1, fun ej => ?_, other⟩
    obtain ⟨N, lv, y1, y2, y3, y4, y5⟩ := mine ej
    exact ⟨N, y1, q1.trans y3, q2.trans y4, q3.trans y5, q4.trans y2.symm, fun z => by rw [q4] at z; exact absurd z (by decide), lv.told, lv.mem, lv.gvn⟩
  unfold rung
  by_cases c1 : s.m = 0 ∨ s.t = 0
  · rw [if_pos c1]
    exact TH _ _ _ j (go s' rfl rfl rfl e5 e1 e2 e3 e4)
  · rw [if_neg c1]
    by_cases c2 : s.t - 1 = 0
    · rw [if_pos c2]
      have tk : trap (counted s s') 4 s'.p = K 0 s'.a s'.x s'.i ⟨s'.b, s'.l, s.t - 1, s'.a, s'.x, s'.p % 4096, 4, s'.n⟩ := trap_K (s := counted s s') e2
      rw [tk]
      refine TR _ _ _ _ _ _ j ?_
      have ep : s'.p % 4096 = s'.p := by omega
      by_cases ej : j = L.me
      · obtain ⟨N, lv, y1, y2, y3, y4, y5⟩ := mine ej
        subst ej
        have hG : Good L m' t := ⟨hK.how, N, lv.told, fun z => absurd hh z⟩
        refine ⟨hK, hG, ok.me, h93, .inr (.inr (.inr rfl)), fun z => absurd (show (4 : Int) = 3 from z) (by decide), fun _ => ⟨N, fs_saved ok lv hh y1 y2 (by rw [← y5]; exact ep) y3 y4 (by omega) (by omega)⟩, fun z => ?_, fun z => ?_, fun z => ?_, fun z => ?_, fun z => ?_⟩
        · rcases z with z | z | z
          · exact absurd (show (4 : Int) = 1 from z) (by decide)
          · exact absurd (show (4 : Int) = 2 from z) (by decide)
          · exact absurd (show (4 : Int) = 3 from z.1) (by decide)
        all_goals exact absurd (show (4 : Int) = 3 from z.1) (by decide)
      · exact trapped_other ok hK h.lt h93 ej (other ej) (.inr (.inr (.inr rfl))) fun z => absurd (show (4 : Int) = 3 from z) (by decide)
    · rw [if_neg c2]
      exact TH _ _ _ j (go (counted s s') rfl rfl rfl e5 e1 e2 e3 e4)
theorem k_task (ok : L.Ok) (TH : TaskH L n) (TR : TrapH L n) : TaskH L (n + 1) := by
  intro s m t j h
  have g := h.good ok
  have nh : ¬ s.h = 1 := by rw [h.h0]; decide
  have rj : r j = 104 + 16 * (j : Int) := rfl
  have hl := h.lt
  have gb := ok.gb
  obtain ⟨z1, z2, z3⟩ := ok.st j h.lt
  rcases h.f with f0 | f1
  · have w0 := wanted0 f0
    by_cases c : s.l ≤ s.p
    · have e : beatOf s (m (asked s)) = (trap s 1 s.p, none, none) := by
        unfold beatOf
        rw [if_neg nh, if_pos f0]
        unfold fetched
        rw [if_pos ((barred_iff h.m1).mpr (by rw [w0]; exact c))]
      refine gf_quiet g e ?_
      rw [trap_K h.h0]
      refine go_trap (c := 1) (q := s.p) (nn := s.n) ok TR h (.inl rfl) (fun z => absurd z (by decide)) (fun ej => ?_) _
      subst ej
      obtain ⟨N, f⟩ := h.mine rfl
      refine mine_fault ok h f ?_ (.inl rfl) fun z => absurd z (by decide)
      unfold stepK
      rw [if_neg (by rw [f.how]; simp), if_pos (by rw [← f.f]; exact f0), if_pos (by rw [← f.p, ← h.l]; exact c)]
    · have e : beatOf s (m (asked s)) = ({ s with i := m (asked s), f := 1 }, none, none) := by
        unfold beatOf
        rw [if_neg nh, if_pos f0]
        unfold fetched
        rw [if_neg (fun z => c (by have := (barred_iff h.m1).mp z; rw [w0] at this; exact this))]
      refine gf_quiet g e (TH _ _ _ j ⟨h.ki, h.lt, h.now, h.how, h.m1, h.h0, .inr rfl, h.b, h.l, h.p0, h.p1, fun ej => ?_, h.other⟩)
      obtain ⟨N, f⟩ := h.mine ej
      have p0 := h.p0
      have l1 := h.l
      have ea := (asked_in ok h (by rw [w0]; exact h.p0) (by rw [w0]; omega)).1
      refine ⟨N + 1, ?_⟩
      have e3 : stepK (L.l L.me) (L.al N) = { L.al N with i := (L.al N).mem (L.al N).p, f := 1 } := by
        unfold stepK
        rw [if_neg (by rw [f.how]; simp), if_pos (by rw [← f.f]; exact f0), if_neg (by rw [← f.p, ← ej, ← h.l]; exact c)]
      rw [al_next, e3]
      refine ⟨f.how, f.a, f.x, f.p, rfl, fun _ => ?_, f.told, f.mem, f.gvn⟩
      show m (asked s) = (L.al N).mem (L.al N).p
      rw [ea, w0, ← f.p, ej]
      exact f.mem s.p h.p0 (by rw [← ej, ← h.l]; omega)
  · have nf : ¬ s.f = 0 := by omega
    have w0 := want_nn f1
    have wT : ∀ {N : Nat}, FR L s m t (L.al N) → wantT (L.al N) = wanted s ∧ (L.al N).i = s.i ∧ ¬ (L.al N).f = 0 := by
      intro N f
      have ei := f.i f1
      refine ⟨?_, ei.symm, by rw [← f.f]; exact nf⟩
      unfold wantT wanted
      rw [if_neg nf, ← ei, ← f.x]
    by_cases c1 : memOp (s.i / 4096) ∧ s.l ≤ wanted s
    · have et : trapOf s = 1 := by
        unfold trapOf
        rw [if_pos ⟨c1.1, (barred_iff h.m1).mpr c1.2⟩]
      have e : beatOf s (m (asked s)) = (trap s 1 s.p, none, none) := by
        unfold beatOf
        rw [if_neg nh, if_neg nf, et, if_pos (by decide)]
        rfl
      refine gf_quiet g e ?_
      rw [trap_K h.h0]
      refine go_trap (c := 1) (q := s.p) (nn := s.n) ok TR h (.inl rfl) (fun z => absurd z (by decide)) (fun ej => ?_) _
      subst ej
      obtain ⟨N, f⟩ := h.mine rfl
      obtain ⟨y1, y2, y3⟩ := wT f
      refine mine_fault ok h f ?_ (.inl rfl) fun z => absurd z (by decide)
      unfold stepK
      rw [if_neg (by rw [f.how]; simp), if_neg y3, if_pos (by rw [y2, y1, ← h.l]; exact c1)]
    · have nb : ¬ (memOp (s.i / 4096) ∧ barred s = true) := fun z => c1 ⟨z.1, (barred_iff h.m1).mp z.2⟩
      by_cases c2 : 14 ≤ s.i / 4096
      · have et : trapOf s = 2 := by
          unfold trapOf
          rw [if_neg nb, if_pos ⟨c2, h.m1⟩]
        have e : beatOf s (m (asked s)) = (trap s 2 s.p, none, none) := by
          unfold beatOf
          rw [if_neg nh, if_neg nf, et, if_pos (by decide)]
          rfl
        refine gf_quiet g e ?_
        rw [trap_K h.h0]
        refine go_trap (c := 2) (q := s.p) (nn := s.n) ok TR h (.inr (.inl rfl)) (fun z => absurd z (by decide)) (fun ej => ?_) _
        subst ej
        obtain ⟨N, f⟩ := h.mine rfl
        obtain ⟨y1, y2, y3⟩ := wT f
        refine mine_fault ok h f ?_ (.inr (.inl rfl)) fun z => absurd z (by decide)
        unfold stepK
        rw [if_neg (by rw [f.how]; simp), if_neg y3, if_neg (by rw [y2, y1, ← h.l]; exact c1), if_pos (by rw [y2]; exact c2)]
      · by_cases c3 : s.i / 4096 = 13
        · have et : trapOf s = 3 := by
            unfold trapOf
            rw [if_neg nb, if_neg (fun z => c2 z.1), if_pos c3]
          have e : beatOf s (m (asked s)) = (trap { s with n := s.i % 4096 } 3 (s.p + 1), none, none) := by
            unfold beatOf
            rw [if_neg nh, if_neg nf, et, if_pos (by decide)]
            rfl
          refine gf_quiet g e ?_
          rw [trap_K (s := { s with n := s.i % 4096 }) h.h0]
          refine go_trap (c := 3) (q := s.p + 1) (nn := s.i % 4096) ok TR h (.inr (.inr (.inl rfl))) (fun _ => by omega) (fun ej => ?_) _
          subst ej
          obtain ⟨N, f⟩ := h.mine rfl
          obtain ⟨y1, y2, y3⟩ := wT f
          refine mine_call ok h f y2.symm ?_
          unfold stepK
          rw [if_neg (by rw [f.how]; simp), if_neg y3, if_neg (by rw [y2, y1, ← h.l]; exact c1), if_neg (by rw [y2]; exact c2), if_pos (by rw [y2]; exact c3)]
        · -- the row is done
          have et : trapOf s = 0 := by
            unfold trapOf
            rw [if_neg nb, if_neg (fun z => c2 z.1), if_neg c3]
          have n14 : ¬ (s.i / 4096 = 14 ∧ s.i % 4096 % 16 = 6) := by omega
          have ex := rowDone_exe (s := s) (by omega) (m (asked s))
          have pr := exe_p (a := s.a) (x := s.x) (p := s.p) (i := s.i) (w := m (asked s))
          -- of the one task
          have one : ∀ ej : j = L.me, ∀ N, FR L s m t (L.al N) → L.al (N + 1) = doneT (L.al N) ∧ exeT (L.al N) = exe s.a s.x s.p s.i (m (asked s)) := by
            intro ej N f
            obtain ⟨y1, y2, y3⟩ := wT f
            refine ⟨?_, ?_⟩
            · rw [al_next]
              unfold stepK
              rw [if_neg (by rw [f.how]; simp), if_neg y3, if_neg (by rw [y2, y1, ← ej, ← h.l]; exact c1), if_neg (by rw [y2]; exact c2), if_neg (by rw [y2]; exact c3)]
            · unfold exeT
              rw [← f.a, ← f.x, ← f.p, y2, y1]
              by_cases wo : s.i / 4096 ≠ 1 ∧ s.i / 4096 ≠ 3 ∧ s.i / 4096 ≠ 4 ∧ s.i / 4096 ≠ 5 ∧ s.i / 4096 ≠ 9
              · exact exe_word wo
              · have wl : wanted s < s.l := by
                  refine Int.not_le.mp fun z => c1 ⟨?_, z⟩
                  unfold memOp
                  omega
                obtain ⟨q1, q2⟩ := asked_in ok h w0 wl
                rw [q1, ej, f.mem _ w0 (by rw [← ej]; exact q2)]
          by_cases cw : s.i / 4096 = 2 ∨ s.i / 4096 = 10
          · have e : beatOf s (m (asked s)) = (rung s (rowDone s (m (asked s))), some s.a, none) := by
              unfold beatOf
              rw [if_neg nh, if_neg nf, et, if_neg (by decide), if_pos cw, if_neg n14]
            refine gf_write g e ?_
            have wl : wanted s < s.l := by
              refine Int.not_le.mp fun z => c1 ⟨?_, z⟩
              unfold memOp
              omega
            obtain ⟨q1, q2⟩ := asked_in ok h w0 wl
            generalize hm' : put m (asked s) s.a = m'
            have hK : KI L m' t := by
              rw [← hm']
              rw [q1]
              exact h.ki.putown ok (by omega) h.lt
            refine k_done ok TH TR h (by rw [ex]) (by rw [ex]; exact pr.1) (by rw [ex]; exact pr.2) hK ?_ ?_ (fun ej => ?_) (fun ne => ?_)
            · rw [← hm', put_ne (by rw [q1]; omega)]
              exact h.now
            · rw [← hm', put_ne (by rw [q1]; omega)]
              exact h.how
            · obtain ⟨N, f⟩ := h.mine ej
              obtain ⟨o1, o2⟩ := one ej N f
              obtain ⟨y1, y2, y3⟩ := wT f
              refine ⟨N + 1, ?_, ?_, ?_, ?_, ?_, ?_⟩
              · rw [o1]
                refine ⟨f.told, fun y y0 y5 => ?_, ?_⟩
                · show m' (L.b L.me + y) = memT (L.al N) y
                  unfold memT
                  rw [if_pos (by rw [y2]; exact cw), ← hm', q1, ej, y1, ← f.a]
                  by_cases ey : y = wanted s
                  · rw [put_at (by omega), put_at ey]
                  · rw [put_ne (by omega), put_ne ey]
                    exact f.mem y y0 y5
                · obtain ⟨k, k1, k2, k3⟩ := f.gvn
                  refine ⟨k, k1, ?_, k3⟩
                  rw [← hm', put_ne]
                  · exact k2
                  · have : r L.me = 104 + 16 * (L.me : Int) := rfl
                    have := ok.me
                    omega
              · rw [o1]; exact f.how
              · rw [o1]; rfl
              · rw [o1, ex]
                show _ = (exeT (L.al N)).1
                rw [o2]
              · rw [o1, ex]
                show _ = (exeT (L.al N)).2.1
                rw [o2]
              · rw [o1, ex]
                show _ = (exeT (L.al N)).2.2
                rw [o2]
            · rw [← hm']
              rw [q1]
              exact (h.other ne).putother ok h.lt ne (by omega) (by omega)
          · have e : beatOf s (m (asked s)) = (rung s (rowDone s (m (asked s))), none, none) := by
              unfold beatOf
              rw [if_neg nh, if_neg nf, et, if_neg (by decide), if_neg cw, if_neg n14]
            refine gf_quiet g e ?_
            refine k_done ok TH TR h (by rw [ex]) (by rw [ex]; exact pr.1) (by rw [ex]; exact pr.2) h.ki h.now h.how (fun ej => ?_) h.other
            obtain ⟨N, f⟩ := h.mine ej
            obtain ⟨o1, o2⟩ := one ej N f
            obtain ⟨y1, y2, y3⟩ := wT f
            refine ⟨N + 1, ?_, ?_, ?_, ?_, ?_, ?_⟩
            · rw [o1]
              refine ⟨f.told, fun y y0 y5 => ?_, f.gvn⟩
              show m (L.b L.me + y) = memT (L.al N) y
              unfold memT
              rw [if_neg (by rw [y2]; exact cw)]
              exact f.mem y y0 y5
            · rw [o1]; exact f.how
            · rw [o1]; rfl
            · rw [o1, ex]
              show _ = (exeT (L.al N)).1
              rw [o2]
            · rw [o1, ex]
              show _ = (exeT (L.al N)).2.1
              rw [o2]
            · rw [o1, ex]
              show _ = (exeT (L.al N)).2.2
              rw [o2]
/-! ### all beats -/
theorem all_beats (ok : L.Ok) : ∀ n, StepH L n ∧ TaskH L n ∧ TrapH L n
  | 0 => ⟨fun _ _ _ _ _ _ hK hS _ => hK.good ok hS, fun _ _ _ _ h => h.good ok, fun _ _ _ _ _ _ _ h => h.good⟩
  | n + 1 => by
    obtain ⟨h1, h2, h3⟩ := all_beats ok n
    exact ⟨k_step ok h1 h2, k_task ok h2 h3, fun _ _ _ _ _ _ _ h => k_trap ok h1 h⟩
/-- from the first state -/
theorem boot (ok : L.Ok) (n : Nat) (hK : KI L m t) (hS : Susp L m t) : GF (Good L) n ⟨0, 0, 0, 0, 0, 0, 0, 0, 0, 0, 0, 0, 0, 0, 0⟩ m t := by
  obtain ⟨SH, TH, _⟩ := all_beats ok n
  have g := hK.good ok hS
  have gb := ok.gb
  have t8 := ok.t8
  have me := ok.me
  show GF (Good L) n (K 0 0 0 0 ⟨0, 0, 0, 0, 0, 0, 0, 0⟩) m t
  refine less2 (k_ownget (hK.at 0 (y := 3) rfl (by decide) (by decide) rfl rfl) (by decide) g fun i1 => ?_)
  refine less2 (k_zero (hK.at 1 (y := 87) rfl (by decide) (by decide) rfl rfl) g (fun z i2 => ?_) (fun z i2 => absurd rfl z))
  refine less2 (k_load (v := 104 + 16 * (L.T : Int)) (hK.at 87 (y := 103) rfl (by decide) (by decide) rfl rfl) hK.last g fun i3 => ?_)
  refine less2 (k_take (v := 104 + 16 * (L.T : Int) - 16) (hK.at 88 (y := 98) rfl (by decide) (by decide) rfl rfl) (by rw [hK.size]; omega) g fun i4 => ?_)
  refine less2 (k_store (hK.at 89 (y := 93) rfl (by decide) (by decide) rfl rfl) rfl g fun i5 => ?_)
  have hK1 := hK.put (k := 93) (v := 104 + 16 * (L.T : Int) - 16) ok (.inl (by omega))
  have hS1 := hS.cell (k := 93) (v := 104 + 16 * (L.T : Int) - 16) ok (by omega)
  refine less2 (k_goto (hK1.at 90 (y := 60) rfl (by decide) (by decide) rfl rfl) (hK1.good ok hS1) fun i6 => ?_)
  exact SH _ _ _ _ _ _ hK1 hS1 ⟨L.T - 1, by omega, by rw [put_same]; unfold r; omega⟩
end
end G3
set_option Elab.async false
set_option linter.all false
set_option maxRecDepth 100000
set_option maxHeartbeats 400000
namespace G3
/-! ### two towns that have one task alike -/
theorem told_step (l : Int) (τ : Tk) : ∃ u, (stepK l τ).told = τ.told ++ u := by
  unfold stepK
  split
  · exact ⟨[], (List.append_nil _).symm⟩
  · split
    · split
      · exact ⟨[], (List.append_nil _).symm⟩
      · exact ⟨[], (List.append_nil _).symm⟩
    · split
      · exact ⟨[], (List.append_nil _).symm⟩
      · split
        · exact ⟨[], (List.append_nil _).symm⟩
        · split
          · unfold callT
            split
            · exact ⟨[], (List.append_nil _).symm⟩
            · split
              · exact ⟨[τ.a], rfl⟩
              · split
                · exact ⟨[], (List.append_nil _).symm⟩
                · split
                  · split
                    · exact ⟨[], (List.append_nil _).symm⟩
                    · exact ⟨[], (List.append_nil _).symm⟩
                  · exact ⟨[], (List.append_nil _).symm⟩
          · exact ⟨[], (List.append_nil _).symm⟩
theorem told_on (l : Int) (τ : Tk) (n : Nat) : ∀ k, ∃ u, (iter l (n + k) τ).told = (iter l n τ).told ++ u
  | 0 => ⟨[], (List.append_nil _).symm⟩
  | k + 1 => by
    obtain ⟨u, hu⟩ := told_on l τ n k
    obtain ⟨v, hv⟩ := told_step l (iter l (n + k) τ)
    refine ⟨u ++ v, ?_⟩
    show (stepK l (iter l (n + k) τ)).told = _
    rw [hv, hu, List.append_assoc]
theorem still (l : Int) (τ : Tk) (n : Nat) (h : (iter l n τ).how ≠ 1) : ∀ k, iter l (n + k) τ = iter l n τ
  | 0 => rfl
  | k + 1 => by
    show stepK l (iter l (n + k) τ) = _
    rw [still l τ n h k]
    unfold stepK
    rw [if_pos h]
theorem take_both {u v w : List Int} (h : v = u ++ w) : u.take (min u.length v.length) = v.take (min u.length v.length) := by
  subst h
  have e : min u.length (u ++ w).length = u.length := by
    rw [List.length_append]
    omega
  rw [e, List.take_left, List.take_length]
/-- what the law asks, of the words, the end, the stretch -/
theorem agree {A B : Lay} (hl : A.l A.me = B.l B.me) (hw : A.w0 = B.w0) (hg : A.gw = B.gw) {m1 m2 : Mem} {t1 t2 : List Int} (g1 : Good A m1 t1) (g2 : Good B m2 t2) :
    (foc A.me t1).take (min (foc A.me t1).length (foc B.me t2).length) = (foc B.me t2).take (min (foc A.me t1).length (foc B.me t2).length) ∧
    (m1 (r A.me + 5) ≠ 1 → m2 (r B.me + 5) ≠ 1 → foc A.me t1 = foc B.me t2 ∧ m1 (r A.me + 5) = m2 (r B.me + 5) ∧ ∀ k, 0 ≤ k → k < A.l A.me → m1 (A.b A.me + k) = m2 (B.b B.me + k)) := by
  obtain ⟨_, n1, a1, b1⟩ := g1
  obtain ⟨_, n2, a2, b2⟩ := g2
  have al : ∀ n, A.al n = B.al n := by
    intro n
    unfold Lay.al
    rw [hl, hw, hg]
  refine ⟨?_, fun h1 h2 => ?_⟩
  · rw [a1, a2, al]
    rcases Nat.le_total n1 n2 with h | h
    · obtain ⟨k, rfl⟩ := Nat.exists_eq_add_of_le h
      obtain ⟨u, hu⟩ := told_on (B.l B.me) ⟨0, 0, 0, 0, 0, B.w0, B.gw, [], 1⟩ n1 k
      exact take_both hu
    · obtain ⟨k, rfl⟩ := Nat.exists_eq_add_of_le h
      obtain ⟨u, hu⟩ := told_on (B.l B.me) ⟨0, 0, 0, 0, 0, B.w0, B.gw, [], 1⟩ n2 k
      rw [Nat.min_comm]
      exact (take_both hu).symm
  · obtain ⟨p1, q1⟩ := b1 h1
    obtain ⟨p2, q2⟩ := b2 h2
    have e : A.al n1 = B.al n2 := by
      rw [al] at p1 ⊢
      rcases Nat.le_total n1 n2 with h | h
      · obtain ⟨k, rfl⟩ := Nat.exists_eq_add_of_le h
        exact (still _ _ n1 (by show (B.al n1).how ≠ 1; rw [p1]; exact h1) k).symm
      · obtain ⟨k, rfl⟩ := Nat.exists_eq_add_of_le h
        exact still _ _ n2 (by show (B.al n2).how ≠ 1; rw [p2]; exact h2) k
    refine ⟨by rw [a1, a2, e], by rw [← p1, ← p2, e], fun k k0 k1 => ?_⟩
    rw [q1 k k0 k1, q2 k k0 (by omega), e]
end G3
set_option Elab.async false
set_option linter.all false
set_option maxRecDepth 100000
set_option maxHeartbeats 400000
namespace G3
/-! ### the words of a town -/
def cells (T : Nat) (q : Int) : List Int := [0, (T : Int), 1, 3, 4, 16, q, 0, 0, 104, 104 + 16 * (T : Int)]
def kernW (T : Nat) (q : Int) : List Int := codeL ++ cells T q ++ List.replicate (16 * T) 0
def laid (b : Int) : List (List Int) → List (Int × Int)
  | [] => []
  | w :: ws => (b, (w.length : Int)) :: laid (b + (w.length : Int)) ws
def fill (ws : List Int) (rc : Nat) (n : Int) (st gv : Int × Int) : List Int := ws.take (rc + 3) ++ ([st.1, st.2, 1, gv.1, gv.1 + gv.2, n] ++ ws.drop (rc + 9))
def fillAll : Nat → List ((Int × Int) × (Int × Int)) → List Int → List Int
  | _, [], ws => ws
  | k, (st, gv) :: l, ws => fillAll (k + 1) l (fill ws (104 + 16 * k) (k : Int) st gv)
theorem kernW_len (T : Nat) (q : Int) : (kernW T q).length = 104 + 16 * T := by
  unfold kernW
  rw [List.length_append, List.length_append, List.length_replicate]
  rfl
theorem fill_len {ws : List Int} {rc : Nat} {n : Int} {st gv : Int × Int} (h : rc + 9 ≤ ws.length) : (fill ws rc n st gv).length = ws.length := by
  unfold fill
  rw [List.length_append, List.length_append, List.length_take, List.length_drop]
  show min (rc + 3) ws.length + (6 + (ws.length - (rc + 9))) = ws.length
  omega
theorem fill_out {ws : List Int} {rc i : Nat} {n : Int} {st gv : Int × Int} (h : rc + 9 ≤ ws.length) (hi : i < rc + 3 ∨ rc + 9 ≤ i) : (fill ws rc n st gv).getD i 0 = ws.getD i 0 := by
  unfold fill
  rw [List.getD_eq_getElem?_getD, List.getD_eq_getElem?_getD]
  congr 1
  by_cases c : i < rc + 3
  · rw [List.getElem?_append_left (by rw [List.length_take]; omega), List.getElem?_take_of_lt c]
  · have l1 : (ws.take (rc + 3)).length = rc + 3 := by rw [List.length_take]; omega
    rw [List.getElem?_append_right (by omega), l1, List.getElem?_append_right (by show 6 ≤ i - (rc + 3); omega), List.getElem?_drop]
    congr 1
    show rc + 9 + (i - (rc + 3) - 6) = i
    omega
theorem fill_in {ws : List Int} {rc i : Nat} {n : Int} {st gv : Int × Int} (h : rc + 9 ≤ ws.length) (hi : i < 6) : (fill ws rc n st gv).getD (rc + 3 + i) 0 = ([st.1, st.2, 1, gv.1, gv.1 + gv.2, n] : List Int).getD i 0 := by
  unfold fill
  rw [List.getD_eq_getElem?_getD, List.getD_eq_getElem?_getD]
  congr 1
  have l1 : (ws.take (rc + 3)).length = rc + 3 := by rw [List.length_take]; omega
  rw [List.getElem?_append_right (by omega), l1, List.getElem?_append_left (by show rc + 3 + i - (rc + 3) < 6; omega)]
  congr 1
  omega
theorem fillAll_at : ∀ (l : List ((Int × Int) × (Int × Int))) (k : Nat) (ws : List Int), 104 + 16 * (k + l.length) ≤ ws.length →
    (fillAll k l ws).length = ws.length ∧
    (∀ i, (i < 104 + 16 * k + 3 ∨ 104 + 16 * (k + l.length) ≤ i ∨ (104 ≤ i ∧ ((i - 104) % 16 < 3 ∨ 9 ≤ (i - 104) % 16))) → (fillAll k l ws).getD i 0 = ws.getD i 0) ∧
    ∀ j (h : j < l.length), ∀ i, i < 6 → (fillAll k l ws).getD (104 + 16 * (k + j) + 3 + i) 0 = ([l[j].1.1, l[j].1.2, 1, l[j].2.1, l[j].2.1 + l[j].2.2, ((k + j : Nat) : Int)] : List Int).getD i 0
  | [], k, ws, h => ⟨rfl, fun _ _ => rfl, fun j hj => absurd hj (Nat.not_lt_zero _)⟩
  | (st, gv) :: l, k, ws, h => by
    have hl : 104 + 16 * (k + l.length + 1) ≤ ws.length := by
      rw [List.length_cons] at h
      omega
    have hf : 104 + 16 * k + 9 ≤ ws.length := by omega
    have fl := fill_len (n := (k : Int)) (st := st) (gv := gv) hf
    obtain ⟨e1, e2, e3⟩ := fillAll_at l (k + 1) (fill ws (104 + 16 * k) (k : Int) st gv) (by rw [fl]; omega)
    refine ⟨e1.trans fl, fun i hi => ?_, fun j hj i hi => ?_⟩
    · show (fillAll (k + 1) l (fill ws (104 + 16 * k) (k : Int) st gv)).getD i 0 = ws.getD i 0
      rw [List.length_cons] at hi
      rw [e2 i (by omega), fill_out hf (by omega)]
    · cases j with
      | zero =>
        show (fillAll (k + 1) l (fill ws (104 + 16 * k) (k : Int) st gv)).getD (104 + 16 * k + 3 + i) 0 = _
        rw [e2 _ (by omega), fill_in hf hi]
        rfl
      | succ j =>
        rw [List.length_cons] at hj
        have q := e3 j (by omega) i hi
        have ea : k + (j + 1) = k + 1 + j := by omega
        rw [ea]
        exact q
theorem laid_len : ∀ (ws : List (List Int)) (b : Int), (laid b ws).length = ws.length
  | [], _ => rfl
  | w :: ws, b => congrArg (· + 1) (laid_len ws _)
theorem laid_at : ∀ (ws : List (List Int)) (b : Int) (j : Nat) (h : j < ws.length), (laid b ws)[j]? = some (b + ((ws.take j).flatten.length : Int), (ws[j].length : Int))
  | w :: ws, b, 0, h => by
    show some (b, (w.length : Int)) = _
    simp
  | w :: ws, b, j + 1, h => by
    rw [List.length_cons] at h
    show (laid (b + (w.length : Int)) ws)[j]? = _
    rw [laid_at ws _ j (by omega)]
    simp only [List.take_succ_cons, List.flatten_cons, List.length_append, List.getElem_cons_succ]
    congr 2
    omega
theorem flat_at : ∀ (ws : List (List Int)) (j : Nat) (h : j < ws.length) (k : Nat), k < ws[j].length → ws.flatten.getD ((ws.take j).flatten.length + k) 0 = ws[j].getD k 0
  | w :: ws, 0, h, k, hk => by
    have hk' : k < w.length := hk
    show (w ++ ws.flatten).getD (0 + k) 0 = w.getD k 0
    rw [Nat.zero_add, List.getD_eq_getElem?_getD, List.getElem?_append_left hk', ← List.getD_eq_getElem?_getD]
  | w :: ws, j + 1, h, k, hk => by
    rw [List.length_cons] at h
    have ih := flat_at ws j (by omega) k hk
    show (w ++ ws.flatten).getD ((w ++ (ws.take j).flatten).length + k) 0 = ws[j].getD k 0
    rw [List.length_append, List.getD_eq_getElem?_getD, List.getElem?_append_right (by omega), ← List.getD_eq_getElem?_getD]
    have e : w.length + (ws.take j).flatten.length + k - w.length = (ws.take j).flatten.length + k := by omega
    rw [e]
    exact ih
theorem flat_le : ∀ (ws : List (List Int)) (j : Nat) (h : j < ws.length), (ws.take j).flatten.length + ws[j].length ≤ ws.flatten.length
  | w :: ws, 0, h => by
    simp
  | w :: ws, j + 1, h => by
    rw [List.length_cons] at h
    have ih := flat_le ws j (by omega)
    simp only [List.take_succ_cons, List.flatten_cons, List.length_append, List.getElem_cons_succ]
    omega
theorem flat_mono : ∀ (ws : List (List Int)) (i j : Nat) (h : j < ws.length), i < j → ∀ hi : i < ws.length, (ws.take i).flatten.length + ws[i].length ≤ (ws.take j).flatten.length
  | w :: ws, i, 0, h, hij, _ => absurd hij (Nat.not_lt_zero _)
  | w :: ws, 0, j + 1, h, _, _ => by
    simp only [List.take_zero, List.flatten_nil, List.length_nil, List.take_succ_cons, List.flatten_cons, List.length_append, List.getElem_cons_zero]
    omega
  | w :: ws, i + 1, j + 1, h, hij, hi => by
    rw [List.length_cons] at h hi
    have ih := flat_mono ws i j (by omega) (by omega) (by omega)
    simp only [List.take_succ_cons, List.flatten_cons, List.length_append, List.getElem_cons_succ]
    omega
def gend (given : List (List Int)) (T : Nat) : Int := 104 + 16 * (T : Int) + (given.flatten.length : Int)
def givens (given : List (List Int)) (T : Nat) : List (Int × Int) := laid (104 + 16 * (T : Int)) given
def stretches (given images : List (List Int)) (T : Nat) : List (Int × Int) := laid (gend given T) images
def townW (q : Int) (given images : List (List Int)) : List Int :=
  fillAll 0 ((stretches given images images.length).zip (givens given images.length)) (kernW images.length q) ++ given.flatten ++ images.flatten
def memOf (ws : List Int) : Mem := fun i => if 0 ≤ i then ws.getD i.toNat 0 else 0
theorem memOf_nat (ws : List Int) (i : Nat) : memOf ws (i : Int) = ws.getD i 0 := by
  unfold memOf
  rw [if_pos (by omega)]
  rfl
def layOf (given images : List (List Int)) (me : Nat) : Lay where
  T := images.length
  me := me
  b := fun j => ((stretches given images images.length).getD j (0, 0)).1
  l := fun j => ((stretches given images images.length).getD j (0, 0)).2
  gb := ((givens given images.length).getD me (0, 0)).1
  gw := given.getD me []
  w0 := memOf (images.getD me [])
structure TownOk (given images : List (List Int)) (me : Nat) : Prop where
  same : given.length = images.length
  me : me < images.length
  t8 : images.length ≤ 8
  room : 104 + 16 * images.length + given.flatten.length + images.flatten.length ≤ 4095
section
variable {given images : List (List Int)} {me : Nat} {q : Int}
theorem st_at (j : Nat) (h : j < images.length) : (stretches given images images.length).getD j (0, 0) = (gend given images.length + ((images.take j).flatten.length : Int), (images[j].length : Int)) := by
  unfold stretches
  rw [List.getD_eq_getElem?_getD, laid_at images _ j h]
  rfl
theorem gv_at (j : Nat) (h : j < given.length) (T : Nat) : (givens given T).getD j (0, 0) = (104 + 16 * (T : Int) + ((given.take j).flatten.length : Int), (given[j].length : Int)) := by
  unfold givens
  rw [List.getD_eq_getElem?_getD, laid_at given _ j h]
  rfl
theorem lay_ok (h : TownOk given images me) : (layOf given images me).Ok := by
  have hg : me < given.length := by rw [h.same]; exact h.me
  have e1 := gv_at me hg images.length
  have f1 := flat_le given me hg
  have gw : (layOf given images me).gw = given[me] := by
    show given.getD me [] = _
    rw [List.getD_eq_getElem?_getD, List.getElem?_eq_getElem hg]
    rfl
  have gb : (layOf given images me).gb = 104 + 16 * (images.length : Int) + ((given.take me).flatten.length : Int) := congrArg (·.1) e1
  have room := h.room
  refine ⟨h.me, h.t8, ?_, fun j hj => ?_, fun j hj hne => ?_⟩
  · rw [gb]
    show 104 + 16 * (images.length : Int) ≤ _
    omega
  · have hj' : j < images.length := hj
    have e2 := st_at (given := given) j hj'
    have f2 := flat_le images j hj'
    rw [gb, gw]
    show _ ≤ ((stretches given images images.length).getD j (0, 0)).1 ∧ 0 ≤ ((stretches given images images.length).getD j (0, 0)).2 ∧ ((stretches given images images.length).getD j (0, 0)).1 + ((stretches given images images.length).getD j (0, 0)).2 ≤ 4095
    rw [e2]
    unfold gend
    simp only
    omega
  · have hj' : j < images.length := hj
    have hne' : j ≠ me := hne
    show ((stretches given images images.length).getD j (0, 0)).1 + ((stretches given images images.length).getD j (0, 0)).2 ≤ ((stretches given images images.length).getD me (0, 0)).1 ∨ ((stretches given images images.length).getD me (0, 0)).1 + ((stretches given images images.length).getD me (0, 0)).2 ≤ ((stretches given images images.length).getD j (0, 0)).1
    rw [st_at j hj', st_at me h.me]
    simp only
    rcases Nat.lt_or_gt_of_ne hne' with c | c
    · have := flat_mono images j me h.me c hj'
      omega
    · have := flat_mono images me j hj' c h.me
      omega
theorem zip_at (h : TownOk given images me) (j : Nat) (hj : j < images.length) :
    ∃ hz : j < ((stretches given images images.length).zip (givens given images.length)).length, ((stretches given images images.length).zip (givens given images.length))[j] = ((gend given images.length + ((images.take j).flatten.length : Int), (images[j].length : Int)), (104 + 16 * (images.length : Int) + ((given.take j).flatten.length : Int), ((given[j]'(by rw [h.same]; exact hj)).length : Int))) := by
  have hs : (stretches given images images.length).length = images.length := laid_len _ _
  have hg : (givens given images.length).length = images.length := (laid_len _ _).trans h.same
  have hg' : j < given.length := by rw [h.same]; exact hj
  refine ⟨by rw [List.length_zip, hs, hg]; omega, ?_⟩
  rw [List.getElem_zip]
  have e1 := laid_at images (gend given images.length) j hj
  have e2 := laid_at given (104 + 16 * (images.length : Int)) j hg'
  obtain ⟨q1, e1⟩ := List.getElem?_eq_some_iff.mp e1
  obtain ⟨q2, e2⟩ := List.getElem?_eq_some_iff.mp e2
  exact Prod.ext e1 e2
/-- the first memory -/
theorem town_ki (h : TownOk given images me) : KI (layOf given images me) (memOf (townW q given images)) [] ∧ Susp (layOf given images me) (memOf (townW q given images)) [] := by
  have hg : me < given.length := by rw [h.same]; exact h.me
  have hzl : ((stretches given images images.length).zip (givens given images.length)).length = images.length := by
    have hs : (stretches given images images.length).length = images.length := laid_len _ _
    have hg : (givens given images.length).length = images.length := (laid_len _ _).trans h.same
    rw [List.length_zip, hs, hg]
    omega
  have kl := kernW_len images.length q
  obtain ⟨fl, f2, f3⟩ := fillAll_at ((stretches given images images.length).zip (givens given images.length)) 0 (kernW images.length q) (by rw [hzl, kl]; omega)
  rw [hzl] at f2
  rw [kl] at fl
  -- the three parts
  have pK : ∀ i, i < 104 + 16 * images.length → (townW q given images).getD i 0 = (fillAll 0 ((stretches given images images.length).zip (givens given images.length)) (kernW images.length q)).getD i 0 := by
    intro i hi
    unfold townW
    rw [List.append_assoc, List.getD_eq_getElem?_getD, List.getElem?_append_left (by rw [fl]; exact hi), ← List.getD_eq_getElem?_getD]
  have pG : ∀ i, i < given.flatten.length → (townW q given images).getD (104 + 16 * images.length + i) 0 = given.flatten.getD i 0 := by
    intro i hi
    unfold townW
    rw [List.append_assoc, List.getD_eq_getElem?_getD, List.getElem?_append_right (by rw [fl]; omega), fl, List.getElem?_append_left (by omega), ← List.getD_eq_getElem?_getD]
    congr 1
    omega
  have pI : ∀ i, i < images.flatten.length → (townW q given images).getD (104 + 16 * images.length + given.flatten.length + i) 0 = images.flatten.getD i 0 := by
    intro i hi
    unfold townW
    rw [List.append_assoc, List.getD_eq_getElem?_getD, List.getElem?_append_right (by rw [fl]; omega), fl, List.getElem?_append_right (by omega), ← List.getD_eq_getElem?_getD]
    congr 1
    omega
  -- the kernel's words
  have kc : ∀ i, i < 104 → (townW q given images).getD i 0 = (codeL ++ cells images.length q).getD i 0 := by
    intro i hi
    rw [pK i (by omega), f2 i (by omega)]
    unfold kernW
    rw [List.getD_eq_getElem?_getD, List.getElem?_append_left (by show i < 104; exact hi), ← List.getD_eq_getElem?_getD]
  have kz : ∀ i, 104 ≤ i → i < 104 + 16 * images.length → ((i - 104) % 16 < 3 ∨ 9 ≤ (i - 104) % 16) → (townW q given images).getD i 0 = 0 := by
    intro i hi hi2 hm
    rw [pK i hi2, f2 i (.inr (.inr ⟨hi, hm⟩))]
    unfold kernW
    rw [List.getD_eq_getElem?_getD, List.getElem?_append_right (by show 104 ≤ i; exact hi), List.getElem?_replicate]
    have : i - (codeL ++ cells images.length q).length < 16 * images.length := by
      show i - 104 < _
      omega
    rw [if_pos this]
    rfl
  have rc : ∀ j, j < images.length → ∀ i : Nat, i < 6 → memOf (townW q given images) (r j + 3 + (i : Int)) = ([gend given images.length + ((images.take j).flatten.length : Int), ((images.getD j []).length : Int), 1, 104 + 16 * (images.length : Int) + ((given.take j).flatten.length : Int), 104 + 16 * (images.length : Int) + ((given.take j).flatten.length : Int) + ((given.getD j []).length : Int), (j : Int)] : List Int).getD i 0 := by
    intro j hj i hi
    have hj' : j < given.length := by rw [h.same]; exact hj
    obtain ⟨hz, ez⟩ := zip_at h j hj
    have q1 := f3 j hz i hi
    rw [Nat.zero_add, ez] at q1
    have ea : r j + 3 + (i : Int) = ((104 + 16 * j + 3 + i : Nat) : Int) := by
      unfold r
      omega
    rw [ea, memOf_nat, pK _ (by omega), q1]
    have g1 : images.getD j [] = images[j] := by
      rw [List.getD_eq_getElem?_getD, List.getElem?_eq_getElem hj]
      rfl
    have g2 : given.getD j [] = given[j] := by
      rw [List.getD_eq_getElem?_getD, List.getElem?_eq_getElem hj']
      rfl
    rw [g1, g2]
  have cell : ∀ i : Nat, i < 104 → memOf (townW q given images) (i : Int) = (codeL ++ cells images.length q).getD i 0 := fun i hi => by rw [memOf_nat, kc i hi]
  have ki : KI (layOf given images me) (memOf (townW q given images)) [] := by
    refine ⟨fun k hk => ?_, cell 95 (by decide), cell 96 (by decide), cell 97 (by decide), cell 98 (by decide), cell 102 (by decide), cell 103 (by decide), fun j hj => ?_, fun j hj => ?_, fun j hj => ?_, fun j hj => ?_, fun k hk => ?_, ?_, ⟨0, rfl⟩⟩
    · rw [cell k (by omega), List.getD_eq_getElem?_getD, List.getElem?_append_left (by show k < 93; exact hk), ← List.getD_eq_getElem?_getD]
    · have q1 := rc j hj 0 (by decide)
      show _ = ((stretches given images images.length).getD j (0, 0)).1
      rw [st_at j hj]
      have e0 : r j + 3 + ((0 : Nat) : Int) = r j + 3 := Int.add_zero _
      rw [e0] at q1
      exact q1
    · have q1 := rc j hj 1 (by decide)
      have hj' : j < images.length := hj
      show _ = ((stretches given images images.length).getD j (0, 0)).2
      rw [st_at j hj]
      have e0 : r j + 3 + ((1 : Nat) : Int) = r j + 4 := by omega
      rw [e0] at q1
      rw [q1]
      show ((images.getD j []).length : Int) = (images[j].length : Int)
      rw [List.getD_eq_getElem?_getD, List.getElem?_eq_getElem hj']
      rfl
    · have q1 := rc j hj 5 (by decide)
      have e0 : r j + 3 + ((5 : Nat) : Int) = r j + 8 := by omega
      rw [e0] at q1
      exact q1
    · have q1 := rc j hj 2 (by decide)
      have e0 : r j + 3 + ((2 : Nat) : Int) = r j + 5 := by omega
      rw [e0] at q1
      exact .inr (.inl q1)
    · have gw : (layOf given images me).gw = given[me] := by
        show given.getD me [] = _
        rw [List.getD_eq_getElem?_getD, List.getElem?_eq_getElem hg]
        rfl
      have hk' : k < given[me].length := by rw [← gw]; exact hk
      have gb : (layOf given images me).gb = 104 + 16 * (images.length : Int) + ((given.take me).flatten.length : Int) := congrArg (·.1) (gv_at me hg images.length)
      have ef := flat_le given me hg
      have ea : (layOf given images me).gb + (k : Int) = ((104 + 16 * images.length + ((given.take me).flatten.length + k) : Nat) : Int) := by
        rw [gb]
        omega
      rw [ea, memOf_nat, pG _ (by omega), flat_at given me hg k hk', List.getD_eq_getElem?_getD, List.getElem?_eq_getElem hk']
      show given[me][k] = _
      simp only [gw]
    · have q1 := rc me h.me 4 (by decide)
      have e0 : r me + 3 + ((4 : Nat) : Int) = r me + 7 := by omega
      rw [e0] at q1
      show memOf (townW q given images) (r me + 7) = ((givens given images.length).getD me (0, 0)).1 + ((given.getD me []).length : Int)
      rw [q1, gv_at me hg]
      rfl
  refine ⟨ki, 0, ?_⟩
  have rm : r me = 104 + 16 * (me : Int) := rfl
  have z : ∀ o : Nat, o < 3 → memOf (townW q given images) (r me + (o : Int)) = 0 := by
    intro o ho
    have hm := h.me
    have ea : r me + (o : Int) = ((104 + 16 * me + o : Nat) : Int) := by
      rw [rm]
      omega
    rw [ea, memOf_nat]
    exact kz _ (by omega) (by omega) (by omega)
  have z0 : memOf (townW q given images) (r me) = 0 := by
    have q0 := z 0 (by decide)
    have e0 : r me + ((0 : Nat) : Int) = r me := Int.add_zero _
    rw [e0] at q0
    exact q0
  refine ⟨?_, rfl, fun k k0 k1 => ?_, fun _ => ⟨rfl, z0, z 1 (by decide), z 2 (by decide), Int.le_refl 0, (by decide : (0 : Int) < 4096), 0, Nat.zero_le _, ?_, rfl⟩⟩
  · have q1 := rc me h.me 2 (by decide)
    have e0 : r me + 3 + ((2 : Nat) : Int) = r me + 5 := by omega
    rw [e0] at q1
    exact q1
  · have hm := h.me
    obtain ⟨k, rfl⟩ : ∃ n : Nat, k = (n : Int) := ⟨k.toNat, by omega⟩
    have k1 : (k : Int) < ((stretches given images images.length).getD me (0, 0)).2 := k1
    rw [st_at me h.me] at k1
    have k2 : k < images[me].length := by
      have : (k : Int) < (images[me].length : Int) := k1
      omega
    have hb : (layOf given images me).b me = gend given images.length + ((images.take me).flatten.length : Int) := congrArg (·.1) (st_at me h.me)
    have ef := flat_le images me h.me
    show memOf (townW q given images) ((layOf given images me).b me + (k : Int)) = memOf (images.getD me []) (k : Int)
    have ea : (layOf given images me).b me + (k : Int) = ((104 + 16 * images.length + given.flatten.length + ((images.take me).flatten.length + k) : Nat) : Int) := by
      rw [hb]
      unfold gend
      omega
    have g1 : images.getD me [] = images[me] := by
      rw [List.getD_eq_getElem?_getD, List.getElem?_eq_getElem hm]
      rfl
    rw [ea, memOf_nat, memOf_nat, pI _ (by omega), flat_at images me h.me k k2, g1]
  · have q1 := rc me h.me 3 (by decide)
    have e0 : r me + 3 + ((3 : Nat) : Int) = r me + 6 := by omega
    rw [e0] at q1
    show memOf (townW q given images) (r me + 6) = ((givens given images.length).getD me (0, 0)).1 + ((0 : Nat) : Int)
    rw [q1, gv_at me hg]
    show _ = _ + (0 : Int)
    rw [Int.add_zero]
    rfl
end
end G3
set_option Elab.async false
set_option linter.all false
set_option maxRecDepth 100000
set_option maxHeartbeats 1000000
namespace G3
open PySem PySem.Spec PyProof.Rows L2
local macro_rules | `(tactic| walk_at "hp") => `(tactic| first | assumption | exact upd_same | (refine same_upd (by assumption) _ _ ?_; walk_at "hp") | (refine (‹Same _ _›) _ _ ?_; walk_at "hp"))
local macro_rules | `(tactic| walk_at "sm") => `(tactic| first | exact Same.refl _ | assumption | (refine Same.trans ?_ (same_upd (by assumption)); walk_at "sm") | (refine Same.trans ?_ (by assumption); walk_at "sm"))
/-! ### xs[a:c] = ys -/
def gSl (to : TE) (tl th : TO) : TG := fun v σ H Q => to σ H fun ov H1 => tl σ H1 fun l H2 => th σ H2 fun u H3 => ∃ (p b : Addr) (xs ys : List V) (a c : Int), ov = .ref p ∧ v = .ref b ∧ l = some a ∧ u = some c ∧ H3 p = some (.lst xs) ∧ H3 b = some (.lst ys) ∧ p ≠ b ∧
  0 ≤ a ∧ a ≤ c ∧ c ≤ xs.length ∧ xs.length + ys.length ≤ sizeLine ∧ Q σ (upd H3 p (.lst (xs.take a.toNat ++ ys ++ xs.drop c.toNat)))
theorem isPart_int {v : Value} {a : Int} (h : IsPart v (some a)) : RelV (.int a) v := by
  cases h
  exact ⟨_, rfl⟩
theorem pg_slice {X : Cx} {o : Expr} {lo hi : Option Expr} {to : TE} {tl th : TO} {p2 pos : Pos} (ho : PE X o to) (hl : PO X lo tl) (hu : PO X hi th)
    (ha : ∀ v, assign (.Subscript o (.Slice lo hi none p2) pos) X.env v = (do
      let ov ← holding [v] (eval o X.env)
      let iv ← holding [v, ov] (eval (.Slice lo hi none p2) X.env)
      standAt pos
      holding [v, ov, iv] (setItem ov iv v)
      release [iv, v, ov] []) := by intro _; rfl) : PG X (.Subscript o (.Slice lo hi none p2) pos) (gSl to tl th) := by
  refine ⟨fun pins s σ H v u Q I r h => ?_⟩
  rw [ha]
  refine wpAny_bind (wpAny_holding (thn (ho.run pins s σ H _ I h) fun ov s1 ⟨x, H1, I1, r1, q1⟩ => ?_))
  refine wpAny_bind (wpAny_holding ?_)
  refine wpAny_Slice (thn (hl.run pins s1 σ H1 _ I1 q1) fun vl s2 ⟨l, H2, I2, pl, q2⟩ => thn (hu.run pins s2 σ H2 _ I2 q2) fun vu s3 ⟨w', H3, I3, pu, q3⟩ => ?_)
  rw [evalPart_none]
  refine wpAny_pure ?_
  obtain ⟨p, b, xs, ys, a, c, rfl, rfl, rfl, rfl, hp, hb, hne, h0, h1, h2, h3, q⟩ := q3
  cases r1
  cases r
  have I4 : Inv X pins σ H3 { s3 with heap := s3.heap.push { cls := .type "slice", data := .fields #[vl, vu, .none] } } := I3.kept (t' := s3.toks) fun b ob q => Heap.get?_push_of_some _ q
  refine wpAny_bind (wpAny_standAt (wpAny_bind (wpAny_holding ?_)))
  exact set_slice I4 hp hb hne (Heap.IsSliceOf.new ..) (isPart_int pl) (isPart_int pu) h0 h1 h2 h3 fun s' I' => wpAny_release ⟨σ, _, I', q⟩
/-! ### rows of words, pairs -/
def RowsAt (H : Hp) : List V → List (List Int) → Prop
  | [], [] => True
  | .ref a :: rs, w :: ws => H a = some (.lst (w.map V.int)) ∧ RowsAt H rs ws
  | _, _ => False
theorem RowsAt.same {H H' : Hp} (e : Same H H') : ∀ {rs : List V} {ws : List (List Int)}, RowsAt H rs ws → RowsAt H' rs ws
  | [], [], _ => trivial
  | .ref p :: rs, w :: ws, h => ⟨e _ _ h.1, RowsAt.same e h.2⟩
theorem RowsAt.len {H : Hp} : ∀ {rs : List V} {ws : List (List Int)}, RowsAt H rs ws → rs.length = ws.length
  | [], [], _ => rfl
  | .ref p :: rs, w :: ws, h => congrArg (· + 1) (RowsAt.len h.2)
theorem RowsAt.get {H : Hp} : ∀ {rs : List V} {ws : List (List Int)} {i : Nat} {x : V}, RowsAt H rs ws → rs[i]? = some x → ∃ p w, x = .ref p ∧ ws[i]? = some w ∧ H p = some (.lst (w.map V.int))
  | [], [], _, _, _, e => by simp at e
  | .ref p :: rs, w :: ws, 0, x, h, e => ⟨p, w, (Option.some.inj e).symm, rfl, h.1⟩
  | .ref p :: rs, w :: ws, i + 1, x, h, e => RowsAt.get (i := i) h.2 e
theorem RowsAt.app {H : Hp} : ∀ {rs rs' : List V} {ws ws' : List (List Int)}, RowsAt H rs ws → RowsAt H rs' ws' → RowsAt H (rs ++ rs') (ws ++ ws')
  | [], _, [], _, _, h => h
  | .ref p :: rs, _, w :: ws, _, h, h' => ⟨h.1, RowsAt.app h.2 h'⟩
def PairsI (H : Hp) : List V → List (Int × Int) → Prop
  | [], [] => True
  | .ref p :: rs, (a, b) :: ps => H p = some (.tup [.int a, .int b]) ∧ PairsI H rs ps
  | _, _ => False
theorem PairsI.same {H H' : Hp} (e : Same H H') : ∀ {rs : List V} {ps : List (Int × Int)}, PairsI H rs ps → PairsI H' rs ps
  | [], [], _ => trivial
  | .ref p :: rs, (a, b) :: ps, h => ⟨e _ _ h.1, PairsI.same e h.2⟩
theorem PairsI.len {H : Hp} : ∀ {rs : List V} {ps : List (Int × Int)}, PairsI H rs ps → rs.length = ps.length
  | [], [], _ => rfl
  | .ref p :: rs, (a, b) :: ps, h => congrArg (· + 1) (PairsI.len h.2)
theorem PairsI.get {H : Hp} : ∀ {rs : List V} {ps : List (Int × Int)} {i : Nat} {x : V}, PairsI H rs ps → rs[i]? = some x → ∃ p a b, x = .ref p ∧ ps[i]? = some (a, b) ∧ H p = some (.tup [.int a, .int b])
  | [], [], _, _, _, e => by simp at e
  | .ref p :: rs, (a, b) :: ps, 0, x, h, e => ⟨p, a, b, (Option.some.inj e).symm, rfl, h.1⟩
  | .ref p :: rs, (a, b) :: ps, i + 1, x, h, e => PairsI.get (i := i) h.2 e
theorem PairsI.app {H : Hp} : ∀ {rs rs' : List V} {ws ws' : List (Int × Int)}, PairsI H rs ws → PairsI H rs' ws' → PairsI H (rs ++ rs') (ws ++ ws')
  | [], _, [], _, _, h => h
  | .ref p :: rs, _, (a, b) :: ws, _, h, h' => ⟨h.1, PairsI.app h.2 h'⟩
theorem PairsI.one {H : Hp} {p : Addr} {a b : Int} (h : H p = some (.tup [.int a, .int b])) : PairsI H [.ref p] [(a, b)] := ⟨h, trivial⟩
def sp_laid_behind (K : PySem.W.Frag) : Sp := fun vs H Q _ => ∃ (b : Int) (a : Addr) (rs : List V) (ws : List (List Int)), vs = [.int b, .ref a] ∧ H a = some (.lst rs) ∧ RowsAt H rs ws ∧ ws.length ≤ 1000 ∧
  ∀ p qs H', Same H H' → H p = none → H' p = some (.lst qs) → PairsI H' qs (laid b ws) → Q (.ref p) H'
def sp_fill_record (K : PySem.W.Frag) : Sp := fun vs H Q _ => ∃ (a p q : Addr) (ws : List Int) (rc : Nat) (n : Int) (st gv : Int × Int), vs = [.ref a, .int (rc : Int), .int n, .ref p, .ref q] ∧ H a = some (.lst (ws.map V.int)) ∧ H p = some (.tup [.int st.1, .int st.2]) ∧ H q = some (.tup [.int gv.1, .int gv.2]) ∧
  rc + 9 ≤ ws.length ∧ ws.length ≤ 10000 ∧ ∀ H', (∀ b o, b ≠ a → H b = some o → H' b = some o) → H' a = some (.lst ((fill ws rc n st gv).map V.int)) → Q .non H'
def sp_by_task (K : PySem.W.Frag) : Sp := fun vs H Q _ => ∃ (a : Addr) (t : List Int), vs = [.ref a] ∧ H a = some (.lst (t.map V.int)) ∧ t.length ≤ 100000 ∧ ∀ p qs ps H', Same H H' → H p = none → H' p = some (.lst qs) → PairsI H' qs ps → ps.length ≤ t.length →
  (∀ me : Nat, (ps.filter fun q => decide (q.1 = (me : Int))).map (·.2) = foc me t) → Q (.ref p) H'
def ends3 : List Str := ["ended", "going", "fault"]
def sp_ends_in (K : PySem.W.Frag) : Sp := fun vs H Q _ => ∃ (d : Addr) (m : Mem) (n T : Nat), vs = [.ref d, .int 104, .int (T : Int)] ∧ MemAt H d m n ∧ T ≤ 1000 ∧ (∀ j, j < T → m (r j + 5) = 0 ∨ m (r j + 5) = 1 ∨ m (r j + 5) = 2) ∧
  ∀ p H', Same H H' → H p = none → H' p = some (.lst ((List.range T).map fun j => V.str (ends3.getD (m (r j + 5)).toNat Str.empty))) → Q (.ref p) H'
theorem laid_snoc : ∀ (ws : List (List Int)) (b : Int) (w : List Int), laid b (ws ++ [w]) = laid b ws ++ [(b + (ws.flatten.length : Int), (w.length : Int))]
  | [], b, w => by
    show [(b, (w.length : Int))] = [(b + ((([] : List (List Int)).flatten.length : Nat) : Int), (w.length : Int))]
    rw [List.flatten_nil, List.length_nil]
    simp
  | a :: ws, b, w => by
    show (b, (a.length : Int)) :: laid (b + (a.length : Int)) (ws ++ [w]) = (b, (a.length : Int)) :: (laid (b + (a.length : Int)) ws ++ _)
    rw [laid_snoc ws, List.flatten_cons, List.length_append]
    congr 4
    omega
theorem take_snoc {α : Type} {l : List α} {i : Nat} {x : α} (h : l[i]? = some x) : l.take (i + 1) = l.take i ++ [x] := by
  rw [List.take_add_one, h]
  rfl
theorem flat_snoc (ws : List (List Int)) (w : List Int) : (ws ++ [w]).flatten.length = ws.flatten.length + w.length := by
  rw [List.flatten_append, List.length_append, List.flatten_cons, List.flatten_nil, List.append_nil]
section
variable {P : Program} {w : World} {K : PySem.W.Frag} {mg : Str → Option Value} {base : Heap}
theorem ok_laid_behind (T : Tx K mg) (Sr : Src K mg "laid_behind" s_laid_behind) : Def P w K mg base "laid_behind" 1 ["begin", "rows"] (sp_laid_behind K) := by
  refine Def.of Sr (fun f fd F => F.bindsN fun _ _ _ _ _ _ us hl => match us, hl with | [_, _], _ => rfl) fun f fd F => ok0 F sc_laid_behind (fun vs H Q E h => ?_) (fun cdv A outer s H vs Q E hr h => ?_)
  · obtain ⟨b, a, rs, ws, rfl, ha, hr', hl, k⟩ := h
    rfl
  · have hu := hu_of hr
    have nd := sc_laid_behind.nd
    obtain ⟨b, a, rs, ws, rfl, ha, hr', hl, k⟩ := h
    refine ⟨_, (pss_cons (ps_set (i := 2) nd rfl (Or.inl rfl) (pe_lst pa_nil))
      (pss_cons (ps_for PassesOwn.never rfl (pi_list (pv 1)) (pg_name (i := 3) nd rfl (Or.inl rfl)) (pss_cons (ps_expr (pe_bm PySem.F.plainAttrs_list PySem.F.slot_list_append PySem.F.type_list_append mt_append (pv 2) (pa_cons (pe_tup (pa_cons (pv 0) (pa_cons (pe_callB call_len_seq rfl T.b_len PySem.boot_len (pa_cons (pv 3) pa_nil)) pa_nil))) pa_nil)))
      (pss_one (ps_aug (i := 0) nd rfl (Or.inl rfl) (pe_callB call_len_seq rfl T.b_len PySem.boot_len (pa_cons (pv 3) pa_nil)) ip_add))))
      (pss_one (ps_ret (pv 2))))), ?_⟩
    refine ⟨Nat.zero_le _, fun f0 hf => ?_⟩
    refine ⟨_, rfl, a, rfl, ⟨_, sql (same_upd hf _ _ ha)⟩, for_list (K := K) (a := a) (xs := rs) (fun i σ H2 => ∃ (y3 : Option V) (qs : List V), σ = [some (.int (b + ((ws.take i).flatten.length : Int))), some (.ref a), some (.ref f0), y3] ∧ Same H H2 ∧ H2 f0 = some (.lst qs) ∧ PairsI H2 qs (laid b (ws.take i)))
      ⟨none, [], ?_, same_upd hf, upd_same, trivial⟩ (fun i σ H2 _ ⟨_, _, _, s2, _⟩ => sql (s2 _ _ ha)) ?_ ?_⟩
    · show [some (V.int b), _, _, _] = [some (V.int (b + ((([] : List (List Int)).flatten.length : Nat) : Int))), _, _, _]
      rw [List.flatten_nil, List.length_nil]
      simp
    · rintro i x σ H2 hi ⟨y3, qs, rfl, s2, hq, hp⟩
      obtain ⟨c, wd, rfl, hw, hc⟩ := hr'.get hi
      have hc2 : H2 c = some (.lst (wd.map V.int)) := s2 _ _ hc
      have hil : i < ws.length := (List.getElem?_eq_some_iff.mp hw).1
      have lq : qs.length = i := by
        rw [hp.len, laid_len, List.length_take]
        omega
      refine ⟨_, rfl, .inl ⟨rfl, _, sql hq⟩, _, rfl, _, rfl, c, _, rfl, .inl (sql hc2), sz rfl, fun t ht => ?_⟩
      have nft : f0 ≠ t := ne_of_none hq ht
      refine ⟨f0, qs, _, rfl, rfl, same_upd ht _ _ hq, small5 (by omega), ?_⟩
      have ncf : c ≠ f0 := fun z => by
        subst z
        rw [hc] at hf
        cases hf
      have hc3 : upd (upd H2 t (.tup [.int (b + ((ws.take i).flatten.length : Int)), .int ((wd.map V.int).length : Int)])) f0 (.lst (qs ++ [.ref t])) c = some (.lst (wd.map V.int)) := by
        rw [upd_ne ncf]
        exact same_upd ht _ _ hc2
      refine ⟨_, rfl, _, rfl, c, _, rfl, .inl (sql hc3), _, _, rfl, rfl, ?_⟩
      refine ⟨some (.ref c), qs ++ [.ref t], ?_, ((s2.trans (same_upd ht))).mut hf, upd_same, ?_⟩
      · rw [take_snoc hw, flat_snoc, List.length_map]
        show [some (V.int (b + ((ws.take i).flatten.length : Int) + (wd.length : Int))), _, _, _] = _
        rw [show b + ((ws.take i).flatten.length : Int) + (wd.length : Int) = b + (((ws.take i).flatten.length + wd.length : Nat) : Int) by omega]
      · rw [take_snoc hw, laid_snoc]
        have keep : ∀ p u, H2 p = some (.tup u) → upd (upd H2 t (.tup [.int (b + ((ws.take i).flatten.length : Int)), .int ((wd.map V.int).length : Int)])) f0 (.lst (qs ++ [.ref t])) p = some (.tup u) := fun p u h => by
          rw [upd_ne (ne_of h hq (by intro z; cases z))]
          exact same_upd ht _ _ h
        have hp2 : ∀ {rs : List V} {ps : List (Int × Int)}, PairsI H2 rs ps → PairsI (upd (upd H2 t (.tup [.int (b + ((ws.take i).flatten.length : Int)), .int ((wd.map V.int).length : Int)])) f0 (.lst (qs ++ [.ref t]))) rs ps := by
          intro rs
          induction rs with
          | nil => intro ps h; cases ps with
            | nil => trivial
            | cons _ _ => exact h
          | cons x rs ih => intro ps h; cases ps with
            | nil => cases x <;> exact h
            | cons q ps => cases x with
              | ref p => exact ⟨keep _ _ h.1, ih h.2⟩
              | _ => exact h
        refine (hp2 hp).app (PairsI.one ?_)
        rw [upd_ne nft.symm, upd_same, List.length_map]
    · rintro σ H2 ⟨y3, qs, rfl, s2, hq, hp⟩
      rw [hr'.len, List.take_length] at hp
      exact ⟨_, rfl, k f0 qs H2 s2 hf hq hp⟩
theorem ok_fill_record (T : Tx K mg) (Sr : Src K mg "fill_record" s_fill_record) : Def P w K mg base "fill_record" 1 ["words", "record", "number", "stretch", "given"] (sp_fill_record K) := by
  refine Def.of Sr (fun f fd F => F.bindsN fun _ _ _ _ _ _ us hl => match us, hl with | [_, _, _, _, _], _ => rfl) fun f fd F => ok0 F sc_fill_record (fun vs H Q E h => ?_) (fun cdv A outer s H vs Q E hr h => ?_)
  · obtain ⟨a, p, q, ws, rc, n, st, gv, rfl, ha, hp, hq, hl, hl2, k⟩ := h
    rfl
  · have hu := hu_of hr
    have nd := sc_fill_record.nd
    obtain ⟨a, p, q, ws, rc, n, st, gv, rfl, ha, hp, hq, hl, hl2, k⟩ := h
    refine ⟨_, (pss_one (ps_asg (pe_lst (pa_cons (pe_ix ix_tup (pv 3) pe_int (fun _ _ => rfl)) (pa_cons (pe_ix ix_tup (pv 3) pe_int (fun _ _ => rfl)) (pa_cons (pe_gi rfl T.c_GOING) (pa_cons (pe_ix ix_tup (pv 4) pe_int (fun _ _ => rfl)) (pa_cons (pe_op op_add (pe_ix ix_tup (pv 4) pe_int (fun _ _ => rfl)) (pe_ix ix_tup (pv 4) pe_int (fun _ _ => rfl))) (pa_cons (pv 2) pa_nil))))))) (pg_slice (pv 0) (po_some (pe_op op_add (pv 1) pe_int)) (po_some (pe_op op_add (pv 1) pe_int))))), ?_⟩
    refine ⟨_, rfl, _, _, _, _, rfl, rfl, sqt hp, rfl, ?_⟩
    refine ⟨_, rfl, _, _, _, _, rfl, rfl, sqt hp, rfl, ?_⟩
    refine ⟨_, rfl, _, _, _, _, rfl, rfl, sqt hq, rfl, ?_⟩
    refine ⟨_, rfl, _, _, _, _, rfl, rfl, sqt hq, rfl, _, rfl, _, _, _, _, rfl, rfl, sqt hq, rfl, _, _, rfl, rfl, ?_⟩
    refine ⟨_, rfl, sz rfl, fun f0 hf => ?_⟩
    have naf : a ≠ f0 := ne_of_none ha hf
    refine ⟨_, rfl, _, rfl, _, _, rfl, rfl, _, rfl, _, rfl, _, _, rfl, rfl, _, rfl, a, f0, _, _, _, _, rfl, rfl, rfl, rfl, same_upd hf _ _ ha, upd_same, naf, (by omega), (by omega), (by rw [List.length_map]; omega), ?_, ?_⟩
    · rw [List.length_map]
      exact Nat.le_of_lt (small5 (by show ws.length + 6 ≤ 200000; omega))
    · refine k _ (fun b o nb hb => by rw [upd_ne nb]; exact same_upd hf _ _ hb) ?_
      rw [upd_same]
      unfold fill
      rw [List.map_append, List.map_append, List.map_take, List.map_drop, List.append_assoc]
      have e1 : ((rc : Int) + 3).toNat = rc + 3 := by omega
      have e2 : ((rc : Int) + 9).toNat = rc + 9 := by omega
      rw [e1, e2]
      rfl
theorem foc_pairs : ∀ (me : Nat) (n : Nat) (t : List Int), t.length / 2 = n → (((List.range n).map fun k => (t.getD (2 * k) 0, t.getD (2 * k + 1) 0)).filter fun q => decide (q.1 = (me : Int))).map (·.2) = foc me t
  | me, 0, [], _ => rfl
  | me, 0, [a], _ => rfl
  | me, 0, a :: b :: t, h => by simp at h; omega
  | me, n + 1, [], h => by simp at h
  | me, n + 1, [a], h => by simp at h
  | me, n + 1, a :: b :: t, h => by
    have ih := foc_pairs me n t (by simp at h; omega)
    rw [List.range_succ_eq_map, List.map_cons, List.map_map]
    have e : ((fun k => ((a :: b :: t).getD (2 * k) 0, (a :: b :: t).getD (2 * k + 1) 0)) ∘ Nat.succ) = fun k => (t.getD (2 * k) 0, t.getD (2 * k + 1) 0) := by
      funext k
      show ((a :: b :: t).getD (2 * (k + 1)) 0, (a :: b :: t).getD (2 * (k + 1) + 1) 0) = _
      rw [show 2 * (k + 1) = 2 * k + 1 + 1 by omega]
      rfl
    rw [e]
    show (((a, b) :: _).filter _).map _ = if a = (me : Int) then b :: foc me t else foc me t
    rw [List.filter_cons]
    by_cases c : a = (me : Int)
    · rw [if_pos (decide_eq_true c), if_pos c, List.map_cons, ih]
    · rw [if_neg (by simp [c]), if_neg c, ih]
theorem getD_int {t : List Int} {i : Nat} (h : i < t.length) : (t.map V.int)[i]? = some (.int (t.getD i 0)) := by
  rw [List.getElem?_map, List.getElem?_eq_getElem h, List.getD_eq_getElem?_getD, List.getElem?_eq_getElem h]
  rfl
theorem size_two (n : Nat) : Builtin.Range.rangeSize 0 ((n : Int) - 1) 2 = ((n / 2 : Nat) : Int) := by
  unfold Builtin.Range.rangeSize
  simp only [show (2 : Int) > 0 by decide, if_true]
  split <;> omega
theorem rg_two {n : Nat} (h : n ≤ 100000) : RgC 0 ((n : Int) - 1) 2 (n / 2) := by
  refine ⟨by decide, by decide, ?_, size_two n⟩
  unfold Builtin.Range.small
  rw [size_two]
  simp only [Builtin.Range.rangeFitsLong, Bool.and_eq_true, Bool.or_eq_true, decide_eq_true_eq, beq_iff_eq, show (2 : Int) > 0 by decide, if_true]
  omega
theorem ok_by_task (T : Tx K mg) (Sr : Src K mg "by_task" s_by_task) : Def P w K mg base "by_task" 1 ["words"] (sp_by_task K) := by
  refine Def.of Sr (fun f fd F => F.bindsN fun _ _ _ _ _ _ us hl => match us, hl with | [_], _ => rfl) fun f fd F => ok0 F sc_by_task (fun vs H Q E h => ?_) (fun cdv A outer s H vs Q E hr h => ?_)
  · obtain ⟨a, t, rfl, ha, hl, k⟩ := h
    rfl
  · have hu := hu_of hr
    have nd := sc_by_task.nd
    obtain ⟨a, t, rfl, ha, hl, k⟩ := h
    refine ⟨_, (pss_one (ps_ret (pe_lc (own := [("k", 1)]) rfl nd (pi_range3 rfl T.b_range (pa_cons pe_int (pa_cons (pe_op op_sub (pe_callB call_len_seq rfl T.b_len PySem.boot_len (pa_cons (pv 0) pa_nil)) pe_int) (pa_cons pe_int pa_nil)))) (blkOk_by (N := N_by_task) (sc := defScope s_by_task) (by decide +kernel)) (fun _ _ _ _ _ => pg_name (i := 1) nd rfl (Or.inl rfl)) (fun _ _ _ _ _ => pts_nil) (fun _ _ _ _ _ => (pe_tup (pa_cons (pe_ix (ix_listK (K := K) rfl) (pv 0) (pv 1) (fun _ _ => rfl)) (pa_cons (pe_ix (ix_listK (K := K) rfl) (pv 0) (pe_op op_add (pv 1) pe_int) (fun _ _ => rfl)) pa_nil))))))), ?_⟩
    refine ⟨_, rfl, a, _, rfl, .inl (sql ha), _, _, rfl, rfl, ?_⟩
    rw [List.length_map]
    refine ⟨0, _, 2, t.length / 2, rfl, rg_two hl, ?_⟩
    intro D hD
    refine lc_it walk_rangeC (fun i H2 => ∃ qs, Same H H2 ∧ H2 D = some (.lst qs) ∧ PairsI H2 qs ((List.range i).map fun k => (t.getD (2 * k) 0, t.getD (2 * k + 1) 0))) ⟨[], same_upd hD, upd_same, trivial⟩ (fun _ _ _ _ => trivial) ?_ ?_
    · rintro i x H2 H3 hi ⟨qs, s2, hq, hp⟩ ⟨rfl, rfl⟩
      have ha3 : H3 a = some (.lst (t.map V.int)) := s2 _ _ ha
      have lq : qs.length = i := by
        rw [hp.len, List.length_map, List.length_range]
      refine ⟨rfl, ?_⟩
      refine ⟨_, rfl, _, rfl, a, _, _, _, rfl, rfl, sql ha3, at_of (j := 2 * i) (by omega) (getD_int (by omega)), ?_⟩
      refine ⟨_, rfl, _, rfl, _, _, rfl, rfl, a, _, _, _, rfl, rfl, sql ha3, at_of (j := 2 * i + 1) (by omega) (getD_int (by omega)), ?_⟩
      refine ⟨sz rfl, fun p hp2 => ?_⟩
      have nDp : D ≠ p := ne_of_none hq hp2
      refine ⟨qs, same_upd hp2 _ _ hq, small5 (by omega), qs ++ [.ref p], (s2.trans (same_upd hp2)).mut hD, upd_same, ?_⟩
      rw [List.range_succ, List.map_append]
      have hp3 : ∀ {rs : List V} {ps : List (Int × Int)}, PairsI H3 rs ps → PairsI (upd (upd H3 p (.tup [V.int (t.getD (2 * i) 0), V.int (t.getD (2 * i + 1) 0)])) D (.lst (qs ++ [.ref p]))) rs ps := by
        intro rs
        induction rs with
        | nil => intro ps h; cases ps with
          | nil => trivial
          | cons _ _ => exact h
        | cons x rs ih => intro ps h; cases ps with
          | nil => cases x <;> exact h
          | cons q ps => cases x with
            | ref p' => exact ⟨by rw [upd_ne (ne_of h.1 hq (by intro z; cases z))]; exact same_upd hp2 _ _ h.1, ih h.2⟩
            | _ => exact h
      refine (hp3 hp).app (PairsI.one ?_)
      rw [upd_ne nDp.symm, upd_same]
    · rintro H2 ⟨qs, s2, hq, hp⟩
      exact k D qs _ H2 s2 hD hq hp (by rw [List.length_map, List.length_range]; omega) fun me => foc_pairs me _ t rfl
theorem ok_ends_in (T : Tx K mg) (Sr : Src K mg "ends_in" s_ends_in) (c_ENDS : ∃ a, mg "ENDS" = some (.ref a) ∧ ∀ H : Hp, SqT K H a (ends3.map V.str)) : Def P w K mg base "ends_in" 1 ["memory", "table", "tasks"] (sp_ends_in K) := by
  obtain ⟨a_ENDS, g_ENDS, sE⟩ := c_ENDS
  refine Def.of Sr (fun f fd F => F.bindsN fun _ _ _ _ _ _ us hl => match us, hl with | [_, _, _], _ => rfl) fun f fd F => ok0 F sc_ends_in (fun vs H Q E h => ?_) (fun cdv A outer s H vs Q E hr h => ?_)
  · obtain ⟨d, m, n, nT, rfl, ⟨kvs, hd, hm, hl⟩, hT, hh, k⟩ := h
    rfl
  · have hu := hu_of hr
    have nd := sc_ends_in.nd
    obtain ⟨d, m, n, nT, rfl, ⟨kvs, hd, hm, hl⟩, hT, hh, k⟩ := h
    refine ⟨_, (pss_cons (ps_set (i := 3) nd rfl (Or.inl rfl) (pe_lst pa_nil))
      (pss_cons (ps_for PassesOwn.never rfl (pi_range1 rfl T.b_range (pa_cons (pv 2) pa_nil)) (pg_name (i := 4) nd rfl (Or.inl rfl)) (pss_cons (ps_set (i := 5) nd rfl (Or.inl rfl) (pe_dget2 hu (pv 0) (pe_op op_add (pe_op op_add (pv 1) (pe_op op_mul (pe_gi rfl T.c_RECORD) (pv 4))) (pe_gi rfl T.c_HOW)) (pe_gi rfl T.c_ENDED) ⟨rfl, rfl, rfl, rfl⟩))
      (pss_one (ps_expr (pe_bm PySem.F.plainAttrs_list PySem.F.slot_list_append PySem.F.type_list_append mt_append (pv 3) (pa_cons (pe_ix ix_tup (pe_glob (v := .ref a_ENDS) rfl g_ENDS rfl) (pv 5) (fun _ _ => rfl)) pa_nil))))))
      (pss_one (ps_ret (pv 3))))), ?_⟩
    refine ⟨Nat.zero_le _, fun f0 hf => ?_⟩
    have hd1 := same_upd (o := .lst []) hf _ _ hd
    refine ⟨_, rfl, _, rfl, (by omega), (by omega), ?_⟩
    refine for_it (n := ((nT : Int).toNat)) walk_range (fun i σ H2 => ∃ (y4 y5 : Option V), σ = [some (.ref d), some (.int 104), some (.int (nT : Int)), some (.ref f0), y4, y5] ∧ Same H H2 ∧ H2 f0 = some (.lst ((List.range i).map fun j => V.str (ends3.getD (m (r j + 5)).toNat Str.empty))))
      ⟨none, none, rfl, same_upd hf, upd_same⟩ (fun _ _ _ _ _ => trivial) ?_ ?_
    · rintro i x σ H2 H3 hi ⟨y4, y5, rfl, s2, hq⟩ ⟨rfl, rfl⟩
      have hi' : i < nT := by omega
      have hd3 : H3 d = some (.dK kvs) := s2 _ _ hd
      have e1 : (0 : Int) + (i : Int) = (i : Int) := Int.zero_add _
      refine ⟨_, rfl, d, rfl, .inl ⟨kvs, .inl hd3⟩, _, rfl, _, rfl, _, _, rfl, rfl, .inl ⟨by decide, by decide⟩, _, _, rfl, rfl, _, _, rfl, rfl, _, DGet.k (k := Sum.inl (104 + 16 * ((0 : Int) + (i : Int)) + 5)) hd3, ?_⟩
      rw [hm.look, e1]
      show tSeq _ _ _ _ _
      have er : (104 : Int) + 16 * (i : Int) + 5 = r i + 5 := rfl
      rw [er]
      have h3 := hh i hi'
      have cov : ∃ j : Nat, j < 3 ∧ m (r i + 5) = (j : Int) := by
        rcases h3 with h | h | h
        · exact ⟨0, by decide, h⟩
        · exact ⟨1, by decide, h⟩
        · exact ⟨2, by decide, h⟩
      obtain ⟨j, hj, ej⟩ := cov
      refine ⟨_, rfl, .inl ⟨rfl, _, sql hq⟩, _, rfl, a_ENDS, _, _, V.str (ends3.getD j Str.empty), rfl, rfl, sE _, at_of ej ?_, f0, _, _, rfl, rfl, hq, small5 (by rw [List.length_map, List.length_range]; omega), ?_⟩
      · match j, hj with
        | 0, _ => rfl
        | 1, _ => rfl
        | 2, _ => rfl
      · refine ⟨_, _, rfl, s2.mut hf, ?_⟩
        rw [upd_same, List.range_succ, List.map_append, List.map_singleton, ej]
        rfl
    · rintro σ H2 ⟨y4, y5, rfl, s2, hq⟩
      exact ⟨_, rfl, k f0 H2 s2 hf hq⟩
end
end G3
set_option Elab.async false
set_option linter.all false
set_option maxRecDepth 100000
set_option maxHeartbeats 1000000
namespace G3
open PySem PySem.Spec PyProof.Rows L2
local macro_rules | `(tactic| walk_at "hp") => `(tactic| first | assumption | exact upd_same | (refine same_upd (by assumption) _ _ ?_; walk_at "hp") | (refine (‹Same _ _›) _ _ ?_; walk_at "hp"))
local macro_rules | `(tactic| walk_at "sm") => `(tactic| first | exact Same.refl _ | assumption | (refine Same.trans ?_ (same_upd (by assumption)); walk_at "sm") | (refine Same.trans ?_ (by assumption); walk_at "sm"))
def sp_kernel_words (K : PySem.W.Frag) : Sp := fun vs H Q _ => ∃ (nT : Nat) (q : Int), vs = [.int (nT : Int), .int q] ∧ 2 ≤ nT ∧ nT ≤ 4 ∧ 1 ≤ q ∧ q ≤ 4095 ∧
  ∀ p a H', Same H H' → H a = none → H' a = some (.lst ((kernW nT q).map V.int)) → H' p = some (.tup [.ref a, .int 104]) → Q (.ref p) H'
structure TownArgs (H : Hp) (aI aG : Addr) (images given : List (List Int)) (q : Int) : Prop where
  im : ∃ rs, H aI = some (.lst rs) ∧ RowsAt H rs images
  gv : ∃ rs, H aG = some (.lst rs) ∧ RowsAt H rs given
  same : given.length = images.length
  t2 : 2 ≤ images.length
  t4 : images.length ≤ 4
  q1 : 1 ≤ q
  q2 : q ≤ 4095
  room : given.flatten.length + images.flatten.length ≤ 1000
theorem TownArgs.keep {H H' : Hp} {aI aG : Addr} {images given : List (List Int)} {q : Int} (e : Same H H') (h : TownArgs H aI aG images given q) : TownArgs H' aI aG images given q := by
  obtain ⟨⟨rs, h1, h2⟩, ⟨ts, h3, h4⟩, r1, r2, r3, r4, r5, r6⟩ := h
  exact ⟨⟨rs, e _ _ h1, h2.same e⟩, ⟨ts, e _ _ h3, h4.same e⟩, r1, r2, r3, r4, r5, r6⟩
def sp_town (K : PySem.W.Frag) : Sp := fun vs H Q _ => ∃ (aI aG : Addr) (images given : List (List Int)) (q : Int), vs = [.ref aI, .ref aG, .int q] ∧ TownArgs H aI aG images given q ∧
  ∀ p d st qs H', Same H H' → H' p = some (.tup [.ref d, .ref st]) → MemAt H' d (memOf (townW q given images)) 2000 → H' st = some (.lst qs) → PairsI H' qs (stretches given images images.length) → Q (.ref p) H'
theorem fillAll_snoc : ∀ (l : List ((Int × Int) × (Int × Int))) (k : Nat) (ws : List Int) (st gv : Int × Int), fillAll k (l ++ [(st, gv)]) ws = fill (fillAll k l ws) (104 + 16 * (k + l.length)) ((k + l.length : Nat) : Int) st gv
  | [], k, ws, st, gv => rfl
  | (a, b) :: l, k, ws, st, gv => by
    show fillAll (k + 1) (l ++ [(st, gv)]) (fill ws (104 + 16 * k) (k : Int) a b) = fill (fillAll (k + 1) l (fill ws (104 + 16 * k) (k : Int) a b)) _ _ st gv
    rw [fillAll_snoc l]
    have e : k + 1 + l.length = k + (l.length + 1) := by omega
    rw [e]
    rfl
theorem fillAll_len : ∀ (l : List ((Int × Int) × (Int × Int))) (k : Nat) (ws : List Int), 104 + 16 * (k + l.length) ≤ ws.length → (fillAll k l ws).length = ws.length := fun l k ws h => (fillAll_at l k ws h).1
theorem laid_last : ∀ (ws : List (List Int)) (b : Int), ws ≠ [] → ∃ x y, (laid b ws)[(laid b ws).length - 1]? = some (x, y) ∧ x + y = b + (ws.flatten.length : Int)
  | [], b, h => absurd rfl h
  | [w], b, h => ⟨b, (w.length : Int), rfl, by simp⟩
  | w :: v :: ws, b, h => by
    obtain ⟨x, y, e1, e2⟩ := laid_last (v :: ws) (b + (w.length : Int)) (by simp)
    refine ⟨x, y, ?_, ?_⟩
    · show ((b, (w.length : Int)) :: laid (b + (w.length : Int)) (v :: ws))[(laid (b + (w.length : Int)) (v :: ws)).length + 1 - 1]? = _
      have l : (laid (b + (w.length : Int)) (v :: ws)).length = ws.length + 1 := laid_len _ _
      rw [l] at e1 ⊢
      exact e1
    · rw [e2, List.flatten_cons (l := w), List.length_append]
      omega
theorem atI_neg1 {α : Type} {xs : List α} (h : 0 < xs.length) : atI xs (-1) = xs[xs.length - 1]? := by
  unfold atI ixN
  rw [if_neg (by decide), if_pos (by omega)]
  show xs[((-1 : Int) + (xs.length : Int)).toNat]? = _
  congr 1
  omega
theorem memOf_take {ws : List Int} {i : Nat} (h : i < ws.length) : memOf (ws.take (i + 1)) = put (memOf (ws.take i)) (i : Int) (ws.getD i 0) := by
  funext j
  show (if 0 ≤ j then (ws.take (i + 1)).getD j.toNat 0 else 0) = if j = (i : Int) then ws.getD i 0 else (if 0 ≤ j then (ws.take i).getD j.toNat 0 else 0)
  by_cases c : 0 ≤ j
  · rw [if_pos c, if_pos c]
    obtain ⟨n, rfl⟩ : ∃ n : Nat, j = (n : Int) := ⟨j.toNat, by omega⟩
    rw [Int.toNat_natCast, List.getD_eq_getElem?_getD, List.getD_eq_getElem?_getD, List.getD_eq_getElem?_getD]
    by_cases e : n = i
    · subst e
      rw [if_pos rfl, List.getElem?_take_of_lt (by omega)]
    · rw [if_neg (by omega)]
      by_cases l : n < i
      · rw [List.getElem?_take_of_lt (by omega), List.getElem?_take_of_lt l]
      · rw [List.getElem?_eq_none (by rw [List.length_take]; omega), List.getElem?_eq_none (by rw [List.length_take]; omega)]
  · rw [if_neg c, if_neg c, if_neg (by omega)]
theorem PairsI.at {H : Hp} {qs : List V} {ps : List (Int × Int)} {i : Nat} {a b : Int} (h : PairsI H qs ps) (e : ps[i]? = some (a, b)) : ∃ p, qs[i]? = some (.ref p) ∧ H p = some (.tup [.int a, .int b]) := by
  have hi : i < ps.length := (List.getElem?_eq_some_iff.mp e).1
  have hq : i < qs.length := by rw [h.len]; exact hi
  obtain ⟨p, c, d, e1, e2, e3⟩ := h.get (List.getElem?_eq_getElem hq)
  rw [e] at e2
  cases e2
  exact ⟨p, by rw [List.getElem?_eq_getElem hq, e1], e3⟩
/-- what a change of a list leaves -/
theorem RowsAt.but {H H' : Hp} {w : Addr} (e : ∀ b o, b ≠ w → H b = some o → H' b = some o) : ∀ {rs : List V} {ws : List (List Int)}, RowsAt H rs ws → (∀ p, (.ref p) ∈ rs → p ≠ w) → RowsAt H' rs ws
  | [], [], _, _ => trivial
  | .ref p :: rs, x :: ws, h, hn => ⟨e _ _ (hn p (List.mem_cons_self ..)) h.1, RowsAt.but e h.2 fun q hq => hn q (List.mem_cons_of_mem _ hq)⟩
theorem PairsI.but {H H' : Hp} {w : Addr} {xs : List V} (hw : H w = some (.lst xs)) (e : ∀ b o, b ≠ w → H b = some o → H' b = some o) : ∀ {rs : List V} {ws : List (Int × Int)}, PairsI H rs ws → PairsI H' rs ws
  | [], [], _ => trivial
  | .ref p :: rs, (a, b) :: ws, h => ⟨e _ _ (ne_of h.1 hw (by intro z; cases z)) h.1, PairsI.but hw e h.2⟩
section
variable {P : Program} {w : World} {K : PySem.W.Frag} {mg : Str → Option Value} {base : Heap}
theorem ok_town (T : Tx K mg) (Sr : Src K mg "town" s_town) (D_kernel_words : Def P w K mg base "kernel_words" 6 ["tasks", "quota"] (sp_kernel_words K)) (D_laid_behind : Def P w K mg base "laid_behind" 1 ["begin", "rows"] (sp_laid_behind K)) (D_fill_record : Def P w K mg base "fill_record" 1 ["words", "record", "number", "stretch", "given"] (sp_fill_record K)) : Def P w K mg base "town" 7 ["images", "given", "quota"] (sp_town K) := by
  obtain ⟨f_kernel_words, fd_kernel_words, g_kernel_words, k_kernel_words, b_kernel_words, G_kernel_words⟩ := D_kernel_words.ex
  obtain ⟨f_laid_behind, fd_laid_behind, g_laid_behind, k_laid_behind, b_laid_behind, G_laid_behind⟩ := D_laid_behind.ex
  obtain ⟨f_fill_record, fd_fill_record, g_fill_record, k_fill_record, b_fill_record, G_fill_record⟩ := D_fill_record.ex
  refine Def.of Sr (fun f fd F => F.bindsN fun _ _ _ _ _ _ us hl => match us, hl with | [_, _, _], _ => rfl) fun f fd F => ok0 F sc_town (fun vs H Q E h => ?_) (fun cdv A outer s H vs Q E hr h => ?_)
  · obtain ⟨aI, aG, images, given, q, rfl, ⟨⟨rsI, hI, rI⟩, ⟨rsG, hG, rG⟩, hsame, ht2, ht4, hq1, hq2, hroom⟩, k⟩ := h
    rfl
  · have hu := hu_of hr
    have nd := sc_town.nd
    have R_kernel_words : 6 ≤ 6 := by decide
    have R_laid_behind : 1 ≤ 6 := by decide
    have R_fill_record : 1 ≤ 6 := by decide
    obtain ⟨aI, aG, images, given, q, rfl, ⟨⟨rsI, hI, rI⟩, ⟨rsG, hG, rG⟩, hsame, ht2, ht4, hq1, hq2, hroom⟩, k⟩ := h
    refine ⟨_, (pss_cons (ps_asg (pe_call G_kernel_words (hr.mono R_kernel_words) rfl g_kernel_words k_kernel_words b_kernel_words .nil pass0 (pa_cons (pe_callB call_len_seq rfl T.b_len PySem.boot_len (pa_cons (pv 0) pa_nil)) (pa_cons (pv 2) pa_nil))) (pg_tup rfl (pgs_cons (pg_name (i := 3) nd rfl (Or.inl rfl)) (pgs_cons (pg_name (i := 4) nd rfl (Or.inl rfl)) pgs_nil))))
      (pss_cons (ps_set (i := 5) nd rfl (Or.inl rfl) (pe_call G_laid_behind (hr.mono R_laid_behind) rfl g_laid_behind k_laid_behind b_laid_behind .nil pass0 (pa_cons (pe_callB call_len_seq rfl T.b_len PySem.boot_len (pa_cons (pv 3) pa_nil)) (pa_cons (pv 1) pa_nil))))
      (pss_cons (ps_set (i := 6) nd rfl (Or.inl rfl) (pe_call G_laid_behind (hr.mono R_laid_behind) rfl g_laid_behind k_laid_behind b_laid_behind .nil pass0 (pa_cons (pe_op op_add (pe_ix ix_tup (pe_ix ix_list (pv 5) (pe_un un_neg pe_int) (fun _ _ => rfl)) pe_int (fun _ _ => rfl)) (pe_ix ix_tup (pe_ix ix_list (pv 5) (pe_un un_neg pe_int) (fun _ _ => rfl)) pe_int (fun _ _ => rfl))) (pa_cons (pv 0) pa_nil))))
      (pss_cons (ps_if (pt_cmpR op_ge (pe_op op_add (pe_ix ix_tup (pe_ix ix_list (pv 6) (pe_un un_neg pe_int) (fun _ _ => rfl)) pe_int (fun _ _ => rfl)) (pe_ix ix_tup (pe_ix ix_list (pv 6) (pe_un un_neg pe_int) (fun _ _ => rfl)) pe_int (fun _ _ => rfl))) (pe_gi rfl T.c_PLACES_machine) (nomark _)) (pss_one ps_never) pss_nil)
      (pss_cons (ps_for PassesOwn.never rfl (pi_enum rfl T.b_enumerate (pa_cons (pv 6) pa_nil)) (pg_tup rfl (pgs_cons (pg_name (i := 7) nd rfl (Or.inl rfl)) (pgs_cons (pg_name (i := 8) nd rfl (Or.inl rfl)) pgs_nil))) (pss_one (ps_expr (pe_call G_fill_record (hr.mono R_fill_record) rfl g_fill_record k_fill_record b_fill_record .nil pass0 (pa_cons (pv 3) (pa_cons (pe_op op_add (pv 4) (pe_op op_mul (pe_gi rfl T.c_RECORD) (pv 7))) (pa_cons (pv 7) (pa_cons (pv 8) (pa_cons (pe_ix ix_list (pv 5) (pv 7) (fun _ _ => rfl)) pa_nil)))))))))
      (pss_cons (ps_for PassesOwn.never rfl (pi_list (pe_op op_cat (pv 1) (pv 0))) (pg_name (i := 9) nd rfl (Or.inl rfl)) (pss_one (ps_expr (pe_bm PySem.F.plainAttrs_list PySem.F.slot_list_extend PySem.F.type_list_extend mt_extend (pv 3) (pa_cons (pv 9) pa_nil)))))
      (pss_cons (ps_set (i := 10) nd rfl (Or.inl rfl) pe_dnewK)
      (pss_cons (ps_for PassesOwn.never rfl (pi_enum rfl T.b_enumerate (pa_cons (pv 3) pa_nil)) (pg_tup rfl (pgs_cons (pg_name (i := 11) nd rfl (Or.inl rfl)) (pgs_cons (pg_name (i := 12) nd rfl (Or.inl rfl)) pgs_nil))) (pss_one (ps_dput hu (pv 10) (pv 11) (pv 12) rfl)))
      (pss_one (ps_ret (pe_tup (pa_cons (pv 10) (pa_cons (pv 6) pa_nil))))))))))))), ?_⟩
    have lI : rsI.length = images.length := rI.len
    have lG : rsG.length = given.length := rG.len
    refine ⟨_, rfl, aI, _, rfl, .inl (sql hI), _, rfl, images.length, q, by rw [lI]; rfl, ht2, ht4, hq1, hq2, fun p0 aw H1 e1 naw hw hp0 => ?_⟩
    refine ⟨p0, _, rfl, sqt hp0, rfl, _, _, rfl, _, _, rfl, rfl, ?_⟩
    have kl : (kernW images.length q).length = 104 + 16 * images.length := kernW_len _ _
    -- givens
    refine ⟨_, rfl, aw, _, rfl, .inl (sql hw), _, rfl, _, aG, rsG, given, rfl, e1 _ _ hG, rG.same e1, by omega, fun ag qg H2 e2 nag hag pg => ?_⟩
    rw [List.length_map, kl] at pg
    have pg : PairsI H2 qg (givens given images.length) := by
      have : ((104 + 16 * images.length : Nat) : Int) = 104 + 16 * (images.length : Int) := by omega
      rw [this] at pg
      exact pg
    obtain ⟨gx, gy, ge, gs⟩ := laid_last given (104 + 16 * (images.length : Int)) (by intro z; rw [z] at hsame; simp at hsame; omega)
    have gl : (givens given images.length).length = images.length := (laid_len _ _).trans hsame
    obtain ⟨lg, elg, hlg⟩ := pg.at ge
    have lqg : qg.length = images.length := pg.len.trans gl
    have atg : atI qg (-1) = some (.ref lg) := by
      rw [atI_neg1 (by omega), lqg, ← gl]
      exact elg
    -- stretches
    refine ⟨_, rfl, _, rfl, ag, qg, _, _, rfl, rfl, sql hag, atg, _, _, _, _, rfl, rfl, sqt hlg, rfl, ?_⟩
    refine ⟨_, rfl, _, rfl, ag, qg, _, _, rfl, rfl, sql hag, atg, _, _, _, _, rfl, rfl, sqt hlg, rfl, _, _, rfl, rfl, ?_⟩
    have eI2 := e2 _ _ (e1 _ _ hI)
    refine ⟨_, rfl, _, aI, rsI, images, rfl, eI2, (rI.same e1).same e2, by omega, fun ast qs H3 e3 nast hast ps => ?_⟩
    rw [gs] at ps
    have ps : PairsI H3 qs (stretches given images images.length) := ps
    obtain ⟨sx, sy, se, ss⟩ := laid_last images (gend given images.length) (by intro z; rw [z] at ht2; simp at ht2)
    have sl : (stretches given images images.length).length = images.length := laid_len _ _
    obtain ⟨ls, els, hls⟩ := ps.at se
    have lqs : qs.length = images.length := ps.len.trans sl
    have ats : atI qs (-1) = some (.ref ls) := by
      rw [atI_neg1 (by omega), lqs, ← sl]
      exact els
    -- room
    refine ⟨_, rfl, _, rfl, ast, qs, _, _, rfl, rfl, sql hast, ats, _, _, _, _, rfl, rfl, sqt hls, rfl, ?_⟩
    refine ⟨_, rfl, _, rfl, ast, qs, _, _, rfl, rfl, sql hast, ats, _, _, _, _, rfl, rfl, sqt hls, rfl, _, _, rfl, rfl, _, _, rfl, rfl, _, rfl, if_dec (fun c => ?_) (fun c => ?_)⟩
    · rw [ss] at c
      unfold gend at c
      omega
    -- for k, stretch in enumerate(stretches)
    have hwn : H aw = none := naw
    have e13 : Same H1 H3 := e2.trans e3
    have e03 : Same H H3 := e1.trans e13
    have hw3 : H3 aw = some (.lst ((kernW images.length q).map V.int)) := e13 _ _ hw
    have hag3 : H3 ag = some (.lst qg) := e3 _ _ hag
    have n_ag : ag ≠ aw := fun z => by
      subst z
      rw [hw] at nag
      cases nag
    have n_ast : ast ≠ aw := fun z => by
      subst z
      rw [e2 _ _ hw] at nast
      cases nast
    have n_I : aI ≠ aw := fun z => by
      subst z
      rw [hI] at naw
      cases naw
    have n_G : aG ≠ aw := fun z => by
      subst z
      rw [hG] at naw
      cases naw
    have rIn : ∀ p, (V.ref p) ∈ rsI → p ≠ aw := fun p hp z => by
      subst z
      obtain ⟨i, hi⟩ := List.getElem?_of_mem hp
      obtain ⟨c, wd, e, _, hc⟩ := rI.get hi
      cases e
      rw [hc] at naw
      cases naw
    have rGn : ∀ p, (V.ref p) ∈ rsG → p ≠ aw := fun p hp z => by
      subst z
      obtain ⟨i, hi⟩ := List.getElem?_of_mem hp
      obtain ⟨c, wd, e, _, hc⟩ := rG.get hi
      cases e
      rw [hc] at naw
      cases naw
    have zl : ((stretches given images images.length).zip (givens given images.length)).length = images.length := by
      rw [List.length_zip, sl, gl]
      omega
    refine ⟨_, rfl, ast, qs, rfl, sql hast, ?_⟩
    refine for_it (walk_enum (xs := qs)) (fun i σ H4 => ∃ y7 y8, σ = [some (.ref aI), some (.ref aG), some (.int q), some (.ref aw), some (.int 104), some (.ref ag), some (.ref ast), y7, y8, none, none, none, none] ∧
        (∀ b o, b ≠ aw → H3 b = some o → H4 b = some o) ∧ H4 aw = some (.lst ((fillAll 0 (((stretches given images images.length).zip (givens given images.length)).take i) (kernW images.length q)).map V.int)))
      ⟨none, none, rfl, fun b o _ h => h, hw3⟩ (fun i σ H4 _ ⟨_, _, _, s4, _⟩ => sql (s4 _ _ n_ast hast)) ?_ ?_
    · rintro i x σ H4 H5 hi ⟨y7, y8, rfl, s4, hw4⟩ ⟨T', kx, sx', rfl, nT', rfl, ek, es⟩
      cases ek
      obtain ⟨sp, sa, sb, rfl, esp, hsp⟩ := ps.get es
      have hiT : i < images.length := by omega
      have hig : i < (givens given images.length).length := by omega
      obtain ⟨gp, egp, hgp⟩ := pg.at (i := i) (a := ((givens given images.length)[i]).1) (b := ((givens given images.length)[i]).2) (by rw [List.getElem?_eq_getElem hig])
      have hsp4 : H4 sp = some (.tup [.int sa, .int sb]) := s4 _ _ (ne_of hsp hw3 (by intro z; cases z)) hsp
      have hgp3 : H3 gp = some (.tup [.int ((givens given images.length)[i]).1, .int ((givens given images.length)[i]).2]) := e3 _ _ hgp
      have hgp4 := s4 _ _ (ne_of hgp3 hw3 (by intro z; cases z)) hgp3
      have hag4 : H4 ag = some (.lst qg) := s4 _ _ n_ag hag3
      have s5 := same_upd (o := .tup [V.int (i : Nat), V.ref sp]) nT'
      refine ⟨T', _, rfl, sqt upd_same, rfl, _, _, rfl, _, _, rfl, rfl, ?_⟩
      refine ⟨_, rfl, _, rfl, _, rfl, _, _, rfl, rfl, .inl ⟨by decide, by decide⟩, _, _, rfl, rfl, _, rfl, _, rfl, _, rfl, _, rfl, ag, qg, _, _, rfl, rfl, sql (s5 _ _ hag4), at_of rfl egp, ?_⟩
      have zt : (((stretches given images images.length).zip (givens given images.length)).take i).length = i := by rw [List.length_take, zl]; omega
      have fl := fillAll_len (((stretches given images images.length).zip (givens given images.length)).take i) 0 (kernW images.length q) (by rw [zt, kl]; omega)
      have ez : ((stretches given images images.length).zip (givens given images.length))[i]? = some ((sa, sb), ((givens given images.length)[i])) := by
        rw [List.getElem?_zip_eq_some]
        exact ⟨esp, List.getElem?_eq_getElem hig⟩
      refine ⟨aw, sp, gp, fillAll 0 (((stretches given images images.length).zip (givens given images.length)).take i) (kernW images.length q), 104 + 16 * i, (i : Int), (sa, sb), ((givens given images.length)[i]), ?_, s5 _ _ hw4, s5 _ _ hsp4, s5 _ _ hgp4, by rw [fl, kl]; omega, by rw [fl, kl]; omega, fun H6 s6 hw6 => ?_⟩
      · have : ((104 + 16 * i : Nat) : Int) = 104 + 16 * (i : Int) := by omega
        rw [this]
        rfl
      · refine ⟨_, _, rfl, fun b o nb hb => s6 b o nb (s5 _ _ (s4 b o nb hb)), ?_⟩
        rw [hw6, take_snoc ez, fillAll_snoc, zt, Nat.zero_add]
    rintro σ H4 ⟨y7, y8, rfl, s4, hw4⟩
    rw [lqs, List.take_of_length_le (by rw [zl]; exact Nat.le_refl _)] at hw4
    -- for row in given + images
    have hI4 : H4 aI = some (.lst rsI) := s4 _ _ n_I (e03 _ _ hI)
    have hG4 : H4 aG = some (.lst rsG) := s4 _ _ n_G (e03 _ _ hG)
    have rI4 : RowsAt H4 rsI images := (rI.same e03).but s4 rIn
    have rG4 : RowsAt H4 rsG given := (rG.same e03).but s4 rGn
    have ps4 : PairsI H4 qs (stretches given images images.length) := ps.but hw3 s4
    have hast4 : H4 ast = some (.lst qs) := s4 _ _ n_ast hast
    have keep4 : Same H H4 := fun b o hb => s4 b o (ne_of_none hb hwn) (e03 _ _ hb)
    generalize hW : fillAll 0 ((stretches given images images.length).zip (givens given images.length)) (kernW images.length q) = W at hw4
    have lW : W.length = 104 + 16 * images.length := by
      rw [← hW, fillAll_len _ _ _ (by rw [zl, kl]; omega), kl]
    refine ⟨_, rfl, _, rfl, aG, aI, _, _, rfl, rfl, hG4, hI4, by rw [lI, lG]; exact Nat.le_of_lt (small1000 (by omega)), fun cat ncat => ?_⟩
    have s5 := same_upd (o := .lst (rsG ++ rsI)) ncat
    have n_cat : cat ≠ aw := fun z => by
      subst z
      rw [hw4] at ncat
      cases ncat
    have rc5 := (rG4.same s5).app (rI4.same s5)
    refine ⟨cat, rfl, ⟨_, sql upd_same⟩, for_list (K := K) (a := cat) (xs := rsG ++ rsI) (fun i σ H6 => ∃ y9, σ = [some (.ref aI), some (.ref aG), some (.int q), some (.ref aw), some (.int 104), some (.ref ag), some (.ref ast), y7, y8, y9, none, none, none] ∧
        (∀ b o, b ≠ aw → H4 b = some o → H6 b = some o) ∧ H6 cat = some (.lst (rsG ++ rsI)) ∧ H6 aw = some (.lst ((W ++ ((given ++ images).take i).flatten).map V.int)))
      ⟨none, rfl, fun b o _ h => s5 _ _ h, upd_same, by rw [List.take_zero, List.flatten_nil, List.append_nil]; exact s5 _ _ hw4⟩ (fun i σ H6 _ h6 => by obtain ⟨_, _, _, h, _⟩ := h6; exact sql h) ?_ ?_⟩
    · rintro i x σ H6 hi ⟨y9, rfl, s6, hc6, hw6⟩
      have hx : ∃ c wd, x = V.ref c ∧ (given ++ images)[i]? = some wd ∧ H4 c = some (.lst (wd.map V.int)) ∧ c ≠ aw := by
        by_cases il : i < rsG.length
        · rw [List.getElem?_append_left il] at hi
          obtain ⟨c, wd, e, ew, hc⟩ := rG4.get hi
          subst e
          exact ⟨c, wd, rfl, by rw [List.getElem?_append_left (by omega)]; exact ew, hc, rGn c (List.mem_of_getElem? hi)⟩
        · rw [List.getElem?_append_right (by omega)] at hi
          obtain ⟨c, wd, e, ew, hc⟩ := rI4.get hi
          subst e
          exact ⟨c, wd, rfl, by rw [List.getElem?_append_right (by omega), ← lG]; exact ew, hc, rIn c (List.mem_of_getElem? hi)⟩
      obtain ⟨c, wd, rfl, ew, hc, nc⟩ := hx
      have hc6' : H6 c = some (.lst (wd.map V.int)) := s6 _ _ nc hc
      have fle : (W ++ ((given ++ images).take i).flatten).length + wd.length ≤ 2000 := by
        have q1 : ((given ++ images).take (i + 1)).flatten.length ≤ (given ++ images).flatten.length := by
          have h1 : (given ++ images).flatten = ((given ++ images).take (i + 1)).flatten ++ ((given ++ images).drop (i + 1)).flatten := by
            rw [← List.flatten_append, List.take_append_drop]
          rw [h1, List.length_append]
          omega
        rw [take_snoc ew, flat_snoc, List.flatten_append, List.length_append] at q1
        rw [List.length_append]
        omega
      refine ⟨_, rfl, .inl ⟨rfl, _, sql hw6⟩, _, rfl, aw, c, _, _, rfl, rfl, hw6, hc6', ?_, ?_⟩
      · rw [List.length_map, List.length_map]
        exact Nat.le_of_lt (small5 (by omega))
      · refine ⟨_, rfl, fun b o nb hb => by rw [upd_ne nb]; exact s6 b o nb hb, by rw [upd_ne n_cat]; exact hc6, ?_⟩
        rw [upd_same, take_snoc ew, List.flatten_append, List.flatten_cons, List.flatten_nil, List.append_nil, ← List.append_assoc, List.map_append (l₂ := wd)]
    rintro σ H6 ⟨y9, rfl, s6, hc6, hw6⟩
    have lcat : (rsG ++ rsI).length = (given ++ images).length := by rw [List.length_append, List.length_append, lI, lG]
    rw [lcat, List.take_length, List.flatten_append, ← List.append_assoc] at hw6
    have eT : W ++ given.flatten ++ images.flatten = townW q given images := by
      rw [← hW]
      rfl
    rw [eT] at hw6
    have lT : (townW q given images).length ≤ 2000 := by
      rw [← eT, List.length_append, List.length_append]
      omega
    -- memory = {}
    intro d nd'
    have n_d : aw ≠ d := fun z => by
      subst z
      rw [hw6] at nd'
      cases nd'
    have s7 := same_upd (o := .dK []) nd'
    refine ⟨_, rfl, aw, _, rfl, sql (s7 _ _ hw6), ?_⟩
    have keep6 : Same H H6 := fun b o hb => s6 b o (ne_of_none hb hwn) (keep4 _ _ hb)
    have nd0 : H d = none := keep6.free nd'
    have hast6 : H6 ast = some (.lst qs) := s6 _ _ n_ast hast4
    have ps6 : PairsI H6 qs (stretches given images images.length) := ps4.but hw4 s6
    refine for_it (walk_enum (xs := (townW q given images).map V.int)) (fun i σ H8 => ∃ y11 y12, σ = [some (.ref aI), some (.ref aG), some (.int q), some (.ref aw), some (.int 104), some (.ref ag), some (.ref ast), y7, y8, y9, some (.ref d), y11, y12] ∧
        (∀ b o, b ≠ d → H6 b = some o → H8 b = some o) ∧ ∃ kvs, H8 d = some (.dK kvs) ∧ MemIs kvs (memOf ((townW q given images).take i)) ∧ kvs.length ≤ i)
      ⟨none, none, rfl, fun b o nb h => by rw [upd_ne nb]; exact h, [], upd_same, ⟨fun q hq => by simp at hq, fun n => ?_⟩, Nat.le_refl _⟩ (fun i σ H8 _ h8 => by obtain ⟨_, _, _, h, _⟩ := h8; exact sql (h _ _ n_d hw6)) ?_ ?_
    · show V.int 0 = V.int (memOf [] n)
      unfold memOf
      split <;> rfl
    · rintro i x σ H8 H9 hi ⟨y11, y12, rfl, s8, kvs, hd8, hm8, hl8⟩ ⟨T', kx, wx, rfl, nT', rfl, ek, ew⟩
      cases ek
      rw [List.length_map] at hi
      have ew2 := getD_int (t := townW q given images) hi
      have ew3 := ew.symm.trans ew2
      cases ew3
      refine ⟨T', _, rfl, sqt upd_same, rfl, _, _, rfl, _, _, rfl, rfl, ?_⟩
      have n_T : d ≠ T' := ne_of_none hd8 nT'
      refine ⟨_, rfl, _, rfl, _, rfl, d, _, rfl, DPut.k (k := Sum.inl (i : Int)) (by rw [upd_ne n_T]; exact hd8) (small5 (by omega)), ?_⟩
      refine ⟨_, _, rfl, fun b o nb hb => ?_, _, upd_same, ?_, Nat.le_trans (putK_len _ _ _) (by omega)⟩
      · rw [upd_ne nb]
        exact same_upd nT' _ _ (s8 b o nb hb)
      · rw [memOf_take hi]
        exact hm8.put _ _
    rintro σ H8 ⟨y11, y12, rfl, s8, kvs, hd8, hm8, hl8⟩
    rw [List.length_map] at hm8 hl8
    rw [List.take_length] at hm8
    refine ⟨_, rfl, _, rfl, sz rfl, fun p hp => ?_⟩
    have n_ast_d : ast ≠ d := ne_of_none hast6 nd'
    have ps8 : PairsI H8 qs (stretches given images images.length) := by
      have go : ∀ {rs : List V} {ws : List (Int × Int)}, PairsI H6 rs ws → PairsI H8 rs ws := by
        intro rs
        induction rs with
        | nil => intro ws h; cases ws with
          | nil => trivial
          | cons _ _ => exact h
        | cons x rs ih => intro ws h; cases ws with
          | nil => cases x <;> exact h
          | cons q ws => cases x with
            | ref p' => exact ⟨s8 _ _ (ne_of_none h.1 nd') h.1, ih h.2⟩
            | _ => exact h
      exact go ps6
    have keep8 : Same H H8 := fun b o hb => s8 b o (ne_of_none hb nd0) (keep6 _ _ hb)
    exact k p d ast qs _ (keep8.trans (same_upd hp)) upd_same ⟨kvs, same_upd hp _ _ hd8, hm8, by omega⟩ (same_upd hp _ _ (s8 _ _ n_ast_d hast6)) (ps8.same (same_upd hp))
end
end G3
set_option Elab.async false
set_option linter.all false
set_option maxRecDepth 100000
set_option maxHeartbeats 1000000
namespace G3
open PySem PySem.Spec PyProof.Rows L2
local macro_rules | `(tactic| walk_at "hp") => `(tactic| first | assumption | exact upd_same | (refine same_upd (by assumption) _ _ ?_; walk_at "hp") | (refine (‹Same _ _›) _ _ ?_; walk_at "hp"))
local macro_rules | `(tactic| walk_at "sm") => `(tactic| first | exact Same.refl _ | assumption | (refine Same.trans ?_ (same_upd (by assumption)); walk_at "sm") | (refine Same.trans ?_ (by assumption); walk_at "sm"))
def ranC (b : Nat) (q : Int) (given images : List (List Int)) : S × Mem × List Int := runC b ⟨0, 0, 0, 0, 0, 0, 0, 0, 0, 0, 0, 0, 0, 0, 0⟩ (memOf (townW q given images)) []
theorem runC_told : ∀ (n : Nat) (s : S) (m : Mem) (t : List Int), (runC n s m t).2.2.length ≤ t.length + n
  | 0, s, m, t => Nat.le_refl _
  | n + 1, s, m, t => by
    by_cases c : s.h = 0
    · have e : runC (n + 1) s m t = runC n (stepS s m) (stepM s m) (stepT s m t) := if_pos c
      rw [e]
      have h1 := runC_told n (stepS s m) (stepM s m) (stepT s m t)
      have h2 := stepT_len s m t
      omega
    · have e : runC (n + 1) s m t = (s, m, t) := if_neg c
      rw [e]
      show t.length ≤ _
      omega
theorem TownArgs.ok {H : Hp} {aI aG : Addr} {images given : List (List Int)} {q : Int} (h : TownArgs H aI aG images given q) {me : Nat} (hm : me < images.length) : TownOk given images me :=
  ⟨h.same, hm, by have := h.t4; omega, by have := h.t4; have := h.room; omega⟩
theorem ran_good {given images : List (List Int)} {me : Nat} (h : TownOk given images me) (b : Nat) (q : Int) : Good (layOf given images me) (ranC b q given images).2.1 (ranC b q given images).2.2 :=
  (boot (lay_ok h) b (town_ki h).1 (town_ki h).2).run
def sp_town_run (K : PySem.W.Frag) : Sp := fun vs H Q _ => ∃ (aI aG : Addr) (images given : List (List Int)) (q : Int) (b : Nat), vs = [.ref aI, .ref aG, .int q, .int (b : Int)] ∧ TownArgs H aI aG images given q ∧ b ≤ 1000 ∧
  ∀ p at' qs ps ae am tr H', Same H H' → H' p = some (.tup [.ref at', .ref ae, .ref am, .ref tr]) → H' at' = some (.lst qs) → PairsI H' qs ps → ps.length ≤ 1000 →
  (∀ me : Nat, (ps.filter fun q => decide (q.1 = (me : Int))).map (·.2) = foc me (ranC b q given images).2.2) →
  H' ae = some (.lst ((List.range images.length).map fun j => V.str (ends3.getD ((ranC b q given images).2.1 (r j + 5)).toNat Str.empty))) →
  MemAt H' am (ranC b q given images).2.1 3000 → Q (.ref p) H'
section
variable {P : Program} {w : World} {K : PySem.W.Frag} {mg : Str → Option Value} {base : Heap}
theorem ok_town_run (T : Tx K mg) (Sr : Src K mg "town_run" s_town_run) (D_town : Def P w K mg base "town" 7 ["images", "given", "quota"] (sp_town K)) (D_first_state : Def P w K mg base "first_state" 1 [] (sp_first_state K)) (D_run : Def P w K mg base "run" 7 ["state", "memory", "beats"] (sp_run K)) (D_kernel_words : Def P w K mg base "kernel_words" 6 ["tasks", "quota"] (sp_kernel_words K)) (D_by_task : Def P w K mg base "by_task" 1 ["words"] (sp_by_task K)) (D_ends_in : Def P w K mg base "ends_in" 1 ["memory", "table", "tasks"] (sp_ends_in K)) : Def P w K mg base "town_run" 8 ["images", "given", "quota", "beats"] (sp_town_run K) := by
  obtain ⟨f_town, fd_town, g_town, k_town, b_town, G_town⟩ := D_town.ex
  obtain ⟨f_first_state, fd_first_state, g_first_state, k_first_state, b_first_state, G_first_state⟩ := D_first_state.ex
  obtain ⟨f_run, fd_run, g_run, k_run, b_run, G_run⟩ := D_run.ex
  obtain ⟨f_kernel_words, fd_kernel_words, g_kernel_words, k_kernel_words, b_kernel_words, G_kernel_words⟩ := D_kernel_words.ex
  obtain ⟨f_by_task, fd_by_task, g_by_task, k_by_task, b_by_task, G_by_task⟩ := D_by_task.ex
  obtain ⟨f_ends_in, fd_ends_in, g_ends_in, k_ends_in, b_ends_in, G_ends_in⟩ := D_ends_in.ex
  refine Def.of Sr (fun f fd F => F.bindsN fun _ _ _ _ _ _ us hl => match us, hl with | [_, _, _, _], _ => rfl) fun f fd F => ok0 F sc_town_run (fun vs H Q E h => ?_) (fun cdv A outer s H vs Q E hr h => ?_)
  · obtain ⟨aI, aG, images, given, q, b, rfl, ha, hb, k⟩ := h
    rfl
  · have hu := hu_of hr
    have nd := sc_town_run.nd
    have R_town : 7 ≤ 7 := by decide
    have R_first_state : 1 ≤ 7 := by decide
    have R_run : 7 ≤ 7 := by decide
    have R_kernel_words : 6 ≤ 7 := by decide
    have R_by_task : 1 ≤ 7 := by decide
    have R_ends_in : 1 ≤ 7 := by decide
    obtain ⟨aI, aG, images, given, q, b, rfl, ha, hb, k⟩ := h
    refine ⟨_, (pss_cons (ps_asg (pe_call G_town (hr.mono R_town) rfl g_town k_town b_town .nil pass0 (pa_cons (pv 0) (pa_cons (pv 1) (pa_cons (pv 2) pa_nil)))) (pg_tup rfl (pgs_cons (pg_name (i := 4) nd rfl (Or.inl rfl)) (pgs_cons (pg_name (i := 5) nd rfl (Or.inl rfl)) pgs_nil))))
      (pss_cons (ps_asg (pe_call G_run (hr.mono R_run) rfl g_run k_run b_run .nil pass0 (pa_cons (pe_call0 G_first_state (hr.mono R_first_state) rfl g_first_state k_first_state b_first_state .nil pass0) (pa_cons (pv 4) (pa_cons (pv 3) pa_nil)))) (pg_tup rfl (pgs_cons (pg_name (i := 6) nd rfl (Or.inl rfl)) (pgs_cons (pg_name (i := 7) nd rfl (Or.inl rfl)) (pgs_cons (pg_name (i := 8) nd rfl (Or.inl rfl)) (pgs_cons (pg_name (i := 9) nd rfl (Or.inl rfl)) pgs_nil))))))
      (pss_cons (ps_set (i := 10) nd rfl (Or.inl rfl) (pe_ix ix_tup (pe_call G_kernel_words (hr.mono R_kernel_words) rfl g_kernel_words k_kernel_words b_kernel_words .nil pass0 (pa_cons (pe_callB call_len_seq rfl T.b_len PySem.boot_len (pa_cons (pv 0) pa_nil)) (pa_cons (pv 2) pa_nil))) pe_int (fun _ _ => rfl)))
      (pss_one (ps_ret (pe_tup (pa_cons (pe_call G_by_task (hr.mono R_by_task) rfl g_by_task k_by_task b_by_task .nil pass0 (pa_cons (pv 8) pa_nil)) (pa_cons (pe_call G_ends_in (hr.mono R_ends_in) rfl g_ends_in k_ends_in b_ends_in .nil pass0 (pa_cons (pv 7) (pa_cons (pv 10) (pa_cons (pe_callB call_len_seq rfl T.b_len PySem.boot_len (pa_cons (pv 0) pa_nil)) pa_nil)))) (pa_cons (pv 7) (pa_cons (pv 9) pa_nil)))))))))), ?_⟩
    obtain ⟨rsI, hI, rI⟩ := ha.im
    have lI : rsI.length = images.length := rI.len
    have g0 := fun j (hj : j < images.length) => (ran_good (ha.ok (me := 0) (by have := ha.t2; omega)) b q).1 j hj
    refine ⟨_, rfl, _, rfl, _, rfl, aI, aG, images, given, q, rfl, ha, fun p d st qs H1 e1 hp hd hst hps => ?_⟩
    refine ⟨p, _, rfl, sqt hp, rfl, _, _, rfl, _, _, rfl, rfl, ?_⟩
    refine ⟨rfl, fun p2 H2 e2 hp2 => ?_⟩
    obtain ⟨kvs, hd1, hm1, hl1⟩ := hd
    refine ⟨_, rfl, _, rfl, p2, d, _, memOf (townW q given images), 2000, b, rfl, hp2, ⟨kvs, e2 _ _ hd1, hm1, hl1⟩, by decide, hb, fun p3 q3 am u tr H3 e3 hm3 hu hp3 => ?_⟩
    refine ⟨p3, _, rfl, sqt hp3, rfl, _, _, rfl, _, _, rfl, _, _, rfl, _, _, rfl, rfl, ?_⟩
    have hlt := runC_told b ⟨0, 0, 0, 0, 0, 0, 0, 0, 0, 0, 0, 0, 0, 0, 0⟩ (memOf (townW q given images)) []
    rw [List.length_nil, Nat.zero_add] at hlt
    have h31 : Same H H3 := (e1.trans e2).trans e3
    refine ⟨_, rfl, aI, _, rfl, .inl (sql (h31 _ _ hI)), _, rfl, images.length, q, by rw [lI]; rfl, ha.t2, ha.t4, ha.q1, ha.q2, fun pk ak H4 e4 nak hak hpk => ?_⟩
    refine ⟨pk, _, _, _, rfl, rfl, sqt hpk, rfl, ?_⟩
    refine ⟨_, rfl, u, _, rfl, e4 _ _ hu, ?_, fun pt qt ps H5 e5 npt hpt hps5 hpl hfoc => ?_⟩
    · omega
    obtain ⟨kv3, hd3, hm3', hl3⟩ := hm3
    have h35 : Same H3 H5 := e4.trans e5
    refine ⟨_, rfl, _, rfl, _, rfl, aI, _, rfl, .inl (sql (h35 _ _ (h31 _ _ hI))), am, _, _, images.length, by rw [lI]; rfl, ⟨kv3, h35 _ _ hd3, hm3', hl3⟩, by have := ha.t4; omega, g0, fun pe H6 e6 npe hpe => ?_⟩
    refine ⟨_, rfl, _, rfl, sz rfl, fun pp hpp => ?_⟩
    have h6 := e6.trans (same_upd (o := .tup [V.ref pt, V.ref pe, V.ref am, V.ref tr]) hpp)
    refine k pp pt qt ps pe am tr _ ((h31.trans h35).trans h6) upd_same (h6 _ _ hpt) (hps5.same h6) (Nat.le_trans hpl (by omega)) hfoc (same_upd hpp _ _ hpe) ⟨kv3, h6 _ _ (h35 _ _ hd3), hm3', by omega⟩
end
end G3
set_option Elab.async false
set_option linter.all false
set_option maxRecDepth 100000
set_option maxHeartbeats 1000000
namespace G3
open PySem PySem.Spec PyProof.Rows L2
abbrev sA (s : String) : Str := Str.ofString s
inductive Rw
  | give (n : Str)
  | lab (n : Str)
  | space (n : Nat)
  | plain (n : Int)
  | row (op : Str) (nm : Option Str) (n : Int)
def letters : Str := "abcdefghijklmnopqrstuvwxyz"
def figures : Str := "0123456789"
def isL (c : Nat) : Bool := decide (c ∈ letters.cps.toList)
def isF (c : Nat) : Bool := decide (c ∈ figures.cps.toList)
def okLen (s : Str) : Bool := decide (1 ≤ s.length) && decide (s.length ≤ 12)
def isName (s : Str) : Bool := isL (s.cps.toList.getD 0 0) && s.cps.toList.all fun c => isL c || isF c
def noZero (s : Str) : Bool := decide (s.length = 1) || decide (s.cps.toList.getD 0 0 ≠ 48)
def isNum (s : Str) (most : Int) : Option Int → Bool
  | some n => decide (1 ≤ s.length) && decide (s.length ≤ 5) && noZero s && s.cps.toList.all isF && decide (intText? s = some n) && decide (n ≤ most)
  | none => decide (s.length ≤ 100) && (decide (5 < s.length) || (decide (1 ≤ s.length) && decide (s.length ≤ 5) && noZero s && !s.cps.toList.all isF))
def isArg (s : Str) : Option Str → Int → Bool
  | none, n => decide (Txt.partition s (sA "+") = (s, Str.empty, Str.empty)) && okLen s && !isName s && isNum s 4095 (some n)
  | some m, n => (decide (Txt.partition s (sA "+") = (m, Str.empty, Str.empty)) && decide (s = m) && okLen m && isName m && decide (n = 0)) ||
    (decide ((Txt.partition s (sA "+")).1 = m) && decide ((Txt.partition s (sA "+")).2.1 = (sA "+")) && isNum (Txt.partition s (sA "+")).2.2 4095 (some n) && okLen m && isName m)
def ops : List Str := [(sA "set"), (sA "load"), (sA "store"), (sA "add"), (sA "take"), (sA "both"), (sA "goto"), (sA "zero"), (sA "below"), (sA "from"), (sA "into"), (sA "move"), (sA "link"), (sA "call"), (sA "own"), (sA "back")]
def isRow (s : Str) (rw : Rw) : Bool := decide (s.length ≤ 100) && match rw with
  | .give n => decide (Txt.split s (sA " ") = [(sA "give"), n]) && okLen n && isName n
  | .lab n => decide (Txt.split s (sA " ") = [s]) && Txt.endswith s (sA ":") && decide (cutS s none (some (-1)) = n) && okLen n && isName n
  | .space k => match Txt.split s (sA " ") with | [a, b] => decide (a = (sA "space")) && isNum b 4095 (some (k : Int)) | _ => false
  | .plain k => match Txt.split s (sA " ") with | [a, b] => decide (a = (sA "word")) && isNum b 65535 (some k) | _ => false
  | .row o nm k => match Txt.split s (sA " ") with
    | [a, b] => decide (a = o) && isArg b nm k && decide (b.length ≤ 100) && ((decide (o = (sA "word")) && isNum b 65535 none) || decide (o ∈ ops))
    | _ => false
def all2 {α β : Type} (p : α → β → Bool) : List α → List β → Bool
  | [], [] => true
  | a :: as, b :: bs => p a b && all2 p as bs
  | _, _ => false
theorem all2_app {α β : Type} {p : α → β → Bool} : ∀ {a c : List α} {b d : List β}, all2 p a b = true → all2 p c d = true → all2 p (a ++ c) (b ++ d) = true
  | [], _, [], _, _, h => h
  | x :: a, _, y :: b, _, h1, h => by
    have h2 := (Bool.and_eq_true _ _).mp h1
    show (p x y && all2 p (a ++ _) (b ++ _)) = true
    rw [h2.1, all2_app h2.2 h]
    rfl
  | [], _, _ :: _, _, h, _ => by cases h
  | _ :: _, _, [], _, h, _ => by cases h
def codeRows : List Str := (TL.spl [44, 32] 0 [] rowsX.cps.toList).map fun l => ⟨l.toArray⟩
theorem split_code : Txt.split rowsX (sA ", ") = codeRows := by
  have h := TL.split_spl rowsX (sA ", ") (by decide +kernel) (TL.kind_ok (by decide +kernel))
  have h2 : (Txt.split rowsX (sA ", ")).map TL.tl = codeRows.map TL.tl := by
    rw [h]
    unfold codeRows
    rw [List.map_map]
    have e : (TL.tl ∘ fun l : List Nat => (⟨l.toArray⟩ : Str)) = id := rfl
    rw [e, List.map_id]
    have e2 : TL.tl (sA ", ") = [44, 32] := by decide +kernel
    rw [e2]
  exact TL.map_tl_inj h2
def numS (i : Int) : Str := Str.ofString (toString i)
def cellA (nT : Int) : List Str := [sA "now:", sA "word 0", sA "left:", sA "word " ++ numS nT, sA "one:", sA "word 1", sA "three:", sA "word 3", sA "four:", sA "word 4"] ++ [sA "size:", sA "word " ++ numS 16, sA "quota:"]
def cellB (nT : Int) : List Str := [sA "end:", sA "word 0", sA "got:", sA "word 0"] ++ [sA "first:", sA "word table", sA "last:", sA "word table+" ++ numS (16 * nT)] ++ [sA "table:", sA "space " ++ numS (16 * nT)]
def rowsAll (nT : Nat) (q : Int) : List Str := codeRows ++ (cellA nT ++ [sA "word " ++ numS q] ++ cellB nT)
def codeRws : List Rw := [.give (sA "table"), .give (sA "now"), .lab (sA "enter"), .row (sA "own") none 3, .row (sA "zero") (some (sA "start")) 0, .row (sA "load") (some (sA "now")) 0, .row (sA "move") none 0, .row (sA "own") none 2, .row (sA "into") none 0, .row (sA "own") none 0, .row (sA "into") none 1, .row (sA "own") none 1, .row (sA "into") none 2, .row (sA "own") none 3, .row (sA "take") (some (sA "four")) 0, .row (sA "zero") (some (sA "next")) 0, .row (sA "own") none 3, .row (sA "take") (some (sA "three")) 0, .row (sA "zero") (some (sA "called")) 0, .lab (sA "fault"), .row (sA "set") none 2, .row (sA "goto") (some (sA "ends")) 0, .lab (sA "called"), .row (sA "own") none 4, .row (sA "zero") (some (sA "done")) 0, .row (sA "take") (some (sA "one")) 0, .row (sA "zero") (some (sA "tells")) 0, .row (sA "take") (some (sA "one")) 0, .row (sA "zero") (some (sA "next")) 0, .row (sA "take") (some (sA "one")) 0, .row (sA "zero") (some (sA "asks")) 0, .row (sA "goto") (some (sA "fault")) 0, .lab (sA "done"), .row (sA "set") none 0, .lab (sA "ends"), .row (sA "into") none 5, .row (sA "load") (some (sA "left")) 0, .row (sA "take") (some (sA "one")) 0, .row (sA "store") (some (sA "left")) 0, .row (sA "goto") (some (sA "next")) 0, .lab (sA "tells"), .row (sA "from") none 8, .row (sA "own") none 6, .row (sA "from") none 1, .row (sA "own") none 6, .row (sA "goto") (some (sA "next")) 0, .lab (sA "asks"), .row (sA "from") none 7, .row (sA "store") (some (sA "end")) 0, .row (sA "from") none 6, .row (sA "take") (some (sA "end")) 0, .row (sA "zero") (some (sA "none")) 0, .row (sA "from") none 6, .row (sA "move") none 0, .row (sA "from") none 0, .row (sA "store") (some (sA "got")) 0, .row (sA "load") (some (sA "now")) 0, .row (sA "move") none 0, .row (sA "load") (some (sA "got")) 0, .row (sA "into") none 1, .row (sA "from") none 6, .row (sA "add") (some (sA "one")) 0, .row (sA "into") none 6, .row (sA "goto") (some (sA "next")) 0, .lab (sA "none"), .row (sA "set") none 0, .row (sA "take") (some (sA "one")) 0, .row (sA "into") none 1, .lab (sA "next"), .row (sA "load") (some (sA "left")) 0, .row (sA "zero") (some (sA "stop")) 0, .lab (sA "step"), .row (sA "load") (some (sA "now")) 0, .row (sA "add") (some (sA "size")) 0, .row (sA "store") (some (sA "now")) 0, .row (sA "take") (some (sA "last")) 0, .row (sA "zero") (some (sA "wrap")) 0, .lab (sA "look"), .row (sA "load") (some (sA "now")) 0, .row (sA "move") none 0, .row (sA "from") none 5, .row (sA "take") (some (sA "one")) 0, .row (sA "zero") (some (sA "runs")) 0, .row (sA "goto") (some (sA "step")) 0, .lab (sA "wrap"), .row (sA "load") (some (sA "first")) 0, .row (sA "store") (some (sA "now")) 0, .row (sA "goto") (some (sA "look")) 0, .lab (sA "runs"), .row (sA "from") none 0, .row (sA "own") none 10, .row (sA "from") none 1, .row (sA "own") none 8, .row (sA "from") none 2, .row (sA "own") none 9, .row (sA "from") none 3, .row (sA "own") none 11, .row (sA "from") none 4, .row (sA "own") none 12, .row (sA "load") (some (sA "quota")) 0, .row (sA "own") none 13, .row (sA "back") none 0, .lab (sA "start"), .row (sA "load") (some (sA "last")) 0, .row (sA "take") (some (sA "size")) 0, .row (sA "store") (some (sA "now")) 0, .row (sA "goto") (some (sA "step")) 0, .lab (sA "stop"), .row (sA "own") none 5, .row (sA "goto") (some (sA "stop")) 0]
def cellRA (nT : Nat) : List Rw := [.lab (sA "now"), .plain 0, .lab (sA "left"), .plain nT, .lab (sA "one"), .plain 1, .lab (sA "three"), .plain 3, .lab (sA "four"), .plain 4, .lab (sA "size"), .plain 16, .lab (sA "quota")]
def cellRB (nT : Nat) : List Rw := [.lab (sA "end"), .plain 0, .lab (sA "got"), .plain 0, .lab (sA "first"), .row (sA "word") (some (sA "table")) 0, .lab (sA "last"), .row (sA "word") (some (sA "table")) (16 * nT), .lab (sA "table"), .space (16 * nT)]
def rws (nT : Nat) (q : Int) : List Rw := codeRws ++ (cellRA nT ++ [.plain q] ++ cellRB nT)
theorem code_rows : all2 isRow codeRows codeRws = true := by decide +kernel
theorem cellA2 : all2 isRow (cellA 2) (cellRA 2) = true := by decide +kernel
theorem cellA3 : all2 isRow (cellA 3) (cellRA 3) = true := by decide +kernel
theorem cellA4 : all2 isRow (cellA 4) (cellRA 4) = true := by decide +kernel
theorem cellB2 : all2 isRow (cellB 2) (cellRB 2) = true := by decide +kernel
theorem cellB3 : all2 isRow (cellB 3) (cellRB 3) = true := by decide +kernel
theorem cellB4 : all2 isRow (cellB 4) (cellRB 4) = true := by decide +kernel
theorem numQ : ∀ n : Nat, n < 4096 → 1 ≤ n → (TL.numL n).length ≤ 4 ∧ 1 ≤ (TL.numL n).length ∧ (TL.numL n).getD 0 0 ≠ 48 := by
  have h : (List.range 4096).all (fun n => n == 0 || (decide ((TL.numL n).length ≤ 4) && decide (1 ≤ (TL.numL n).length) && decide ((TL.numL n).getD 0 0 ≠ 48))) = true := by decide +kernel
  intro n hn h1
  have h2 := List.all_eq_true.mp h n (List.mem_range.mpr hn)
  rcases Bool.or_eq_true_iff.mp h2 with h3 | h3
  · have := eq_of_beq h3
    omega
  · have h4 := (Bool.and_eq_true _ _).mp h3
    have h5 := (Bool.and_eq_true _ _).mp h4.1
    exact ⟨of_decide_eq_true h5.1, of_decide_eq_true h5.2, of_decide_eq_true h4.2⟩
theorem isF_of : ∀ c : Nat, c < 58 → 48 ≤ c → isF c = true := by decide +kernel
theorem quota_row (n : Nat) (h1 : 1 ≤ n) (h2 : n ≤ 4095) : isRow (sA "word " ++ numS (n : Int)) (.plain (n : Int)) = true := by
  obtain ⟨a, b, c⟩ := numQ n (by omega) h1
  have et : (numS (n : Int)).cps.toList = TL.numL n := TL.tl_num n
  have el : (numS (n : Int)).length = (TL.numL n).length := by rw [← et]; exact (Array.length_toList).symm
  have ej : sA "word " ++ numS (n : Int) = Txt.join (sA " ") [sA "word", numS (n : Int)] := by
    rw [TL.join_eq]
    apply TL.ext_tl
    rw [TL.tl_append, TL.tl_join]
    have : TL.tl (sA "word ") = TL.tl (sA "word") ++ TL.tl (sA " ") := by decide +kernel
    rw [this]
    show _ = TL.tl (sA "word") ++ (TL.tl (sA " ") ++ TL.tl (numS (n : Int)))
    rw [List.append_assoc]
  have es : Txt.split (sA "word " ++ numS (n : Int)) (sA " ") = [sA "word", numS (n : Int)] := by
    rw [ej]
    refine TL.split_join (s := 32) (S := []) (by decide +kernel) (by decide +kernel) (by simp) fun p hp => ?_
    rcases List.mem_cons.mp hp with e | hp
    · subst e
      decide +kernel
    · rw [List.mem_singleton.mp hp]
      rw [show TL.tl (numS (n : Int)) = TL.numL n from TL.tl_num n]
      exact TL.numL_free (.inl (by decide))
  have ei : intText? (numS (n : Int)) = some (n : Int) := TL.int_num (by omega)
  have l0 : (sA "word ").length = 5 := by decide +kernel
  have ll : (sA "word " ++ numS (n : Int)).length ≤ 100 := by
    have : (sA "word " ++ numS (n : Int)).length = (sA "word ").length + (numS (n : Int)).length := by
      show (TL.tl (sA "word " ++ numS (n : Int)) ).toArray.size = _
      rw [TL.tl_append, List.size_toArray, List.length_append]
      rfl
    omega
  unfold isRow
  rw [es]
  show (decide _ && (decide (sA "word" = sA "word") && isNum (numS (n : Int)) 65535 (some (n : Int)))) = true
  unfold isNum
  have hz : noZero (numS (n : Int)) = true := by
    unfold noZero
    rw [et, decide_eq_true c, Bool.or_true]
  have hall : (numS (n : Int)).cps.toList.all isF = true := by
    rw [et, List.all_eq_true]
    intro x hx
    have := TL.numL_digits n x hx
    exact isF_of x (by omega) (by omega)
  show (decide _ && (decide (sA "word" = sA "word") && (decide (1 ≤ (numS (n : Int)).length) && decide ((numS (n : Int)).length ≤ 5) && noZero (numS (n : Int)) && (numS (n : Int)).cps.toList.all isF && decide (intText? (numS (n : Int)) = some (n : Int)) && decide ((n : Int) ≤ 65535)))) = true
  rw [hz, hall, decide_eq_true ll, decide_eq_true ei, decide_eq_true (rfl : sA "word" = sA "word")]
  simp only [Bool.and_true, Bool.true_and, Bool.and_eq_true, decide_eq_true_eq]
  omega
theorem rows_ok (nT n : Nat) (t2 : 2 ≤ nT) (t4 : nT ≤ 4) (h1 : 1 ≤ n) (h2 : n ≤ 4095) : all2 isRow (rowsAll nT n) (rws nT n) = true := by
  have hq : all2 isRow [sA "word " ++ numS (n : Int)] [Rw.plain (n : Int)] = true := by
    show (isRow _ _ && true) = true
    rw [quota_row n h1 h2]
    rfl
  have : nT = 2 ∨ nT = 3 ∨ nT = 4 := by omega
  rcases this with rfl | rfl | rfl
  · exact all2_app code_rows (all2_app (all2_app cellA2 hq) cellB2)
  · exact all2_app code_rows (all2_app (all2_app cellA3 hq) cellB3)
  · exact all2_app code_rows (all2_app (all2_app cellA4 hq) cellB4)
def noLine (s : Str) : Bool := !s.cps.toList.contains 10
theorem noLine_q (n : Nat) : noLine (sA "word " ++ numS (n : Int)) = true := by
  unfold noLine
  rw [Bool.not_eq_true', List.contains_eq_mem, decide_eq_false_iff_not]
  intro h
  have h2 : 10 ∈ TL.tl (sA "word " ++ numS (n : Int)) := h
  rw [TL.tl_append, List.mem_append] at h2
  rcases h2 with h2 | h2
  · exact absurd h2 (by decide +kernel)
  · rw [show TL.tl (numS (n : Int)) = TL.numL n from TL.tl_num n] at h2
    exact TL.numL_free (.inl (by decide)) h2
theorem lines_ok (nT n : Nat) (t2 : 2 ≤ nT) (t4 : nT ≤ 4) : ∀ s ∈ rowsAll nT n, 10 ∉ TL.tl s := by
  have hc : codeRows.all noLine = true := by decide +kernel
  have ha : nT = 2 ∨ nT = 3 ∨ nT = 4 → (cellA nT).all noLine = true ∧ (cellB nT).all noLine = true := by
    rintro (rfl | rfl | rfl)
    · exact ⟨by decide +kernel, by decide +kernel⟩
    · exact ⟨by decide +kernel, by decide +kernel⟩
    · exact ⟨by decide +kernel, by decide +kernel⟩
  obtain ⟨h1, h2⟩ := ha (by omega)
  have h : (rowsAll nT n).all noLine = true := by
    unfold rowsAll
    rw [List.all_append, List.all_append, List.all_append, hc, h1, h2, List.all_cons, noLine_q]
    rfl
  intro s hs hx
  have := List.all_eq_true.mp h s hs
  unfold noLine at this
  rw [Bool.not_eq_true', List.contains_eq_mem, decide_eq_false_iff_not] at this
  exact this hx
theorem lines_back (nT n : Nat) (t2 : 2 ≤ nT) (t4 : nT ≤ 4) : Txt.split (Txt.join (sA "\n") (rowsAll nT n)) (sA "\n") = rowsAll nT n := by
  refine TL.split_join (s := 10) (S := []) (by decide +kernel) (by decide +kernel) ?_ (lines_ok nT n t2 t4)
  intro h
  have : codeRows = [] := (List.append_eq_nil_iff.mp h).1
  have h2 : codeRows.length = 0 := by rw [this]; rfl
  exact absurd h2 (by decide +kernel)
theorem all2_len {α β : Type} {p : α → β → Bool} : ∀ {a : List α} {b : List β}, all2 p a b = true → a.length = b.length
  | [], [], _ => rfl
  | x :: a, y :: b, h => by rw [List.length_cons, List.length_cons, all2_len ((Bool.and_eq_true _ _).mp h).2]
  | [], _ :: _, h => by cases h
  | _ :: _, [], h => by cases h
theorem all2_at {α β : Type} {p : α → β → Bool} : ∀ {a : List α} {b : List β} {i : Nat} {x : α}, all2 p a b = true → a[i]? = some x → ∃ y, b[i]? = some y ∧ p x y = true
  | x :: a, y :: b, 0, z, h, e => by
    cases e
    exact ⟨y, rfl, ((Bool.and_eq_true _ _).mp h).1⟩
  | x :: a, y :: b, i + 1, z, h, e => all2_at (i := i) ((Bool.and_eq_true _ _).mp h).2 e
  | [], _, _, _, _, e => by simp at e
  | _ :: _, [], _, _, h, _ => by cases h
theorem rws_len (nT : Nat) (q : Int) : (rws nT q).length = (rws 2 1).length := rfl
theorem rws_many : (rws 2 1).length ≤ 200 := by decide +kernel
theorem row_len {s : Str} {rw : Rw} (h : isRow s rw = true) : s.length ≤ 100 := of_decide_eq_true ((Bool.and_eq_true _ _).mp h).1
theorem join_len (y : Str) : ∀ (xs : List Str), (∀ s ∈ xs, s.length ≤ 100) → (Str.join y xs).length ≤ xs.length * (100 + y.length) ∧ (xs.map (·.length)).sum ≤ xs.length * 100 := by
  intro xs h
  have go : ∀ xs : List Str, (∀ s ∈ xs, s.length ≤ 100) → (TL.joinL (TL.tl y) (xs.map TL.tl)).length ≤ xs.length * (100 + y.length) ∧ (xs.map (·.length)).sum ≤ xs.length * 100 := by
    have ly : (TL.tl y).length = y.length := Array.length_toList
    have lx : ∀ x : Str, (TL.tl x).length = x.length := fun x => Array.length_toList
    intro xs
    induction xs with
    | nil => intro _; exact ⟨Nat.zero_le _, Nat.zero_le _⟩
    | cons x xs ih =>
      intro h
      obtain ⟨i1, i2⟩ := ih fun s hs => h s (List.mem_cons_of_mem _ hs)
      have hx := h x (List.mem_cons_self ..)
      refine ⟨?_, ?_⟩
      · cases xs with
        | nil =>
          show (TL.tl x).length ≤ _
          rw [lx]
          simp
          omega
        | cons z r =>
          show (TL.tl x ++ (TL.tl y ++ TL.joinL (TL.tl y) ((z :: r).map TL.tl))).length ≤ _
          rw [List.length_append, List.length_append, lx, ly]
          have : (x :: z :: r).length * (100 + y.length) = (z :: r).length * (100 + y.length) + (100 + y.length) := by
            rw [List.length_cons, Nat.add_mul, Nat.one_mul]
          rw [this]
          omega
      · rw [List.map_cons, List.sum_cons]
        have : (x :: xs).length * 100 = xs.length * 100 + 100 := by rw [List.length_cons, Nat.add_mul, Nat.one_mul]
        rw [this]
        omega
  obtain ⟨a, b⟩ := go xs h
  refine ⟨?_, b⟩
  have : (Str.join y xs).length = (TL.tl (Str.join y xs)).length := Array.length_toList.symm
  rw [this, TL.tl_join]
  exact a
theorem rows_small (nT n : Nat) (t2 : 2 ≤ nT) (t4 : nT ≤ 4) (h1 : 1 ≤ n) (h2 : n ≤ 4095) :
    (Txt.join (sA "\n") (rowsAll nT n)).length ≤ 30000 ∧ ((rowsAll nT n).map (·.length)).sum ≤ 30000 ∧ (rowsAll nT n).length ≤ 200 := by
  have ok := rows_ok nT n t2 t4 h1 h2
  have l := (all2_len ok).trans (rws_len nT n)
  have m := rws_many
  have hs : ∀ s ∈ rowsAll nT n, s.length ≤ 100 := fun s hs => by
    obtain ⟨i, hi⟩ := List.getElem?_of_mem hs
    obtain ⟨y, _, hy⟩ := all2_at ok hi
    exact row_len hy
  obtain ⟨a, b⟩ := join_len (sA "\n") _ hs
  have l1 : (sA "\n").length = 1 := by decide +kernel
  rw [TL.join_eq]
  rw [l1] at a
  refine ⟨?_, ?_, ?_⟩ <;> omega
end G3
set_option Elab.async false
set_option linter.all false
set_option maxRecDepth 100000
set_option maxHeartbeats 1000000
namespace G3
open PySem PySem.Spec PyProof.Rows L2
local macro_rules | `(tactic| walk_at "hp") => `(tactic| first | assumption | exact upd_same | (refine same_upd (by assumption) _ _ ?_; walk_at "hp") | (refine (‹Same _ _›) _ _ ?_; walk_at "hp"))
local macro_rules | `(tactic| walk_at "sm") => `(tactic| first | exact Same.refl _ | assumption | (refine Same.trans ?_ (same_upd (by assumption)); walk_at "sm") | (refine Same.trans ?_ (by assumption); walk_at "sm"))
def optI : Option Int → V | none => .non | some i => .int i
def optS : Option Str → V | none => .non | some s => .str s
def sp_cell_rows (K : PySem.W.Frag) : Sp := fun vs H Q _ => ∃ nT q : Nat, vs = [.int (nT : Int), .int (q : Int)] ∧ nT ≤ 4 ∧ q ≤ 4095 ∧
  ∀ p H', Same H H' → H' p = some (.lst ((cellA nT ++ [sA "word " ++ numS q] ++ cellB nT).map V.str)) → Q (.ref p) H'
def sp_kernel_text (K : PySem.W.Frag) : Sp := fun vs H Q _ => ∃ nT q : Nat, vs = [.int (nT : Int), .int (q : Int)] ∧ 2 ≤ nT ∧ nT ≤ 4 ∧ 1 ≤ q ∧ q ≤ 4095 ∧
  ∀ H', Same H H' → Q (.str (Txt.join (sA "\n") (rowsAll nT q))) H'
def sp_word_of (K : PySem.W.Frag) : Sp := fun vs H Q _ => ∃ (z : Str) (j : Nat) (n : Int), vs = [.str z, .int n] ∧ ops[j]? = some z ∧ (∀ m, m < j → ops[m]? ≠ some z) ∧ Q (.int ((j : Int) * 4096 + n)) H
def mv (w by' : Int) : Int := w - w % 4096 + (w % 4096 + by') % 4096
def sp_moved (K : PySem.W.Frag) : Sp := fun vs H Q _ => ∃ (w b : Int), vs = [.int w, .int b] ∧ Q (.int (mv w b)) H
def sp_is_name (K : PySem.W.Frag) : Sp := fun vs H Q _ => ∃ s : Str, vs = [.str s] ∧ okLen s = true ∧ ∀ H', Same H H' → Q (.bl (isName s)) H'
def sp_number_in (K : PySem.W.Frag) : Sp := fun vs H Q _ => ∃ (s : Str) (most : Int) (o : Option Int), vs = [.str s, .int most] ∧ isNum s most o = true ∧ ∀ H', Same H H' → Q (optI o) H'
def sp_arg_in (K : PySem.W.Frag) : Sp := fun vs H Q _ => ∃ (s : Str) (nm : Option Str) (n : Int), vs = [.str s] ∧ isArg s nm n = true ∧ s.length ≤ 100 ∧ ∀ p H', Same H H' → H' p = some (.tup [optS nm, .int n]) → Q (.ref p) H'
def rwT (a : Addr) : Rw → List V
  | .give n => [.str (sA "give"), .str n]
  | .lab n => [.str (sA "label"), .str n]
  | .space k => [.str (sA "space"), .int (k : Int)]
  | .plain k => [.str (sA "plain"), .int k]
  | .row o _ _ => [.str (sA "row"), .str o, .ref a]
def RwV (H : Hp) (v : V) (rw : Rw) : Prop := ∃ p a, v = .ref p ∧ H p = some (.tup (rwT a rw)) ∧ ∀ o nm k, rw = .row o nm k → H a = some (.tup [optS nm, .int k])
def sp_row_in (K : PySem.W.Frag) : Sp := fun vs H Q _ => ∃ (s : Str) (rw : Rw), vs = [.str s] ∧ isRow s rw = true ∧ ∀ v H', Same H H' → RwV H' v rw → Q v H'
theorem RwV.same {H H' : Hp} {v : V} {rw : Rw} (e : Same H H') (h : RwV H v rw) : RwV H' v rw := by
  obtain ⟨p, a, rfl, h1, h2⟩ := h
  exact ⟨p, a, rfl, e _ _ h1, fun o nm k z => e _ _ (h2 o nm k z)⟩
def RwsV (H : Hp) (xs : List V) (rws : List Rw) : Prop := xs.length = rws.length ∧ ∀ (i : Nat) (x : V) (rw : Rw), xs[i]? = some x → rws[i]? = some rw → RwV H x rw
theorem RwsV.same {H H' : Hp} {xs : List V} {rws : List Rw} (e : Same H H') (h : RwsV H xs rws) : RwsV H' xs rws := ⟨h.1, fun i x rw h1 h2 => (h.2 i x rw h1 h2).same e⟩
theorem RwV.but {H H' : Hp} {v : V} {rw : Rw} {w : Addr} {xs : List V} (h : RwV H v rw) (hw : H w = some (.lst xs)) (e : ∀ b o, b ≠ w → H b = some o → H' b = some o) : RwV H' v rw := by
  obtain ⟨p, a, rfl, h1, h2⟩ := h
  exact ⟨p, a, rfl, e _ _ (ne_of h1 hw (by intro z; cases z)) h1, fun o nm k z => e _ _ (ne_of (h2 o nm k z) hw (by intro z; cases z)) (h2 o nm k z)⟩
theorem RwsV.but {H H' : Hp} {xs : List V} {rws : List Rw} {w : Addr} {ys : List V} (h : RwsV H xs rws) (hw : H w = some (.lst ys)) (e : ∀ b o, b ≠ w → H b = some o → H' b = some o) : RwsV H' xs rws :=
  ⟨h.1, fun i x rw h1 h2 => (h.2 i x rw h1 h2).but hw e⟩
theorem RwsV.snoc {H : Hp} {xs : List V} {rws : List Rw} {v : V} {rw : Rw} (h : RwsV H xs rws) (hv : RwV H v rw) : RwsV H (xs ++ [v]) (rws ++ [rw]) := by
  refine ⟨by rw [List.length_append, List.length_append, h.1]; rfl, fun i x rw' h1 h2 => ?_⟩
  by_cases c : i < xs.length
  · rw [List.getElem?_append_left c] at h1
    rw [List.getElem?_append_left (by rw [← h.1]; exact c)] at h2
    exact h.2 i x rw' h1 h2
  · rw [List.getElem?_append_right (by omega)] at h1
    rw [List.getElem?_append_right (by rw [← h.1]; omega), ← h.1] at h2
    cases hj : i - xs.length with
    | zero =>
      rw [hj] at h1 h2
      cases h1
      cases h2
      exact hv
    | succ j =>
      rw [hj] at h1
      simp at h1
def sp_rows_in (K : PySem.W.Frag) : Sp := fun vs H Q _ => ∃ (s : Str) (rows : List Str) (rws : List Rw), vs = [.str s] ∧ s.length ≤ 30000 ∧ Txt.split s (sA "\n") = rows ∧ 2 ≤ rows.length ∧ rows.length ≤ 200 ∧ all2 isRow rows rws = true ∧
  ∀ p xs H', Same H H' → H' p = some (.lst xs) → RwsV H' xs rws → Q (.ref p) H'
theorem small_log {i : Int} (h0 : 0 ≤ i) (h : i < 100000) : i.natAbs.log2 < 1920 := by
  by_cases z : i.natAbs = 0
  · rw [z]
    decide
  · have h2 : i.natAbs < 2 ^ 17 := by omega
    have := (Nat.log2_lt z).mpr h2
    omega
theorem str_len {i : Int} (h0 : 0 ≤ i) (h : i < 100000) {s : Str} (hs : s.length ≤ 100) : s.length + (Str.ofString (toString i)).length ≤ sizeLine := by
  have h1 := PySem.W.KT.len_num (n := i) h0 (by omega)
  rw [sizeLine_eq]
  omega
theorem if_nd {p A B : Prop} [Decidable p] (h1 : ¬ p → A) (h2 : p → B) : if (!decide p) = true then A else B := by
  by_cases h : p
  · rw [decide_eq_true h]
    exact iteF (h2 h)
  · rw [decide_eq_false h]
    exact iteT (h1 h)
theorem if_nb {b : Bool} {A B : Prop} (h1 : b = false → A) (h2 : b = true → B) : if (!b) = true then A else B := by
  cases b with
  | true => exact iteF (h2 rfl)
  | false => exact iteT (h1 rfl)
theorem if_seq {a b : Str} {A B : Prop} (h1 : a = b → A) (h2 : a ≠ b → B) : if decide (V.str a = V.str b) = true then A else B := if_dec (fun e => h1 (V.str.inj e)) fun e => h2 fun z => e (congrArg V.str z)
theorem if_sne {a b : Str} {A B : Prop} (h1 : a ≠ b → A) (h2 : a = b → B) : if (!decide (V.str a = V.str b)) = true then A else B := if_nd (fun e => h1 fun z => e (congrArg V.str z)) fun e => h2 (V.str.inj e)
theorem take_snoc2 {α : Type} : ∀ {l : List α} {i : Nat} {a : α}, l[i]? = some a → l.take (i + 1) = l.take i ++ [a]
  | x :: l, 0, a, h => by
    cases h
    rfl
  | x :: l, i + 1, a, h => congrArg (x :: ·) (take_snoc2 (l := l) h)
  | [], i, a, h => by simp at h
def OpsAt (K : PySem.W.Frag) (mg : Str → Option Value) : Prop := ∃ a, mg "OPS" = some (.ref a) ∧ (∀ H : Hp, SqT K H a (ops.map V.str)) ∧ ∃ o, List.lookup a K = some o ∧ o.cls = Value.type "tuple" ∧ o.dict = none
theorem op_not {a : Str} (h : a = sA "word" ∨ a ∈ ops) : inV (.str a) [V.str (sA "give"), V.str (sA "need")] = false ∧ a ≠ sA "space" := by
  have go : ∀ a ∈ sA "word" :: ops, inV (.str a) [V.str (sA "give"), V.str (sA "need")] = false ∧ a ≠ sA "space" := by decide +kernel
  exact go a (List.mem_cons.mpr h)
theorem op_in {a : Str} (h : a ∈ ops) : inV (.str a) (ops.map V.str) = true := by
  have go : ∀ a ∈ ops, inV (.str a) (ops.map V.str) = true := by decide +kernel
  exact go a h
theorem row_space {z : Str} {k : Nat} (h : isRow z (.space k) = true) : ∃ b, Txt.split z (sA " ") = [sA "space", b] ∧ isNum b 4095 (some (k : Int)) = true := by
  have h2 := ((Bool.and_eq_true _ _).mp h).2
  dsimp only at h2
  split at h2
  · rename_i a b e
    have h3 := (Bool.and_eq_true _ _).mp h2
    have := of_decide_eq_true h3.1
    subst this
    exact ⟨b, e, h3.2⟩
  · cases h2
theorem row_plain {z : Str} {k : Int} (h : isRow z (.plain k) = true) : ∃ b, Txt.split z (sA " ") = [sA "word", b] ∧ isNum b 65535 (some k) = true := by
  have h2 := ((Bool.and_eq_true _ _).mp h).2
  dsimp only at h2
  split at h2
  · rename_i a b e
    have h3 := (Bool.and_eq_true _ _).mp h2
    have := of_decide_eq_true h3.1
    subst this
    exact ⟨b, e, h3.2⟩
  · cases h2
theorem row_row {z o : Str} {nm : Option Str} {k : Int} (h : isRow z (.row o nm k) = true) : ∃ b, Txt.split z (sA " ") = [o, b] ∧ isArg b nm k = true ∧ b.length ≤ 100 ∧ ((o = sA "word" ∧ isNum b 65535 none = true) ∨ o ∈ ops) := by
  have h2 := ((Bool.and_eq_true _ _).mp h).2
  dsimp only at h2
  split at h2
  · rename_i a b e
    have h3 := (Bool.and_eq_true _ _).mp h2
    have h4 := (Bool.and_eq_true _ _).mp h3.1
    have h5 := (Bool.and_eq_true _ _).mp h4.1
    have := of_decide_eq_true h5.1
    subst this
    refine ⟨b, e, h5.2, of_decide_eq_true h4.2, ?_⟩
    rcases Bool.or_eq_true_iff.mp h3.2 with h | h
    · have h6 := (Bool.and_eq_true _ _).mp h
      exact .inl ⟨of_decide_eq_true h6.1, h6.2⟩
    · exact .inr (of_decide_eq_true h)
  · cases h2
theorem getD_at {l : List Nat} (h : 1 ≤ l.length) : l[0]? = some (l.getD 0 0) := by
  cases l with
  | nil => simp at h
  | cons a l => rfl
theorem slen (s : Str) : s.cps.toList.length = s.length := Array.length_toList
theorem small17 {n : Nat} (h : n ≤ 30000) : n ≤ sizeLine := by rw [sizeLine_eq]; omega
theorem small17s {n : Nat} (h : n ≤ 30000) : n < sizeLine := by rw [sizeLine_eq]; omega
section
variable {P : Program} {w : World} {K : PySem.W.Frag} {mg : Str → Option Value} {base : Heap}
theorem ok_cell_rows (T : Tx K mg) (Sr : Src K mg "cell_rows" s_cell_rows) : Def P w K mg base "cell_rows" 1 ["tasks", "quota"] (sp_cell_rows K) := by
  refine Def.of Sr (fun f fd F => F.bindsN fun _ _ _ _ _ _ us hl => match us, hl with | [_, _], _ => rfl) fun f fd F => ok0 F sc_cell_rows (fun vs H Q E h => ?_) (fun cdv A outer s H vs Q E hr h => ?_)
  · obtain ⟨nT, q, rfl, ht, hq, k⟩ := h
    rfl
  · have hu := hu_of hr
    have nd := sc_cell_rows.nd
    obtain ⟨nT, q, rfl, ht, hq, k⟩ := h
    refine ⟨_, (pss_cons (ps_set (i := 2) nd rfl (Or.inl rfl) (pe_lst (pa_cons pe_str (pa_cons pe_str (pa_cons pe_str (pa_cons (pe_op op_add_str pe_str (pe_callTy call_str_int rfl T.b_str (by decide +kernel) (pa_cons (pv 0) pa_nil))) (pa_cons pe_str (pa_cons pe_str (pa_cons pe_str (pa_cons pe_str (pa_cons pe_str (pa_cons pe_str pa_nil))))))))))))
      (pss_cons (ps_aug (i := 2) nd rfl (Or.inl rfl) (pe_lst (pa_cons pe_str (pa_cons (pe_op op_add_str pe_str (pe_callTy call_str_int rfl T.b_str (by decide +kernel) (pa_cons (pe_gi rfl T.c_RECORD) pa_nil))) (pa_cons pe_str (pa_cons (pe_op op_add_str pe_str (pe_callTy call_str_int rfl T.b_str (by decide +kernel) (pa_cons (pv 1) pa_nil))) (pa_cons pe_str (pa_cons pe_str (pa_cons pe_str (pa_cons pe_str pa_nil))))))))) iop_ext)
      (pss_cons (ps_aug (i := 2) nd rfl (Or.inl rfl) (pe_lst (pa_cons pe_str (pa_cons pe_str (pa_cons pe_str (pa_cons (pe_op op_add_str pe_str (pe_callTy call_str_int rfl T.b_str (by decide +kernel) (pa_cons (pe_op op_mul (pe_gi rfl T.c_RECORD) (pv 0)) pa_nil))) pa_nil))))) iop_ext)
      (pss_one (ps_ret (pe_op op_cat (pv 2) (pe_lst (pa_cons pe_str (pa_cons (pe_op op_add_str pe_str (pe_callTy call_str_int rfl T.b_str (by decide +kernel) (pa_cons (pe_op op_mul (pe_gi rfl T.c_RECORD) (pv 0)) pa_nil))) pa_nil))))))))), ?_⟩
    refine ⟨_, rfl, _, rfl, small_log (by omega) (by omega), _, _, rfl, rfl, str_len (by omega) (by omega) (by decide +kernel), ?_⟩
    refine ⟨sz rfl, fun p hp => ?_⟩
    refine ⟨_, rfl, _, rfl, by decide, _, _, rfl, rfl, str_len (by decide) (by decide) (by decide +kernel), ?_⟩
    refine ⟨_, rfl, _, rfl, small_log (by omega) (by omega), _, _, rfl, rfl, str_len (by omega) (by omega) (by decide +kernel), ?_⟩
    refine ⟨sz rfl, fun p2 hp2 => ?_⟩
    have n2 : p ≠ p2 := ne_of_none upd_same hp2
    refine ⟨p, p2, _, _, rfl, rfl, (upd_ne n2).trans upd_same, upd_same, sz2 rfl, ?_⟩
    refine ⟨_, rfl, _, rfl, _, _, rfl, rfl, .inl ⟨by decide, by decide⟩, _, rfl, small_log (by omega) (by omega), _, _, rfl, rfl, str_len (by omega) (by omega) (by decide +kernel), ?_⟩
    refine ⟨sz rfl, fun p3 hp3 => ?_⟩
    have n13 : p ≠ p3 := ne_of_none upd_same hp3
    refine ⟨p, p3, _, _, rfl, rfl, (upd_ne n13).trans upd_same, upd_same, sz2 rfl, ?_⟩
    refine ⟨_, rfl, _, rfl, _, _, rfl, rfl, .inl ⟨by decide, by decide⟩, _, rfl, small_log (by omega) (by omega), _, _, rfl, rfl, str_len (by omega) (by omega) (by decide +kernel), ?_⟩
    refine ⟨sz rfl, fun p4 hp4 => ?_⟩
    have n14 : p ≠ p4 := ne_of_none upd_same hp4
    refine ⟨p, p4, _, _, rfl, rfl, (upd_ne n14).trans upd_same, upd_same, sz2 rfl, fun p5 hp5 => ?_⟩
    exact k p5 _ ((((((same_upd hp).trans (same_upd hp2)).mut hp).trans (same_upd hp3)).mut hp |>.trans (same_upd hp4)).trans (same_upd hp5)) upd_same
theorem ok_kernel_text (T : Tx K mg) (Sr : Src K mg "kernel_text" s_kernel_text) (D_cell_rows : Def P w K mg base "cell_rows" 1 ["tasks", "quota"] (sp_cell_rows K)) : Def P w K mg base "kernel_text" 2 ["tasks", "quota"] (sp_kernel_text K) := by
  obtain ⟨f_cell_rows, fd_cell_rows, g_cell_rows, k_cell_rows, b_cell_rows, G_cell_rows⟩ := D_cell_rows.ex
  refine Def.of Sr (fun f fd F => F.bindsN fun _ _ _ _ _ _ us hl => match us, hl with | [_, _], _ => rfl) fun f fd F => ok0 F sc_kernel_text (fun vs H Q E h => ?_) (fun cdv A outer s H vs Q E hr h => ?_)
  · obtain ⟨nT, q, rfl, h2, h4, q1, q2, k⟩ := h
    rfl
  · have hu := hu_of hr
    have nd := sc_kernel_text.nd
    have R_cell_rows : 1 ≤ 1 := by decide
    obtain ⟨nT, q, rfl, h2, h4, q1, q2, k⟩ := h
    refine ⟨_, (pss_one (ps_ret (pe_join pe_str (pe_op op_cat (pe_split (pe_gs rfl T.c_ROWS) pe_str) (pe_call G_cell_rows (hr.mono R_cell_rows) rfl g_cell_rows k_cell_rows b_cell_rows .nil pass0 (pa_cons (pv 0) (pa_cons (pv 1) pa_nil))))))), ?_⟩
    refine ⟨⟨_, rfl⟩, ⟨_, rfl⟩, _, _, rfl, rfl, by decide +kernel, by decide +kernel, fun p1 hp1 => ?_⟩
    refine ⟨_, rfl, _, rfl, nT, q, rfl, h4, q2, fun p2 H2 e2 hp2 => ?_⟩
    obtain ⟨r1, r2, r3⟩ := rows_small nT q h2 h4 q1 q2
    have es : Txt.split rowsX (Str.ofString ", ") = codeRows := split_code
    rw [es] at e2
    have er : codeRows.map V.str ++ (cellA nT ++ [sA "word " ++ numS q] ++ cellB nT).map V.str = (rowsAll nT q).map V.str := (List.map_append ..).symm
    refine ⟨p1, p2, codeRows.map V.str, _, rfl, rfl, e2 _ _ upd_same, hp2, ?_, fun p3 hp3 => ?_⟩
    · rw [← List.length_append, er, List.length_map]
      exact small17 (by omega)
    rw [er]
    refine ⟨_, p3, rowsAll nT q, rfl, rfl, .inl (sql upd_same), ?_, k _ (((same_upd hp1).trans e2).trans (same_upd hp3))⟩
    have : (Str.ofString "\n").length = 1 := by decide +kernel
    rw [this]
    omega
theorem ok_moved (T : Tx K mg) (Sr : Src K mg "moved" s_moved) : Def P w K mg base "moved" 1 ["word", "by"] (sp_moved K) := by
  refine Def.of Sr (fun f fd F => F.bindsN fun _ _ _ _ _ _ us hl => match us, hl with | [_, _], _ => rfl) fun f fd F => ok0 F sc_moved (fun vs H Q E h => ?_) (fun cdv A outer s H vs Q E hr h => ?_)
  · obtain ⟨w, b, rfl, k⟩ := h
    rfl
  · have hu := hu_of hr
    have nd := sc_moved.nd
    obtain ⟨w, b, rfl, k⟩ := h
    refine ⟨_, (pss_one (ps_ret (pe_op op_add (pe_op op_sub (pv 0) (pe_op op_mod (pv 0) (pe_gi rfl T.c_PLACES_codes))) (pe_op op_mod (pe_op op_add (pe_op op_mod (pv 0) (pe_gi rfl T.c_PLACES_codes)) (pv 1)) (pe_gi rfl T.c_PLACES_codes))))), ?_⟩
    refine ⟨_, rfl, _, rfl, _, _, rfl, rfl, (show (0 : Int) < 4096 by decide), _, _, rfl, rfl, ?_⟩
    refine ⟨_, rfl, _, _, rfl, rfl, (show (0 : Int) < 4096 by decide), _, rfl, _, _, rfl, rfl, _, _, rfl, rfl, (show (0 : Int) < 4096 by decide), _, _, rfl, rfl, k⟩
theorem ok_is_name (T : Tx K mg) (Sr : Src K mg "is_name" s_is_name) : Def P w K mg base "is_name" 1 ["word"] (sp_is_name K) := by
  refine Def.of Sr (fun f fd F => F.bindsN fun _ _ _ _ _ _ us hl => match us, hl with | [_], _ => rfl) fun f fd F => ok0 F sc_is_name (fun vs H Q E h => ?_) (fun cdv A outer s H vs Q E hr h => ?_)
  · obtain ⟨z, rfl, hl, k⟩ := h
    rfl
  · have hu := hu_of hr
    have nd := sc_is_name.nd
    obtain ⟨z, rfl, hl, k⟩ := h
    refine ⟨_, (pss_cons (ps_if (PW.pt (pw_or (pt_not (pt_chain op_le op_le pe_int (pe_callB call_len_str rfl T.b_len PySem.boot_len (pa_cons (pv 0) pa_nil)) pe_int)) (pw_or1 (pt_cmpR op_notIn_sign (pe_ix ix_str (pv 0) pe_int (fun _ _ => rfl)) (pe_gs rfl T.c_LETTERS) rfl)))) (pss_one (ps_ret pe_bl)) pss_nil)
      (pss_one (ps_ret (pe_callB (cr_all rfl) rfl T.b_all (by decide +kernel) (pa_cons (pe_lc (own := [("sign", 1)]) rfl nd (pi_str (pv 0)) (blkOk_by (N := N_is_name) (sc := defScope s_is_name) (by decide +kernel)) (fun _ _ _ _ _ => pg_name (i := 1) nd rfl (Or.inl rfl)) (fun _ _ _ _ _ => pts_nil) (fun _ _ _ _ _ => (pe_or (pe_cmpR op_in_sign (pv 1) (pe_gs rfl T.c_LETTERS) rfl) (pe_one (pe_cmpR op_in_sign (pv 1) (pe_gs rfl T.c_FIGURES) rfl))))) pa_nil))))), ?_⟩
    have hl := (Bool.and_eq_true _ _).mp hl
    have l1 : 1 ≤ z.length := of_decide_eq_true hl.1
    have l2 : z.length ≤ 12 := of_decide_eq_true hl.2
    have hz : z.length ≤ sizeLine := small17 (by omega)
    have h0 := getD_at (l := z.cps.toList) (by rw [slen]; exact l1)
    generalize hc : z.cps.toList.getD 0 0 = c at h0
    refine ⟨_, rfl, z, rfl, hz, _, _, rfl, rfl, _, rfl, ?_⟩
    refine if_dec (fun _ => ?_) (fun c => absurd (show (1 : Int) ≤ z.length by omega) c)
    refine ⟨_, _, rfl, rfl, _, rfl, ?_⟩
    refine if_nd (fun c => absurd (show (z.length : Int) ≤ 12 by omega) c) (fun _ => ?_)
    refine ⟨_, rfl, z, _, c, rfl, rfl, hz, (show atI z.cps.toList ((0 : Nat) : Int) = some c from atI_nat h0), c, letters, rfl, rfl, _, rfl, ?_⟩
    refine if_nd (fun c1 => ?_) (fun c1 => ?_)
    · have : isName z = false := by
        unfold isName isL
        rw [hc, decide_eq_false c1]
        rfl
      rw [← this]
      exact k H (Same.refl _)
    refine ⟨_, rfl, z, rfl, ?_⟩
    intro D hD
    refine lc_it walk_str (fun i H2 => Same H H2 ∧ H2 D = some (.lst (((z.cps.toList.take i).map fun c => isL c || isF c).map V.bl))) ⟨same_upd hD, upd_same⟩ (fun _ _ _ _ => trivial) ?_ ?_
    · rintro i x H2 H3 hi ⟨s2, hq⟩ ⟨rfl, c2, ec, rfl⟩
      have ec2 : z.cps.toList[i]? = some c2 := by rw [Array.getElem?_toList]; exact ec
      have li : i < z.length := hi
      have fin : ∀ b, (isL c2 || isF c2) = b → ∃ acc, H3 D = some (.lst acc) ∧ acc.length < sizeLine ∧ (Same H (upd H3 D (.lst (acc ++ [.bl b]))) ∧ upd H3 D (.lst (acc ++ [.bl b])) D = some (.lst (((z.cps.toList.take (i + 1)).map fun c => isL c || isF c).map V.bl))) := by
        intro b hb
        refine ⟨_, hq, ?_, s2.mut hD, ?_⟩
        · rw [List.length_map, List.length_map, List.length_take]
          exact small17s (by omega)
        · rw [upd_same, take_snoc2 ec2, List.map_append, List.map_append, ← hb]
          rfl
      refine ⟨rfl, ?_⟩
      refine ⟨_, rfl, c2, letters, rfl, rfl, _, rfl, if_dec (fun l => ?_) (fun l => ?_)⟩
      · refine fin true ?_
        unfold isL
        rw [decide_eq_true l]
        rfl
      · refine ⟨_, rfl, c2, figures, rfl, rfl, ?_⟩
        refine fin _ ?_
        unfold isL isF
        rw [decide_eq_false l]
        rfl
    · rintro H2 ⟨s2, hq⟩
      refine ⟨D, _, rfl, sql hq, ?_⟩
      have : ((List.take z.cps.size z.cps.toList).map fun c => isL c || isF c).all id = isName z := by
        unfold isName isL
        rw [hc, decide_eq_true c1, Bool.true_and, List.all_map, List.take_of_length_le (by rw [slen]; exact Nat.le_refl _)]
        rfl
      rw [this]
      exact k H2 s2
theorem ok_word_of (T : Tx K mg) (Sr : Src K mg "word_of" s_word_of) (c_OPS : OpsAt K mg) : Def P w K mg base "word_of" 1 ["op", "number"] (sp_word_of K) := by
  obtain ⟨a_OPS, g_OPS, sO, oO, eO, fO1, fO2⟩ := c_OPS
  refine Def.of Sr (fun f fd F => F.bindsN fun _ _ _ _ _ _ us hl => match us, hl with | [_, _], _ => rfl) fun f fd F => ok0 F sc_word_of (fun vs H Q E h => ?_) (fun cdv A outer s H vs Q E hr h => ?_)
  · obtain ⟨z, j, n, rfl, hj, hm, k⟩ := h
    rfl
  · have hu := hu_of hr
    have nd := sc_word_of.nd
    obtain ⟨z, j, n, rfl, hj, hm, k⟩ := h
    refine ⟨_, (pss_one (ps_ret (pe_op op_add (pe_op op_mul (pe_bm PySem.F.plainAttrs_tuple PySem.F.slot_tuple_index PySem.F.type_tuple_index mt_tup_index (pe_glob (v := .ref a_OPS) rfl g_OPS rfl) (pa_cons (pv 0) pa_nil)) (pe_gi rfl T.c_PLACES_codes)) (pv 1)))), ?_⟩
    exact ⟨.inr (.inl ⟨rfl, oO, eO, fO1, fO2⟩), _, rfl, a_OPS, ops, z, j, rfl, rfl, sO _, hj, hm, _, _, rfl, rfl, .inr ⟨by decide, by decide⟩, _, rfl, _, _, rfl, rfl, k⟩
theorem ok_number_in (T : Tx K mg) (Sr : Src K mg "number_in" s_number_in) : Def P w K mg base "number_in" 1 ["word", "most"] (sp_number_in K) := by
  refine Def.of Sr (fun f fd F => F.bindsN fun _ _ _ _ _ _ us hl => match us, hl with | [_, _], _ => rfl) fun f fd F => ok0 F sc_number_in (fun vs H Q E h => ?_) (fun cdv A outer s H vs Q E hr h => ?_)
  · obtain ⟨z, most, o, rfl, ho, k⟩ := h
    rfl
  · have hu := hu_of hr
    have nd := sc_number_in.nd
    obtain ⟨z, most, o, rfl, ho, k⟩ := h
    refine ⟨_, (pss_cons (ps_if (PW.pt (pw_or (pt_not (pt_chain op_le op_le pe_int (pe_callB call_len_str rfl T.b_len PySem.boot_len (pa_cons (pv 0) pa_nil)) pe_int)) (pw_or1 (PW.pt (pw_and (pt_cmpR op_gt (pe_callB call_len_str rfl T.b_len PySem.boot_len (pa_cons (pv 0) pa_nil)) pe_int (nomark _)) (pw_and1 (pt_cmpR op_eq (pe_ix ix_str (pv 0) pe_int (fun _ _ => rfl)) pe_str (nomark _)))))))) (pss_one (ps_ret pe_non)) pss_nil)
      (pss_cons (ps_if (PW.pt (pw_or (pt_not (pt_val (pe_callB (cr_all rfl) rfl T.b_all (by decide +kernel) (pa_cons (pe_lc (own := [("sign", 2)]) rfl nd (pi_str (pv 0)) (blkOk_by (N := N_number_in) (sc := defScope s_number_in) (by decide +kernel)) (fun _ _ _ _ _ => pg_name (i := 2) nd rfl (Or.inl rfl)) (fun _ _ _ _ _ => pts_nil) (fun _ _ _ _ _ => (pe_cmpR op_in_sign (pv 2) (pe_gs rfl T.c_FIGURES) rfl))) pa_nil)))) (pw_or1 (pt_cmpR op_gt (pe_callTy call_int_str rfl T.b_int (by decide +kernel) (pa_cons (pv 0) pa_nil)) (pv 1) (nomark _))))) (pss_one (ps_ret pe_non)) pss_nil)
      (pss_one (ps_ret (pe_callTy call_int_str rfl T.b_int (by decide +kernel) (pa_cons (pv 0) pa_nil)))))), ?_⟩
    have hlen : z.length ≤ 100 := by
      cases o with
      | none => exact of_decide_eq_true ((Bool.and_eq_true _ _).mp ho).1
      | some n =>
        have h1 := (Bool.and_eq_true _ _).mp ho
        have h2 := (Bool.and_eq_true _ _).mp h1.1
        have h3 := (Bool.and_eq_true _ _).mp h2.1
        have h4 := (Bool.and_eq_true _ _).mp h3.1
        have h5 := (Bool.and_eq_true _ _).mp h4.1
        have := of_decide_eq_true h5.2
        omega
    have hz : z.length ≤ sizeLine := small17 (by omega)
    have cases2 : (5 < z.length ∧ o = none) ∨ (1 ≤ z.length ∧ z.length ≤ 5 ∧ noZero z = true ∧ ((z.cps.toList.all isF = false ∧ o = none) ∨ ∃ n, o = some n ∧ z.cps.toList.all isF = true ∧ intText? z = some n ∧ n ≤ most)) := by
      cases o with
      | none =>
        rcases Bool.or_eq_true_iff.mp ((Bool.and_eq_true _ _).mp ho).2 with h | h
        · exact .inl ⟨of_decide_eq_true h, rfl⟩
        · have h3 := (Bool.and_eq_true _ _).mp h
          have h4 := (Bool.and_eq_true _ _).mp h3.1
          have h5 := (Bool.and_eq_true _ _).mp h4.1
          exact .inr ⟨of_decide_eq_true h5.1, of_decide_eq_true h5.2, h4.2, .inl ⟨by have := h3.2; rw [Bool.not_eq_true'] at this; exact this, rfl⟩⟩
      | some n =>
        have h1 := (Bool.and_eq_true _ _).mp ho
        have h2 := (Bool.and_eq_true _ _).mp h1.1
        have h3 := (Bool.and_eq_true _ _).mp h2.1
        have h4 := (Bool.and_eq_true _ _).mp h3.1
        have h5 := (Bool.and_eq_true _ _).mp h4.1
        exact .inr ⟨of_decide_eq_true h5.1, of_decide_eq_true h5.2, h4.2, .inr ⟨n, rfl, h3.2, of_decide_eq_true h2.2, of_decide_eq_true h1.2⟩⟩
    rcases cases2 with ⟨h5, rfl⟩ | ⟨l1, l5, nz, rest⟩
    · refine ⟨_, rfl, z, rfl, hz, _, _, rfl, rfl, _, rfl, if_dec (fun _ => ?_) (fun c => absurd (show (1 : Int) ≤ z.length by omega) c)⟩
      exact ⟨_, _, rfl, rfl, _, rfl, if_nd (fun _ => iteT (k H (Same.refl _))) (fun c => absurd c (show ¬ (z.length : Int) ≤ 5 by omega))⟩
    have h0 := getD_at (l := z.cps.toList) (by rw [slen]; exact l1)
    generalize hc : z.cps.toList.getD 0 0 = c at h0
    refine ⟨_, rfl, z, rfl, hz, _, _, rfl, rfl, _, rfl, if_dec (fun _ => ?_) (fun c => absurd (show (1 : Int) ≤ z.length by omega) c)⟩
    refine ⟨_, _, rfl, rfl, _, rfl, if_nd (fun c => absurd (show (z.length : Int) ≤ 5 by omega) c) (fun _ => ?_)⟩
    refine ⟨_, rfl, z, rfl, hz, _, _, rfl, rfl, _, rfl, if_dec (fun c1 => ?a) (fun c1 => iteF ?b)⟩
    case' a => refine ⟨_, rfl, z, _, c, rfl, rfl, hz, (show atI z.cps.toList ((0 : Nat) : Int) = some c from atI_nat h0), rfl, _, rfl, if_seq (fun e => ?c) (fun _ => ?_)⟩
    case c =>
      exfalso
      have e2 : c = 48 := by
        have := congrArg (fun q : Str => q.cps.toList) e
        have e3 : (Str.ofString "0").cps.toList = [48] := by decide +kernel
        rw [e3] at this
        exact List.head_eq_of_cons_eq this
      unfold noZero at nz
      rcases Bool.or_eq_true_iff.mp nz with h | h
      · have := of_decide_eq_true h
        omega
      · rw [hc] at h
        exact of_decide_eq_true h e2
    all_goals
      refine ⟨_, rfl, z, rfl, ?_⟩
      intro D hD
      refine lc_it walk_str (fun i H2 => Same H H2 ∧ H2 D = some (.lst (((z.cps.toList.take i).map isF).map V.bl))) ⟨same_upd hD, upd_same⟩ (fun _ _ _ _ => trivial) ?_ ?_
      · rintro i x H2 H3 hi ⟨s2, hq⟩ ⟨rfl, c2, ec, rfl⟩
        have ec2 : z.cps.toList[i]? = some c2 := by rw [Array.getElem?_toList]; exact ec
        have li : i < z.length := hi
        refine ⟨rfl, ?_⟩
        refine ⟨_, rfl, c2, figures, rfl, rfl, ?_⟩
        refine ⟨_, hq, ?_, s2.mut hD, ?_⟩
        · rw [List.length_map, List.length_map, List.length_take]
          exact small17s (by omega)
        · rw [upd_same, take_snoc2 ec2, List.map_append, List.map_append]
          rfl
      · rintro H2 ⟨s2, hq⟩
        refine ⟨D, _, rfl, sql hq, _, rfl, ?_⟩
        have : ((List.take z.cps.size z.cps.toList).map isF).all id = z.cps.toList.all isF := by
          rw [List.all_map, List.take_of_length_le (by rw [slen]; exact Nat.le_refl _)]
          rfl
        rw [this]
        rcases rest with ⟨hF, rfl⟩ | ⟨n, rfl, hF, hi, hm⟩
        · rw [hF]
          exact iteT (iteT (k H2 s2))
        · rw [hF]
          refine iteF ⟨_, rfl, z, n, rfl, hi, by omega, _, rfl, _, _, rfl, rfl, _, rfl, if_dec (fun c => absurd hm (by omega)) (fun _ => ?_)⟩
          exact ⟨_, rfl, z, n, rfl, hi, by omega, k H2 s2⟩
theorem ok_arg_in (T : Tx K mg) (Sr : Src K mg "arg_in" s_arg_in) (D_is_name : Def P w K mg base "is_name" 1 ["word"] (sp_is_name K)) (D_number_in : Def P w K mg base "number_in" 1 ["word", "most"] (sp_number_in K)) : Def P w K mg base "arg_in" 2 ["word"] (sp_arg_in K) := by
  obtain ⟨f_is_name, fd_is_name, g_is_name, k_is_name, b_is_name, G_is_name⟩ := D_is_name.ex
  obtain ⟨f_number_in, fd_number_in, g_number_in, k_number_in, b_number_in, G_number_in⟩ := D_number_in.ex
  refine Def.of Sr (fun f fd F => F.bindsN fun _ _ _ _ _ _ us hl => match us, hl with | [_], _ => rfl) fun f fd F => ok0 F sc_arg_in (fun vs H Q E h => ?_) (fun cdv A outer s H vs Q E hr h => ?_)
  · obtain ⟨z, nm, n, rfl, ha, hl, k⟩ := h
    rfl
  · have hu := hu_of hr
    have nd := sc_arg_in.nd
    have R_is_name : 1 ≤ 1 := by decide
    have R_number_in : 1 ≤ 1 := by decide
    obtain ⟨z, nm, n, rfl, ha, hl, k⟩ := h
    refine ⟨_, (pss_cons (ps_asg (pe_partition (pv 0) pe_str) (pg_tup rfl (pgs_cons (pg_name (i := 1) nd rfl (Or.inl rfl)) (pgs_cons (pg_name (i := 2) nd rfl (Or.inl rfl)) (pgs_cons (pg_name (i := 3) nd rfl (Or.inl rfl)) pgs_nil)))))
      (pss_cons (ps_if (PW.pt (pw_and (pt_cmpR op_eq (pv 2) pe_str (nomark _)) (pw_and1 (pt_not (pt_val (pe_call G_is_name (hr.mono R_is_name) rfl g_is_name k_is_name b_is_name .nil pass0 (pa_cons (pv 0) pa_nil))))))) (pss_cons (ps_set (i := 4) nd rfl (Or.inl rfl) (pe_call G_number_in (hr.mono R_number_in) rfl g_number_in k_number_in b_number_in .nil pass0 (pa_cons (pv 0) (pa_cons (pe_op op_sub (pe_gi rfl T.c_PLACES_codes) pe_int) pa_nil))))
      (pss_one (ps_ret (pe_ifExp (pt_cmpR op_isN (pv 4) pe_non (nomark _)) pe_non (pe_tup (pa_cons pe_non (pa_cons (pv 4) pa_nil))))))) pss_nil)
      (pss_cons (ps_set (i := 4) nd rfl (Or.inl rfl) pe_int)
      (pss_cons (ps_if (pt_cmpR op_ne (pv 2) pe_str (nomark _)) (pss_one (ps_set (i := 4) nd rfl (Or.inl rfl) (pe_call G_number_in (hr.mono R_number_in) rfl g_number_in k_number_in b_number_in .nil pass0 (pa_cons (pv 3) (pa_cons (pe_op op_sub (pe_gi rfl T.c_PLACES_codes) pe_int) pa_nil))))) pss_nil)
      (pss_cons (ps_if (PW.pt (pw_or (pt_not (pt_val (pe_call G_is_name (hr.mono R_is_name) rfl g_is_name k_is_name b_is_name .nil pass0 (pa_cons (pv 1) pa_nil)))) (pw_or1 (pt_cmpR op_isN (pv 4) pe_non (nomark _))))) (pss_one (ps_ret pe_non)) pss_nil)
      (pss_one (ps_ret (pe_tup (pa_cons (pv 1) (pa_cons (pv 4) pa_nil)))))))))), ?_⟩
    have he : (Str.ofString "" : Str) = Str.empty := by decide +kernel
    refine ⟨_, rfl, ⟨_, rfl⟩, z, _, rfl, rfl, by decide +kernel, small17 (by omega), fun p hp => ?_⟩
    refine ⟨p, _, rfl, sqt upd_same, rfl, _, _, rfl, _, _, rfl, _, _, rfl, rfl, ?_⟩
    have hs := same_upd (o := .tup [V.str (Txt.partition z (Str.ofString "+")).1, V.str (Txt.partition z (Str.ofString "+")).2.1, V.str (Txt.partition z (Str.ofString "+")).2.2]) hp
    generalize hP : Txt.partition z (Str.ofString "+") = pt at hs ⊢
    have hP' : Txt.partition z (sA "+") = pt := hP
    obtain ⟨pa, pb, pc⟩ := pt
    generalize upd H p (.tup [V.str (pa, pb, pc).1, V.str (pa, pb, pc).2.1, V.str (pa, pb, pc).2.2]) = H1 at hs ⊢
    cases nm with
    | none =>
      have h1 := (Bool.and_eq_true _ _).mp ha
      have h2 := (Bool.and_eq_true _ _).mp h1.1
      have h3 := (Bool.and_eq_true _ _).mp h2.1
      have hp1 := of_decide_eq_true h3.1
      rw [hP'] at hp1
      cases hp1
      have hn : isName z = false := by have := h2.2; rw [Bool.not_eq_true'] at this; exact this
      refine ⟨_, rfl, rfl, _, rfl, if_seq (fun _ => ?_) (fun c => absurd he.symm c)⟩
      refine ⟨_, rfl, z, rfl, h3.2, fun H2 e2 => ?_⟩
      rw [hn]
      refine ⟨_, rfl, iteT ?_⟩
      refine ⟨_, rfl, _, _, rfl, rfl, z, _, some n, rfl, h1.2, fun H3 e3 => ?_⟩
      refine ⟨_, rfl, rfl, _, rfl, if_dec (fun c => nomatch c) (fun _ => ?_)⟩
      exact ⟨_, rfl, sz rfl, fun p3 hp3 => k p3 _ (((hs.trans e2).trans e3).trans (same_upd hp3)) upd_same⟩
    | some m =>
      rcases Bool.or_eq_true_iff.mp ha with h | h
      · have h1 := (Bool.and_eq_true _ _).mp h
        have h2 := (Bool.and_eq_true _ _).mp h1.1
        have h3 := (Bool.and_eq_true _ _).mp h2.1
        have h4 := (Bool.and_eq_true _ _).mp h3.1
        have hp1 := of_decide_eq_true h4.1
        rw [hP'] at hp1
        cases hp1
        have hm := of_decide_eq_true h4.2
        subst hm
        have hn0 := of_decide_eq_true h1.2
        subst hn0
        refine ⟨_, rfl, rfl, _, rfl, if_seq (fun _ => ?_) (fun c => absurd he.symm c)⟩
        refine ⟨_, rfl, z, rfl, h3.2, fun H2 e2 => ?_⟩
        rw [h2.2]
        refine ⟨_, rfl, iteF ?_⟩
        refine ⟨_, rfl, rfl, _, rfl, if_sne (fun c => absurd he.symm c) (fun _ => ?_)⟩
        refine ⟨_, rfl, z, rfl, h3.2, fun H3 e3 => ?_⟩
        rw [h2.2]
        refine ⟨_, rfl, iteF ⟨_, rfl, rfl, _, rfl, if_dec (fun c => nomatch c) (fun _ => ?_)⟩⟩
        exact ⟨_, rfl, _, rfl, sz rfl, fun p3 hp3 => k p3 _ (((hs.trans e2).trans e3).trans (same_upd hp3)) upd_same⟩
      · have h1 := (Bool.and_eq_true _ _).mp h
        have h2 := (Bool.and_eq_true _ _).mp h1.1
        have h3 := (Bool.and_eq_true _ _).mp h2.1
        have h4 := (Bool.and_eq_true _ _).mp h3.1
        have e1 := of_decide_eq_true h4.1
        have e2 := of_decide_eq_true h4.2
        have h5 := h3.2
        rw [hP'] at e1 e2 h5
        have e1 : pa = m := e1
        have e2 : pb = sA "+" := e2
        subst e1 e2
        have hne : sA "+" ≠ Str.ofString "" := by decide +kernel
        refine ⟨_, rfl, rfl, _, rfl, if_seq (fun c => absurd c hne) (fun _ => iteF ?_)⟩
        refine ⟨_, rfl, rfl, _, rfl, if_sne (fun _ => ?_) (fun c => absurd c hne)⟩
        refine ⟨_, rfl, _, _, rfl, rfl, pc, _, some n, rfl, h5, fun H2 e2 => ?_⟩
        refine ⟨_, rfl, pa, rfl, h2.2, fun H3 e3 => ?_⟩
        rw [h1.2]
        refine ⟨_, rfl, iteF ⟨_, rfl, rfl, _, rfl, if_dec (fun c => nomatch c) (fun _ => ?_)⟩⟩
        exact ⟨_, rfl, _, rfl, sz rfl, fun p3 hp3 => k p3 _ (((hs.trans e2).trans e3).trans (same_upd hp3)) upd_same⟩
theorem ok_row_in (T : Tx K mg) (Sr : Src K mg "row_in" s_row_in) (D_is_name : Def P w K mg base "is_name" 1 ["word"] (sp_is_name K)) (D_number_in : Def P w K mg base "number_in" 1 ["word", "most"] (sp_number_in K)) (D_arg_in : Def P w K mg base "arg_in" 2 ["word"] (sp_arg_in K)) (c_OPS : OpsAt K mg) : Def P w K mg base "row_in" 3 ["row"] (sp_row_in K) := by
  obtain ⟨f_is_name, fd_is_name, g_is_name, k_is_name, b_is_name, G_is_name⟩ := D_is_name.ex
  obtain ⟨f_number_in, fd_number_in, g_number_in, k_number_in, b_number_in, G_number_in⟩ := D_number_in.ex
  obtain ⟨f_arg_in, fd_arg_in, g_arg_in, k_arg_in, b_arg_in, G_arg_in⟩ := D_arg_in.ex
  obtain ⟨a_OPS, g_OPS, sO, oO, eO, fO1, fO2⟩ := c_OPS
  refine Def.of Sr (fun f fd F => F.bindsN fun _ _ _ _ _ _ us hl => match us, hl with | [_], _ => rfl) fun f fd F => ok0 F sc_row_in (fun vs H Q E h => ?_) (fun cdv A outer s H vs Q E hr h => ?_)
  · obtain ⟨z, rw', rfl, hr', k⟩ := h
    rfl
  · have hu := hu_of hr
    have nd := sc_row_in.nd
    have R_is_name : 1 ≤ 2 := by decide
    have R_number_in : 1 ≤ 2 := by decide
    have R_arg_in : 2 ≤ 2 := by decide
    obtain ⟨z, rw', rfl, hr', k⟩ := h
    refine ⟨_, (pss_cons (ps_set (i := 1) nd rfl (Or.inl rfl) (pe_split (pv 0) pe_str))
      (pss_cons (ps_if (PW.pt (pw_and (pt_cmpR op_eq (pe_callB call_len_seq rfl T.b_len PySem.boot_len (pa_cons (pv 1) pa_nil)) pe_int (nomark _)) (pw_and (pt_val (pe_m1 PySem.F.slot_str_endswith PySem.F.type_str_endswith mt_endswith (pe_ix ix_list (pv 1) pe_int (fun _ _ => rfl)) pe_str)) (pw_and1 (pt_val (pe_call G_is_name (hr.mono R_is_name) rfl g_is_name k_is_name b_is_name .nil pass0 (pa_cons (pe_slice sl_str (pe_ix ix_list (pv 1) pe_int (fun _ _ => rfl)) po_none (po_some (pe_un un_neg pe_int))) pa_nil))))))) (pss_one (ps_ret (pe_tup (pa_cons pe_str (pa_cons (pe_slice sl_str (pe_ix ix_list (pv 1) pe_int (fun _ _ => rfl)) po_none (po_some (pe_un un_neg pe_int))) pa_nil))))) pss_nil)
      (pss_cons (ps_if (pt_cmpR op_ne (pe_callB call_len_seq rfl T.b_len PySem.boot_len (pa_cons (pv 1) pa_nil)) pe_int (nomark _)) (pss_one (ps_ret pe_non)) pss_nil)
      (pss_cons (ps_if (pt_cmpR op_in_seq (pe_ix ix_list (pv 1) pe_int (fun _ _ => rfl)) (pe_tup (pa_cons pe_str (pa_cons pe_str pa_nil))) rfl) (pss_one (ps_ret (pe_ifExp (pt_val (pe_call G_is_name (hr.mono R_is_name) rfl g_is_name k_is_name b_is_name .nil pass0 (pa_cons (pe_ix ix_list (pv 1) pe_int (fun _ _ => rfl)) pa_nil))) (pe_tup (pa_cons (pe_ix ix_list (pv 1) pe_int (fun _ _ => rfl)) (pa_cons (pe_ix ix_list (pv 1) pe_int (fun _ _ => rfl)) pa_nil))) pe_non))) pss_nil)
      (pss_cons (ps_if (pt_cmpR op_eq (pe_ix ix_list (pv 1) pe_int (fun _ _ => rfl)) pe_str (nomark _)) (pss_cons (ps_set (i := 2) nd rfl (Or.inl rfl) (pe_call G_number_in (hr.mono R_number_in) rfl g_number_in k_number_in b_number_in .nil pass0 (pa_cons (pe_ix ix_list (pv 1) pe_int (fun _ _ => rfl)) (pa_cons (pe_op op_sub (pe_gi rfl T.c_PLACES_codes) pe_int) pa_nil))))
      (pss_one (ps_ret (pe_ifExp (pt_cmpR op_isN (pv 2) pe_non (nomark _)) pe_non (pe_tup (pa_cons pe_str (pa_cons (pv 2) pa_nil))))))) pss_nil)
      (pss_cons (ps_if (pt_cmpR op_eq (pe_ix ix_list (pv 1) pe_int (fun _ _ => rfl)) pe_str (nomark _)) (pss_cons (ps_set (i := 2) nd rfl (Or.inl rfl) (pe_call G_number_in (hr.mono R_number_in) rfl g_number_in k_number_in b_number_in .nil pass0 (pa_cons (pe_ix ix_list (pv 1) pe_int (fun _ _ => rfl)) (pa_cons pe_int pa_nil))))
      (pss_one (ps_if (pt_cmpR op_notN (pv 2) pe_non (nomark _)) (pss_one (ps_ret (pe_tup (pa_cons pe_str (pa_cons (pv 2) pa_nil))))) pss_nil))) (pss_one (ps_if (pt_cmpR op_notIn_seq (pe_ix ix_list (pv 1) pe_int (fun _ _ => rfl)) (pe_glob (v := .ref a_OPS) rfl g_OPS rfl) rfl) (pss_one (ps_ret pe_non)) pss_nil)))
      (pss_cons (ps_set (i := 3) nd rfl (Or.inl rfl) (pe_call G_arg_in (hr.mono R_arg_in) rfl g_arg_in k_arg_in b_arg_in .nil pass0 (pa_cons (pe_ix ix_list (pv 1) pe_int (fun _ _ => rfl)) pa_nil)))
      (pss_one (ps_ret (pe_ifExp (pt_cmpR op_isN (pv 3) pe_non (nomark _)) pe_non (pe_tup (pa_cons pe_str (pa_cons (pe_ix ix_list (pv 1) pe_int (fun _ _ => rfl)) (pa_cons (pv 3) pa_nil)))))))))))))), ?_⟩
    have hl := row_len hr'
    have hr2 := ((Bool.and_eq_true _ _).mp hr').2
    refine ⟨_, rfl, ⟨_, rfl⟩, z, _, rfl, rfl, by decide +kernel, small17 (by omega), fun p hp => ?_⟩
    have hs := same_upd (o := .lst ((Txt.split z (Str.ofString " ")).map V.str)) hp
    have hq : upd H p (.lst ((Txt.split z (Str.ofString " ")).map V.str)) p = some (.lst ((Txt.split z (Str.ofString " ")).map V.str)) := upd_same
    generalize hP : Txt.split z (Str.ofString " ") = xs at hs hq ⊢
    have hP' : Txt.split z (sA " ") = xs := hP
    generalize upd H p (.lst (xs.map V.str)) = H1 at hs hq ⊢
    cases rw' with
    | give n =>
      have h1 := (Bool.and_eq_true _ _).mp hr2
      have h2 := (Bool.and_eq_true _ _).mp h1.1
      have e := of_decide_eq_true h2.1
      rw [hP'] at e
      subst e
      refine ⟨_, rfl, p, _, rfl, .inl (sql hq), rfl, _, rfl, if_eq (fun c => nomatch c) (fun _ => iteF ?_)⟩
      refine ⟨_, rfl, p, _, rfl, .inl (sql hq), rfl, _, rfl, if_ne (fun c => absurd rfl c) (fun _ => ?_)⟩
      refine ⟨_, rfl, p, _, _, _, rfl, rfl, sql hq, rfl, sz rfl, fun t ht => ?_⟩
      have ht2 := same_upd (o := .tup [V.str (Str.ofString "give"), V.str (Str.ofString "need")]) ht
      refine ⟨t, _, rfl, .inr (sqt upd_same), rfl, rfl, _, rfl, if_bool (fun _ => ?_) (fun c => absurd c (by decide +kernel))⟩
      refine ⟨_, rfl, p, _, _, _, rfl, rfl, sql (ht2 _ _ hq), rfl, n, rfl, h2.2, fun H2 e2 => ?_⟩
      rw [h1.2]
      refine ⟨_, rfl, iteT ?_⟩
      have e3 := ht2.trans e2
      refine ⟨_, rfl, p, _, _, _, rfl, rfl, sql (e3 _ _ hq), rfl, _, rfl, p, _, _, _, rfl, rfl, sql (e3 _ _ hq), rfl, sz rfl, fun p3 hp3 => ?_⟩
      exact k (.ref p3) _ ((hs.trans e3).trans (same_upd hp3)) ⟨p3, p3, rfl, upd_same, fun _ _ _ z => nomatch z⟩
    | lab n =>
      have h1 := (Bool.and_eq_true _ _).mp hr2
      have h2 := (Bool.and_eq_true _ _).mp h1.1
      have h3 := (Bool.and_eq_true _ _).mp h2.1
      have h4 := (Bool.and_eq_true _ _).mp h3.1
      have e := of_decide_eq_true h4.1
      rw [hP'] at e
      subst e
      have ec := of_decide_eq_true h3.2
      refine ⟨_, rfl, p, _, rfl, .inl (sql hq), rfl, _, rfl, if_eq (fun _ => ?_) (fun c => absurd rfl c)⟩
      refine ⟨_, rfl, p, _, _, _, rfl, rfl, sql hq, rfl, ⟨_, rfl⟩, z, _, rfl, rfl, _, rfl, if_bool (fun _ => ?_) (fun c => absurd (h4.2.symm.trans c) (by decide))⟩
      refine ⟨_, rfl, p, _, _, _, rfl, rfl, sql hq, rfl, _, rfl, _, rfl, z, rfl, small17 (by omega), _, rfl, ?_, fun H2 e2 => ?_⟩
      · show okLen (cutS z none (some (-1))) = true
        rw [ec]
        exact h2.2
      have en : isName (cutS z none (some (-1))) = true := by rw [ec]; exact h1.2
      refine ⟨_, rfl, if_bool (fun _ => ?_) (fun c => absurd (en.symm.trans c) (by decide))⟩
      refine ⟨_, rfl, p, _, _, _, rfl, rfl, sql (e2 _ _ hq), rfl, _, rfl, _, rfl, z, rfl, small17 (by omega), sz rfl, fun p3 hp3 => ?_⟩
      refine k (.ref p3) _ ((hs.trans e2).trans (same_upd hp3)) ⟨p3, p3, rfl, ?_, fun _ _ _ z => nomatch z⟩
      rw [← ec]
      exact upd_same
    | space n =>
      obtain ⟨b, e, h12⟩ := row_space hr'
      rw [hP'] at e
      subst e
      refine ⟨_, rfl, p, _, rfl, .inl (sql hq), rfl, _, rfl, if_eq (fun c => nomatch c) (fun _ => iteF ?_)⟩
      refine ⟨_, rfl, p, _, rfl, .inl (sql hq), rfl, _, rfl, if_ne (fun c => absurd rfl c) (fun _ => ?_)⟩
      refine ⟨_, rfl, p, _, _, _, rfl, rfl, sql hq, rfl, sz rfl, fun t ht => ?_⟩
      have ht2 := same_upd (o := .tup [V.str (Str.ofString "give"), V.str (Str.ofString "need")]) ht
      refine ⟨t, _, rfl, .inr (sqt upd_same), rfl, rfl, _, rfl, if_bool (fun c => absurd c (by decide +kernel)) (fun _ => ?_)⟩
      refine ⟨_, rfl, p, _, _, _, rfl, rfl, sql (ht2 _ _ hq), rfl, rfl, _, rfl, if_seq (fun _ => ?_) (fun c => absurd rfl c)⟩
      refine ⟨_, rfl, p, _, _, _, rfl, rfl, sql (ht2 _ _ hq), rfl, _, _, rfl, rfl, b, _, some (n : Int), rfl, h12, fun H2 e2 => ?_⟩
      refine ⟨_, rfl, rfl, _, rfl, if_dec (fun c => nomatch c) (fun _ => ?_)⟩
      refine ⟨_, rfl, sz rfl, fun p3 hp3 => ?_⟩
      exact k (.ref p3) _ (((hs.trans ht2).trans e2).trans (same_upd hp3)) ⟨p3, p3, rfl, upd_same, fun _ _ _ z => nomatch z⟩
    | plain n =>
      obtain ⟨b, e, h12⟩ := row_plain hr'
      rw [hP'] at e
      subst e
      refine ⟨_, rfl, p, _, rfl, .inl (sql hq), rfl, _, rfl, if_eq (fun c => nomatch c) (fun _ => iteF ?_)⟩
      refine ⟨_, rfl, p, _, rfl, .inl (sql hq), rfl, _, rfl, if_ne (fun c => absurd rfl c) (fun _ => ?_)⟩
      refine ⟨_, rfl, p, _, _, _, rfl, rfl, sql hq, rfl, sz rfl, fun t ht => ?_⟩
      have ht2 := same_upd (o := .tup [V.str (Str.ofString "give"), V.str (Str.ofString "need")]) ht
      refine ⟨t, _, rfl, .inr (sqt upd_same), rfl, rfl, _, rfl, if_bool (fun c => absurd c (by decide +kernel)) (fun _ => ?_)⟩
      refine ⟨_, rfl, p, _, _, _, rfl, rfl, sql (ht2 _ _ hq), rfl, rfl, _, rfl, if_seq (fun c => absurd c (by decide +kernel)) (fun _ => ?_)⟩
      refine ⟨_, rfl, p, _, _, _, rfl, rfl, sql (ht2 _ _ hq), rfl, rfl, _, rfl, if_seq (fun _ => ?_) (fun c => absurd rfl c)⟩
      refine ⟨_, rfl, p, _, _, _, rfl, rfl, sql (ht2 _ _ hq), rfl, b, _, some n, rfl, h12, fun H2 e2 => ?_⟩
      refine ⟨_, rfl, rfl, _, rfl, if_nd (fun _ => ?_) (fun c => nomatch c)⟩
      refine ⟨_, rfl, sz rfl, fun p3 hp3 => ?_⟩
      exact k (.ref p3) _ (((hs.trans ht2).trans e2).trans (same_upd hp3)) ⟨p3, p3, rfl, upd_same, fun _ _ _ z => nomatch z⟩
    | row o nm n =>
      obtain ⟨b, e, ha, hb, h12⟩ := row_row hr'
      rw [hP'] at e
      subst e
      have hop : o = sA "word" ∨ o ∈ ops := h12.imp And.left id
      obtain ⟨o1, o2⟩ := op_not hop
      refine ⟨_, rfl, p, _, rfl, .inl (sql hq), rfl, _, rfl, if_eq (fun c => nomatch c) (fun _ => iteF ?_)⟩
      refine ⟨_, rfl, p, _, rfl, .inl (sql hq), rfl, _, rfl, if_ne (fun c => absurd rfl c) (fun _ => ?_)⟩
      refine ⟨_, rfl, p, _, _, _, rfl, rfl, sql hq, rfl, sz rfl, fun t ht => ?_⟩
      have ht2 := same_upd (o := .tup [V.str (Str.ofString "give"), V.str (Str.ofString "need")]) ht
      refine ⟨t, _, rfl, .inr (sqt upd_same), rfl, rfl, _, rfl, if_bool (fun c => absurd (o1.symm.trans c) (by decide)) (fun _ => ?_)⟩
      refine ⟨_, rfl, p, _, _, _, rfl, rfl, sql (ht2 _ _ hq), rfl, rfl, _, rfl, if_seq (fun c => absurd c o2) (fun _ => ?_)⟩
      have fin : ∀ H2, Same (upd H1 t (.tup [V.str (Str.ofString "give"), V.str (Str.ofString "need")])) H2 → ∀ q H4, Same H2 H4 → H4 q = some (.tup [optS nm, .int n]) → ∀ p3, H4 p3 = none → Q (.ref p3) (upd H4 p3 (.tup [V.str (sA "row"), V.str o, .ref q])) := by
        intro H2 e2 q H4 e4 hq4 p3 hp3
        exact k (.ref p3) _ ((((hs.trans ht2).trans e2).trans e4).trans (same_upd hp3)) ⟨p3, q, rfl, upd_same, fun o' nm' k' z => by cases z; exact same_upd hp3 _ _ hq4⟩
      refine ⟨_, rfl, p, _, _, _, rfl, rfl, sql (ht2 _ _ hq), rfl, rfl, _, rfl, if_seq (fun c => ?_) (fun c => ?_)⟩
      · have h5 : isNum b 65535 none = true := by
          rcases h12 with h | h
          · exact h.2
          · rw [c] at h
            exact absurd h (by decide +kernel)
        refine ⟨_, rfl, p, _, _, _, rfl, rfl, sql (ht2 _ _ hq), rfl, b, _, none, rfl, h5, fun H2 e2 => ?_⟩
        refine ⟨_, rfl, rfl, _, rfl, if_nd (fun c => absurd rfl c) (fun _ => ?_)⟩
        refine ⟨_, rfl, p, _, _, _, rfl, rfl, sql (e2 _ _ (ht2 _ _ hq)), rfl, b, nm, n, rfl, ha, hb, fun q H4 e4 hq4 => ?_⟩
        refine ⟨_, rfl, rfl, _, rfl, if_dec (fun c => nomatch c) (fun _ => ?_)⟩
        exact ⟨_, rfl, p, _, _, _, rfl, rfl, sql (e4 _ _ (e2 _ _ (ht2 _ _ hq))), rfl, _, rfl, sz rfl, fin H2 e2 q H4 e4 hq4⟩
      · have h5 : o ∈ ops := hop.resolve_left c
        refine ⟨_, rfl, p, _, _, _, rfl, rfl, sql (ht2 _ _ hq), rfl, a_OPS, _, rfl, .inr (sO _), rfl, by decide +kernel, _, rfl, if_nb (fun c => absurd (c.symm.trans (op_in h5)) (by decide)) (fun _ => ?_)⟩
        refine ⟨_, rfl, p, _, _, _, rfl, rfl, sql (ht2 _ _ hq), rfl, b, nm, n, rfl, ha, hb, fun q H4 e4 hq4 => ?_⟩
        refine ⟨_, rfl, rfl, _, rfl, if_dec (fun c => nomatch c) (fun _ => ?_)⟩
        exact ⟨_, rfl, p, _, _, _, rfl, rfl, sql (e4 _ _ (ht2 _ _ hq)), rfl, _, rfl, sz rfl, fin _ (Same.refl _) q H4 e4 hq4⟩
theorem ok_rows_in (T : Tx K mg) (Sr : Src K mg "rows_in" s_rows_in) (D_row_in : Def P w K mg base "row_in" 3 ["row"] (sp_row_in K)) : Def P w K mg base "rows_in" 4 ["text"] (sp_rows_in K) := by
  obtain ⟨f_row_in, fd_row_in, g_row_in, k_row_in, b_row_in, G_row_in⟩ := D_row_in.ex
  refine Def.of Sr (fun f fd F => F.bindsN fun _ _ _ _ _ _ us hl => match us, hl with | [_], _ => rfl) fun f fd F => ok0 F sc_rows_in (fun vs H Q E h => ?_) (fun cdv A outer s H vs Q E hr h => ?_)
  · obtain ⟨z, rows, rws', rfl, hl, hs, h2, h200, hall, k⟩ := h
    rfl
  · have hu := hu_of hr
    have nd := sc_rows_in.nd
    have R_row_in : 3 ≤ 3 := by decide
    obtain ⟨z, rows, rws', rfl, hl, hs, h2, h200, hall, k⟩ := h
    refine ⟨_, (pss_cons (ps_if (pt_cmpR op_eq (pv 0) pe_str (nomark _)) (pss_one (ps_ret (pe_lst pa_nil))) pss_nil)
      (pss_one (ps_ret (pe_lc (own := [("row", 1)]) rfl nd (pi_list (pe_split (pv 0) pe_str)) (blkOk_by (N := N_rows_in) (sc := defScope s_rows_in) (by decide +kernel)) (fun _ _ _ _ _ => pg_name (i := 1) nd rfl (Or.inl rfl)) (fun _ _ _ _ _ => pts_nil) (fun _ _ _ _ _ => (pe_call G_row_in (hr.mono R_row_in) rfl g_row_in k_row_in b_row_in .nil pass0 (pa_cons (pv 1) pa_nil))))))), ?_⟩
    have hne : z ≠ Str.ofString "" := fun e => by
      subst e
      have : (Txt.split (Str.ofString "") (sA "\n")).length = 1 := by decide +kernel
      rw [hs] at this
      omega
    refine ⟨_, rfl, rfl, _, rfl, if_seq (fun c => absurd c hne) (fun _ => ?_)⟩
    refine ⟨_, rfl, ⟨_, rfl⟩, z, _, rfl, rfl, by decide +kernel, by rw [sizeLine_eq]; omega, fun p hp => ?_⟩
    have hs' : Txt.split z (Str.ofString "\n") = rows := hs
    have s1 := same_upd (o := .lst ((Txt.split z (Str.ofString "\n")).map V.str)) hp
    have hq : upd H p (.lst ((Txt.split z (Str.ofString "\n")).map V.str)) p = some (.lst (rows.map V.str)) := by rw [upd_same, hs']
    generalize upd H p (.lst ((Txt.split z (Str.ofString "\n")).map V.str)) = H1 at s1 hq ⊢
    refine ⟨_, rfl, ⟨_, sql hq⟩, ?_⟩
    intro D hD
    refine lc_it walk_list (fun i H2 => ∃ xs, Same H1 H2 ∧ H2 D = some (.lst xs) ∧ RwsV H2 xs (rws'.take i)) ⟨[], same_upd hD, upd_same, rfl, fun i x rw h => by simp at h⟩ (fun i H2 _ h => by obtain ⟨_, s2, _⟩ := h; exact sql (s2 _ _ hq)) ?_ ?_
    · rintro i x H2 H3 hi ⟨xs, s2, hq2, hR⟩ ⟨rfl, ex⟩
      rw [List.length_map] at hi
      have er : rows[i]? = some rows[i] := List.getElem?_eq_getElem hi
      rw [List.getElem?_map, er] at ex
      cases ex
      obtain ⟨rw0, e0, h0⟩ := all2_at hall er
      have lx : xs.length = i := by
        have := all2_len hall
        rw [hR.1, List.length_take]
        omega
      refine ⟨rfl, ⟨_, rfl, rows[i], rw0, rfl, h0, fun v H4 e4 hv => ⟨xs, e4 _ _ hq2, small17s (by omega), xs ++ [v], (s2.trans e4).mut hD, upd_same, ?_⟩⟩⟩
      rw [take_snoc2 e0]
      exact ((hR.same e4).snoc hv).but (e4 _ _ hq2) fun b o nb hb => by rw [upd_ne nb]; exact hb
    · rintro H2 ⟨xs, s2, hq2, hR⟩
      rw [List.length_map, all2_len hall, List.take_length] at hR
      exact k D xs H2 (s1.trans s2) hq2 hR
end
end G3
set_option Elab.async false
set_option linter.all false
set_option maxRecDepth 100000
set_option maxHeartbeats 1000000
namespace G3
open PySem PySem.Spec PyProof.Rows L2
local macro_rules | `(tactic| walk_at "hp") => `(tactic| first | assumption | exact upd_same | (refine same_upd (by assumption) _ _ ?_; walk_at "hp") | (refine (‹Same _ _›) _ _ ?_; walk_at "hp"))
local macro_rules | `(tactic| walk_at "sm") => `(tactic| first | exact Same.refl _ | assumption | (refine Same.trans ?_ (same_upd (by assumption)); walk_at "sm") | (refine Same.trans ?_ (by assumption); walk_at "sm"))
/-! ### d.get(y, x), y may be None -/
section
variable {X : Cx} {pins : List (Addr × Obj)} {σ : L2.St} {H : Hp} {s : Shared} {a : Addr} {kvs : List (Key × V)} {A : Around} {E : Value → Shared → Prop} {d : V} {r : Value}
theorem dget_none {Q : Value → Shared → Prop} (I : Inv X pins σ H s) (e : Rd H a (.dK kvs)) (rd : RelV d r) (h : ∀ w' s', Inv X pins σ H s' → RelV d w' → Q w' s') :
    wpAny (model X.prog X.w) A (call (.builtin "dict.get") [.ref a, .none, r]) Q E s := by
  obtain ⟨z, hd, vs, rel, dd⟩ := dk_rd I.hok e
  obtain ⟨f, hm, hf⟩ := none_map dd
  refine call_meetsIn PySem.F.slot_dict_get dd.typeIs PySem.F.entry_dict_get (PySem.F.args_dict_get_3 _ _ _) (meets_dict_get_default (noneKind X.prog X.w) a (show (noneKind X.prog X.w).is none .none = true from rfl) hd r) ⟨_, hm, h _ _ (I.tok _) ?_⟩
  rw [hf]
  exact rd
end
def tDGet2N (td ty tx : TE) : TE := fun σ H Q => td σ H fun x H1 => ∃ a, x = .ref a ∧ IsD H1 a ∧ ty σ H1 fun y H2 => tx σ H2 fun z H3 => (∃ o, DGet H3 a y o ∧ Q (o.getD z) H3) ∨ ∃ kvs, y = .non ∧ Rd H3 a (.dK kvs) ∧ Q z H3
section
variable {X : Cx} {o e f : Expr} {apos cpos : Pos} {td ty tx : TE}
theorem pe_dget2N (hu : X.A.units + 1 < cLine) (ho : PE X o td) (he : PE X e ty) (hf : PE X f tx) (m : M2 X o "get" apos e f cpos) : PE X (.Call (.Attribute o "get" apos) [e, f] [] cpos) (tDGet2N td ty tx) := by
  refine ⟨fun pins s σ H Q I h => ?_⟩
  refine wpAny_Call_method m.base m.few m.line PySem.F.plainAttrs_dict PySem.F.slot_dict_get PySem.F.type_dict_get (thn (ho.run pins s σ H _ I h) fun u s1 ⟨x, H1, I1, rx, a, ex, d, q1⟩ => ?_)
  subst ex
  obtain rfl : u = Value.ref a := rx
  obtain ⟨t1, t2, _⟩ := isD_at I1 d
  refine ⟨t1, t2, ?_⟩
  rw [m.trees]
  refine Calls.callWith_builtin rfl (Calls.evalArgs_plain (Calls.spliced_cons (thn (he.run pins s1 σ H1 _ I1 q1) fun iv s2 ⟨y, H2, I2, ry, q2⟩ =>
    Calls.spliced_cons (thn (hf.run pins s2 σ H2 _ I2 q2) fun fv s3 ⟨z, H3, I3, rz, q3⟩ => Calls.spliced_nil ?_))))
  rcases q3 with ⟨ov, g, q3⟩ | ⟨kvs, ey, g, q3⟩
  · exact d_get2 hu I3 g ry rz fun w' s4 I4 rw' => ⟨_, H3, I4, rw', q3⟩
  · subst ey
    obtain rfl : iv = Value.none := ry
    exact dget_none I3 g rz fun w' s4 I4 rw' => ⟨_, H3, I4, rw', q3⟩
end
/-! ### the class -/
abbrev NmC (K : PySem.W.Frag) : Addr := He.ga K "Names"
structure NmF (K : PySem.W.Frag) (mg : Str → Option Value) : Prop where
  g : mg "Names" = some (.ref (NmC K))
  cl : Cls K (NmC K)
  n1 : NoAttr K (NmC K) "head"
  n2 : NoAttr K (NmC K) "labels"
  n3 : NoAttr K (NmC K) "needs"
  n4 : NoAttr K (NmC K) "met"
structure DefM (P : Program) (w : World) (K : PySem.W.Frag) (mg : Str → Option Value) (base : Heap) (m : Str) (k : Nat) (ps : List Str) (sp : Sp) : Prop where
  ex : ∃ (f : Addr) (fd : FuncData), Meth K (NmC K) m f ∧ Binds K fd ps [] ∧ FnOk P w K mg base CX0 k f fd ps sp
structure DefI (P : Program) (w : World) (K : PySem.W.Frag) (mg : Str → Option Value) (base : Heap) (k : Nat) (ps : List Str) (sp : Sp) : Prop where
  ex : ∃ (f : Addr) (fd : FuncData), Mk K (NmC K) f ∧ Binds K fd ps [] ∧ FnOk P w K mg base CX0 k f fd ps sp
/-! ### the rows' mirror -/
def nameOf (f : Str) : Rw → Option Str
  | .give n => if sA "give" = f then some n else none
  | .lab n => if sA "label" = f then some n else none
  | _ => none
def namesOf (f : Str) (rws : List Rw) : List Str := rws.filterMap (nameOf f)
def isGive : Rw → Bool
  | .give _ => true
  | _ => false
def size : Rw → Nat
  | .space k => k
  | .plain _ => 1
  | .row _ _ _ => 1
  | _ => 0
def keyOf : Rw → Option (List Key)
  | .give n => some [.inr (sA "give"), .inr n]
  | .lab n => some [.inr (sA "label"), .inr n]
  | _ => none
def placeAt (rws : List Rw) (i : Nat) : Nat := ((rws.take i).map size).sum
def stL (s : List (Key × V) × Nat) (r : Rw) : List (Key × V) × Nat := (match r with
  | .lab n => putK s.1 (.inr n) (.int (s.2 : Int))
  | _ => s.1, s.2 + size r)
def labelsAt (rws : List Rw) (i : Nat) : List (Key × V) := ((rws.take i).foldl stL ([], 0)).1
def lookI (kvs : List (Key × V)) (n : Str) : Int := match valV kvs (.inr n) with
  | some (.int i) => i
  | _ => 0
def nmI (kvs : List (Key × V)) : Option Str → Int
  | some n => lookI kvs n
  | none => 0
def opIx (o : Str) : Nat := ops.findIdx (fun z => decide (z = o))
def wordsIn (kvs : List (Key × V)) : Rw → List Int
  | .plain k => [k]
  | .space k => List.replicate k 0
  | .row o nm k => [mv (if o = sA "word" then k else (opIx o : Int) * 4096 + k) (nmI kvs nm)]
  | _ => []
structure NmAt (K : PySem.W.Frag) (H : Hp) (x : Addr) (hd : Nat) (L N M : Addr) (labels : List Str) (kvs : List (List Key × V)) : Prop where
  ins : ∃ dx, H x = some (.ins (NmC K) dx [("head", .int (hd : Int)), ("labels", .ref L), ("needs", .ref N), ("met", .ref M)])
  lab : H L = some (.lst (labels.map V.str))
  nee : H N = some (.lst [])
  met : H M = some (.dT kvs)
  few : kvs.length ≤ 1000
def sp_head_of (K : PySem.W.Frag) : Sp := fun vs H Q _ => ∃ (a : Addr) (xs : List V) (rws : List Rw) (n : Nat), vs = [.ref a] ∧ H a = some (.lst xs) ∧ RwsV H xs rws ∧ (∀ i, i < n → ∃ m, rws[i]? = some (.give m)) ∧
  (∃ rw, rws[n]? = some rw ∧ isGive rw = false) ∧ ∀ H', Same H H' → Q (.int (n : Int)) H'
def sp_names_of (K : PySem.W.Frag) : Sp := fun vs H Q _ => ∃ (a : Addr) (xs : List V) (rws : List Rw) (f : Str), vs = [.ref a, .str f] ∧ H a = some (.lst xs) ∧ RwsV H xs rws ∧ (f = sA "label" ∨ f = sA "need" ∨ f = sA "give") ∧ xs.length ≤ 1000 ∧
  ∀ p H', Same H H' → H p = none → H' p = some (.lst ((namesOf f rws).map V.str)) → Q (.ref p) H'
def sp_size_of (K : PySem.W.Frag) : Sp := fun vs H Q _ => ∃ (v : V) (rw : Rw), vs = [v] ∧ RwV H v rw ∧ ∀ H', Same H H' → Q (.int (size rw : Int)) H'
section
variable {P : Program} {w : World} {K : PySem.W.Frag} {mg : Str → Option Value} {base : Heap}
theorem ok_head_of (T : Tx K mg) (Sr : Src K mg "head_of" s_head_of) : Def P w K mg base "head_of" 1 ["rows"] (sp_head_of K) := by
  refine Def.of Sr (fun f fd F => F.bindsN fun _ _ _ _ _ _ us hl => match us, hl with | [_], _ => rfl) fun f fd F => ok0 F sc_head_of (fun vs H Q E h => ?_) (fun cdv A outer s H vs Q E hr h => ?_)
  · obtain ⟨a, xs, rws', n, rfl, ha, hR, hg, ⟨rw0, hn, hng⟩, k⟩ := h
    rfl
  · have hu := hu_of hr
    have nd := sc_head_of.nd
    obtain ⟨a, xs, rws', n, rfl, ha, hR, hg, ⟨rw0, hn, hng⟩, k⟩ := h
    refine ⟨_, (pss_cons (ps_set (i := 1) nd rfl (Or.inl rfl) pe_int)
      (pss_cons (ps_while PassesOwn.never (PW.pt (pw_and (pt_cmpR op_lt (pv 1) (pe_callB call_len_seq rfl T.b_len PySem.boot_len (pa_cons (pv 0) pa_nil)) (nomark _)) (pw_and (pt_cmpR op_notN (pe_ix ix_list (pv 0) (pv 1) (fun _ _ => rfl)) pe_non (nomark _)) (pw_and1 (pt_cmpR op_in_seq (pe_ix ix_tup (pe_ix ix_list (pv 0) (pv 1) (fun _ _ => rfl)) pe_int (fun _ _ => rfl)) (pe_tup (pa_cons pe_str (pa_cons pe_str pa_nil))) rfl))))) (pss_one (ps_aug (i := 1) nd rfl (Or.inl rfl) pe_int ip_add)))
      (pss_one (ps_ret (pv 1))))), ?_⟩
    have ln : n < rws'.length := (List.getElem?_eq_some_iff.mp hn).1
    refine ⟨fun μ σ H2 => ∃ c : Nat, μ = n - c ∧ c ≤ n ∧ σ = [some (.ref a), some (.int (c : Int))] ∧ Same H H2, ⟨n, 0, rfl, Nat.zero_le _, rfl, Same.refl _⟩, ?_⟩
    rintro μ σ H2 ⟨c, rfl, hc, rfl, e2⟩
    refine ⟨_, rfl, _, rfl, a, _, rfl, .inl (sql (e2 _ _ ha)), _, _, rfl, rfl, _, rfl, if_dec (fun c1 => ?_) (fun c1 => absurd (show (c : Int) < (xs.length : Int) by rw [hR.1]; omega) c1)⟩
    obtain ⟨rw1, h1⟩ : ∃ rw1, rws'[c]? = some rw1 := ⟨rws'[c], List.getElem?_eq_getElem (by omega)⟩
    obtain ⟨x1, ex⟩ : ∃ x1, xs[c]? = some x1 := ⟨xs[c]'(by rw [hR.1]; omega), List.getElem?_eq_getElem _⟩
    obtain ⟨p, q, rfl, hp, _⟩ := hR.2 c x1 rw1 ex h1
    refine ⟨_, rfl, _, rfl, a, _, _, _, rfl, rfl, sql (e2 _ _ ha), at_of rfl ex, rfl, _, rfl, if_nd (fun _ => ?_) (fun z => nomatch z)⟩
    have hp2 := e2 _ _ hp
    by_cases cn : c = n
    · subst cn
      rw [hn] at h1
      cases h1
      obtain ⟨z, hz, hi⟩ : ∃ z : Str, (rwT q rw0)[0]? = some (.str z) ∧ inV (.str z) [V.str (sA "give"), V.str (sA "need")] = false := by
        cases rw0 with
        | give m => cases hng
        | lab m => exact ⟨_, rfl, by decide +kernel⟩
        | space m => exact ⟨_, rfl, by decide +kernel⟩
        | plain m => exact ⟨_, rfl, by decide +kernel⟩
        | row o nm m => exact ⟨_, rfl, by decide +kernel⟩
      exact ⟨_, rfl, _, rfl, a, _, _, _, rfl, rfl, sql (e2 _ _ ha), at_of rfl ex, p, _, _, _, rfl, rfl, sqt hp2, (show atI (rwT q rw0) ((0 : Nat) : Int) = some _ from atI_nat hz), sz rfl, fun t ht => ⟨t, _, rfl, .inr (sqt upd_same), rfl, rfl, _, rfl, if_bool (fun z => absurd (hi.symm.trans z) (by decide)) (fun _ => ⟨_, rfl, k _ (e2.trans (same_upd ht))⟩)⟩⟩
    · obtain ⟨m, hm⟩ := hg c (by omega)
      rw [h1] at hm
      cases hm
      refine ⟨_, rfl, _, rfl, a, _, _, _, rfl, rfl, sql (e2 _ _ ha), at_of rfl ex, p, _, _, _, rfl, rfl, sqt hp2, rfl, sz rfl, fun t ht => ⟨t, _, rfl, .inr (sqt upd_same), rfl, rfl, _, rfl, if_bool (fun _ => ?_) (fun z => absurd z (by decide +kernel))⟩⟩
      refine ⟨fun σ' H' => σ' = [some (.ref a), some (.int ((c + 1 : Nat) : Int))] ∧ Same H H', fun σ' H' h => ⟨n - (c + 1), by omega, c + 1, rfl, by omega, h⟩, ?_⟩
      exact ⟨_, rfl, _, _, rfl, rfl, rfl, e2.trans (same_upd ht)⟩
theorem ok_names_of (T : Tx K mg) (Sr : Src K mg "names_of" s_names_of) : Def P w K mg base "names_of" 1 ["rows", "form"] (sp_names_of K) := by
  refine Def.of Sr (fun f fd F => F.bindsN fun _ _ _ _ _ _ us hl => match us, hl with | [_, _], _ => rfl) fun f fd F => ok0 F sc_names_of (fun vs H Q E h => ?_) (fun cdv A outer s H vs Q E hr h => ?_)
  · obtain ⟨a, xs, rws', f0, rfl, ha, hR, hf, hl, k⟩ := h
    rfl
  · have hu := hu_of hr
    have nd := sc_names_of.nd
    obtain ⟨a, xs, rws', f0, rfl, ha, hR, hf, hl, k⟩ := h
    refine ⟨_, (pss_one (ps_ret (pe_lc (own := [("row", 2)]) rfl nd (pi_list (pv 0)) (blkOk_by (N := N_names_of) (sc := defScope s_names_of) (by decide +kernel)) (fun _ _ _ _ _ => pg_name (i := 2) nd rfl (Or.inl rfl)) (fun _ _ _ _ _ => pts_one (PW.pt (pw_and (pt_cmpR op_notN (pv 2) pe_non (nomark _)) (pw_and1 (pt_cmpR op_eq (pe_ix (ix_tupK (K := K) rfl) (pv 2) pe_int (fun _ _ => rfl)) (pv 1) (nomark _)))))) (fun _ _ _ _ _ => (pe_ix (ix_tupK (K := K) rfl) (pv 2) pe_int (fun _ _ => rfl)))))), ?_⟩
    refine ⟨_, rfl, a, rfl, ⟨_, sql ha⟩, ?_⟩
    intro D hD
    refine lc_it walk_list (fun i H2 => Same H H2 ∧ H2 D = some (.lst ((namesOf f0 (rws'.take i)).map V.str))) ⟨same_upd hD, upd_same⟩ (fun i H2 _ h => sql (h.1 _ _ ha)) ?_ ?_
    · rintro i x H2 H3 hi ⟨s2, hq⟩ ⟨rfl, ex⟩
      obtain ⟨rw1, h1⟩ : ∃ rw1, rws'[i]? = some rw1 := ⟨rws'[i]'(by rw [← hR.1]; exact hi), List.getElem?_eq_getElem _⟩
      obtain ⟨p, q, rfl, hp, _⟩ := hR.2 i x rw1 ex h1
      have hp3 := s2 _ _ hp
      have lq : ((namesOf f0 (rws'.take i)).map V.str).length ≤ 1000 := by
        rw [List.length_map]
        refine Nat.le_trans (List.length_filterMap_le _ _) ?_
        rw [List.length_take]
        omega
      have yes : ∀ n, nameOf f0 rw1 = some n → ∃ acc, H3 D = some (.lst acc) ∧ acc.length < sizeLine ∧ (Same H (upd H3 D (.lst (acc ++ [.str n]))) ∧ upd H3 D (.lst (acc ++ [.str n])) D = some (.lst ((namesOf f0 (rws'.take (i + 1))).map V.str))) := by
        intro n hn
        refine ⟨_, hq, small17s (by omega), s2.mut hD, ?_⟩
        rw [upd_same, take_snoc2 h1]
        unfold namesOf
        rw [List.filterMap_append, List.map_append, List.filterMap_cons, hn]
        rfl
      have no : nameOf f0 rw1 = none → Same H H3 ∧ H3 D = some (.lst ((namesOf f0 (rws'.take (i + 1))).map V.str)) := by
        intro hn
        refine ⟨s2, ?_⟩
        rw [hq, take_snoc2 h1]
        unfold namesOf
        rw [List.filterMap_append, List.filterMap_cons, hn, List.filterMap_nil, List.append_nil]
      refine ⟨rfl, ⟨_, rfl, rfl, _, rfl, if_nd (fun _ => ?_) (fun z => nomatch z)⟩⟩
      cases rw1 with
      | give n =>
        refine ⟨_, rfl, p, _, _, _, rfl, rfl, sqt hp3, rfl, _, rfl, rfl, _, rfl, if_seq (fun e => ?_) (fun e => no (if_neg e))⟩
        exact ⟨_, rfl, p, _, _, _, rfl, rfl, sqt hp3, rfl, yes n (if_pos e)⟩
      | lab n =>
        refine ⟨_, rfl, p, _, _, _, rfl, rfl, sqt hp3, rfl, _, rfl, rfl, _, rfl, if_seq (fun e => ?_) (fun e => no (if_neg e))⟩
        exact ⟨_, rfl, p, _, _, _, rfl, rfl, sqt hp3, rfl, yes n (if_pos e)⟩
      | space n => exact ⟨_, rfl, p, _, _, _, rfl, rfl, sqt hp3, rfl, _, rfl, rfl, _, rfl, if_seq (fun e => by subst e; exact absurd hf (by decide +kernel)) (fun e => no rfl)⟩
      | plain n => exact ⟨_, rfl, p, _, _, _, rfl, rfl, sqt hp3, rfl, _, rfl, rfl, _, rfl, if_seq (fun e => by subst e; exact absurd hf (by decide +kernel)) (fun e => no rfl)⟩
      | row o nm n => exact ⟨_, rfl, p, _, _, _, rfl, rfl, sqt hp3, rfl, _, rfl, rfl, _, rfl, if_seq (fun e => by subst e; exact absurd hf (by decide +kernel)) (fun e => no rfl)⟩
    · rintro H2 ⟨s2, hq⟩
      rw [hR.1, List.take_length] at hq
      exact k D H2 s2 hD hq
theorem ok_size_of (T : Tx K mg) (Sr : Src K mg "size_of" s_size_of) : Def P w K mg base "size_of" 1 ["row"] (sp_size_of K) := by
  refine Def.of Sr (fun f fd F => F.bindsN fun _ _ _ _ _ _ us hl => match us, hl with | [_], _ => rfl) fun f fd F => ok0 F sc_size_of (fun vs H Q E h => ?_) (fun cdv A outer s H vs Q E hr h => ?_)
  · obtain ⟨v, rw0, rfl, hv, k⟩ := h
    rfl
  · have hu := hu_of hr
    have nd := sc_size_of.nd
    obtain ⟨v, rw0, rfl, hv, k⟩ := h
    refine ⟨_, (pss_cons (ps_if (pt_cmpR op_eq (pe_ix ix_tup (pv 0) pe_int (fun _ _ => rfl)) pe_str (nomark _)) (pss_one (ps_ret (pe_ix ix_tup (pv 0) pe_int (fun _ _ => rfl)))) pss_nil)
      (pss_one (ps_ret (pe_callTy call_int1 rfl T.b_int (by decide +kernel) (pa_cons (pe_cmpR op_in_seq (pe_ix ix_tup (pv 0) pe_int (fun _ _ => rfl)) (pe_tup (pa_cons pe_str (pa_cons pe_str pa_nil))) rfl) pa_nil))))), ?_⟩
    obtain ⟨p, q, rfl, hp, _⟩ := hv
    rcases (show (∃ n, rw0 = .space n) ∨ ∃ z : Str, (rwT q rw0)[0]? = some (.str z) ∧ z ≠ Str.ofString "space" ∧ (size rw0 : Int) = (if inV (.str z) [V.str (sA "plain"), V.str (sA "row")] = true then 1 else 0) by
        cases rw0 with
        | give m => exact .inr ⟨_, rfl, by decide +kernel, by show ((0 : Nat) : Int) = _; decide +kernel⟩
        | lab m => exact .inr ⟨_, rfl, by decide +kernel, by show ((0 : Nat) : Int) = _; decide +kernel⟩
        | space m => exact .inl ⟨m, rfl⟩
        | plain m => exact .inr ⟨_, rfl, by decide +kernel, by show ((1 : Nat) : Int) = _; decide +kernel⟩
        | row o nm m => exact .inr ⟨_, rfl, by decide +kernel, by show ((1 : Nat) : Int) = _; decide +kernel⟩) with ⟨m, rfl⟩ | ⟨z, hz, hs, he⟩
    · exact ⟨_, rfl, p, _, _, _, rfl, rfl, sqt hp, rfl, rfl, _, rfl, if_seq (fun _ => ⟨_, rfl, p, _, _, _, rfl, rfl, sqt hp, rfl, k H (Same.refl _)⟩) (fun c => absurd rfl c)⟩
    · refine ⟨_, rfl, p, _, _, _, rfl, rfl, sqt hp, (show atI (rwT q rw0) ((0 : Nat) : Int) = some _ from atI_nat hz), rfl, _, rfl, if_seq (fun c => absurd c hs) (fun _ => ?_)⟩
      refine ⟨_, rfl, p, _, _, _, rfl, rfl, sqt hp, (show atI (rwT q rw0) ((0 : Nat) : Int) = some _ from atI_nat hz), sz rfl, fun t ht => ⟨t, _, rfl, .inr (sqt upd_same), rfl, rfl, .inr ⟨_, rfl, ?_⟩⟩⟩
      have := k _ (same_upd (o := .tup [V.str (Str.ofString "plain"), V.str (Str.ofString "row")]) ht)
      rw [he] at this
      exact this
end
end G3
set_option Elab.async false
set_option linter.all false
set_option maxRecDepth 100000
set_option maxHeartbeats 1000000
namespace G3
open PySem PySem.Spec PyProof.Rows L2
local macro_rules | `(tactic| walk_at "hp") => `(tactic| first | assumption | exact upd_same | (refine same_upd (by assumption) _ _ ?_; walk_at "hp") | (refine (‹Same _ _›) _ _ ?_; walk_at "hp"))
local macro_rules | `(tactic| walk_at "sm") => `(tactic| first | exact Same.refl _ | assumption | (refine Same.trans ?_ (same_upd (by assumption)); walk_at "sm") | (refine Same.trans ?_ (by assumption); walk_at "sm"))
/-- all but one thing stays -/
def But (w : Addr) (H H' : Hp) : Prop := ∀ b o, b ≠ w → H b = some o → H' b = some o
def stands (hd : Nat) (labels : List Str) (i : Nat) : Rw → Bool
  | .give n => decide (i < hd) && decide (n ∈ labels)
  | .row _ (some m) _ => decide (m ∈ labels)
  | _ => true
def metOf (rw : Rw) : List (List Key × V) := match keyOf rw with
  | some k => [(k, .bl true)]
  | none => []
def sp_Names_is_new (K : PySem.W.Frag) : Sp := fun vs H Q _ => ∃ (x : Addr) (hd : Nat) (L N M : Addr) (labels : List Str) (kvs : List (List Key × V)) (f n : Str), vs = [.ref x, .str f, .str n] ∧ NmAt K H x hd L N M labels kvs ∧
  (∀ p ∈ kvs, p.1 ≠ [Sum.inr f, Sum.inr n]) ∧ ∀ H', But M H H' → H' M = some (.dT (kvs ++ [([.inr f, .inr n], .bl true)])) → Q (.bl true) H'
def sp_head_stands (K : PySem.W.Frag) : Sp := fun vs H Q _ => ∃ (x : Addr) (hd : Nat) (L N M : Addr) (labels : List Str) (kvs : List (List Key × V)) (v : V) (n : Str), vs = [.ref x, v] ∧ NmAt K H x hd L N M labels kvs ∧ RwV H v (.give n) ∧ n ∈ labels ∧
  (∀ p ∈ kvs, p.1 ≠ [Sum.inr (sA "give"), Sum.inr n]) ∧ ∀ H', But M H H' → H' M = some (.dT (kvs ++ [([.inr (sA "give"), .inr n], .bl true)])) → Q (.bl true) H'
def sp_row_stands (K : PySem.W.Frag) : Sp := fun vs H Q _ => ∃ (x : Addr) (hd : Nat) (L N M : Addr) (labels : List Str) (kvs : List (List Key × V)) (i : Nat) (v : V) (rw : Rw), vs = [.ref x, .int (i : Int), v] ∧ NmAt K H x hd L N M labels kvs ∧ RwV H v rw ∧
  stands hd labels i rw = true ∧ (∀ k, keyOf rw = some k → ∀ p ∈ kvs, p.1 ≠ k) ∧ ∀ H', But M H H' → H' M = some (.dT (kvs ++ metOf rw)) → Q (.bl true) H'
def sp_Names___init__ (K : PySem.W.Frag) : Sp := fun vs H Q _ => ∃ (x dx a : Addr) (xs : List V) (rws : List Rw) (n : Nat), vs = [.ref x, .ref a] ∧ H x = some (.ins (NmC K) dx []) ∧ H a = some (.lst xs) ∧ RwsV H xs rws ∧ (∀ i, i < n → ∃ m, rws[i]? = some (.give m)) ∧
  (∃ rw, rws[n]? = some rw ∧ isGive rw = false) ∧ xs.length ≤ 1000 ∧ ∀ L N M H', But x H H' → H M = none → NmAt K H' x n L N M (namesOf (sA "label") rws) [] → Q .non H'
theorem valV_noneT {kvs : List (List Key × V)} {k : List Key} (h : ∀ p ∈ kvs, p.1 ≠ k) : valV kvs k = none := by
  unfold valV
  rw [List.find?_eq_none.mpr]
  · rfl
  · intro p hp
    rw [decide_eq_true_eq]
    exact h p hp
theorem putK_new {kvs : List (List Key × V)} {k : List Key} {v : V} (h : ∀ p ∈ kvs, p.1 ≠ k) : putK kvs k v = kvs ++ [(k, v)] := by
  unfold putK
  rw [if_neg]
  intro c
  obtain ⟨p, hp, e⟩ := List.any_eq_true.mp c
  exact h p hp (of_decide_eq_true e)
theorem inV_str {n : Str} : ∀ {l : List Str}, n ∈ l → inV (.str n) (l.map V.str) = true
  | a :: l, h => by
    show (eqV (.str a) (.str n) || inV (.str n) (l.map V.str)) = true
    rcases List.mem_cons.mp h with e | h
    · subst e
      have : eqV (.str n) (.str n) = true := beq_self_eq_true n
      rw [this]
      rfl
    · rw [inV_str h, Bool.or_true]
theorem flat_strs : ∀ {l : List Str}, (l.map V.str).all flatV = true
  | [] => rfl
  | a :: l => flat_strs (l := l)
theorem But.trans {w : Addr} {H H1 H2 : Hp} (a : But w H H1) (b : But w H1 H2) : But w H H2 := fun x o n h => b x o n (a x o n h)
theorem But.same {w : Addr} {H H1 H2 : Hp} (a : But w H H1) (b : Same H1 H2) : But w H H2 := fun x o n h => b x o (a x o n h)
theorem Same.but {w : Addr} {H H1 H2 : Hp} (a : Same H H1) (b : But w H1 H2) : But w H H2 := fun x o n h => b x o n (a x o h)
theorem But.upd {w : Addr} {H H1 : Hp} {o : HO} (a : But w H H1) : But w H (upd H1 w o) := fun x u n h => by
  rw [upd_ne n]
  exact a x u n h
theorem NmAt.same {K : PySem.W.Frag} {H H' : Hp} {x : Addr} {hd : Nat} {L N M : Addr} {labels : List Str} {kvs : List (List Key × V)} (e : Same H H') (h : NmAt K H x hd L N M labels kvs) : NmAt K H' x hd L N M labels kvs := by
  obtain ⟨dx, h1⟩ := h.ins
  exact ⟨⟨dx, e _ _ h1⟩, e _ _ h.lab, e _ _ h.nee, e _ _ h.met, h.few⟩
theorem RwsV.butN {H H' : Hp} {xs : List V} {rws : List Rw} {w : Addr} (h : RwsV H xs rws) (hw : ∀ ys, H w ≠ some (.tup ys)) (e : But w H H') : RwsV H' xs rws := by
  refine ⟨h.1, fun i x rw h1 h2 => ?_⟩
  obtain ⟨p, a, rfl, e1, e2⟩ := h.2 i x rw h1 h2
  have ne : ∀ p ys, H p = some (.tup ys) → p ≠ w := fun p ys hp z => by
    subst z
    exact hw _ hp
  exact ⟨p, a, rfl, e _ _ (ne _ _ e1) e1, fun o nm k z => e _ _ (ne _ _ (e2 o nm k z)) (e2 o nm k z)⟩
theorem RwsV.take {H : Hp} {xs : List V} {rws : List Rw} (h : RwsV H xs rws) (n : Nat) : RwsV H (xs.take n) (rws.take n) := by
  refine ⟨by rw [List.length_take, List.length_take, h.1], fun i x rw h1 h2 => ?_⟩
  by_cases c : i < n
  · rw [List.getElem?_take_of_lt c] at h1 h2
    exact h.2 i x rw h1 h2
  · rw [List.getElem?_eq_none (by rw [List.length_take]; omega)] at h1
    cases h1
theorem pf1 {v : V} : putF (Str.ofString "head") v [] = [(Str.ofString "head", v)] := rfl
theorem pf2 {v u : V} : putF (Str.ofString "labels") u [(Str.ofString "head", v)] = [(Str.ofString "head", v), (Str.ofString "labels", u)] := by
  unfold putF
  rw [if_neg (by decide +kernel)]
  rfl
theorem pf3 {v u t : V} : putF (Str.ofString "needs") t [(Str.ofString "head", v), (Str.ofString "labels", u)] = [(Str.ofString "head", v), (Str.ofString "labels", u), (Str.ofString "needs", t)] := by
  unfold putF
  rw [if_neg (by decide +kernel)]
  unfold putF
  rw [if_neg (by decide +kernel)]
  rfl
theorem pf4 {v u t r : V} : putF (Str.ofString "met") r [(Str.ofString "head", v), (Str.ofString "labels", u), (Str.ofString "needs", t)] = [(Str.ofString "head", v), (Str.ofString "labels", u), (Str.ofString "needs", t), (Str.ofString "met", r)] := by
  unfold putF
  rw [if_neg (by decide +kernel)]
  unfold putF
  rw [if_neg (by decide +kernel)]
  unfold putF
  rw [if_neg (by decide +kernel)]
  rfl
theorem need_none : ∀ rws : List Rw, namesOf (sA "need") rws = []
  | [] => rfl
  | r :: rws => by
    unfold namesOf
    have e : nameOf (sA "need") r = none := by
      cases r with
      | give n =>
        show (if sA "give" = sA "need" then some n else none) = none
        exact if_neg (by decide +kernel)
      | lab n =>
        show (if sA "label" = sA "need" then some n else none) = none
        exact if_neg (by decide +kernel)
      | _ => rfl
    rw [List.filterMap_cons, e]
    exact need_none rws
section
variable {P : Program} {w : World} {K : PySem.W.Frag} {mg : Str → Option Value} {base : Heap}
theorem ok_Names_is_new (T : Tx K mg) (NF : NmF K mg) {f : Addr} {fd : FuncData} (F : FunD K "is_new" "Names.is_new" (defArgs s_Names_is_new) (defBody s_Names_is_new) (defScope s_Names_is_new) [] [] f fd) :
    FnOk P w K mg base CX0 1 f fd ["self", "form", "name"] (sp_Names_is_new K) := by
  refine ok0 F sc_Names_is_new (fun vs H Q E h => ?_) (fun cdv A outer s H vs Q E hr h => ?_)
  · obtain ⟨x, hd, L, N, M, labels, kvs, f0, n, rfl, hx, hn, k⟩ := h
    rfl
  · have hu := hu_of hr
    have nd := sc_Names_is_new.nd
    obtain ⟨x, hd, L, N, M, labels, kvs, f0, n, rfl, hx, hn, k⟩ := h
    refine ⟨_, (pss_cons (ps_set (i := 3) nd rfl (Or.inl rfl) (pe_cmp (pc_din hu (pe_tup (pa_cons (pv 1) (pa_cons (pv 2) pa_nil))) (pe_fld (pv 0) rfl)) rfl))
      (pss_cons (ps_dput hu (pe_fld (pv 0) rfl) (pe_tup (pa_cons (pv 1) (pa_cons (pv 2) pa_nil))) pe_bl rfl)
      (pss_one (ps_ret (pe_not (pv 3)))))), ?_⟩
    obtain ⟨dx, hi⟩ := hx.ins
    refine ⟨_, rfl, _, rfl, sz rfl, fun t ht => ?_⟩
    have st := same_upd (o := .tup [V.str f0, V.str n]) ht
    refine ⟨_, rfl, x, NmC K, dx, _, _, rfl, st _ _ hi, NF.cl, NF.n4, rfl, M, _, rfl, DGet.t (k := [Sum.inr f0, Sum.inr n]) (st _ _ hx.met) upd_same, ?_⟩
    rw [valV_noneT hn]
    refine ⟨_, rfl, x, NmC K, dx, _, _, rfl, st _ _ hi, NF.cl, NF.n4, rfl, ?_⟩
    refine ⟨_, rfl, _, rfl, sz rfl, fun t2 ht2 => ?_⟩
    have st2 := st.trans (same_upd (o := .tup [V.str f0, V.str n]) ht2)
    refine ⟨M, _, rfl, DPut.t (k := [Sum.inr f0, Sum.inr n]) (st2 _ _ hx.met) upd_same (by have := hx.few; rw [sizeLine_eq]; omega), ?_⟩
    refine ⟨_, rfl, _, rfl, ?_⟩
    rw [putK_new hn]
    exact k _ (But.upd fun b o _ h => st2 b o h) upd_same
theorem ok_Names___init__ (T : Tx K mg) (NF : NmF K mg) (D_head_of : Def P w K mg base "head_of" 1 ["rows"] (sp_head_of K)) (D_names_of : Def P w K mg base "names_of" 1 ["rows", "form"] (sp_names_of K)) {f : Addr} {fd : FuncData} (F : FunD K "__init__" "Names.__init__" (defArgs s_Names___init__) (defBody s_Names___init__) (defScope s_Names___init__) [] [] f fd) :
    FnOk P w K mg base CX0 2 f fd ["self", "rows"] (sp_Names___init__ K) := by
  obtain ⟨f_head_of, fd_head_of, g_head_of, k_head_of, b_head_of, G_head_of⟩ := D_head_of.ex
  obtain ⟨f_names_of, fd_names_of, g_names_of, k_names_of, b_names_of, G_names_of⟩ := D_names_of.ex
  refine ok0 F sc_Names___init__ (fun vs H Q E h => ?_) (fun cdv A outer s H vs Q E hr h => ?_)
  · obtain ⟨x, dx, a, xs, rws', n, rfl, hx, ha, hR, hg, hn, hl, k⟩ := h
    rfl
  · have hu := hu_of hr
    have nd := sc_Names___init__.nd
    have R_head_of : 1 ≤ 1 := by decide
    have R_names_of : 1 ≤ 1 := by decide
    obtain ⟨x, dx, a, xs, rws', n, rfl, hx, ha, hR, hg, hn, hl, k⟩ := h
    refine ⟨_, (pss_cons (ps_fld (pv 0) (pe_call G_head_of (hr.mono R_head_of) rfl g_head_of k_head_of b_head_of .nil pass0 (pa_cons (pv 1) pa_nil)) rfl)
      (pss_cons (ps_fld (pv 0) (pe_call G_names_of (hr.mono R_names_of) rfl g_names_of k_names_of b_names_of .nil pass0 (pa_cons (pv 1) (pa_cons pe_str pa_nil))) rfl)
      (pss_cons (ps_fld (pv 0) (pe_call G_names_of (hr.mono R_names_of) rfl g_names_of k_names_of b_names_of .nil pass0 (pa_cons (pe_slice sl_list (pv 1) po_none (po_some (pe_fld (pv 0) rfl))) (pa_cons pe_str pa_nil))) rfl)
      (pss_one (ps_fld (pv 0) pe_dnewT rfl))))), ?_⟩
    have nt : ∀ {H' : Hp} {o : HO} {fs}, H' x = some (.ins (NmC K) dx fs) → ∀ ys, H' x ≠ some (.tup ys) := fun h ys z => by rw [h] at z; cases z
    refine ⟨_, rfl, a, xs, rws', n, rfl, ha, hR, hg, hn, fun H1 e1 => ?_⟩
    have hx1 := e1 _ _ hx
    refine ⟨_, rfl, x, NmC K, dx, _, rfl, hx1, NF.cl, NF.n1, Nat.le_of_ble_eq_true rfl, ?_⟩
    rw [pf1]
    have na : a ≠ x := ne_of ha hx (by intro z; cases z)
    have b1 : But x H (upd H1 x (.ins (NmC K) dx [(Str.ofString "head", V.int (n : Int))])) := But.upd fun b o _ h => e1 b o h
    have hx2 : upd H1 x (.ins (NmC K) dx [(Str.ofString "head", V.int (n : Int))]) x = some (.ins (NmC K) dx [(Str.ofString "head", V.int (n : Int))]) := upd_same
    have hR2 := (hR.same e1).butN (fun ys z => by rw [hx1] at z; cases z) (fun b o nb h => (upd_ne nb).trans h : But x H1 (upd H1 x (.ins (NmC K) dx [(Str.ofString "head", V.int (n : Int))])))
    generalize upd H1 x (.ins (NmC K) dx [(Str.ofString "head", V.int (n : Int))]) = H2 at b1 hx2 hR2 ⊢
    refine ⟨_, rfl, a, xs, rws', _, rfl, b1 _ _ na ha, hR2, .inl rfl, hl, fun L H3 e3 nL hL => ?_⟩
    have hx3 := e3 _ _ hx2
    have nLx : L ≠ x := fun z => by subst z; rw [hx2] at nL; cases nL
    refine ⟨_, rfl, x, NmC K, dx, _, rfl, hx3, NF.cl, NF.n2, Nat.le_of_ble_eq_true rfl, ?_⟩
    rw [pf2]
    have b3 : But x H (upd H3 x (.ins (NmC K) dx [(Str.ofString "head", V.int (n : Int)), (Str.ofString "labels", V.ref L)])) := But.upd (b1.same e3)
    have hR3 := (hR2.same e3).butN (fun ys z => by rw [hx3] at z; cases z) (fun b o nb h => (upd_ne nb).trans h : But x H3 (upd H3 x (.ins (NmC K) dx [(Str.ofString "head", V.int (n : Int)), (Str.ofString "labels", V.ref L)])))
    have hL3 : upd H3 x (.ins (NmC K) dx [(Str.ofString "head", V.int (n : Int)), (Str.ofString "labels", V.ref L)]) L = some (.lst ((namesOf (sA "label") rws').map V.str)) := (upd_ne nLx).trans hL
    have hx4 : upd H3 x (.ins (NmC K) dx [(Str.ofString "head", V.int (n : Int)), (Str.ofString "labels", V.ref L)]) x = some (.ins (NmC K) dx [(Str.ofString "head", V.int (n : Int)), (Str.ofString "labels", V.ref L)]) := upd_same
    generalize upd H3 x (.ins (NmC K) dx [(Str.ofString "head", V.int (n : Int)), (Str.ofString "labels", V.ref L)]) = H4 at b3 hR3 hL3 hx4 ⊢
    refine ⟨_, rfl, _, rfl, x, NmC K, dx, _, _, rfl, hx4, NF.cl, NF.n1, rfl, _, rfl, a, xs, rfl, sql (b3 _ _ na ha), fun sl hsl => ?_⟩
    have esl : cutV xs none (some (n : Int)) = xs.take n := by
      obtain ⟨rw0, h0, _⟩ := hn
      have ln : n < rws'.length := (List.getElem?_eq_some_iff.mp h0).1
      unfold cutV
      rw [HT.sIx_none, HT.sIx_nat, List.drop_zero, Nat.sub_zero, Nat.min_eq_left (by rw [hR.1]; omega)]
    rw [esl]
    have s5 := same_upd (o := .lst (xs.take n)) hsl
    refine ⟨sl, xs.take n, rws'.take n, _, rfl, upd_same, (hR3.same s5).take n, .inr (.inl rfl), by rw [List.length_take]; omega, fun N H5 e5 nN hN => ?_⟩
    have hx5 := e5 _ _ (s5 _ _ hx4)
    have nNx : N ≠ x := fun z => by subst z; rw [s5 _ _ hx4] at nN; cases nN
    refine ⟨_, rfl, x, NmC K, dx, _, rfl, hx5, NF.cl, NF.n3, Nat.le_of_ble_eq_true rfl, ?_⟩
    rw [pf3]
    have b5 : But x H (upd H5 x (.ins (NmC K) dx [(Str.ofString "head", V.int (n : Int)), (Str.ofString "labels", V.ref L), (Str.ofString "needs", V.ref N)])) := But.upd ((b3.same s5).same e5)
    have hL5 : upd H5 x (.ins (NmC K) dx [(Str.ofString "head", V.int (n : Int)), (Str.ofString "labels", V.ref L), (Str.ofString "needs", V.ref N)]) L = some (.lst ((namesOf (sA "label") rws').map V.str)) := (upd_ne nLx).trans (e5 _ _ (s5 _ _ hL3))
    have eN : namesOf (Str.ofString "need") (rws'.take n) = [] := need_none _
    rw [eN] at hN
    have hN5 : upd H5 x (.ins (NmC K) dx [(Str.ofString "head", V.int (n : Int)), (Str.ofString "labels", V.ref L), (Str.ofString "needs", V.ref N)]) N = some (.lst []) := (upd_ne nNx).trans hN
    have hx6 : upd H5 x (.ins (NmC K) dx [(Str.ofString "head", V.int (n : Int)), (Str.ofString "labels", V.ref L), (Str.ofString "needs", V.ref N)]) x = some (.ins (NmC K) dx [(Str.ofString "head", V.int (n : Int)), (Str.ofString "labels", V.ref L), (Str.ofString "needs", V.ref N)]) := upd_same
    generalize upd H5 x (.ins (NmC K) dx [(Str.ofString "head", V.int (n : Int)), (Str.ofString "labels", V.ref L), (Str.ofString "needs", V.ref N)]) = H6 at b5 hL5 hN5 hx6 ⊢
    intro M hM
    have s7 := same_upd (o := .dT []) hM
    have nMx : M ≠ x := fun z => by subst z; rw [hx6] at hM; cases hM
    refine ⟨_, rfl, x, NmC K, dx, _, rfl, s7 _ _ hx6, NF.cl, NF.n4, Nat.le_of_ble_eq_true rfl, ?_⟩
    rw [pf4]
    have hM0 : H M = none := by
      cases e : H M with
      | none => rfl
      | some o =>
        have := b5 M o nMx e
        rw [hM] at this
        cases this
    exact k L N M _ (But.upd (b5.same s7)) hM0 ⟨⟨dx, upd_same⟩, (upd_ne nLx).trans (s7 _ _ hL5), (upd_ne nNx).trans (s7 _ _ hN5), (upd_ne nMx).trans upd_same, by decide⟩
end
end G3
set_option Elab.async false
set_option linter.all false
set_option maxRecDepth 100000
set_option maxHeartbeats 1000000
namespace G3
open PySem PySem.Spec PyProof.Rows L2
local macro_rules | `(tactic| walk_at "hp") => `(tactic| first | assumption | exact upd_same | (refine same_upd (by assumption) _ _ ?_; walk_at "hp") | (refine (‹Same _ _›) _ _ ?_; walk_at "hp"))
local macro_rules | `(tactic| walk_at "sm") => `(tactic| first | exact Same.refl _ | assumption | (refine Same.trans ?_ (same_upd (by assumption)); walk_at "sm") | (refine Same.trans ?_ (by assumption); walk_at "sm"))
def placesV (rws : List Rw) (n : Nat) : List V := (List.range n).map fun i => V.int (placeAt rws i : Int)
def sp_places_of (K : PySem.W.Frag) : Sp := fun vs H Q _ => ∃ (a : Addr) (xs : List V) (rws : List Rw), vs = [.ref a] ∧ H a = some (.lst xs) ∧ RwsV H xs rws ∧ xs.length ≤ 1000 ∧
  ∀ p b H', Same H H' → H' p = some (.tup [.ref b, .int (placeAt rws rws.length : Int)]) → H' b = some (.lst (placesV rws rws.length)) → Q (.ref p) H'
def sp_labels_of (K : PySem.W.Frag) : Sp := fun vs H Q _ => ∃ (a b : Addr) (xs : List V) (rws : List Rw), vs = [.ref a, .ref b] ∧ H a = some (.lst xs) ∧ RwsV H xs rws ∧ H b = some (.lst (placesV rws rws.length)) ∧ xs.length ≤ 1000 ∧
  ∀ d H', Same H H' → H d = none → H' d = some (.dK (labelsAt rws rws.length)) → Q (.ref d) H'
def okRow (kvs : List (Key × V)) : Rw → Bool
  | .row o nm _ => (decide (o = sA "word") || decide (o ∈ ops)) && match nm with
    | some m => decide (valV kvs (.inr m) = some (.int (lookI kvs m)))
    | none => true
  | .space k => decide (k ≤ 1000)
  | _ => true
def sp_words_in (K : PySem.W.Frag) : Sp := fun vs H Q _ => ∃ (v : V) (d : Addr) (rw : Rw) (kvs : List (Key × V)), vs = [v, .ref d] ∧ RwV H v rw ∧ H d = some (.dK kvs) ∧ okRow kvs rw = true ∧
  ∀ p H', Same H H' → H p = none → H' p = some (.lst ((wordsIn kvs rw).map V.int)) → Q (.ref p) H'
theorem placeAt_succ {rws : List Rw} {i : Nat} {rw : Rw} (h : rws[i]? = some rw) : placeAt rws (i + 1) = placeAt rws i + size rw := by
  unfold placeAt
  rw [take_snoc2 h, List.map_append, List.sum_append]
  show _ + (size rw + 0) = _
  rw [Nat.add_zero]
theorem stL_place (l : List Rw) : ∀ (s : List (Key × V) × Nat), (l.foldl stL s).2 = s.2 + (l.map size).sum := by
  induction l with
  | nil => intro s; rfl
  | cons r l ih =>
    intro s
    rw [List.foldl_cons, ih, List.map_cons, List.sum_cons]
    show s.2 + size r + _ = _
    omega
theorem labelsAt_succ {rws : List Rw} {i : Nat} {rw : Rw} (h : rws[i]? = some rw) : labelsAt rws (i + 1) = (stL (labelsAt rws i, placeAt rws i) rw).1 := by
  unfold labelsAt
  rw [take_snoc2 h, List.foldl_append]
  show (stL ((rws.take i).foldl stL ([], 0)) rw).1 = _
  have e : (rws.take i).foldl stL ([], 0) = (((rws.take i).foldl stL ([], 0)).1, placeAt rws i) := by
    refine Prod.ext rfl ?_
    rw [stL_place]
    unfold placeAt
    exact Nat.zero_add _
  rw [e]
theorem placesV_succ (rws : List Rw) (n : Nat) : placesV rws (n + 1) = placesV rws n ++ [V.int (placeAt rws n : Int)] := by
  unfold placesV
  rw [List.range_succ, List.map_append]
  rfl
theorem placesV_len (rws : List Rw) (n : Nat) : (placesV rws n).length = n := by
  unfold placesV
  rw [List.length_map, List.length_range]
theorem placesV_at {rws : List Rw} {n i : Nat} (h : i < n) : (placesV rws n)[i]? = some (V.int (placeAt rws i : Int)) := by
  unfold placesV
  rw [List.getElem?_map, List.getElem?_range h]
  rfl
theorem RwsV.at {H : Hp} {xs : List V} {rws : List Rw} (h : RwsV H xs rws) {i : Nat} (hi : i < rws.length) : ∃ x rw, xs[i]? = some x ∧ rws[i]? = some rw ∧ RwV H x rw := by
  have h1 : rws[i]? = some rws[i] := List.getElem?_eq_getElem hi
  have h2 : i < xs.length := by rw [h.1]; exact hi
  have h3 : xs[i]? = some xs[i] := List.getElem?_eq_getElem h2
  exact ⟨_, _, h3, h1, h.2 _ _ _ h3 h1⟩
section
variable {P : Program} {w : World} {K : PySem.W.Frag} {mg : Str → Option Value} {base : Heap}
theorem ok_head_stands (T : Tx K mg) (Sr : Src K mg "head_stands" s_head_stands) (NF : NmF K mg) (D_Names_is_new : DefM P w K mg base "is_new" 1 ["self", "form", "name"] (sp_Names_is_new K)) : Def P w K mg base "head_stands" 2 ["names", "row"] (sp_head_stands K) := by
  obtain ⟨f_Names_is_new, fd_Names_is_new, m_Names_is_new, b_Names_is_new, G_Names_is_new⟩ := D_Names_is_new.ex
  refine Def.of Sr (fun f fd F => F.bindsN fun _ _ _ _ _ _ us hl => match us, hl with | [_, _], _ => rfl) fun f fd F => ok0 F sc_head_stands (fun vs H Q E h => ?_) (fun cdv A outer s H vs Q E hr h => ?_)
  · obtain ⟨x, hd, L, N, M, labels, kvs, v, n, rfl, hx, hv, hn, hk, k⟩ := h
    rfl
  · have hu := hu_of hr
    have nd := sc_head_stands.nd
    have R_Names_is_new : 1 ≤ 1 := by decide
    obtain ⟨x, hd, L, N, M, labels, kvs, v, n, rfl, hx, hv, hn, hk, k⟩ := h
    refine ⟨_, (pss_cons (ps_if (pt_cmpR op_eq (pe_ix ix_tup (pv 1) pe_int (fun _ _ => rfl)) pe_str (nomark _)) (pss_one (ps_ret (pe_and (pe_meth (pv 0) NF.cl m_Names_is_new G_Names_is_new (hr.mono R_Names_is_new) b_Names_is_new .nil pass0 (pa_cons pe_str (pa_cons (pe_ix ix_tup (pv 1) pe_int (fun _ _ => rfl)) pa_nil))) (pe_one (pe_cmpR op_in_seq (pe_ix ix_tup (pv 1) pe_int (fun _ _ => rfl)) (pe_fld (pv 0) rfl) rfl))))) pss_nil)
      (pss_one (ps_ret (pe_meth (pv 0) NF.cl m_Names_is_new G_Names_is_new (hr.mono R_Names_is_new) b_Names_is_new .nil pass0 (pa_cons pe_str (pa_cons (pe_ix ix_tup (pv 1) pe_int (fun _ _ => rfl)) pa_nil)))))), ?_⟩
    obtain ⟨p, q, rfl, hp, _⟩ := hv
    obtain ⟨dx, hi⟩ := hx.ins
    refine ⟨_, rfl, p, _, _, _, rfl, rfl, sqt hp, rfl, rfl, _, rfl, if_seq (fun _ => ?_) (fun c => absurd rfl c)⟩
    refine ⟨_, rfl, x, dx, _, rfl, hi, rfl, ?_⟩
    refine ⟨_, rfl, p, _, _, _, rfl, rfl, sqt hp, rfl, x, hd, L, N, M, labels, kvs, _, n, rfl, hx, hk, fun H1 b1 hM => ?_⟩
    have ne : ∀ {y : Addr} {o : HO}, H y = some o → (∀ z, o ≠ .dT z) → y ≠ M := fun hy ho z => by
      subst z
      rw [hx.met] at hy
      cases hy
      exact ho _ rfl
    have hp1 := b1 _ _ (ne hp fun z e => nomatch e) hp
    refine ⟨_, rfl, iteT ?_⟩
    refine ⟨_, rfl, p, _, _, _, rfl, rfl, sqt hp1, rfl, _, rfl, x, _, dx, _, _, rfl, b1 _ _ (ne hi fun z e => nomatch e) hi, NF.cl, NF.n2, rfl, L, _, rfl, .inl (sql (b1 _ _ (ne hx.lab fun z e => nomatch e) hx.lab)), rfl, flat_strs, ?_⟩
    show Q (.bl (inV (.str n) (labels.map V.str))) H1
    rw [inV_str hn]
    exact k H1 b1 hM
theorem ok_places_of (T : Tx K mg) (Sr : Src K mg "places_of" s_places_of) (D_size_of : Def P w K mg base "size_of" 1 ["row"] (sp_size_of K)) : Def P w K mg base "places_of" 2 ["rows"] (sp_places_of K) := by
  obtain ⟨f_size_of, fd_size_of, g_size_of, k_size_of, b_size_of, G_size_of⟩ := D_size_of.ex
  refine Def.of Sr (fun f fd F => F.bindsN fun _ _ _ _ _ _ us hl => match us, hl with | [_], _ => rfl) fun f fd F => ok0 F sc_places_of (fun vs H Q E h => ?_) (fun cdv A outer s H vs Q E hr h => ?_)
  · obtain ⟨a, xs, rws', rfl, ha, hR, hl, k⟩ := h
    rfl
  · have hu := hu_of hr
    have nd := sc_places_of.nd
    have R_size_of : 1 ≤ 1 := by decide
    obtain ⟨a, xs, rws', rfl, ha, hR, hl, k⟩ := h
    refine ⟨_, (pss_cons (ps_set (i := 1) nd rfl (Or.inl rfl) (pe_lst pa_nil))
      (pss_cons (ps_set (i := 2) nd rfl (Or.inl rfl) pe_int)
      (pss_cons (ps_for PassesOwn.never rfl (pi_list (pv 0)) (pg_name (i := 3) nd rfl (Or.inl rfl)) (pss_cons (ps_expr (pe_bm PySem.F.plainAttrs_list PySem.F.slot_list_append PySem.F.type_list_append mt_append (pv 1) (pa_cons (pv 2) pa_nil)))
      (pss_one (ps_aug (i := 2) nd rfl (Or.inl rfl) (pe_call G_size_of (hr.mono R_size_of) rfl g_size_of k_size_of b_size_of .nil pass0 (pa_cons (pv 3) pa_nil)) ip_add))))
      (pss_one (ps_ret (pe_tup (pa_cons (pv 1) (pa_cons (pv 2) pa_nil)))))))), ?_⟩
    refine ⟨Nat.zero_le _, fun b hb => ?_⟩
    refine ⟨_, rfl, a, rfl, ⟨_, sql (same_upd hb _ _ ha)⟩, for_list (K := K) (a := a) (xs := xs) (fun i σ H2 => ∃ y3 : Option V, σ = [some (.ref a), some (.ref b), some (.int (placeAt rws' i : Int)), y3] ∧ Same H H2 ∧ H2 b = some (.lst (placesV rws' i)))
      ⟨none, rfl, same_upd hb, upd_same⟩ (fun i σ H2 _ h => by obtain ⟨_, _, h, _⟩ := h; exact sql (h _ _ ha)) ?_ ?_⟩
    · rintro i x σ H2 hi ⟨y3, rfl, s2, hq⟩
      have hil : i < xs.length := (List.getElem?_eq_some_iff.mp hi).1
      obtain ⟨x', rw1, ex, h1, hv⟩ := hR.at (i := i) (by rw [← hR.1]; exact hil)
      rw [hi] at ex
      cases ex
      refine ⟨_, rfl, .inl ⟨rfl, _, sql hq⟩, _, rfl, b, _, _, rfl, rfl, hq, small17s (by rw [placesV_len]; omega), ?_⟩
      refine ⟨_, rfl, _, rfl, x, rw1, rfl, hv.same (s2.mut hb), fun H3 e3 => ?_⟩
      refine ⟨_, _, rfl, rfl, some x, ?_, (s2.mut hb).trans e3, ?_⟩
      · have ep : (placeAt rws' (i + 1) : Int) = (placeAt rws' i : Int) + (size rw1 : Int) := by rw [placeAt_succ h1]; omega
        rw [ep]
        rfl
      · rw [placesV_succ]
        exact e3 _ _ upd_same
    · rintro σ H2 ⟨y3, rfl, s2, hq⟩
      rw [hR.1] at hq ⊢
      refine ⟨_, rfl, _, rfl, sz rfl, fun p hp => ?_⟩
      exact k p b _ (s2.trans (same_upd hp)) upd_same (same_upd hp _ _ hq)
theorem labels_len (rws : List Rw) : ∀ i, i ≤ rws.length → (labelsAt rws i).length ≤ i
  | 0, _ => Nat.le_refl _
  | i + 1, h => by
    have h1 : rws[i]? = some rws[i] := List.getElem?_eq_getElem (by omega)
    rw [labelsAt_succ h1]
    have ih := labels_len rws i (by omega)
    cases e : rws[i] with
    | lab n => exact Nat.le_trans (putK_len _ _ _) (Nat.succ_le_succ ih)
    | give n => exact Nat.le_trans ih (by omega)
    | space n => exact Nat.le_trans ih (by omega)
    | plain n => exact Nat.le_trans ih (by omega)
    | row o nm n => exact Nat.le_trans ih (by omega)
theorem ok_labels_of (T : Tx K mg) (Sr : Src K mg "labels_of" s_labels_of) : Def P w K mg base "labels_of" 1 ["rows", "places"] (sp_labels_of K) := by
  refine Def.of Sr (fun f fd F => F.bindsN fun _ _ _ _ _ _ us hl => match us, hl with | [_, _], _ => rfl) fun f fd F => ok0 F sc_labels_of (fun vs H Q E h => ?_) (fun cdv A outer s H vs Q E hr h => ?_)
  · obtain ⟨a, b, xs, rws', rfl, ha, hR, hb, hl, k⟩ := h
    rfl
  · have hu := hu_of hr
    have nd := sc_labels_of.nd
    obtain ⟨a, b, xs, rws', rfl, ha, hR, hb, hl, k⟩ := h
    refine ⟨_, (pss_cons (ps_set (i := 2) nd rfl (Or.inl rfl) pe_dnewK)
      (pss_cons (ps_for PassesOwn.never rfl (pi_zip rfl T.b_zip (pa_cons (pv 0) (pa_cons (pv 1) pa_nil))) (pg_tup rfl (pgs_cons (pg_name (i := 3) nd rfl (Or.inl rfl)) (pgs_cons (pg_name (i := 4) nd rfl (Or.inl rfl)) pgs_nil))) (pss_one (ps_if (pt_cmpR op_eq (pe_ix ix_tup (pv 3) pe_int (fun _ _ => rfl)) pe_str (nomark _)) (pss_one (ps_dput hu (pv 2) (pe_ix ix_tup (pv 3) pe_int (fun _ _ => rfl)) (pv 4) rfl)) pss_nil)))
      (pss_one (ps_ret (pv 2))))), ?_⟩
    intro d nd'
    have s1 := same_upd (o := .dK []) nd'
    refine ⟨_, rfl, _, rfl, a, b, xs, _, rfl, sql (s1 _ _ ha), sql (s1 _ _ hb), ?_⟩
    refine for_it (walk_zip (xs := xs) (ys := placesV rws' rws'.length) (n := rws'.length) (by rw [placesV_len, hR.1]; omega)) (fun i σ H2 => ∃ y3 y4 : Option V, σ = [some (.ref a), some (.ref b), some (.ref d), y3, y4] ∧ Same H H2 ∧ H2 d = some (.dK (labelsAt rws' i)))
      ⟨none, none, rfl, s1, upd_same⟩ (fun i σ H2 _ h => by obtain ⟨_, _, _, h, _⟩ := h; exact ⟨sql (h _ _ ha), sql (h _ _ hb)⟩) ?_ ?_
    · rintro i x σ H2 H3 hi ⟨y3, y4, rfl, s2, hq⟩ ⟨T', x1, y1, rfl, nT', rfl, ex, ey⟩
      obtain ⟨x', rw1, ex', h1, hv⟩ := hR.at hi
      have e0 := ex.symm.trans ex'
      cases e0
      have e0 := ey.symm.trans (placesV_at (rws := rws') hi)
      cases e0
      have st := same_upd (o := .tup [x1, V.int (placeAt rws' i : Int)]) nT'
      obtain ⟨p, q, rfl, hp, _⟩ := (hv.same s2).same st
      have hd3 := st _ _ hq
      have hl' := labels_len rws' i (by omega)
      have hl2 := hR.1
      have no : (∀ n, rw1 ≠ .lab n) → Same H (upd H2 T' (.tup [V.ref p, V.int (placeAt rws' i : Int)])) ∧ upd H2 T' (.tup [V.ref p, V.int (placeAt rws' i : Int)]) d = some (.dK (labelsAt rws' (i + 1))) := by
        intro hn
        refine ⟨s2.trans st, ?_⟩
        rw [hd3, labelsAt_succ h1]
        cases rw1 with
        | lab n => exact absurd rfl (hn n)
        | _ => rfl
      refine ⟨T', _, rfl, sqt upd_same, rfl, _, _, rfl, _, _, rfl, rfl, ?_⟩
      cases rw1 with
      | lab n =>
        refine ⟨_, rfl, p, _, _, _, rfl, rfl, sqt hp, rfl, rfl, _, rfl, if_seq (fun _ => ?_) (fun c => absurd rfl c)⟩
        refine ⟨_, rfl, _, rfl, _, rfl, p, _, _, _, rfl, rfl, sqt hp, rfl, d, _, rfl, DPut.k (k := .inr n) hd3 (small17s (by omega)), ?_⟩
        refine ⟨_, _, rfl, (s2.trans st).mut nd', ?_⟩
        rw [upd_same, labelsAt_succ h1]
        rfl
      | give n => exact ⟨_, rfl, p, _, _, _, rfl, rfl, sqt hp, rfl, rfl, _, rfl, if_seq (fun c => absurd c (by decide +kernel)) (fun _ => ⟨_, _, rfl, no fun _ z => nomatch z⟩)⟩
      | space n => exact ⟨_, rfl, p, _, _, _, rfl, rfl, sqt hp, rfl, rfl, _, rfl, if_seq (fun c => absurd c (by decide +kernel)) (fun _ => ⟨_, _, rfl, no fun _ z => nomatch z⟩)⟩
      | plain n => exact ⟨_, rfl, p, _, _, _, rfl, rfl, sqt hp, rfl, rfl, _, rfl, if_seq (fun c => absurd c (by decide +kernel)) (fun _ => ⟨_, _, rfl, no fun _ z => nomatch z⟩)⟩
      | row o nm n => exact ⟨_, rfl, p, _, _, _, rfl, rfl, sqt hp, rfl, rfl, _, rfl, if_seq (fun c => absurd c (by decide +kernel)) (fun _ => ⟨_, _, rfl, no fun _ z => nomatch z⟩)⟩
    · rintro σ H2 ⟨y3, y4, rfl, s2, hq⟩
      exact ⟨_, rfl, k d H2 s2 nd' hq⟩
theorem opIx_at {o : Str} (h : o ∈ ops) : ops[opIx o]? = some o ∧ ∀ m, m < opIx o → ops[m]? ≠ some o := by
  have go : ∀ o ∈ ops, ops[opIx o]? = some o ∧ ∀ m, m < opIx o → ops[m]? ≠ some o := by decide +kernel
  exact go o h
theorem rep_flat : ∀ n : Nat, (List.replicate n [V.int 0]).flatten = (List.replicate n (0 : Int)).map V.int
  | 0 => rfl
  | n + 1 => by
    rw [List.replicate_succ, List.replicate_succ, List.flatten_cons, List.map_cons, rep_flat n]
    rfl
theorem ok_words_in (T : Tx K mg) (Sr : Src K mg "words_in" s_words_in) (D_word_of : Def P w K mg base "word_of" 1 ["op", "number"] (sp_word_of K)) (D_moved : Def P w K mg base "moved" 1 ["word", "by"] (sp_moved K)) : Def P w K mg base "words_in" 2 ["row", "labels"] (sp_words_in K) := by
  obtain ⟨f_word_of, fd_word_of, g_word_of, k_word_of, b_word_of, G_word_of⟩ := D_word_of.ex
  obtain ⟨f_moved, fd_moved, g_moved, k_moved, b_moved, G_moved⟩ := D_moved.ex
  refine Def.of Sr (fun f fd F => F.bindsN fun _ _ _ _ _ _ us hl => match us, hl with | [_, _], _ => rfl) fun f fd F => ok0 F sc_words_in (fun vs H Q E h => ?_) (fun cdv A outer s H vs Q E hr h => ?_)
  · obtain ⟨v, d, rw0, kvs, rfl, hv, hd, ho, k⟩ := h
    rfl
  · have hu := hu_of hr
    have nd := sc_words_in.nd
    have R_word_of : 1 ≤ 1 := by decide
    have R_moved : 1 ≤ 1 := by decide
    obtain ⟨v, d, rw0, kvs, rfl, hv, hd, ho, k⟩ := h
    refine ⟨_, (pss_cons (ps_if (pt_cmpR op_eq (pe_ix ix_tup (pv 0) pe_int (fun _ _ => rfl)) pe_str (nomark _)) (pss_one (ps_ret (pe_lst (pa_cons (pe_ix ix_tup (pv 0) pe_int (fun _ _ => rfl)) pa_nil)))) pss_nil)
      (pss_cons (ps_if (pt_cmpR op_eq (pe_ix ix_tup (pv 0) pe_int (fun _ _ => rfl)) pe_str (nomark _)) (pss_one (ps_ret (pe_op op_rep (pe_lst (pa_cons pe_int pa_nil)) (pe_ix ix_tup (pv 0) pe_int (fun _ _ => rfl))))) pss_nil)
      (pss_cons (ps_if (pt_cmpR op_ne (pe_ix ix_tup (pv 0) pe_int (fun _ _ => rfl)) pe_str (nomark _)) (pss_one (ps_ret (pe_lst pa_nil))) pss_nil)
      (pss_cons (ps_asg (pe_ix ix_tup (pv 0) pe_int (fun _ _ => rfl)) (pg_tup rfl (pgs_cons (pg_name (i := 2) nd rfl (Or.inl rfl)) (pgs_cons (pg_name (i := 3) nd rfl (Or.inl rfl)) pgs_nil))))
      (pss_cons (ps_set (i := 4) nd rfl (Or.inl rfl) (pv 3))
      (pss_cons (ps_if (pt_cmpR op_ne (pe_ix ix_tup (pv 0) pe_int (fun _ _ => rfl)) pe_str (nomark _)) (pss_one (ps_set (i := 4) nd rfl (Or.inl rfl) (pe_call G_word_of (hr.mono R_word_of) rfl g_word_of k_word_of b_word_of .nil pass0 (pa_cons (pe_ix ix_tup (pv 0) pe_int (fun _ _ => rfl)) (pa_cons (pv 3) pa_nil))))) pss_nil)
      (pss_one (ps_ret (pe_lst (pa_cons (pe_call G_moved (hr.mono R_moved) rfl g_moved k_moved b_moved .nil pass0 (pa_cons (pv 4) (pa_cons (pe_dget2N hu (pv 1) (pv 2) pe_int ⟨rfl, rfl, rfl, rfl⟩) pa_nil))) pa_nil)))))))))), ?_⟩
    obtain ⟨p, q, rfl, hp, hq⟩ := hv
    cases rw0 with
    | plain n =>
      exact ⟨_, rfl, p, _, _, _, rfl, rfl, sqt hp, rfl, rfl, _, rfl, if_seq (fun _ => ⟨_, rfl, p, _, _, _, rfl, rfl, sqt hp, rfl, sz rfl, fun p2 h2 => k p2 _ (same_upd h2) h2 upd_same⟩) (fun c => absurd rfl c)⟩
    | space n =>
      have hn : n ≤ 1000 := of_decide_eq_true ho
      refine ⟨_, rfl, p, _, _, _, rfl, rfl, sqt hp, rfl, rfl, _, rfl, if_seq (fun c => absurd c (by decide +kernel)) (fun _ => ?_)⟩
      refine ⟨_, rfl, p, _, _, _, rfl, rfl, sqt hp, rfl, rfl, _, rfl, if_seq (fun _ => ?_) (fun c => absurd rfl c)⟩
      refine ⟨sz rfl, fun l hl => ⟨_, rfl, p, _, _, _, rfl, rfl, sqt (same_upd hl _ _ hp), rfl, l, _, _, rfl, rfl, upd_same, by omega, by omega, ?_, fun p2 h2 => ?_⟩⟩
      · show 1 * ((n : Int)).toNat ≤ sizeLine
        rw [sizeLine_eq]
        omega
      · refine k p2 _ ((same_upd hl).trans (same_upd h2)) ((same_upd hl).free h2) ?_
        rw [upd_same, Int.toNat_natCast, rep_flat]
        rfl
    | give n =>
      refine ⟨_, rfl, p, _, _, _, rfl, rfl, sqt hp, rfl, rfl, _, rfl, if_seq (fun c => absurd c (by decide +kernel)) (fun _ => ?_)⟩
      refine ⟨_, rfl, p, _, _, _, rfl, rfl, sqt hp, rfl, rfl, _, rfl, if_seq (fun c => absurd c (by decide +kernel)) (fun _ => ?_)⟩
      refine ⟨_, rfl, p, _, _, _, rfl, rfl, sqt hp, rfl, rfl, _, rfl, if_sne (fun _ => ?_) (fun c => absurd c (by decide +kernel))⟩
      exact ⟨Nat.zero_le _, fun p2 h2 => k p2 _ (same_upd h2) h2 upd_same⟩
    | lab n =>
      refine ⟨_, rfl, p, _, _, _, rfl, rfl, sqt hp, rfl, rfl, _, rfl, if_seq (fun c => absurd c (by decide +kernel)) (fun _ => ?_)⟩
      refine ⟨_, rfl, p, _, _, _, rfl, rfl, sqt hp, rfl, rfl, _, rfl, if_seq (fun c => absurd c (by decide +kernel)) (fun _ => ?_)⟩
      refine ⟨_, rfl, p, _, _, _, rfl, rfl, sqt hp, rfl, rfl, _, rfl, if_sne (fun _ => ?_) (fun c => absurd c (by decide +kernel))⟩
      exact ⟨Nat.zero_le _, fun p2 h2 => k p2 _ (same_upd h2) h2 upd_same⟩
    | row o nm n =>
      have hq := hq o nm n rfl
      have ho2 := (Bool.and_eq_true _ _).mp ho
      refine ⟨_, rfl, p, _, _, _, rfl, rfl, sqt hp, rfl, rfl, _, rfl, if_seq (fun c => absurd c (by decide +kernel)) (fun _ => ?_)⟩
      refine ⟨_, rfl, p, _, _, _, rfl, rfl, sqt hp, rfl, rfl, _, rfl, if_seq (fun c => absurd c (by decide +kernel)) (fun _ => ?_)⟩
      refine ⟨_, rfl, p, _, _, _, rfl, rfl, sqt hp, rfl, rfl, _, rfl, if_sne (fun c => absurd rfl c) (fun _ => ?_)⟩
      refine ⟨_, rfl, p, _, _, _, rfl, rfl, sqt hp, rfl, q, _, rfl, sqt hq, rfl, _, _, rfl, _, _, rfl, rfl, ?_⟩
      refine ⟨_, rfl, ?_⟩
      have key : ∀ wd : Int, wd = (if o = sA "word" then n else (opIx o : Int) * 4096 + n) → ∀ p2 H', Same H H' → H p2 = none → H' p2 = some (.lst [V.int (mv wd (nmI kvs nm))]) → Q (.ref p2) H' := by
        intro wd e p2 H' s2 n2 h2
        subst e
        exact k p2 H' s2 n2 h2
      refine ⟨_, rfl, p, _, _, _, rfl, rfl, sqt hp, rfl, rfl, _, rfl, if_sne (fun c => ?_) (fun c => ?_)⟩
      · have ho3 : o ∈ ops := by
          rcases Bool.or_eq_true_iff.mp ho2.1 with h | h
          · exact absurd (of_decide_eq_true h) c
          · exact of_decide_eq_true h
        refine ⟨_, rfl, p, _, _, _, rfl, rfl, sqt hp, rfl, _, rfl, o, opIx o, n, rfl, (opIx_at ho3).1, (opIx_at ho3).2, ?_⟩
        have key := key _ (if_neg c).symm
        refine ⟨_, rfl, _, rfl, d, rfl, .inl ⟨kvs, .inl hd⟩, _, rfl, ?_⟩
        cases nm with
        | none => exact .inr ⟨kvs, rfl, .inl hd, _, _, rfl, sz rfl, fun p2 h2 => key p2 _ (same_upd h2) h2 upd_same⟩
        | some m =>
          have hm := of_decide_eq_true ho2.2
          refine .inl ⟨_, DGet.k (k := .inr m) hd, ?_⟩
          rw [hm]
          exact ⟨_, _, rfl, sz rfl, fun p2 h2 => key p2 _ (same_upd h2) h2 upd_same⟩
      · have key := key _ (if_pos c).symm
        refine ⟨_, rfl, _, rfl, d, rfl, .inl ⟨kvs, .inl hd⟩, _, rfl, ?_⟩
        cases nm with
        | none => exact .inr ⟨kvs, rfl, .inl hd, _, _, rfl, sz rfl, fun p2 h2 => key p2 _ (same_upd h2) h2 upd_same⟩
        | some m =>
          have hm := of_decide_eq_true ho2.2
          refine .inl ⟨_, DGet.k (k := .inr m) hd, ?_⟩
          rw [hm]
          exact ⟨_, _, rfl, sz rfl, fun p2 h2 => key p2 _ (same_upd h2) h2 upd_same⟩
theorem ok_row_stands (T : Tx K mg) (Sr : Src K mg "row_stands" s_row_stands) (D_head_stands : Def P w K mg base "head_stands" 2 ["names", "row"] (sp_head_stands K)) (NF : NmF K mg) (D_Names_is_new : DefM P w K mg base "is_new" 1 ["self", "form", "name"] (sp_Names_is_new K)) : Def P w K mg base "row_stands" 3 ["names", "place", "row"] (sp_row_stands K) := by
  obtain ⟨f_head_stands, fd_head_stands, g_head_stands, k_head_stands, b_head_stands, G_head_stands⟩ := D_head_stands.ex
  obtain ⟨f_Names_is_new, fd_Names_is_new, m_Names_is_new, b_Names_is_new, G_Names_is_new⟩ := D_Names_is_new.ex
  refine Def.of Sr (fun f fd F => F.bindsN fun _ _ _ _ _ _ us hl => match us, hl with | [_, _, _], _ => rfl) fun f fd F => ok0 F sc_row_stands (fun vs H Q E h => ?_) (fun cdv A outer s H vs Q E hr h => ?_)
  · obtain ⟨x, hd, L, N, M, labels, kvs, i, v, rw0, rfl, hx, hv, hst, hk, k⟩ := h
    rfl
  · have hu := hu_of hr
    have nd := sc_row_stands.nd
    have R_head_stands : 2 ≤ 2 := by decide
    have R_Names_is_new : 1 ≤ 2 := by decide
    obtain ⟨x, hd, L, N, M, labels, kvs, i, v, rw0, rfl, hx, hv, hst, hk, k⟩ := h
    refine ⟨_, (pss_cons (ps_if (pt_cmpR op_isN (pv 2) pe_non (nomark _)) (pss_one (ps_ret pe_bl)) pss_nil)
      (pss_cons (ps_if (pt_cmpR op_in_seq (pe_ix ix_tup (pv 2) pe_int (fun _ _ => rfl)) (pe_tup (pa_cons pe_str (pa_cons pe_str pa_nil))) rfl) (pss_one (ps_ret (pe_and (pe_cmpR op_lt (pv 1) (pe_fld (pv 0) rfl) (nomark _)) (pe_one (pe_call G_head_stands (hr.mono R_head_stands) rfl g_head_stands k_head_stands b_head_stands .nil pass0 (pa_cons (pv 0) (pa_cons (pv 2) pa_nil))))))) pss_nil)
      (pss_cons (ps_if (pt_cmpR op_eq (pe_ix ix_tup (pv 2) pe_int (fun _ _ => rfl)) pe_str (nomark _)) (pss_one (ps_ret (pe_and (pe_meth (pv 0) NF.cl m_Names_is_new G_Names_is_new (hr.mono R_Names_is_new) b_Names_is_new .nil pass0 (pa_cons pe_str (pa_cons (pe_ix ix_tup (pv 2) pe_int (fun _ _ => rfl)) pa_nil))) (pe_one (pe_cmpR op_notIn_seq (pe_ix ix_tup (pv 2) pe_int (fun _ _ => rfl)) (pe_fld (pv 0) rfl) rfl))))) pss_nil)
      (pss_cons (ps_if (PW.pt (pw_and (pt_cmpR op_eq (pe_ix ix_tup (pv 2) pe_int (fun _ _ => rfl)) pe_str (nomark _)) (pw_and1 (pt_cmpR op_notN (pe_ix ix_tup (pe_ix ix_tup (pv 2) pe_int (fun _ _ => rfl)) pe_int (fun _ _ => rfl)) pe_non (nomark _))))) (pss_one (ps_ret (pe_or (pe_cmpR op_in_seq (pe_ix ix_tup (pe_ix ix_tup (pv 2) pe_int (fun _ _ => rfl)) pe_int (fun _ _ => rfl)) (pe_fld (pv 0) rfl) rfl) (pe_one (pe_cmpR op_in_seq (pe_ix ix_tup (pe_ix ix_tup (pv 2) pe_int (fun _ _ => rfl)) pe_int (fun _ _ => rfl)) (pe_fld (pv 0) rfl) rfl))))) pss_nil)
      (pss_one (ps_ret pe_bl)))))), ?_⟩
    obtain ⟨dx, hi⟩ := hx.ins
    have hv0 := hv
    obtain ⟨p, q, rfl, hp, hq⟩ := hv
    have ne : ∀ {y : Addr} {o : HO}, H y = some o → (∀ z, o ≠ .dT z) → y ≠ M := fun hy ho z => by
      subst z
      rw [hx.met] at hy
      cases hy
      exact ho _ rfl
    refine ⟨_, rfl, rfl, _, rfl, if_dec (fun c => nomatch c) (fun _ => ?_)⟩
    cases rw0 with
    | give n =>
      have h2 := (Bool.and_eq_true _ _).mp hst
      refine ⟨_, rfl, p, _, _, _, rfl, rfl, sqt hp, rfl, sz rfl, fun t ht => ⟨t, _, rfl, .inr (sqt upd_same), rfl, rfl, _, rfl, if_bool (fun _ => ?_) (fun c => absurd c (by decide +kernel))⟩⟩
      have st := same_upd (o := .tup [V.str (Str.ofString "give"), V.str (Str.ofString "need")]) ht
      refine ⟨_, rfl, _, rfl, x, NmC K, dx, _, _, rfl, st _ _ hi, NF.cl, NF.n1, rfl, _, _, rfl, rfl, _, rfl, if_dec (fun _ => ?_) (fun c => absurd (of_decide_eq_true h2.1) (by omega))⟩
      refine ⟨_, rfl, _, rfl, x, hd, L, N, M, labels, kvs, _, n, rfl, hx.same st, hv0.same st, of_decide_eq_true h2.2, hk _ rfl, fun H1 b1 hM => ?_⟩
      exact k H1 (fun b o nb h => b1 b o nb (st b o h)) hM
    | lab n =>
      refine ⟨_, rfl, p, _, _, _, rfl, rfl, sqt hp, rfl, sz rfl, fun t ht => ⟨t, _, rfl, .inr (sqt upd_same), rfl, rfl, _, rfl, if_bool (fun c => absurd c (by decide +kernel)) (fun _ => ?_)⟩⟩
      have st := same_upd (o := .tup [V.str (Str.ofString "give"), V.str (Str.ofString "need")]) ht
      refine ⟨_, rfl, p, _, _, _, rfl, rfl, sqt (st _ _ hp), rfl, rfl, _, rfl, if_seq (fun _ => ?_) (fun c => absurd rfl c)⟩
      refine ⟨_, rfl, x, dx, _, rfl, st _ _ hi, rfl, _, rfl, p, _, _, _, rfl, rfl, sqt (st _ _ hp), rfl, x, hd, L, N, M, labels, kvs, _, n, rfl, hx.same st, hk _ rfl, fun H1 b1 hM => ?_⟩
      refine ⟨_, rfl, iteT ?_⟩
      refine ⟨_, rfl, p, _, _, _, rfl, rfl, sqt (b1 _ _ (ne hp fun z e => nomatch e) (st _ _ hp)), rfl, _, rfl, x, _, dx, _, _, rfl, b1 _ _ (ne hi fun z e => nomatch e) (st _ _ hi), NF.cl, NF.n3, rfl, N, _, rfl, .inl (sql (b1 _ _ (ne hx.nee fun z e => nomatch e) (st _ _ hx.nee))), rfl, rfl, ?_⟩
      exact k H1 (fun b o nb h => b1 b o nb (st b o h)) hM
    | space n =>
      refine ⟨_, rfl, p, _, _, _, rfl, rfl, sqt hp, rfl, sz rfl, fun t ht => ⟨t, _, rfl, .inr (sqt upd_same), rfl, rfl, _, rfl, if_bool (fun c => absurd c (by decide +kernel)) (fun _ => ?_)⟩⟩
      have st := same_upd (o := .tup [V.str (Str.ofString "give"), V.str (Str.ofString "need")]) ht
      refine ⟨_, rfl, p, _, _, _, rfl, rfl, sqt (st _ _ hp), rfl, rfl, _, rfl, if_seq (fun c => absurd c (by decide +kernel)) (fun _ => ?_)⟩
      refine ⟨_, rfl, p, _, _, _, rfl, rfl, sqt (st _ _ hp), rfl, rfl, _, rfl, if_seq (fun c => absurd c (by decide +kernel)) (fun _ => ?_)⟩
      exact k _ (fun b o _ h => st b o h) (by rw [st _ _ hx.met]; exact congrArg some (congrArg HO.dT (List.append_nil _).symm))
    | plain n =>
      refine ⟨_, rfl, p, _, _, _, rfl, rfl, sqt hp, rfl, sz rfl, fun t ht => ⟨t, _, rfl, .inr (sqt upd_same), rfl, rfl, _, rfl, if_bool (fun c => absurd c (by decide +kernel)) (fun _ => ?_)⟩⟩
      have st := same_upd (o := .tup [V.str (Str.ofString "give"), V.str (Str.ofString "need")]) ht
      refine ⟨_, rfl, p, _, _, _, rfl, rfl, sqt (st _ _ hp), rfl, rfl, _, rfl, if_seq (fun c => absurd c (by decide +kernel)) (fun _ => ?_)⟩
      refine ⟨_, rfl, p, _, _, _, rfl, rfl, sqt (st _ _ hp), rfl, rfl, _, rfl, if_seq (fun c => absurd c (by decide +kernel)) (fun _ => ?_)⟩
      exact k _ (fun b o _ h => st b o h) (by rw [st _ _ hx.met]; exact congrArg some (congrArg HO.dT (List.append_nil _).symm))
    | row o nm n =>
      have hq := hq o nm n rfl
      refine ⟨_, rfl, p, _, _, _, rfl, rfl, sqt hp, rfl, sz rfl, fun t ht => ⟨t, _, rfl, .inr (sqt upd_same), rfl, rfl, _, rfl, if_bool (fun c => absurd c (by decide +kernel)) (fun _ => ?_)⟩⟩
      have st := same_upd (o := .tup [V.str (Str.ofString "give"), V.str (Str.ofString "need")]) ht
      have fin : Q (.bl true) (upd H t (.tup [V.str (Str.ofString "give"), V.str (Str.ofString "need")])) := k _ (fun b o _ h => st b o h) (by rw [st _ _ hx.met]; exact congrArg some (congrArg HO.dT (List.append_nil _).symm))
      refine ⟨_, rfl, p, _, _, _, rfl, rfl, sqt (st _ _ hp), rfl, rfl, _, rfl, if_seq (fun c => absurd c (by decide +kernel)) (fun _ => ?_)⟩
      refine ⟨_, rfl, p, _, _, _, rfl, rfl, sqt (st _ _ hp), rfl, rfl, _, rfl, if_seq (fun _ => ?_) (fun c => absurd rfl c)⟩
      refine ⟨_, rfl, p, _, _, _, rfl, rfl, sqt (st _ _ hp), rfl, q, _, _, _, rfl, rfl, sqt (st _ _ hq), rfl, rfl, _, rfl, ?_⟩
      cases nm with
      | none => exact if_nd (fun c => absurd rfl c) (fun _ => fin)
      | some m =>
        have hm : m ∈ labels := of_decide_eq_true hst
        refine if_nd (fun _ => ?_) (fun c => nomatch c)
        refine ⟨_, rfl, p, _, _, _, rfl, rfl, sqt (st _ _ hp), rfl, q, _, _, _, rfl, rfl, sqt (st _ _ hq), rfl, _, rfl, x, _, dx, _, _, rfl, st _ _ hi, NF.cl, NF.n2, rfl, L, _, rfl, .inl (sql (st _ _ hx.lab)), rfl, flat_strs, _, rfl, ?_⟩
        exact if_bool (fun _ => fin) (fun c => absurd ((inV_str hm).symm.trans c) (by decide))
end
end G3
set_option Elab.async false
set_option linter.all false
set_option maxRecDepth 100000
set_option maxHeartbeats 1000000
namespace G3
open PySem PySem.Spec PyProof.Rows L2
local macro_rules | `(tactic| walk_at "hp") => `(tactic| first | assumption | exact upd_same | (refine same_upd (by assumption) _ _ ?_; walk_at "hp") | (refine (‹Same _ _›) _ _ ?_; walk_at "hp"))
local macro_rules | `(tactic| walk_at "sm") => `(tactic| first | exact Same.refl _ | assumption | (refine Same.trans ?_ (same_upd (by assumption)); walk_at "sm") | (refine Same.trans ?_ (by assumption); walk_at "sm"))
def labelsD (rws : List Rw) : List (Key × V) := labelsAt rws rws.length
def wordsAt (rws : List Rw) (i : Nat) : List Int := ((rws.take i).map (wordsIn (labelsD rws))).flatten
def named : Rw → Bool
  | .row _ (some _) _ => true
  | _ => false
def ownAt (rws : List Rw) : Nat → List Int
  | 0 => []
  | i + 1 => ownAt rws i ++ (match rws[i]? with
    | some rw => if named rw = true then [(placeAt rws i : Int)] else []
    | none => [])
def givAt (kvs : List (Key × V)) (names : List Str) (i : Nat) : List (Key × V) := (names.take i).foldl (fun d n => putK d (.inr n) (.int (lookI kvs n))) []
structure OkRws (rws : List Rw) (n : Nat) : Prop where
  giv : ∀ i, i < n → ∃ m, rws[i]? = some (.give m)
  stop : ∃ rw, rws[n]? = some rw ∧ isGive rw = false
  st : ∀ (i : Nat) (rw : Rw), rws[i]? = some rw → stands n (namesOf (sA "label") rws) i rw = true
  keys : (rws.filterMap keyOf).Nodup
  many : placeAt rws rws.length ≤ 4095
  ok : ∀ rw ∈ rws, okRow (labelsD rws) rw = true
  has : ∀ m ∈ namesOf (sA "give") rws, valV (labelsD rws) (.inr m) = some (.int (lookI (labelsD rws) m))
def sp_assembled (K : PySem.W.Frag) : Sp := fun vs H Q _ => ∃ (s : Str) (rows : List Str) (rws : List Rw) (n : Nat), vs = [.str s] ∧ s.length ≤ 30000 ∧ Txt.split s (sA "\n") = rows ∧ 2 ≤ rows.length ∧ rows.length ≤ 200 ∧ all2 isRow rows rws = true ∧ OkRws rws n ∧
  ∀ p wd ow nee gi pl H', Same H H' → H' p = some (.tup [.ref wd, .ref ow, .ref nee, .ref gi, .ref pl]) → H' wd = some (.lst ((wordsAt rws rws.length).map V.int)) → H' ow = some (.lst ((ownAt rws rws.length).map V.int)) → H' nee = some (.lst []) →
    H' gi = some (.dK (givAt (labelsD rws) (namesOf (sA "give") rws) (namesOf (sA "give") rws).length)) → Q (.ref p) H'
theorem wordsIn_len (kvs : List (Key × V)) (rw : Rw) : (wordsIn kvs rw).length = size rw := by
  cases rw with
  | space n => exact List.length_replicate
  | _ => rfl
theorem wordsAt_len (rws : List Rw) : ∀ i, i ≤ rws.length → (wordsAt rws i).length = placeAt rws i
  | 0, _ => rfl
  | i + 1, h => by
    have h1 : rws[i]? = some rws[i] := List.getElem?_eq_getElem (by omega)
    rw [placeAt_succ h1, ← wordsAt_len rws i (by omega)]
    unfold wordsAt
    rw [take_snoc2 h1, List.map_append, List.flatten_append, List.length_append]
    show _ + ((wordsIn _ _) ++ []).length = _
    rw [List.append_nil, wordsIn_len]
theorem wordsAt_succ {rws : List Rw} {i : Nat} {rw : Rw} (h : rws[i]? = some rw) : wordsAt rws (i + 1) = wordsAt rws i ++ wordsIn (labelsD rws) rw := by
  unfold wordsAt
  rw [take_snoc2 h, List.map_append, List.flatten_append]
  show _ ++ ((wordsIn _ _) ++ []) = _
  rw [List.append_nil]
theorem placeAt_le (rws : List Rw) (i j : Nat) (h : i ≤ j) (hj : j ≤ rws.length) : placeAt rws i ≤ placeAt rws j := by
  obtain ⟨d, rfl⟩ := Nat.exists_eq_add_of_le h
  clear h
  induction d with
  | zero => exact Nat.le_refl _
  | succ d ih =>
    have h1 : rws[i + d]? = some rws[i + d] := List.getElem?_eq_getElem (by omega)
    have := placeAt_succ h1
    have := ih (by omega)
    show placeAt rws i ≤ placeAt rws (i + d + 1)
    omega
theorem ownAt_len (rws : List Rw) : ∀ i, (ownAt rws i).length ≤ i
  | 0 => Nat.le_refl _
  | i + 1 => by
    have ih := ownAt_len rws i
    show (ownAt rws i ++ _).length ≤ _
    rw [List.length_append]
    cases h : rws[i]? with
    | none => exact Nat.le_trans ih (Nat.le_succ _)
    | some rw =>
      show _ + (if named rw = true then [(placeAt rws i : Int)] else []).length ≤ _
      split
      · exact Nat.succ_le_succ ih
      · exact Nat.le_trans ih (Nat.le_succ _)
theorem ownAt_mem (rws : List Rw) : ∀ i, i ≤ rws.length → ∀ p ∈ ownAt rws i, ∃ j : Nat, p = (j : Int) ∧ j < placeAt rws rws.length
  | 0, _, p, h => absurd h (by show p ∉ []; simp)
  | i + 1, hi, p, h => by
    have h1 : rws[i]? = some rws[i] := List.getElem?_eq_getElem (by omega)
    have h2 : p ∈ ownAt rws i ++ (match rws[i]? with
      | some rw => if named rw = true then [(placeAt rws i : Int)] else []
      | none => []) := h
    rw [h1] at h2
    rcases List.mem_append.mp h2 with h3 | h3
    · exact ownAt_mem rws i (by omega) p h3
    · have h4 : p ∈ (if named rws[i] = true then [(placeAt rws i : Int)] else []) := h3
      split at h4
      · rename_i c
        refine ⟨placeAt rws i, List.mem_singleton.mp h4, ?_⟩
        have hs : size rws[i] = 1 := by
          cases e : rws[i] with
          | row o nm n => rfl
          | _ => rw [e] at c; cases c
        have a1 := placeAt_succ h1
        have a2 := placeAt_le rws (i + 1) rws.length (by omega) (Nat.le_refl _)
        omega
      · simp at h4
def metAt (rws : List Rw) (i : Nat) : List (List Key × V) := ((rws.take i).map metOf).flatten
theorem metAt_succ {rws : List Rw} {i : Nat} {rw : Rw} (h : rws[i]? = some rw) : metAt rws (i + 1) = metAt rws i ++ metOf rw := by
  unfold metAt
  rw [take_snoc2 h, List.map_append, List.flatten_append]
  show _ ++ (metOf rw ++ []) = _
  rw [List.append_nil]
theorem metAt_len (rws : List Rw) : ∀ i, i ≤ rws.length → (metAt rws i).length ≤ i
  | 0, _ => Nat.le_refl _
  | i + 1, h => by
    have h1 : rws[i]? = some rws[i] := List.getElem?_eq_getElem (by omega)
    rw [metAt_succ h1, List.length_append]
    have ih := metAt_len rws i (by omega)
    have : (metOf rws[i]).length ≤ 1 := by
      unfold metOf
      split
      · exact Nat.le_refl _
      · exact Nat.zero_le _
    omega
theorem metAt_keys (rws : List Rw) : ∀ i, (metAt rws i).map (·.1) = (rws.take i).filterMap keyOf := by
  intro i
  unfold metAt
  generalize rws.take i = l
  induction l with
  | nil => rfl
  | cons r l ih =>
    rw [List.map_cons, List.flatten_cons, List.map_append, ih, List.filterMap_cons]
    unfold metOf
    cases keyOf r with
    | none => rfl
    | some k => rfl
theorem met_new {rws : List Rw} (hk : (rws.filterMap keyOf).Nodup) {i : Nat} {rw : Rw} (h : rws[i]? = some rw) : ∀ k, keyOf rw = some k → ∀ p ∈ metAt rws i, p.1 ≠ k := by
  intro k e p hp z
  have e1 : rws = rws.take i ++ rw :: rws.drop (i + 1) := by
    have hi : i < rws.length := (List.getElem?_eq_some_iff.mp h).1
    have h2 : rws[i] = rw := (List.getElem?_eq_some_iff.mp h).2
    rw [← h2, List.getElem_cons_drop, List.take_append_drop]
  rw [e1, List.filterMap_append, List.filterMap_cons, e, List.nodup_append] at hk
  have m1 : k ∈ (rws.take i).filterMap keyOf := by
    rw [← metAt_keys, ← z]
    exact List.mem_map_of_mem hp
  exact hk.2.2 k m1 k (List.mem_cons_self ..) rfl
theorem name_few (f : Str) (rws : List Rw) : (namesOf f rws).length ≤ rws.length := List.length_filterMap_le _ _
theorem giv_len (kvs : List (Key × V)) (names : List Str) : ∀ i, i ≤ names.length → (givAt kvs names i).length ≤ i
  | 0, _ => Nat.le_refl _
  | i + 1, h => by
    have h1 : names[i]? = some names[i] := List.getElem?_eq_getElem (by omega)
    have ih := giv_len kvs names i (by omega)
    unfold givAt at ih ⊢
    rw [take_snoc2 h1, List.foldl_append]
    exact Nat.le_trans (putK_len _ _ _) (Nat.succ_le_succ ih)
section
variable {P : Program} {w : World} {K : PySem.W.Frag} {mg : Str → Option Value} {base : Heap}
theorem ok_assembled (T : Tx K mg) (Sr : Src K mg "assembled" s_assembled) (D_rows_in : Def P w K mg base "rows_in" 4 ["text"] (sp_rows_in K)) (D_row_stands : Def P w K mg base "row_stands" 3 ["names", "place", "row"] (sp_row_stands K)) (D_places_of : Def P w K mg base "places_of" 2 ["rows"] (sp_places_of K)) (D_labels_of : Def P w K mg base "labels_of" 1 ["rows", "places"] (sp_labels_of K)) (D_words_in : Def P w K mg base "words_in" 2 ["row", "labels"] (sp_words_in K)) (D_names_of : Def P w K mg base "names_of" 1 ["rows", "form"] (sp_names_of K)) (NF : NmF K mg) (D_Names___init__ : DefI P w K mg base 2 ["self", "rows"] (sp_Names___init__ K)) : Def P w K mg base "assembled" 5 ["text"] (sp_assembled K) := by
  obtain ⟨f_rows_in, fd_rows_in, g_rows_in, k_rows_in, b_rows_in, G_rows_in⟩ := D_rows_in.ex
  obtain ⟨f_row_stands, fd_row_stands, g_row_stands, k_row_stands, b_row_stands, G_row_stands⟩ := D_row_stands.ex
  obtain ⟨f_places_of, fd_places_of, g_places_of, k_places_of, b_places_of, G_places_of⟩ := D_places_of.ex
  obtain ⟨f_labels_of, fd_labels_of, g_labels_of, k_labels_of, b_labels_of, G_labels_of⟩ := D_labels_of.ex
  obtain ⟨f_words_in, fd_words_in, g_words_in, k_words_in, b_words_in, G_words_in⟩ := D_words_in.ex
  obtain ⟨f_names_of, fd_names_of, g_names_of, k_names_of, b_names_of, G_names_of⟩ := D_names_of.ex
  obtain ⟨f_Names___init__, fd_Names___init__, M_Names, b_Names___init__, G_Names___init__⟩ := D_Names___init__.ex; have g_Names := NF.g
  refine Def.of Sr (fun f fd F => F.bindsN fun _ _ _ _ _ _ us hl => match us, hl with | [_], _ => rfl) fun f fd F => ok0 F sc_assembled (fun vs H Q E h => ?_) (fun cdv A outer s H vs Q E hr h => ?_)
  · obtain ⟨z, rows, rws', n, rfl, hl, hs, h2, h200, hall, ok, k⟩ := h
    rfl
  · have hu := hu_of hr
    have nd := sc_assembled.nd
    have R_rows_in : 4 ≤ 4 := by decide
    have R_Names___init__ : 3 ≤ 4 := by decide
    have R_row_stands : 3 ≤ 4 := by decide
    have R_places_of : 2 ≤ 4 := by decide
    have R_labels_of : 1 ≤ 4 := by decide
    have R_words_in : 2 ≤ 4 := by decide
    have R_names_of : 1 ≤ 4 := by decide
    obtain ⟨z, rows, rws', n, rfl, hl, hs, h2, h200, hall, ok, k⟩ := h
    refine ⟨_, (pss_cons (ps_set (i := 1) nd rfl (Or.inl rfl) (pe_call G_rows_in (hr.mono R_rows_in) rfl g_rows_in k_rows_in b_rows_in .nil pass0 (pa_cons (pv 0) pa_nil)))
      (pss_cons (ps_set (i := 2) nd rfl (Or.inl rfl) (pe_make M_Names G_Names___init__ (hr.mono R_Names___init__) rfl g_Names b_Names___init__ .nil pass0 (pa_cons (pv 1) pa_nil)))
      (pss_cons (ps_for PassesOwn.never rfl (pi_enum rfl T.b_enumerate (pa_cons (pv 1) pa_nil)) (pg_tup rfl (pgs_cons (pg_name (i := 3) nd rfl (Or.inl rfl)) (pgs_cons (pg_name (i := 4) nd rfl (Or.inl rfl)) pgs_nil))) (pss_one (ps_if (pt_not (pt_val (pe_call G_row_stands (hr.mono R_row_stands) rfl g_row_stands k_row_stands b_row_stands .nil pass0 (pa_cons (pv 2) (pa_cons (pv 3) (pa_cons (pv 4) pa_nil)))))) (pss_one ps_never) pss_nil)))
      (pss_cons (ps_asg (pe_call G_places_of (hr.mono R_places_of) rfl g_places_of k_places_of b_places_of .nil pass0 (pa_cons (pv 1) pa_nil)) (pg_tup rfl (pgs_cons (pg_name (i := 5) nd rfl (Or.inl rfl)) (pgs_cons (pg_name (i := 6) nd rfl (Or.inl rfl)) pgs_nil))))
      (pss_cons (ps_if (pt_cmpR op_ge (pv 6) (pe_gi rfl T.c_PLACES_codes) (nomark _)) (pss_one ps_never) pss_nil)
      (pss_cons (ps_set (i := 7) nd rfl (Or.inl rfl) (pe_call G_labels_of (hr.mono R_labels_of) rfl g_labels_of k_labels_of b_labels_of .nil pass0 (pa_cons (pv 1) (pa_cons (pv 5) pa_nil))))
      (pss_cons (ps_set (i := 8) nd rfl (Or.inl rfl) (pe_lst pa_nil))
      (pss_cons (ps_set (i := 9) nd rfl (Or.inl rfl) (pe_lst pa_nil))
      (pss_cons (ps_set (i := 10) nd rfl (Or.inl rfl) (pe_lst pa_nil))
      (pss_cons (ps_for PassesOwn.never rfl (pi_zip rfl T.b_zip (pa_cons (pv 1) (pa_cons (pv 5) pa_nil))) (pg_tup rfl (pgs_cons (pg_name (i := 4) nd rfl (Or.inl rfl)) (pgs_cons (pg_name (i := 3) nd rfl (Or.inl rfl)) pgs_nil))) (pss_cons (ps_expr (pe_bm PySem.F.plainAttrs_list PySem.F.slot_list_extend PySem.F.type_list_extend mt_extend (pv 8) (pa_cons (pe_call G_words_in (hr.mono R_words_in) rfl g_words_in k_words_in b_words_in .nil pass0 (pa_cons (pv 4) (pa_cons (pv 7) pa_nil))) pa_nil)))
      (pss_one (ps_if (PW.pt (pw_and (pt_cmpR op_eq (pe_ix ix_tup (pv 4) pe_int (fun _ _ => rfl)) pe_str (nomark _)) (pw_and1 (pt_cmp (pc_dinN hu (pe_ix ix_tup (pe_ix ix_tup (pv 4) pe_int (fun _ _ => rfl)) pe_int (fun _ _ => rfl)) (pv 7)) rfl)))) (pss_one (ps_expr (pe_bm PySem.F.plainAttrs_list PySem.F.slot_list_append PySem.F.type_list_append mt_append (pv 9) (pa_cons (pv 3) pa_nil)))) (pss_one (ps_if (PW.pt (pw_and (pt_cmpR op_eq (pe_ix ix_tup (pv 4) pe_int (fun _ _ => rfl)) pe_str (nomark _)) (pw_and1 (pt_cmpR op_notN (pe_ix ix_tup (pe_ix ix_tup (pv 4) pe_int (fun _ _ => rfl)) pe_int (fun _ _ => rfl)) pe_non (nomark _))))) (pss_one (ps_expr (pe_bm PySem.F.plainAttrs_list PySem.F.slot_list_append PySem.F.type_list_append mt_append (pv 10) (pa_cons (pe_tup (pa_cons (pv 3) (pa_cons (pe_ix ix_tup (pe_ix ix_tup (pv 4) pe_int (fun _ _ => rfl)) pe_int (fun _ _ => rfl)) pa_nil))) pa_nil)))) pss_nil))))))
      (pss_cons (ps_set (i := 11) nd rfl (Or.inl rfl) pe_dnewK)
      (pss_cons (ps_for PassesOwn.never rfl (pi_list (pe_call G_names_of (hr.mono R_names_of) rfl g_names_of k_names_of b_names_of .nil pass0 (pa_cons (pv 1) (pa_cons pe_str pa_nil)))) (pg_name (i := 12) nd rfl (Or.inl rfl)) (pss_one (ps_dput hu (pv 11) (pv 12) (pe_dget hu (pv 7) (pv 12) (fun _ _ => rfl)) rfl)))
      (pss_one (ps_ret (pe_tup (pa_cons (pv 8) (pa_cons (pv 9) (pa_cons (pv 10) (pa_cons (pv 11) (pa_cons (pv 5) pa_nil)))))))))))))))))))), ?_⟩
    have lr : rws'.length = rows.length := (all2_len hall).symm
    refine ⟨_, rfl, z, rows, rws', rfl, hl, hs, h2, h200, hall, fun ar xs H1 e1 hr1 hR => ?_⟩
    have lx : xs.length = rws'.length := hR.1
    refine ⟨_, rfl, fun x dx nx ndx ndx' => ?_⟩
    have nx1 : upd H1 dx (.own x) x = none := (upd_ne ndx'.symm).trans nx
    have sx : Same H1 (upd (upd H1 dx (.own x)) x (.ins (NmC K) dx [])) := (same_upd ndx).trans (same_upd nx1)
    refine ⟨x, dx, ar, xs, rws', n, rfl, upd_same, sx _ _ hr1, hR.same sx, ok.giv, ok.stop, by omega, fun L N M H2 b2 hM0 hN => ⟨rfl, ?_⟩⟩
    have e12 : Same H1 H2 := fun b o h => b2 b o (ne_of_none h nx) (sx b o h)
    have hM1 : H1 M = none := by
      cases e : H1 M with
      | none => rfl
      | some o =>
        have := sx M o e
        rw [hM0] at this
        cases this
    have hr2 := e12 _ _ hr1
    have hR2 := hR.same e12
    refine ⟨_, rfl, ar, xs, rfl, sql hr2, ?_⟩
    have neM : ∀ {y : Addr} {o : HO}, H2 y = some o → (∀ z, o ≠ .dT z) → y ≠ M := fun hy ho z => by
      subst z
      rw [hN.met] at hy
      cases hy
      exact ho _ rfl
    have nar : ar ≠ M := neM hr2 fun z e => nomatch e
    have nmAt : ∀ H', But M H2 H' → ∀ i, i ≤ rws'.length → H' M = some (.dT (metAt rws' i)) → NmAt K H' x n L N M (namesOf (sA "label") rws') (metAt rws' i) := by
      intro H' b' i hi hM
      obtain ⟨dx2, h1⟩ := hN.ins
      exact ⟨⟨dx2, b' _ _ (neM h1 fun z e => nomatch e) h1⟩, b' _ _ (neM hN.lab fun z e => nomatch e) hN.lab, b' _ _ (neM hN.nee fun z e => nomatch e) hN.nee, hM, by have := metAt_len rws' i hi; omega⟩
    have ntM : ∀ ys, H2 M ≠ some (.tup ys) := fun ys e => by
      rw [hN.met] at e
      cases e
    refine for_it (walk_enum (xs := xs)) (fun i σ H' => ∃ y3 y4 : Option V, σ = [some (.str z), some (.ref ar), some (.ref x), y3, y4, none, none, none, none, none, none, none, none] ∧ But M H2 H' ∧ H' M = some (.dT (metAt rws' i)))
      ⟨none, none, rfl, fun b o _ h => h, hN.met⟩ (fun i σ H' _ h => by obtain ⟨_, _, _, h, _⟩ := h; exact sql (h _ _ nar hr2)) ?_ ?_
    · rintro i v σ H3 H4 hi ⟨y3, y4, rfl, b3, hM3⟩ ⟨T', x1, y1, rfl, nT', rfl, ex, ey⟩
      cases ex
      obtain ⟨v1, rw1, ev, h1, hv⟩ := hR2.at (i := i) (by omega)
      have e0 := ey.symm.trans ev
      cases e0
      have st := same_upd (o := .tup [V.int (i : Nat), y1]) nT'
      have b4 : But M H2 (upd H3 T' (.tup [V.int (i : Nat), y1])) := b3.same st
      have hv4 : RwV (upd H3 T' (.tup [V.int (i : Nat), y1])) y1 rw1 := ((hR2.butN ntM b4).2 i y1 rw1 ev h1)
      refine ⟨T', _, rfl, sqt upd_same, rfl, _, _, rfl, _, _, rfl, rfl, ?_⟩
      refine ⟨_, rfl, _, rfl, _, rfl, x, n, L, N, M, _, metAt rws' i, i, y1, rw1, rfl, nmAt _ b4 i (by omega) (st _ _ hM3), hv4, ok.st i rw1 h1, met_new ok.keys h1, fun H5 b5 hM5 => ?_⟩
      refine ⟨_, rfl, iteF ?_⟩
      refine ⟨_, _, rfl, b4.trans b5, ?_⟩
      rw [metAt_succ h1]
      exact hM5
    rintro σ H3 ⟨y3, y4, rfl, b3, hM3⟩
    have e13 : Same H1 H3 := fun b o h => b3 b o (ne_of_none h hM1) (e12 b o h)
    have hR3 := hR.same e13
    refine ⟨_, rfl, ar, xs, rws', rfl, e13 _ _ hr1, hR3, by omega, fun p pl H4 e4 hp hpl => ?_⟩
    refine ⟨p, _, rfl, sqt hp, rfl, _, _, rfl, _, _, rfl, rfl, ?_⟩
    have hm := ok.many
    refine ⟨_, rfl, _, _, rfl, rfl, _, rfl, if_dec (fun c => absurd c (by omega)) (fun _ => ?_)⟩
    have e14 := e13.trans e4
    refine ⟨_, rfl, _, rfl, ar, pl, xs, rws', rfl, e14 _ _ hr1, hR.same e14, hpl, by omega, fun d H5 e5 nd5 hd => ?_⟩
    refine ⟨Nat.zero_le _, fun wd nwd => ⟨Nat.zero_le _, fun ow now' => ⟨Nat.zero_le _, fun nee nnee => ?_⟩⟩⟩
    have e15 := e14.trans e5
    have s8 := same_upd (o := .lst []) nwd
    have s9 := same_upd (o := .lst []) now'
    have s10 := same_upd (o := .lst []) nnee
    have e58 := (s8.trans s9).trans s10
    have ow5 : H5 ow = none := s8.free now'
    have nee5 : H5 nee = none := (s8.trans s9).free nnee
    have n_wo : wd ≠ ow := ne_of_none upd_same now'
    have n_wn : wd ≠ nee := ne_of_none (s9 _ _ upd_same) nnee
    have n_on : ow ≠ nee := ne_of_none upd_same nnee
    refine ⟨_, rfl, _, rfl, ar, pl, xs, _, rfl, sql ((e15.trans e58) _ _ hr1), sql ((e5.trans e58) _ _ hpl), ?_⟩
    have hd : H5 d = some (.dK (labelsD rws')) := hd
    refine for_it (walk_zip (xs := xs) (ys := placesV rws' rws'.length) (n := rws'.length) (by rw [placesV_len, lx]; omega)) (fun i σ H' => ∃ y3 y4 : Option V, σ = [some (.str z), some (.ref ar), some (.ref x), y3, y4, some (.ref pl), some (.int (placeAt rws' rws'.length : Int)), some (.ref d), some (.ref wd), some (.ref ow), some (.ref nee), none, none] ∧ Same H5 H' ∧
        H' wd = some (.lst ((wordsAt rws' i).map V.int)) ∧ H' ow = some (.lst ((ownAt rws' i).map V.int)) ∧ H' nee = some (.lst []))
      ⟨_, _, rfl, e58, s10 _ _ (s9 _ _ upd_same), s10 _ _ upd_same, upd_same⟩ (fun i σ H' _ h => by obtain ⟨_, _, _, h, _⟩ := h; exact ⟨sql (h _ _ (e15 _ _ hr1)), sql (h _ _ (e5 _ _ hpl))⟩) ?_ ?_
    · rintro i v σ H6 H7 hi ⟨y3, y4, rfl, s6, hw6, ho6, hn6⟩ ⟨T', x1, y1, rfl, nT', rfl, ex, ey⟩
      obtain ⟨v1, rw1, ev, h1, hv⟩ := (hR.same e15).at hi
      have e0 := ex.symm.trans ev
      cases e0
      have e0 := ey.symm.trans (placesV_at (rws := rws') hi)
      cases e0
      have st := same_upd (o := .tup [x1, V.int (placeAt rws' i : Int)]) nT'
      have s7 := s6.trans st
      have wl := wordsAt_len rws' i (by omega)
      have pl1 := placeAt_le rws' i rws'.length (by omega) (Nat.le_refl _)
      have pl2 := placeAt_le rws' (i + 1) rws'.length (by omega) (Nat.le_refl _)
      have hps := placeAt_succ h1
      have ol := ownAt_len rws' i
      refine ⟨T', _, rfl, sqt upd_same, rfl, _, _, rfl, _, _, rfl, rfl, ?_⟩
      refine ⟨_, rfl, .inl ⟨rfl, _, sql (st _ _ hw6)⟩, _, rfl, _, rfl, x1, d, rw1, labelsD rws', rfl, hv.same s7, s7 _ _ hd, ok.ok rw1 (List.mem_of_getElem? h1), fun q H8 e8 nq hq => ?_⟩
      have s8' := s7.trans e8
      have hw8 := e8 _ _ (st _ _ hw6)
      have hv8 := hv.same s8'
      refine ⟨wd, q, _, _, rfl, rfl, hw8, hq, ?_, ?_⟩
      · rw [List.length_map, List.length_map, wordsIn_len]
        exact Nat.le_of_lt (small17s (by omega))
      have hw9 : (wordsAt rws' i).map V.int ++ (wordsIn (labelsD rws') rw1).map V.int = (wordsAt rws' (i + 1)).map V.int := by rw [wordsAt_succ h1, List.map_append]
      rw [hw9]
      have s9' : Same H5 (upd H8 wd (.lst ((wordsAt rws' (i + 1)).map V.int))) := s8'.mut nwd
      have hv9 : RwV (upd H8 wd (.lst ((wordsAt rws' (i + 1)).map V.int))) x1 rw1 := hv.same s9'
      have hw10 : upd H8 wd (.lst ((wordsAt rws' (i + 1)).map V.int)) wd = some (.lst ((wordsAt rws' (i + 1)).map V.int)) := upd_same
      have ho9 : upd H8 wd (.lst ((wordsAt rws' (i + 1)).map V.int)) ow = some (.lst ((ownAt rws' i).map V.int)) := (upd_ne n_wo.symm).trans (e8 _ _ (st _ _ ho6))
      have hn9 : upd H8 wd (.lst ((wordsAt rws' (i + 1)).map V.int)) nee = some (.lst []) := (upd_ne n_wn.symm).trans (e8 _ _ (st _ _ hn6))
      generalize upd H8 wd (.lst ((wordsAt rws' (i + 1)).map V.int)) = H9 at s9' hv9 hw10 ho9 hn9 ⊢
      obtain ⟨p9, q9, rfl, hp9, hq9⟩ := hv9
      have skip : named rw1 = false → H9 ow = some (.lst ((ownAt rws' (i + 1)).map V.int)) := by
        intro hnm
        rw [ho9]
        show _ = some (HO.lst ((ownAt rws' i ++ (match rws'[i]? with
          | some rw => if named rw = true then [(placeAt rws' i : Int)] else []
          | none => [])).map V.int))
        rw [h1]
        show _ = some (HO.lst ((ownAt rws' i ++ (if named rw1 = true then [(placeAt rws' i : Int)] else [])).map V.int))
        rw [hnm, if_neg (by decide), List.append_nil]
      cases rw1 with
      | give m =>
        refine ⟨_, rfl, p9, _, _, _, rfl, rfl, sqt hp9, rfl, rfl, _, rfl, if_seq (fun c => absurd c (by decide +kernel)) (fun _ => iteF ?_)⟩
        exact ⟨_, rfl, p9, _, _, _, rfl, rfl, sqt hp9, rfl, rfl, _, rfl, if_seq (fun c => absurd c (by decide +kernel)) (fun _ => iteF ⟨_, _, rfl, s9', hw10, skip rfl, hn9⟩)⟩
      | lab m =>
        refine ⟨_, rfl, p9, _, _, _, rfl, rfl, sqt hp9, rfl, rfl, _, rfl, if_seq (fun c => absurd c (by decide +kernel)) (fun _ => iteF ?_)⟩
        exact ⟨_, rfl, p9, _, _, _, rfl, rfl, sqt hp9, rfl, rfl, _, rfl, if_seq (fun c => absurd c (by decide +kernel)) (fun _ => iteF ⟨_, _, rfl, s9', hw10, skip rfl, hn9⟩)⟩
      | space m =>
        refine ⟨_, rfl, p9, _, _, _, rfl, rfl, sqt hp9, rfl, rfl, _, rfl, if_seq (fun c => absurd c (by decide +kernel)) (fun _ => iteF ?_)⟩
        exact ⟨_, rfl, p9, _, _, _, rfl, rfl, sqt hp9, rfl, rfl, _, rfl, if_seq (fun c => absurd c (by decide +kernel)) (fun _ => iteF ⟨_, _, rfl, s9', hw10, skip rfl, hn9⟩)⟩
      | plain m =>
        refine ⟨_, rfl, p9, _, _, _, rfl, rfl, sqt hp9, rfl, rfl, _, rfl, if_seq (fun c => absurd c (by decide +kernel)) (fun _ => iteF ?_)⟩
        exact ⟨_, rfl, p9, _, _, _, rfl, rfl, sqt hp9, rfl, rfl, _, rfl, if_seq (fun c => absurd c (by decide +kernel)) (fun _ => iteF ⟨_, _, rfl, s9', hw10, skip rfl, hn9⟩)⟩
      | row o nm m =>
        have hq9 := hq9 o nm m rfl
        refine ⟨_, rfl, p9, _, _, _, rfl, rfl, sqt hp9, rfl, rfl, _, rfl, if_seq (fun _ => ?_) (fun c => absurd rfl c)⟩
        refine ⟨_, rfl, p9, _, _, _, rfl, rfl, sqt hp9, rfl, q9, _, _, _, rfl, rfl, sqt hq9, rfl, _, rfl, ?_⟩
        cases nm with
        | none =>
          refine .inr ⟨d, _, rfl, rfl, .inl (s9' _ _ hd), _, rfl, iteF ?_⟩
          refine ⟨_, rfl, p9, _, _, _, rfl, rfl, sqt hp9, rfl, rfl, _, rfl, if_seq (fun _ => ?_) (fun c => absurd rfl c)⟩
          exact ⟨_, rfl, p9, _, _, _, rfl, rfl, sqt hp9, rfl, q9, _, _, _, rfl, rfl, sqt hq9, rfl, rfl, _, rfl, if_nd (fun c => absurd rfl c) (fun _ => ⟨_, _, rfl, s9', hw10, skip rfl, hn9⟩)⟩
        | some nm =>
          have hok := ok.ok _ (List.mem_of_getElem? h1)
          have hval : valV (labelsD rws') (.inr nm) = some (.int (lookI (labelsD rws') nm)) := of_decide_eq_true ((Bool.and_eq_true _ _).mp hok).2
          refine .inl ⟨d, _, rfl, DGet.k (k := .inr nm) (s9' _ _ hd), _, rfl, ?_⟩
          rw [hval]
          refine iteT ?_
          refine ⟨_, rfl, .inl ⟨rfl, _, sql ho9⟩, _, rfl, ow, _, _, rfl, rfl, ho9, small17s (by rw [List.length_map]; omega), ?_⟩
          refine ⟨_, _, rfl, s9'.mut ow5, (upd_ne n_wo).trans hw10, ?_, (upd_ne n_on.symm).trans hn9⟩
          rw [upd_same]
          show _ = some (HO.lst ((ownAt rws' i ++ (match rws'[i]? with
            | some rw => if named rw = true then [(placeAt rws' i : Int)] else []
            | none => [])).map V.int))
          rw [h1, List.map_append]
          rfl
    rintro σ H6 ⟨y3, y4, rfl, s6, hw6, ho6, hn6⟩
    intro gi ngi
    have sg := same_upd (o := .dK []) ngi
    have n_wg : wd ≠ gi := ne_of_none hw6 ngi
    have n_og : ow ≠ gi := ne_of_none ho6 ngi
    have n_ng : nee ≠ gi := ne_of_none hn6 ngi
    have gi5 : H5 gi = none := s6.free ngi
    have e17 := (e15.trans s6).trans sg
    refine ⟨_, rfl, ar, xs, rws', _, rfl, e17 _ _ hr1, hR.same e17, .inr (.inr rfl), by omega, fun gl H7 e7 ngl hgl => ?_⟩
    have n_gg : gl ≠ gi := fun c => by
      subst c
      rw [upd_same] at ngl
      cases ngl
    have nl := name_few (sA "give") rws'
    refine ⟨gl, rfl, ⟨_, sql hgl⟩, for_list (K := K) (a := gl) (xs := (namesOf (sA "give") rws').map V.str) (fun i σ H' => ∃ y12 : Option V, σ = [some (.str z), some (.ref ar), some (.ref x), y3, y4, some (.ref pl), some (.int (placeAt rws' rws'.length : Int)), some (.ref d), some (.ref wd), some (.ref ow), some (.ref nee), some (.ref gi), y12] ∧
        But gi H7 H' ∧ H' gi = some (.dK (givAt (labelsD rws') (namesOf (sA "give") rws') i)))
      ⟨none, rfl, fun b o _ h => h, e7 _ _ upd_same⟩ (fun i σ H' _ h => by obtain ⟨_, _, h, _⟩ := h; exact sql (h _ _ n_gg hgl)) ?_ ?_⟩
    · rintro i v σ H8 hi ⟨y12, rfl, b8, hg8⟩
      have hil : i < (namesOf (sA "give") rws').length := by
        have := (List.getElem?_eq_some_iff.mp hi).1
        rw [List.length_map] at this
        exact this
      have hm1 : (namesOf (sA "give") rws')[i]? = some (namesOf (sA "give") rws')[i] := List.getElem?_eq_getElem hil
      rw [List.getElem?_map, hm1] at hi
      cases hi
      generalize (namesOf (sA "give") rws')[i] = m at hm1 ⊢
      have hval := ok.has m (List.mem_of_getElem? hm1)
      have ngd : d ≠ gi := fun c => by
        subst c
        rw [hd] at gi5
        cases gi5
      have hd8 : H8 d = some (.dK (labelsD rws')) := b8 _ _ ngd (e7 _ _ (sg _ _ (s6 _ _ hd)))
      have gL := giv_len (labelsD rws') (namesOf (sA "give") rws') i (by omega)
      refine ⟨_, rfl, _, rfl, d, .int (lookI (labelsD rws') m), rfl, ?_, _, rfl, _, rfl, gi, _, rfl, DPut.k (k := .inr m) hg8 (small17s (by omega)), ?_⟩
      · have := DGet.k (k := .inr m) hd8
        rw [hval] at this
        exact this
      refine ⟨_, rfl, b8.upd, ?_⟩
      rw [upd_same]
      unfold givAt
      rw [take_snoc2 hm1, List.foldl_append]
      rfl
    rintro σ H8 ⟨y12, rfl, b8, hg8⟩
    rw [List.length_map] at hg8
    refine ⟨_, rfl, _, rfl, _, rfl, _, rfl, _, rfl, sz rfl, fun pp hpp => ?_⟩
    have sp := same_upd (o := .tup [V.ref wd, V.ref ow, V.ref nee, V.ref gi, V.ref pl]) hpp
    have keep : Same H H8 := fun b o h => b8 b o (ne_of_none (s6 _ _ (e15 _ _ (e1 _ _ h))) ngi) (e7 _ _ (e17 _ _ (e1 _ _ h)))
    exact k pp wd ow nee gi pl _ (keep.trans sp) upd_same (sp _ _ (b8 _ _ n_wg (e7 _ _ (sg _ _ hw6)))) (sp _ _ (b8 _ _ n_og (e7 _ _ (sg _ _ ho6)))) (sp _ _ (b8 _ _ n_ng (e7 _ _ (sg _ _ hn6)))) (sp _ _ hg8)
end
end G3
set_option Elab.async false
set_option linter.all false
set_option maxRecDepth 100000
set_option maxHeartbeats 1000000
namespace G3
open PySem PySem.Spec PyProof.Rows L2
local macro_rules | `(tactic| walk_at "hp") => `(tactic| first | assumption | exact upd_same | (refine same_upd (by assumption) _ _ ?_; walk_at "hp") | (refine (‹Same _ _›) _ _ ?_; walk_at "hp"))
local macro_rules | `(tactic| walk_at "sm") => `(tactic| first | exact Same.refl _ | assumption | (refine Same.trans ?_ (same_upd (by assumption)); walk_at "sm") | (refine Same.trans ?_ (by assumption); walk_at "sm"))
structure ObjAt (H : Hp) (m : Addr) (ws own : List Int) (gv : List (Key × V)) : Prop where
  ex : ∃ wd ow nee gi pl, H m = some (.tup [.ref wd, .ref ow, .ref nee, .ref gi, .ref pl]) ∧ H wd = some (.lst (ws.map V.int)) ∧ H ow = some (.lst (own.map V.int)) ∧ H nee = some (.lst []) ∧ H gi = some (.dK gv)
theorem ObjAt.same {H H' : Hp} {m : Addr} {ws own : List Int} {gv : List (Key × V)} (e : Same H H') (h : ObjAt H m ws own gv) : ObjAt H' m ws own gv := by
  obtain ⟨wd, ow, nee, gi, pl, h1, h2, h3, h4, h5⟩ := h.ex
  exact ⟨wd, ow, nee, gi, pl, e _ _ h1, e _ _ h2, e _ _ h3, e _ _ h4, e _ _ h5⟩
structure OkObj (ws own : List Int) (gv : List (Key × V)) : Prop where
  len : ws.length ≤ 4095
  pos : ∀ x ∈ ws, 0 ≤ x
  ownOk : ∀ p ∈ own, ∃ j : Nat, p = (j : Int) ∧ j < ws.length
  few : own.length ≤ 1000
  keys : (gv.map (·.1)).Nodup
  intOk : ∀ p ∈ gv, ∃ i : Int, p.2 = .int i
  gfew : gv.length ≤ 1000
def sp_begins_of (K : PySem.W.Frag) : Sp := fun vs H Q _ => ∃ (a m : Addr) (ws own : List Int) (gv : List (Key × V)), vs = [.ref a] ∧ H a = some (.lst [.ref m]) ∧ ObjAt H m ws own gv ∧ OkObj ws own gv ∧ ∀ p H', Same H H' → H' p = some (.lst [.int 0]) → Q (.ref p) H'
def sp_homes_of (K : PySem.W.Frag) : Sp := fun vs H Q _ => ∃ (a b m : Addr) (ws own : List Int) (gv : List (Key × V)), vs = [.ref a, .ref b] ∧ H a = some (.lst [.ref m]) ∧ H b = some (.lst [.int 0]) ∧ ObjAt H m ws own gv ∧ OkObj ws own gv ∧ ∀ d H', Same H H' → Q (.ref d) H'
def sp_look_needed (K : PySem.W.Frag) : Sp := fun vs H Q _ => ∃ (a m : Addr) (ws own : List Int) (gv : List (Key × V)) (d : Addr), vs = [.ref a, .ref d] ∧ H a = some (.lst [.ref m]) ∧ ObjAt H m ws own gv ∧ ∀ H', Same H H' → Q .non H'
def sp_words_at (K : PySem.W.Frag) : Sp := fun vs H Q _ => ∃ (m d : Addr) (ws own : List Int) (gv : List (Key × V)), vs = [.ref m, .int 0, .ref d] ∧ ObjAt H m ws own gv ∧ OkObj ws own gv ∧ ∀ p H', Same H H' → H p = none → H' p = some (.lst (ws.map V.int)) → Q (.ref p) H'
def sp_linked (K : PySem.W.Frag) : Sp := fun vs H Q _ => ∃ (a m : Addr) (ws own : List Int) (gv : List (Key × V)), vs = [.ref a] ∧ H a = some (.lst [.ref m]) ∧ ObjAt H m ws own gv ∧ OkObj ws own gv ∧
  ∀ p wd be H', Same H H' → H wd = none → H' wd = some (.lst (ws.map V.int)) → H' p = some (.tup [.ref wd, .ref be]) → Q (.ref p) H'
section
variable {P : Program} {w : World} {K : PySem.W.Frag} {mg : Str → Option Value} {base : Heap}
theorem ok_begins_of (T : Tx K mg) (Sr : Src K mg "begins_of" s_begins_of) : Def P w K mg base "begins_of" 1 ["objects"] (sp_begins_of K) := by
  refine Def.of Sr (fun f fd F => F.bindsN fun _ _ _ _ _ _ us hl => match us, hl with | [_], _ => rfl) fun f fd F => ok0 F sc_begins_of (fun vs H Q E h => ?_) (fun cdv A outer s H vs Q E hr h => ?_)
  · obtain ⟨a, m, ws, own, gv, rfl, ha, ho, ok, k⟩ := h
    rfl
  · have hu := hu_of hr
    have nd := sc_begins_of.nd
    obtain ⟨a, m, ws, own, gv, rfl, ha, ho, ok, k⟩ := h
    refine ⟨_, (pss_cons (ps_set (i := 1) nd rfl (Or.inl rfl) (pe_lst pa_nil))
      (pss_cons (ps_set (i := 2) nd rfl (Or.inl rfl) pe_int)
      (pss_cons (ps_for PassesOwn.never rfl (pi_list (pv 0)) (pg_name (i := 3) nd rfl (Or.inl rfl)) (pss_cons (ps_expr (pe_bm PySem.F.plainAttrs_list PySem.F.slot_list_append PySem.F.type_list_append mt_append (pv 1) (pa_cons (pv 2) pa_nil)))
      (pss_one (ps_aug (i := 2) nd rfl (Or.inl rfl) (pe_callB call_len_seq rfl T.b_len PySem.boot_len (pa_cons (pe_ix ix_tup (pv 3) pe_int (fun _ _ => rfl)) pa_nil)) ip_add))))
      (pss_cons (ps_if (pt_cmpR op_ge (pv 2) (pe_gi rfl T.c_PLACES_codes) (nomark _)) (pss_one ps_never) pss_nil)
      (pss_one (ps_ret (pv 1))))))), ?_⟩
    obtain ⟨wd, ow, nee, gi, pl, h1, h2, h3, h4, h5⟩ := ho.ex
    refine ⟨Nat.zero_le _, fun b hb => ?_⟩
    have s1 := same_upd (o := .lst []) hb
    refine ⟨_, rfl, a, rfl, ⟨_, sql (s1 _ _ ha)⟩, for_list (K := K) (a := a) (xs := [V.ref m]) (fun i σ H2 => ∃ y3 : Option V, σ = [some (.ref a), some (.ref b), some (.int (if i = 0 then 0 else (ws.length : Int))), y3] ∧ Same H H2 ∧ H2 b = some (.lst ((List.replicate i 0).map V.int)))
      ⟨none, rfl, s1, upd_same⟩ (fun i σ H2 _ h => by obtain ⟨_, _, h, _⟩ := h; exact sql (h _ _ ha)) ?_ ?_⟩
    · rintro i x σ H2 hi ⟨y3, rfl, s2, hq⟩
      have hi0 : i = 0 := by
        have := (List.getElem?_eq_some_iff.mp hi).1
        simp at this
        exact this
      subst hi0
      cases hi
      refine ⟨_, rfl, .inl ⟨rfl, _, sql hq⟩, _, rfl, b, _, _, rfl, rfl, hq, by decide, ?_⟩
      have s3 := s2.mut (o := .lst ([] ++ [V.int 0])) hb
      refine ⟨_, rfl, _, rfl, m, _, _, _, rfl, rfl, sqt (s3 _ _ h1), rfl, wd, _, rfl, .inl (sql (s3 _ _ h2)), ?_⟩
      refine ⟨_, _, rfl, rfl, some (V.ref m), ?_, s3, upd_same⟩
      rw [List.length_map]
      show [_, _, some (V.int (0 + (ws.length : Int))), some (V.ref m)] = [_, _, some (V.int (ws.length : Int)), some (V.ref m)]
      rw [Int.zero_add]
    · rintro σ H2 ⟨y3, rfl, s2, hq⟩
      have hl := ok.len
      refine ⟨_, rfl, _, _, rfl, rfl, _, rfl, if_dec (fun c => absurd (show (4096 : Int) ≤ (ws.length : Int) from c) (by omega)) (fun _ => ?_)⟩
      exact ⟨_, rfl, k b H2 s2 hq⟩
theorem ok_look_needed (T : Tx K mg) (Sr : Src K mg "look_needed" s_look_needed) : Def P w K mg base "look_needed" 1 ["objects", "homes"] (sp_look_needed K) := by
  refine Def.of Sr (fun f fd F => F.bindsN fun _ _ _ _ _ _ us hl => match us, hl with | [_, _], _ => rfl) fun f fd F => ok0 F sc_look_needed (fun vs H Q E h => ?_) (fun cdv A outer s H vs Q E hr h => ?_)
  · obtain ⟨a, m, ws, own, gv, d, rfl, ha, ho, k⟩ := h
    rfl
  · have hu := hu_of hr
    have nd := sc_look_needed.nd
    obtain ⟨a, m, ws, own, gv, d, rfl, ha, ho, k⟩ := h
    refine ⟨_, (pss_one (ps_for PassesOwn.never rfl (pi_list (pv 0)) (pg_name (i := 2) nd rfl (Or.inl rfl)) (pss_one (ps_for PassesOwn.never rfl (pi_list (pe_callB cr_sorted rfl T.b_sorted (by decide +kernel) (pa_cons (pe_ix ix_tup (pv 2) pe_int (fun _ _ => rfl)) pa_nil))) (pg_tup rfl (pgs_cons (pg_name (i := 3) nd rfl (Or.inl rfl)) (pgs_cons (pg_name (i := 4) nd rfl (Or.inl rfl)) pgs_nil))) (pss_one (ps_if (pt_cmp (pc_dnotin hu (pv 4) (pv 1)) rfl) (pss_one ps_never) pss_nil)))))), ?_⟩
    obtain ⟨wd, ow, nee, gi, pl, h1, h2, h3, h4, h5⟩ := ho.ex
    refine ⟨_, rfl, a, rfl, ⟨_, sql ha⟩, for_list (K := K) (a := a) (xs := [V.ref m]) (fun i σ H2 => ∃ y2 y3 y4 : Option V, σ = [some (.ref a), some (.ref d), y2, y3, y4] ∧ Same H H2)
      ⟨none, none, none, rfl, Same.refl _⟩ (fun i σ H2 _ h => by obtain ⟨_, _, _, _, h⟩ := h; exact sql (h _ _ ha)) ?_ ?_⟩
    · rintro i x σ H2 hi ⟨y2, y3, y4, rfl, s2⟩
      have hi0 : i = 0 := by
        have := (List.getElem?_eq_some_iff.mp hi).1
        simp at this
        exact this
      subst hi0
      cases hi
      refine ⟨_, rfl, m, _, _, _, rfl, rfl, sqt (s2 _ _ h1), rfl, nee, [], rfl, sql (s2 _ _ h4), by decide, fun ns q hp _ hq => ?_⟩
      rw [List.perm_nil.mp hp]
      have s3 := s2.trans (same_upd (o := .lst (([] : List Int).map V.int)) hq)
      refine ⟨q, rfl, ⟨_, sql upd_same⟩, for_list (K := K) (a := q) (xs := []) (fun i σ H3 => ∃ y2 y3 y4 : Option V, σ = [some (.ref a), some (.ref d), y2, y3, y4] ∧ Same H H3 ∧ H3 q = some (.lst [])) ⟨_, _, _, rfl, s3, upd_same⟩ (fun i σ H2 _ h => by obtain ⟨_, _, _, _, _, h⟩ := h; exact sql h) ?_ ?_⟩
      · rintro i x σ H3 hi _
        simp at hi
      · rintro σ H3 ⟨y2, y3, y4, rfl, s3, _⟩
        exact ⟨_, _, _, rfl, s3⟩
    · rintro σ H2 ⟨y2, y3, y4, rfl, s2⟩
      exact k H2 s2
theorem ok_homes_of (T : Tx K mg) (Sr : Src K mg "homes_of" s_homes_of) : Def P w K mg base "homes_of" 1 ["objects", "begins"] (sp_homes_of K) := by
  refine Def.of Sr (fun f fd F => F.bindsN fun _ _ _ _ _ _ us hl => match us, hl with | [_, _], _ => rfl) fun f fd F => ok0 F sc_homes_of (fun vs H Q E h => ?_) (fun cdv A outer s H vs Q E hr h => ?_)
  · obtain ⟨a, b, m, ws, own, gv, rfl, ha, hb, ho, ok, k⟩ := h
    rfl
  · have hu := hu_of hr
    have nd := sc_homes_of.nd
    obtain ⟨a, b, m, ws, own, gv, rfl, ha, hb, ho, ok, k⟩ := h
    refine ⟨_, (pss_cons (ps_set (i := 2) nd rfl (Or.inl rfl) pe_dnewK)
      (pss_cons (ps_for PassesOwn.never rfl (pi_zip rfl T.b_zip (pa_cons (pv 0) (pa_cons (pv 1) pa_nil))) (pg_tup rfl (pgs_cons (pg_name (i := 3) nd rfl (Or.inl rfl)) (pgs_cons (pg_name (i := 4) nd rfl (Or.inl rfl)) pgs_nil))) (pss_one (ps_lock (ps_for PassesOwn.never rfl (pi_items (pe_ix ix_tup (pv 3) pe_int (fun _ _ => rfl))) (pg_tup rfl (pgs_cons (pg_name (i := 5) nd rfl (Or.inl rfl)) (pgs_cons (pg_name (i := 6) nd rfl (Or.inl rfl)) pgs_nil))) (pss_cons (ps_if (pt_cmp (pc_din hu (pv 5) (pv 2)) rfl) (pss_one ps_never) pss_nil)
      (pss_one (ps_dput hu (pv 2) (pv 5) (pe_op op_add (pv 4) (pv 6)) rfl)))))))
      (pss_one (ps_ret (pv 2))))), ?_⟩
    obtain ⟨wd, ow, nee, gi, pl, h1, h2, h3, h4, h5⟩ := ho.ex
    intro hd nh
    have s1 := same_upd (o := .dK []) nh
    refine ⟨_, rfl, _, rfl, a, b, _, _, rfl, sql (s1 _ _ ha), sql (s1 _ _ hb), ?_⟩
    refine for_it (walk_zip (xs := [V.ref m]) (ys := [V.int 0]) (n := 1) rfl) (fun i σ H' => ∃ y3 y4 y5 y6 : Option V, σ = [some (.ref a), some (.ref b), some (.ref hd), y3, y4, y5, y6] ∧ Same H H' ∧ (i = 0 → H' hd = some (.dK [])))
      ⟨none, none, none, none, rfl, s1, fun _ => upd_same⟩ (fun i σ H' _ h => by obtain ⟨_, _, _, _, _, h, _⟩ := h; exact ⟨sql (h _ _ ha), sql (h _ _ hb)⟩) ?_ ?_
    · rintro i v σ H3 H4 hi ⟨y3, y4, y5, y6, rfl, s3, hh3⟩ ⟨T', x1, y1, rfl, nT', rfl, ex, ey⟩
      have hi0 : i = 0 := by omega
      subst hi0
      cases ex
      cases ey
      have hh3 := hh3 rfl
      have st := same_upd (o := .tup [V.ref m, V.int 0]) nT'
      have s4 := s3.trans st
      refine ⟨T', _, rfl, sqt upd_same, rfl, _, _, rfl, _, _, rfl, rfl, ?_⟩
      have hg4 := s4 _ _ h5
      have hh4 := st _ _ hh3
      have nhg : hd ≠ gi := fun c => by
        subst c
        rw [h5] at nh
        cases nh
      generalize upd H3 T' (.tup [V.ref m, V.int 0]) = H4 at s4 hg4 hh4 ⊢
      refine ⟨gi, _, hg4, trivial, fun od => ?_⟩
      have nmg : m ≠ gi := ne_of h1 h5 (by intro z; cases z)
      refine ⟨_, rfl, m, _, _, _, rfl, rfl, sqt ((upd_ne nmg).trans (s4 _ _ h1)), rfl, gi, od, gv, rfl, upd_same, ?_⟩
      refine for_it (walk_items (kvs := gv)) (fun i σ H' => ∃ (y5 y6 : Option V) (kv2 : List (Key × V)), σ = [some (.ref a), some (.ref b), some (.ref hd), some (.ref m), some (.int 0), y5, y6] ∧ H' gi = some (.frz od (.dK gv)) ∧ (∀ b o, b ≠ gi → b ≠ hd → H4 b = some o → H' b = some o) ∧
          H' hd = some (.dK kv2) ∧ (∀ p ∈ kv2.map (·.1), p ∈ (gv.take i).map (·.1)) ∧ kv2.length ≤ i)
        ⟨_, _, [], rfl, upd_same, fun b o n1 _ h => (upd_ne n1).trans h, (upd_ne nhg).trans hh4, fun p hp => by simp at hp, Nat.le_refl _⟩ (fun i σ H' _ h => by obtain ⟨_, _, _, _, h, _⟩ := h; exact h) ?_ ?_
      · rintro i v σ H5 H6 hi ⟨y5, y6, kv2, rfl, hg5, s5, hh5, sub, lk⟩ ⟨T2, x2, y2, rfl, nT2, rfl, ex2, ey2⟩
        have hgi : gv[i]? = some gv[i] := List.getElem?_eq_getElem hi
        have ex2 : (gv[i]?).map (fun kv => kV kv.1) = some x2 := ex2
        have ey2 : (gv[i]?).map Prod.snd = some y2 := ey2
        rw [hgi] at ex2 ey2
        cases ex2
        cases ey2
        have st2 := same_upd (o := .tup [kV gv[i].1, gv[i].2]) nT2
        have new : gv[i].1 ∉ kv2.map (·.1) := by
          intro hm
          have hm2 := sub _ hm
          have e1 : gv = gv.take i ++ gv[i] :: gv.drop (i + 1) := by rw [List.getElem_cons_drop, List.take_append_drop]
          have nd2 := ok.keys
          rw [e1, List.map_append, List.map_cons, List.nodup_append] at nd2
          exact nd2.2.2 _ hm2 _ (List.mem_cons_self ..) rfl
        have hh6 := st2 _ _ hh5
        obtain ⟨iv, eiv⟩ := ok.intOk gv[i] (List.getElem_mem hi)
        have gf := ok.gfew
        refine ⟨T2, _, rfl, sqt upd_same, rfl, _, _, rfl, _, _, rfl, rfl, ?_⟩
        refine ⟨_, rfl, _, rfl, hd, _, rfl, DGet.k (k := gv[i].1) hh6, _, rfl, ?_⟩
        rw [valV_none new]
        refine iteF ?_
        refine ⟨_, rfl, _, rfl, _, _, rfl, eiv, _, rfl, _, rfl, hd, _, rfl, DPut.k (k := gv[i].1) hh6 (small17s (by omega)), ?_⟩
        refine ⟨_, _, _, rfl, ?_, ?_, upd_same, ?_, Nat.le_trans (putK_len _ _ _) (Nat.succ_le_succ lk)⟩
        · exact (upd_ne nhg.symm).trans (st2 _ _ hg5)
        · intro b o n1 n2 h
          exact (upd_ne n2).trans (st2 _ _ (s5 b o n1 n2 h))
        · intro p hp
          obtain ⟨q, hq, rfl⟩ := List.mem_map.mp hp
          rw [take_snoc2 hgi, List.map_append, List.mem_append]
          rcases mem_putK hq with h | h
          · exact .inl (sub _ (List.mem_map_of_mem h))
          · right
            rw [h]
            exact List.mem_cons_self ..
      · rintro σ H5 ⟨y5, y6, kv2, rfl, hg5, s5, hh5, sub, lk⟩
        refine ⟨hg5, _, _, _, _, rfl, fun b o h => ?_, fun z => absurd z (by decide)⟩
        by_cases c : b = gi
        · subst c
          rw [upd_same, ← h, h5]
        · exact (upd_ne c).trans (s5 b o c (ne_of_none h nh) (s4 b o h))
    · rintro σ H3 ⟨y3, y4, y5, y6, rfl, s3, _⟩
      exact ⟨_, rfl, k hd H3 s3⟩
theorem ixN_nat {n j : Nat} (h : j < n) : ixN n (j : Int) = some j := by
  unfold ixN
  rw [if_pos (by omega), Int.toNat_natCast, if_pos (by omega)]
theorem mv_zero {w : Int} (h : 0 ≤ w) : mv w 0 = w := by
  unfold mv
  omega
theorem set_same {α : Type} : ∀ {l : List α} {j : Nat} {a : α}, l[j]? = some a → l.set j a = l
  | x :: l, 0, a, h => by
    cases h
    rfl
  | x :: l, j + 1, a, h => congrArg (x :: ·) (set_same (l := l) h)
  | [], _, _, _ => rfl
theorem ok_words_at (T : Tx K mg) (Sr : Src K mg "words_at" s_words_at) (D_moved : Def P w K mg base "moved" 1 ["word", "by"] (sp_moved K)) : Def P w K mg base "words_at" 2 ["one", "begin", "homes"] (sp_words_at K) := by
  obtain ⟨f_moved, fd_moved, g_moved, k_moved, b_moved, G_moved⟩ := D_moved.ex
  refine Def.of Sr (fun f fd F => F.bindsN fun _ _ _ _ _ _ us hl => match us, hl with | [_, _, _], _ => rfl) fun f fd F => ok0 F sc_words_at (fun vs H Q E h => ?_) (fun cdv A outer s H vs Q E hr h => ?_)
  · obtain ⟨m, d, ws, own, gv, rfl, ho, ok, k⟩ := h
    rfl
  · have hu := hu_of hr
    have nd := sc_words_at.nd
    have R_moved : 1 ≤ 1 := by decide
    obtain ⟨m, d, ws, own, gv, rfl, ho, ok, k⟩ := h
    refine ⟨_, (pss_cons (ps_set (i := 3) nd rfl (Or.inl rfl) (pe_callTy call_list_of rfl T.b_list (by decide +kernel) (pa_cons (pe_ix ix_tup (pv 0) pe_int (fun _ _ => rfl)) pa_nil)))
      (pss_cons (ps_for PassesOwn.never rfl (pi_list (pe_ix ix_tup (pv 0) pe_int (fun _ _ => rfl))) (pg_name (i := 4) nd rfl (Or.inl rfl)) (pss_one (ps_asg (pe_call G_moved (hr.mono R_moved) rfl g_moved k_moved b_moved .nil pass0 (pa_cons (pe_ix ix_list (pv 3) (pv 4) (fun _ _ => rfl)) (pa_cons (pv 1) pa_nil))) (pg_sub (pv 3) (pv 4) set_list))))
      (pss_cons (ps_for PassesOwn.never rfl (pi_list (pe_ix ix_tup (pv 0) pe_int (fun _ _ => rfl))) (pg_tup rfl (pgs_cons (pg_name (i := 4) nd rfl (Or.inl rfl)) (pgs_cons (pg_name (i := 5) nd rfl (Or.inl rfl)) pgs_nil))) (pss_one (ps_asg (pe_call G_moved (hr.mono R_moved) rfl g_moved k_moved b_moved .nil pass0 (pa_cons (pe_ix ix_list (pv 3) (pv 4) (fun _ _ => rfl)) (pa_cons (pe_dget hu (pv 2) (pv 5) (fun _ _ => rfl)) pa_nil))) (pg_sub (pv 3) (pv 4) set_list))))
      (pss_one (ps_ret (pv 3)))))), ?_⟩
    obtain ⟨wd, ow, nee, gi, pl, h1, h2, h3, h4, h5⟩ := ho.ex
    refine ⟨_, rfl, m, _, _, _, rfl, rfl, sqt h1, rfl, wd, _, rfl, .inl (sql h2), fun l hl => ?_⟩
    have s1 := same_upd (o := .lst (ws.map V.int)) hl
    refine ⟨_, rfl, m, _, _, _, rfl, rfl, sqt (s1 _ _ h1), rfl, ow, rfl, ⟨_, sql (s1 _ _ h3)⟩, for_list (K := K) (a := ow) (xs := own.map V.int) (fun i σ H' => ∃ y4 : Option V, σ = [some (.ref m), some (.int 0), some (.ref d), some (.ref l), y4, none] ∧ Same H H' ∧ H' l = some (.lst (ws.map V.int)))
      ⟨none, rfl, s1, upd_same⟩ (fun i σ H' _ h => by obtain ⟨_, _, h, _⟩ := h; exact sql (h _ _ h3)) ?_ ?_⟩
    · rintro i x σ H2 hi ⟨y4, rfl, s2, hl2⟩
      rw [List.getElem?_map] at hi
      obtain ⟨o, ho1, rfl⟩ := Option.map_eq_some_iff.mp hi
      obtain ⟨j, rfl, hj⟩ := ok.ownOk o (List.mem_of_getElem? ho1)
      have hw : ws[j]? = some ws[j] := List.getElem?_eq_getElem hj
      have hwv : (ws.map V.int)[j]? = some (V.int ws[j]) := by rw [List.getElem?_map, hw]; rfl
      refine ⟨_, rfl, _, rfl, l, _, _, _, rfl, rfl, sql hl2, at_of rfl hwv, _, rfl, ws[j], 0, rfl, _, rfl, _, rfl, l, _, _, j, rfl, rfl, hl2, ixN_nat (by rw [List.length_map]; exact hj), ?_⟩
      refine ⟨_, rfl, s2.mut hl, ?_⟩
      rw [upd_same, mv_zero (ok.pos _ (List.getElem_mem hj)), set_same hwv]
    · rintro σ H2 ⟨y4, rfl, s2, hl2⟩
      refine ⟨_, rfl, m, _, _, _, rfl, rfl, sqt (s2 _ _ h1), rfl, nee, rfl, ⟨_, sql (s2 _ _ h4)⟩, for_list (K := K) (a := nee) (xs := []) (fun i σ H' => σ = [some (.ref m), some (.int 0), some (.ref d), some (.ref l), y4, none] ∧ H' = H2)
        ⟨rfl, rfl⟩ (fun i σ H' _ h => by obtain ⟨_, rfl⟩ := h; exact sql (s2 _ _ h4)) ?_ ?_⟩
      · rintro i x σ H3 hi _
        simp at hi
      · rintro σ H3 ⟨rfl, rfl⟩
        exact ⟨_, rfl, k l H3 s2 hl hl2⟩
theorem ok_linked (T : Tx K mg) (Sr : Src K mg "linked" s_linked) (D_begins_of : Def P w K mg base "begins_of" 1 ["objects"] (sp_begins_of K)) (D_homes_of : Def P w K mg base "homes_of" 1 ["objects", "begins"] (sp_homes_of K)) (D_look_needed : Def P w K mg base "look_needed" 1 ["objects", "homes"] (sp_look_needed K)) (D_words_at : Def P w K mg base "words_at" 2 ["one", "begin", "homes"] (sp_words_at K)) : Def P w K mg base "linked" 3 ["objects"] (sp_linked K) := by
  obtain ⟨f_begins_of, fd_begins_of, g_begins_of, k_begins_of, b_begins_of, G_begins_of⟩ := D_begins_of.ex
  obtain ⟨f_homes_of, fd_homes_of, g_homes_of, k_homes_of, b_homes_of, G_homes_of⟩ := D_homes_of.ex
  obtain ⟨f_look_needed, fd_look_needed, g_look_needed, k_look_needed, b_look_needed, G_look_needed⟩ := D_look_needed.ex
  obtain ⟨f_words_at, fd_words_at, g_words_at, k_words_at, b_words_at, G_words_at⟩ := D_words_at.ex
  refine Def.of Sr (fun f fd F => F.bindsN fun _ _ _ _ _ _ us hl => match us, hl with | [_], _ => rfl) fun f fd F => ok0 F sc_linked (fun vs H Q E h => ?_) (fun cdv A outer s H vs Q E hr h => ?_)
  · obtain ⟨a, m, ws, own, gv, rfl, ha, ho, ok, k⟩ := h
    rfl
  · have hu := hu_of hr
    have nd := sc_linked.nd
    have R_begins_of : 1 ≤ 2 := by decide
    have R_homes_of : 1 ≤ 2 := by decide
    have R_look_needed : 1 ≤ 2 := by decide
    have R_words_at : 2 ≤ 2 := by decide
    obtain ⟨a, m, ws, own, gv, rfl, ha, ho, ok, k⟩ := h
    refine ⟨_, (pss_cons (ps_set (i := 1) nd rfl (Or.inl rfl) (pe_call G_begins_of (hr.mono R_begins_of) rfl g_begins_of k_begins_of b_begins_of .nil pass0 (pa_cons (pv 0) pa_nil)))
      (pss_cons (ps_set (i := 2) nd rfl (Or.inl rfl) (pe_call G_homes_of (hr.mono R_homes_of) rfl g_homes_of k_homes_of b_homes_of .nil pass0 (pa_cons (pv 0) (pa_cons (pv 1) pa_nil))))
      (pss_cons (ps_expr (pe_call G_look_needed (hr.mono R_look_needed) rfl g_look_needed k_look_needed b_look_needed .nil pass0 (pa_cons (pv 0) (pa_cons (pv 2) pa_nil))))
      (pss_cons (ps_set (i := 3) nd rfl (Or.inl rfl) (pe_lst pa_nil))
      (pss_cons (ps_for PassesOwn.never rfl (pi_zip rfl T.b_zip (pa_cons (pv 0) (pa_cons (pv 1) pa_nil))) (pg_tup rfl (pgs_cons (pg_name (i := 4) nd rfl (Or.inl rfl)) (pgs_cons (pg_name (i := 5) nd rfl (Or.inl rfl)) pgs_nil))) (pss_one (ps_expr (pe_bm PySem.F.plainAttrs_list PySem.F.slot_list_extend PySem.F.type_list_extend mt_extend (pv 3) (pa_cons (pe_call G_words_at (hr.mono R_words_at) rfl g_words_at k_words_at b_words_at .nil pass0 (pa_cons (pv 4) (pa_cons (pv 5) (pa_cons (pv 2) pa_nil)))) pa_nil)))))
      (pss_one (ps_ret (pe_tup (pa_cons (pv 3) (pa_cons (pv 1) pa_nil)))))))))), ?_⟩
    refine ⟨_, rfl, a, m, ws, own, gv, rfl, ha, ho, ok, fun be H1 e1 hbe => ?_⟩
    refine ⟨_, rfl, _, rfl, a, be, m, ws, own, gv, rfl, e1 _ _ ha, hbe, ho.same e1, ok, fun d H2 e2 => ?_⟩
    have e12 := e1.trans e2
    refine ⟨_, rfl, _, rfl, a, m, ws, own, gv, d, rfl, e12 _ _ ha, ho.same e12, fun H3 e3 => ?_⟩
    have e13 := e12.trans e3
    refine ⟨Nat.zero_le _, fun wd hwd => ?_⟩
    have s4 := same_upd (o := .lst []) hwd
    have wd0 : H wd = none := e13.free hwd
    have hbe3 := s4 _ _ (e3 _ _ (e2 _ _ hbe))
    have nbe : be ≠ wd := ne_of_none (e3 _ _ (e2 _ _ hbe)) hwd
    refine ⟨_, rfl, _, rfl, a, be, _, _, rfl, sql (s4 _ _ (e13 _ _ ha)), sql hbe3, ?_⟩
    refine for_it (walk_zip (xs := [V.ref m]) (ys := [V.int 0]) (n := 1) rfl) (fun i σ H' => ∃ y4 y5 : Option V, σ = [some (.ref a), some (.ref be), some (.ref d), some (.ref wd), y4, y5] ∧ Same H H' ∧ H' be = some (.lst [.int 0]) ∧ H' wd = some (.lst (if i = 0 then [] else ws.map V.int)))
      ⟨none, none, rfl, e13.trans s4, hbe3, upd_same⟩ (fun i σ H' _ h => by obtain ⟨_, _, _, h, h2, _⟩ := h; exact ⟨sql (h _ _ ha), sql h2⟩) ?_ ?_
    · rintro i v σ H5 H6 hi ⟨y4, y5, rfl, s5, hb5, hw5⟩ ⟨T', x1, y1, rfl, nT', rfl, ex, ey⟩
      have hi0 : i = 0 := by omega
      subst hi0
      cases ex
      cases ey
      have st := same_upd (o := .tup [V.ref m, V.int 0]) nT'
      have hw5 : H5 wd = some (.lst []) := hw5
      have hl := ok.len
      refine ⟨T', _, rfl, sqt upd_same, rfl, _, _, rfl, _, _, rfl, rfl, ?_⟩
      refine ⟨_, rfl, .inl ⟨rfl, _, sql (st _ _ hw5)⟩, _, rfl, _, rfl, _, rfl, m, d, ws, own, gv, rfl, ho.same (s5.trans st), ok, fun q H7 e7 nq hq => ?_⟩
      refine ⟨wd, q, _, _, rfl, rfl, e7 _ _ (st _ _ hw5), hq, ?_, ?_⟩
      · rw [List.length_map]
        exact Nat.le_of_lt (small17s (by simp; omega))
      exact ⟨_, _, rfl, ((s5.trans st).trans e7).mut wd0, (upd_ne nbe).trans (e7 _ _ (st _ _ hb5)), upd_same⟩
    · rintro σ H5 ⟨y4, y5, rfl, s5, hb5, hw5⟩
      refine ⟨_, rfl, _, rfl, sz rfl, fun p hp => ?_⟩
      exact k p wd be _ (s5.trans (same_upd hp)) wd0 (same_upd hp _ _ hw5) upd_same
end
end G3
set_option Elab.async false
set_option linter.all false
set_option maxRecDepth 100000
set_option maxHeartbeats 1000000
namespace G3
open PySem PySem.Spec PyProof.Rows L2
def allSt (rws : List Rw) (n : Nat) (labels : List Str) : Bool := (List.range rws.length).all fun i => match rws[i]? with
  | some rw => stands n labels i rw
  | none => true
def allOk (rws : List Rw) (kvs : List (Key × V)) : Bool := rws.all (okRow kvs)
def labs0 : List (Key × V) := labelsD (rws 2 1)
def nams0 : List Str := namesOf (sA "label") (rws 2 1)
set_option maxHeartbeats 0
theorem labs_eq (nT : Nat) (q : Int) : labelsD (rws nT q) = labs0 := by kernel_rfl
theorem nams_eq (nT : Nat) (q : Int) : namesOf (sA "label") (rws nT q) = nams0 := by kernel_rfl
theorem st_ok (nT : Nat) (q : Int) : allSt (rws nT q) 2 nams0 = true := by kernel_rfl
theorem keys_ok (nT : Nat) (q : Int) : decide (((rws nT q).filterMap keyOf).Nodup) = true := by kernel_rfl
theorem ok2 (q : Int) : allOk (rws 2 q) labs0 = true := by kernel_rfl
theorem ok3 (q : Int) : allOk (rws 3 q) labs0 = true := by kernel_rfl
theorem ok4 (q : Int) : allOk (rws 4 q) labs0 = true := by kernel_rfl
theorem words2 (q : Int) : ((rws 2 q).map (wordsIn labs0)).flatten = kernW 2 q := by kernel_rfl
theorem words3 (q : Int) : ((rws 3 q).map (wordsIn labs0)).flatten = kernW 3 q := by kernel_rfl
theorem words4 (q : Int) : ((rws 4 q).map (wordsIn labs0)).flatten = kernW 4 q := by kernel_rfl
theorem many2 (q : Int) : decide (placeAt (rws 2 q) (rws 2 q).length ≤ 4095) = true := by kernel_rfl
theorem many3 (q : Int) : decide (placeAt (rws 3 q) (rws 3 q).length ≤ 4095) = true := by kernel_rfl
theorem many4 (q : Int) : decide (placeAt (rws 4 q) (rws 4 q).length ≤ 4095) = true := by kernel_rfl
def givs0 : List Str := [sA "table", sA "now"]
theorem givs_eq (nT : Nat) (q : Int) : namesOf (sA "give") (rws nT q) = givs0 := by kernel_rfl
theorem has_ok : decide (∀ m ∈ givs0, valV labs0 (.inr m) = some (.int (lookI labs0 m))) = true := by kernel_rfl
theorem giv_eq : givAt labs0 givs0 givs0.length = [(.inr (sA "table"), .int 104), (.inr (sA "now"), .int 93)] := by kernel_rfl
theorem kern_pos (T : Nat) (q : Int) (h : 1 ≤ q) : ∀ x ∈ kernW T q, 0 ≤ x := by
  have h1 : codeL.all (fun x => decide (0 ≤ x)) = true := by decide +kernel
  intro x hx
  unfold kernW at hx
  rcases List.mem_append.mp hx with hx | hx
  · rcases List.mem_append.mp hx with hx | hx
    · exact of_decide_eq_true (List.all_eq_true.mp h1 x hx)
    · unfold cells at hx
      simp at hx
      omega
  · rw [(List.mem_replicate.mp hx).2]
    exact Int.le_refl _
theorem okRws (nT : Nat) (q : Int) (t2 : 2 ≤ nT) (t4 : nT ≤ 4) : OkRws (rws nT q) 2 := by
  have cs : nT = 2 ∨ nT = 3 ∨ nT = 4 := by omega
  have hl := labs_eq nT q
  have hn := nams_eq nT q
  have hg := givs_eq nT q
  refine ⟨fun i hi => ?_, ⟨.lab (sA "enter"), rfl, rfl⟩, fun i rw h => ?_, of_decide_eq_true (keys_ok nT q), ?_, fun rw h => ?_, ?_⟩
  · have : i = 0 ∨ i = 1 := by omega
    rcases this with rfl | rfl
    · exact ⟨_, rfl⟩
    · exact ⟨_, rfl⟩
  · rw [hn]
    have h2 := List.all_eq_true.mp (st_ok nT q) i (List.mem_range.mpr (List.getElem?_eq_some_iff.mp h).1)
    rw [h] at h2
    exact h2
  · rcases cs with rfl | rfl | rfl
    · exact of_decide_eq_true (many2 q)
    · exact of_decide_eq_true (many3 q)
    · exact of_decide_eq_true (many4 q)
  · rw [hl]
    rcases cs with rfl | rfl | rfl
    · exact List.all_eq_true.mp (ok2 q) rw h
    · exact List.all_eq_true.mp (ok3 q) rw h
    · exact List.all_eq_true.mp (ok4 q) rw h
  · rw [hl, hg]
    exact of_decide_eq_true has_ok
theorem words_eq (nT : Nat) (q : Int) (t2 : 2 ≤ nT) (t4 : nT ≤ 4) : wordsAt (rws nT q) (rws nT q).length = kernW nT q := by
  have cs : nT = 2 ∨ nT = 3 ∨ nT = 4 := by omega
  unfold wordsAt
  rw [List.take_length, labs_eq]
  rcases cs with rfl | rfl | rfl
  · exact words2 q
  · exact words3 q
  · exact words4 q
theorem giv_ok (nT : Nat) (q : Int) : givAt (labelsD (rws nT q)) (namesOf (sA "give") (rws nT q)) (namesOf (sA "give") (rws nT q)).length = [(.inr (sA "table"), .int 104), (.inr (sA "now"), .int 93)] := by
  rw [labs_eq, givs_eq, giv_eq]
end G3
set_option Elab.async false
set_option linter.all false
set_option maxRecDepth 100000
set_option maxHeartbeats 1000000
namespace G3
open PySem PySem.Spec PyProof.Rows L2
section
variable {P : Program} {w : World} {K : PySem.W.Frag} {mg : Str → Option Value} {base : Heap}
theorem ok_kernel_words (T : Tx K mg) (Sr : Src K mg "kernel_words" s_kernel_words) (D_kernel_text : Def P w K mg base "kernel_text" 2 ["tasks", "quota"] (sp_kernel_text K)) (D_assembled : Def P w K mg base "assembled" 5 ["text"] (sp_assembled K)) (D_linked : Def P w K mg base "linked" 3 ["objects"] (sp_linked K)) : Def P w K mg base "kernel_words" 6 ["tasks", "quota"] (sp_kernel_words K) := by
  obtain ⟨f_kernel_text, fd_kernel_text, g_kernel_text, k_kernel_text, b_kernel_text, G_kernel_text⟩ := D_kernel_text.ex
  obtain ⟨f_assembled, fd_assembled, g_assembled, k_assembled, b_assembled, G_assembled⟩ := D_assembled.ex
  obtain ⟨f_linked, fd_linked, g_linked, k_linked, b_linked, G_linked⟩ := D_linked.ex
  refine Def.of Sr (fun f fd F => F.bindsN fun _ _ _ _ _ _ us hl => match us, hl with | [_, _], _ => rfl) fun f fd F => ok0 F sc_kernel_words (fun vs H Q E h => ?_) (fun cdv A outer s H vs Q E hr h => ?_)
  · obtain ⟨nT, q, rfl, t2, t4, q1, q2, k⟩ := h
    rfl
  · have hu := hu_of hr
    have nd := sc_kernel_words.nd
    have R_kernel_text : 2 ≤ 5 := by decide
    have R_assembled : 5 ≤ 5 := by decide
    have R_linked : 3 ≤ 5 := by decide
    obtain ⟨nT, q, rfl, t2, t4, q1, q2, k⟩ := h
    refine ⟨_, (pss_cons (ps_set (i := 2) nd rfl (Or.inl rfl) (pe_call G_assembled (hr.mono R_assembled) rfl g_assembled k_assembled b_assembled .nil pass0 (pa_cons (pe_call G_kernel_text (hr.mono R_kernel_text) rfl g_kernel_text k_kernel_text b_kernel_text .nil pass0 (pa_cons (pv 0) (pa_cons (pv 1) pa_nil))) pa_nil)))
      (pss_one (ps_ret (pe_tup (pa_cons (pe_ix ix_tup (pe_call G_linked (hr.mono R_linked) rfl g_linked k_linked b_linked .nil pass0 (pa_cons (pe_lst (pa_cons (pv 2) pa_nil)) pa_nil)) pe_int (fun _ _ => rfl)) (pa_cons (pe_dget hu (pe_ix ix_tup (pv 2) pe_int (fun _ _ => rfl)) pe_str (fun _ _ => rfl)) pa_nil)))))), ?_⟩
    obtain ⟨n, rfl⟩ : ∃ n : Nat, q = (n : Int) := ⟨q.toNat, by omega⟩
    obtain ⟨r1, r2, r3⟩ := rows_small nT n t2 t4 (by omega) (by omega)
    have hall := rows_ok nT n t2 t4 (by omega) (by omega)
    have ok := okRws nT n t2 t4
    refine ⟨_, rfl, _, rfl, nT, n, rfl, t2, t4, by omega, by omega, fun H1 e1 => ?_⟩
    refine ⟨_, rowsAll nT n, rws nT n, 2, rfl, r1, lines_back nT n t2 t4, ?_, r3, hall, ok, fun m wd ow nee gi pl H2 e2 hm hwd how hnee hgi => ?_⟩
    · rw [all2_len hall, rws_len]
      decide +kernel
    rw [words_eq nT n t2 t4] at hwd
    rw [giv_ok] at hgi
    have ho : ObjAt H2 m (kernW nT n) (ownAt (rws nT n) (rws nT n).length) _ := ⟨wd, ow, nee, gi, pl, hm, hwd, how, hnee, hgi⟩
    have kl := kernW_len nT (n : Int)
    have wl := wordsAt_len (rws nT n) (rws nT n).length (Nat.le_refl _)
    rw [words_eq nT n t2 t4] at wl
    have hrl := rws_len nT (n : Int)
    have hrm := rws_many
    have ol := ownAt_len (rws nT n) (rws nT n).length
    have okO : OkObj (kernW nT n) (ownAt (rws nT n) (rws nT n).length) [(.inr (sA "table"), .int 104), (.inr (sA "now"), .int 93)] := by
      refine ⟨by omega, kern_pos nT n q1, fun p hp => ?_, by omega, by decide +kernel, fun p hp => ?_, by decide⟩
      · obtain ⟨j, e, hj⟩ := ownAt_mem (rws nT n) (rws nT n).length (Nat.le_refl _) p hp
        exact ⟨j, e, by omega⟩
      · rcases List.mem_cons.mp hp with h | h
        · rw [h]
          exact ⟨_, rfl⟩
        · rw [List.mem_singleton.mp h]
          exact ⟨_, rfl⟩
    refine ⟨_, rfl, sz rfl, fun lo hlo => ?_⟩
    have s3 := same_upd (o := .lst [V.ref m]) hlo
    refine ⟨lo, m, _, _, _, rfl, upd_same, ho.same s3, okO, fun p wd' be H4 e4 nwd hwd' hp => ?_⟩
    refine ⟨p, _, _, _, rfl, rfl, sqt hp, rfl, ?_⟩
    have e24 := s3.trans e4
    refine ⟨_, rfl, m, _, _, _, rfl, rfl, sqt (e24 _ _ hm), rfl, gi, .int 104, rfl, ?_, sz rfl, fun pp hpp => ?_⟩
    · exact DGet.k (k := .inr (sA "table")) (e24 _ _ hgi)
    have e5 := same_upd (o := .tup [V.ref wd', V.int 104]) hpp
    have e14 := (e1.trans e2).trans e24
    have nwd0 : H wd' = none := ((e1.trans e2).trans s3).free nwd
    exact k pp wd' _ (e14.trans e5) nwd0 (e5 _ _ hwd') upd_same
end
end G3
set_option Elab.async false
set_option linter.all false
set_option maxRecDepth 100000
set_option maxHeartbeats 1000000
namespace G3
open PySem PySem.Spec PyProof.Rows L2
local macro_rules | `(tactic| walk_at "hp") => `(tactic| first | assumption | exact upd_same | (refine same_upd (by assumption) _ _ ?_; walk_at "hp") | (refine (‹Same _ _›) _ _ ?_; walk_at "hp"))
local macro_rules | `(tactic| walk_at "sm") => `(tactic| first | exact Same.refl _ | assumption | (refine Same.trans ?_ (same_upd (by assumption)); walk_at "sm") | (refine Same.trans ?_ (by assumption); walk_at "sm"))
def sp__law_cell_at (K : PySem.W.Frag) : Sp := fun vs H Q _ => ∃ (a : Addr) (ns : List Int) (k : Nat), vs = [.ref a, .int (k : Int)] ∧ SqL K H a (ns.map V.int) ∧ ∀ v : Int, Q (.int v) H
def sp__law_mixed (K : PySem.W.Frag) : Sp := fun vs H Q _ => ∃ (n k : Int), vs = [.int n, .int k] ∧ ∀ v : Int, 0 ≤ v → v < 2147483629 → Q (.int v) H
def sp__law_words_by (K : PySem.W.Frag) : Sp := fun vs H Q _ => ∃ (a : Addr) (ns : List Int) (n : Int), vs = [.ref a, .int n] ∧ SqL K H a (ns.map V.int) ∧ ns.length ≤ 1000 ∧ ∀ p H' (ws : List Int), Same H H' → H p = none → H' p = some (.lst (ws.map V.int)) → ws.length = ns.length → Q (.ref p) H'
def sp__law_lively (K : PySem.W.Frag) : Sp := fun vs H Q _ => ∃ (a : Addr) (ns : List Int), vs = [.ref a] ∧ SqL K H a (ns.map V.int) ∧ ns.length ≤ 1000 ∧ ∀ p H' (ws : List Int), Same H H' → H p = none → H' p = some (.lst (ws.map V.int)) → ws.length = ns.length → Q (.ref p) H'
def sp__law_image_by (K : PySem.W.Frag) : Sp := fun vs H Q _ => ∃ (a : Addr) (ns : List Int) (n : Int), vs = [.ref a, .int n] ∧ SqL K H a (ns.map V.int) ∧ ns.length ≤ 1000 ∧ ∀ p H' (ws : List Int), Same H H' → H p = none → H' p = some (.lst (ws.map V.int)) → ws.length = ns.length → Q (.ref p) H'
def sp__law_quota_by (K : PySem.W.Frag) : Sp := fun vs H Q _ => ∃ (n : Int), vs = [.int n] ∧ ∀ (v : Int) H', Same H H' → 1 ≤ v → v ≤ 4095 → Q (.int v) H'
theorem atI_int {l : List Int} {i : Int} (h0 : 0 ≤ i) (h1 : i < (l.length : Int)) : ∃ v : Int, atI (l.map V.int) i = some (.int v) ∧ v ∈ l := by
  obtain ⟨j, rfl⟩ : ∃ j : Nat, i = (j : Int) := ⟨i.toNat, by omega⟩
  have hj : j < l.length := by omega
  refine ⟨l[j], ?_, List.getElem_mem hj⟩
  refine atI_nat ?_
  rw [List.getElem?_map, List.getElem?_eq_getElem hj]
  rfl
theorem sqS {K : PySem.W.Frag} {H H' : Hp} {a : Addr} {xs : List V} (e : Same H H') (h : SqL K H a xs) : SqL K H' a xs := by
  rcases h with (h | ⟨o, h⟩) | h
  · exact .inl (.inl (e _ _ h))
  · exact .inl (.inr ⟨o, e _ _ h⟩)
  · exact .inr h
section
variable {P : Program} {w : World} {K : PySem.W.Frag} {mg : Str → Option Value} {base : Heap}
theorem ok__law_cell_at (T : Tx K mg) (Sr : Src K mg "_law_cell_at" s__law_cell_at) : Def P w K mg base "_law_cell_at" 1 ["_law_script", "_law_k"] (sp__law_cell_at K) := by
  refine Def.of Sr (fun f fd F => F.bindsN fun _ _ _ _ _ _ us hl => match us, hl with | [_, _], _ => rfl) fun f fd F => ok0 F sc__law_cell_at (fun vs H Q E h => ?_) (fun cdv A outer s H vs Q E hr h => ?_)
  · obtain ⟨a, ns, k0, rfl, hS, k⟩ := h
    rfl
  · have hu := hu_of hr
    have nd := sc__law_cell_at.nd
    obtain ⟨a, ns, k0, rfl, hS, k⟩ := h
    refine ⟨_, (pss_cons (ps_if (pt_cmpR op_lt (pv 1) (pe_callB call_len_seq rfl T.b_len PySem.boot_len (pa_cons (pv 0) pa_nil)) (nomark _)) (pss_one (ps_ret (pe_ix ix_list (pv 0) (pv 1) (fun _ _ => rfl)))) pss_nil)
      (pss_one (ps_ret pe_int))), ?_⟩
    refine ⟨_, rfl, _, rfl, a, _, rfl, .inl hS, _, _, rfl, rfl, _, rfl, if_dec (fun c => ?_) (fun _ => k 0)⟩
    have hl : k0 < ns.length := by
      rw [List.length_map] at c
      omega
    refine ⟨_, rfl, _, rfl, a, _, _, .int ns[k0], rfl, rfl, hS, atI_nat ?_, k _⟩
    rw [List.getElem?_map, List.getElem?_eq_getElem hl]
    rfl
theorem ok__law_mixed (T : Tx K mg) (Sr : Src K mg "_law_mixed" s__law_mixed) : Def P w K mg base "_law_mixed" 1 ["_law_number", "_law_k"] (sp__law_mixed K) := by
  refine Def.of Sr (fun f fd F => F.bindsN fun _ _ _ _ _ _ us hl => match us, hl with | [_, _], _ => rfl) fun f fd F => ok0 F sc__law_mixed (fun vs H Q E h => ?_) (fun cdv A outer s H vs Q E hr h => ?_)
  · obtain ⟨n, k0, rfl, k⟩ := h
    rfl
  · have hu := hu_of hr
    have nd := sc__law_mixed.nd
    obtain ⟨n, k0, rfl, k⟩ := h
    refine ⟨_, (pss_cons (ps_set (i := 2) nd rfl (Or.inl rfl) (pe_op op_mod (pe_op op_mul (pe_op op_add (pe_op op_add (pe_op op_mod (pv 0) pe_int) (pe_op op_mul pe_int (pv 1))) pe_int) pe_int) pe_int))
      (pss_cons (ps_set (i := 3) nd rfl (Or.inl rfl) (pe_op op_mod (pe_op op_mul (pv 2) (pe_op op_add (pe_op op_add (pe_op op_mod (pv 2) pe_int) (pv 1)) pe_int)) pe_int))
      (pss_one (ps_ret (pe_op op_mod (pe_op op_add (pe_op op_mul (pv 3) pe_int) (pv 2)) pe_int))))), ?_⟩
    have p7 : (0 : Int) < 1000000007 := by decide
    refine ⟨_, rfl, _, _, rfl, rfl, p7, _, rfl, _, _, rfl, rfl, .inl ⟨by decide, by decide⟩, _, _, rfl, rfl, _, _, rfl, rfl, _, _, rfl, rfl, .inr ⟨by decide, by decide⟩, _, _, rfl, rfl, (show (0 : Int) < 2147483647 by decide), ?_⟩
    generalize (n % 1000000007 + 7 * k0 + 1) * 48271 = e1
    have b1 := Int.emod_nonneg e1 (show (2147483647 : Int) ≠ 0 by decide)
    have b2 := Int.emod_lt_of_pos e1 (show (0 : Int) < 2147483647 by decide)
    refine ⟨_, rfl, _, rfl, _, _, rfl, rfl, (show (0 : Int) < 1009 by decide), _, rfl, _, _, rfl, rfl, _, _, rfl, rfl, _, _, rfl, rfl, .inl ⟨by omega, by omega⟩, _, _, rfl, rfl, (show (0 : Int) < 998244353 by decide), ?_⟩
    refine ⟨_, rfl, _, _, rfl, rfl, .inr ⟨by decide, by decide⟩, _, rfl, _, _, rfl, rfl, _, _, rfl, rfl, (show (0 : Int) < 2147483629 by decide), ?_⟩
    exact k _ (Int.emod_nonneg _ (by decide)) (Int.emod_lt_of_pos _ (by decide))
theorem ok__law_quota_by (T : Tx K mg) (Sr : Src K mg "_law_quota_by" s__law_quota_by) : Def P w K mg base "_law_quota_by" 1 ["_law_number"] (sp__law_quota_by K) := by
  refine Def.of Sr (fun f fd F => F.bindsN fun _ _ _ _ _ _ us hl => match us, hl with | [_], _ => rfl) fun f fd F => ok0 F sc__law_quota_by (fun vs H Q E h => ?_) (fun cdv A outer s H vs Q E hr h => ?_)
  · obtain ⟨n, rfl, k⟩ := h
    rfl
  · have hu := hu_of hr
    have nd := sc__law_quota_by.nd
    obtain ⟨n, rfl, k⟩ := h
    refine ⟨_, (pss_one (ps_ret (pe_ix ix_list (pe_lst (pa_cons pe_int (pa_cons pe_int (pa_cons pe_int (pa_cons (pe_op op_add pe_int (pe_op op_mod (pe_op op_fdiv (pv 0) pe_int) pe_int)) (pa_cons (pe_op op_add pe_int (pe_op op_mod (pe_op op_fdiv (pv 0) pe_int) pe_int)) pa_nil)))))) (pe_op op_mod (pv 0) pe_int) (fun _ _ => rfl)))), ?_⟩
    refine ⟨_, rfl, _, _, rfl, rfl, ⟨by decide, by decide⟩, _, _, rfl, rfl, (show (0 : Int) < 20 by decide), _, _, rfl, rfl, _, rfl, _, _, rfl, rfl, ⟨by decide, by decide⟩, _, _, rfl, rfl, (show (0 : Int) < 4095 by decide), _, _, rfl, rfl, sz rfl, fun p hp => ?_⟩
    have b1 := Int.emod_nonneg n (show (5 : Int) ≠ 0 by decide)
    have b2 := Int.emod_lt_of_pos n (show (0 : Int) < 5 by decide)
    obtain ⟨v, hv, hm⟩ := atI_int (l := [1, 2, 3, 1 + n / 4 % 20, 1 + n / 4 % 4095]) b1 b2
    refine ⟨_, rfl, _, _, rfl, rfl, (show (0 : Int) < 5 by decide), p, _, _, _, rfl, rfl, sql upd_same, hv, k v _ (same_upd hp) ?_ ?_⟩
    · simp at hm
      omega
    · simp at hm
      omega
theorem ok__law_words_by (T : Tx K mg) (Sr : Src K mg "_law_words_by" s__law_words_by) (D__law_mixed : Def P w K mg base "_law_mixed" 1 ["_law_number", "_law_k"] (sp__law_mixed K)) : Def P w K mg base "_law_words_by" 2 ["_law_cells", "_law_number"] (sp__law_words_by K) := by
  obtain ⟨f__law_mixed, fd__law_mixed, g__law_mixed, k__law_mixed, b__law_mixed, G__law_mixed⟩ := D__law_mixed.ex
  refine Def.of Sr (fun f fd F => F.bindsN fun _ _ _ _ _ _ us hl => match us, hl with | [_, _], _ => rfl) fun f fd F => ok0 F sc__law_words_by (fun vs H Q E h => ?_) (fun cdv A outer s H vs Q E hr h => ?_)
  · obtain ⟨a, ns, n, rfl, hS, hl, k⟩ := h
    rfl
  · have hu := hu_of hr
    have nd := sc__law_words_by.nd
    have R__law_mixed : 1 ≤ 1 := by decide
    obtain ⟨a, ns, n, rfl, hS, hl, k⟩ := h
    refine ⟨_, (pss_cons (ps_set (i := 2) nd rfl (Or.inl rfl) (pe_lst pa_nil))
      (pss_cons (ps_for PassesOwn.never rfl (pi_range1 rfl T.b_range (pa_cons (pe_callB call_len_seq rfl T.b_len PySem.boot_len (pa_cons (pv 0) pa_nil)) pa_nil)) (pg_name (i := 3) nd rfl (Or.inl rfl)) (pss_cons (ps_set (i := 4) nd rfl (Or.inl rfl) (pe_ix ix_list (pv 0) (pv 3) (fun _ _ => rfl)))
      (pss_one (ps_if (pt_cmpR op_eq (pe_op op_mod (pe_op op_add (pv 4) (pv 1)) pe_int) pe_int (nomark _)) (pss_one (ps_expr (pe_bm PySem.F.plainAttrs_list PySem.F.slot_list_append PySem.F.type_list_append mt_append (pv 2) (pa_cons (pe_op op_mod (pe_op op_fdiv (pv 4) pe_int) pe_int) pa_nil)))) (pss_cons (ps_set (i := 5) nd rfl (Or.inl rfl) (pe_call G__law_mixed (hr.mono R__law_mixed) rfl g__law_mixed k__law_mixed b__law_mixed .nil pass0 (pa_cons (pv 4) (pa_cons (pe_op op_add pe_int (pv 3)) pa_nil))))
      (pss_cons (ps_set (i := 6) nd rfl (Or.inl rfl) (pe_ix ix_list (pe_lst (pa_cons pe_int (pa_cons pe_int (pa_cons pe_int (pa_cons pe_int (pa_cons pe_int (pa_cons pe_int (pa_cons pe_int (pa_cons pe_int (pa_cons pe_int (pa_cons pe_int (pa_cons pe_int (pa_cons pe_int (pa_cons pe_int (pa_cons pe_int (pa_cons pe_int (pa_cons pe_int pa_nil))))))))))))))))) (pe_callB (call_min2 rfl) rfl T.b_min (by decide +kernel) (pa_cons (pe_op op_mod (pv 5) pe_int) (pa_cons pe_int pa_nil))) (fun _ _ => rfl)))
      (pss_cons (ps_set (i := 7) nd rfl (Or.inl rfl) (pe_op op_fdiv (pv 5) pe_int))
      (pss_cons (ps_set (i := 8) nd rfl (Or.inl rfl) (pe_ix ix_list (pe_lst (pa_cons (pe_op op_mod (pv 7) pe_int) (pa_cons (pe_op op_mod (pv 7) (pe_callB call_len_seq rfl T.b_len PySem.boot_len (pa_cons (pv 0) pa_nil))) (pa_cons (pe_op op_mod (pv 7) pe_int) (pa_cons (pe_op op_mod (pv 7) pe_int) pa_nil))))) (pe_op op_mod (pe_op op_fdiv (pv 7) pe_int) pe_int) (fun _ _ => rfl)))
      (pss_one (ps_expr (pe_bm PySem.F.plainAttrs_list PySem.F.slot_list_append PySem.F.type_list_append mt_append (pv 2) (pa_cons (pe_op op_add (pe_op op_mul (pv 6) pe_int) (pv 8)) pa_nil))))))))))))
      (pss_one (ps_ret (pv 2))))), ?_⟩
    refine ⟨Nat.zero_le _, fun p hp => ?_⟩
    have hS1 := sqS (same_upd (o := .lst []) hp) hS
    refine ⟨_, rfl, a, _, rfl, .inl hS1, _, rfl, by rw [List.length_map]; omega, by rw [List.length_map]; omega, ?_⟩
    rw [List.length_map]
    refine for_it (n := ((ns.length : Nat) : Int).toNat) walk_range (fun i σ H2 => ∃ (ws : List Int) (y3 y4 y5 y6 y7 y8 : Option V), σ = [some (.ref a), some (.int n), some (.ref p), y3, y4, y5, y6, y7, y8] ∧ Same H H2 ∧ H2 p = some (.lst (ws.map V.int)) ∧ ws.length = i)
      ⟨[], none, none, none, none, none, none, rfl, same_upd hp, upd_same, rfl⟩ (fun _ _ _ _ _ => trivial) ?_ ?_
    · rintro i x σ H2 H3 hi ⟨ws, y3, y4, y5, y6, y7, y8, rfl, s2, hq, lw⟩ ⟨rfl, rfl⟩
      have hil : i < ns.length := by omega
      have e1 : (0 : Int) + (i : Int) = (i : Int) := Int.zero_add _
      obtain ⟨cv, hcv, _⟩ := atI_int (l := ns) (i := (0 : Int) + (i : Int)) (by omega) (by omega)
      have small : (ws.map V.int).length < sizeLine := by rw [List.length_map]; exact small17s (by omega)
      refine ⟨_, rfl, _, rfl, a, _, _, _, rfl, rfl, sqS s2 hS, hcv, ?_⟩
      refine ⟨_, rfl, _, rfl, _, _, rfl, rfl, _, _, rfl, rfl, (show (0 : Int) < 3 by decide), rfl, _, rfl, if_eq (fun _ => ?_) (fun _ => ?_)⟩
      · refine ⟨_, rfl, .inl ⟨rfl, _, sql hq⟩, _, rfl, _, _, rfl, rfl, ⟨by decide, by decide⟩, _, _, rfl, rfl, (show (0 : Int) < 65536 by decide), p, _, _, rfl, rfl, hq, small, ?_⟩
        exact ⟨ws ++ [_], _, _, _, _, _, _, rfl, s2.mut hp, by rw [upd_same, List.map_append]; rfl, by rw [List.length_append, lw]; rfl⟩
      · refine ⟨_, rfl, _, rfl, _, _, rfl, rfl, _, _, rfl, fun v v0 v1 => ?_⟩
        refine ⟨sz rfl, fun l hl2 => ?_⟩
        have sl := same_upd (o := .lst [V.int 0, V.int 1, V.int 2, V.int 3, V.int 4, V.int 5, V.int 7, V.int 8, V.int 9, V.int 10, V.int 11, V.int 6, V.int 12, V.int 13, V.int 14, V.int 15]) hl2
        have b1 := Int.emod_nonneg v (show (20 : Int) ≠ 0 by decide)
        obtain ⟨ov, hov, _⟩ := atI_int (l := [0, 1, 2, 3, 4, 5, 7, 8, 9, 10, 11, 6, 12, 13, 14, 15]) (i := if (15 : Int) < v % 20 then 15 else v % 20) (by split <;> omega) (by show _ < (16 : Int); split <;> omega)
        refine ⟨_, rfl, _, _, rfl, rfl, (show (0 : Int) < 20 by decide), _, _, rfl, l, _, _, _, rfl, rfl, sql upd_same, hov, ?_⟩
        refine ⟨_, rfl, _, _, rfl, rfl, ⟨by decide, by decide⟩, ?_⟩
        have npl : p ≠ l := ne_of_none hq hl2
        have hS3 := sqS (s2.trans sl) hS
        have lpos : (0 : Int) < ((ns.map V.int).length : Int) := by rw [List.length_map]; omega
        refine ⟨_, rfl, _, _, rfl, rfl, (show (0 : Int) < 16 by decide), _, rfl, _, rfl, a, _, rfl, .inl hS3, _, _, rfl, rfl, lpos, _, rfl, _, _, rfl, rfl, (show (0 : Int) < 4 by decide), _, rfl, _, _, rfl, rfl, (show (0 : Int) < 4096 by decide), sz rfl, fun l2 hl3 => ?_⟩
        have b2 := Int.emod_nonneg (v / 20 / 4096) (show (4 : Int) ≠ 0 by decide)
        have b3 := Int.emod_lt_of_pos (v / 20 / 4096) (show (0 : Int) < 4 by decide)
        obtain ⟨rv, hrv, _⟩ := atI_int (l := [v / 20 % 16, v / 20 % ((ns.map V.int).length : Int), v / 20 % 4, v / 20 % 4096]) b2 b3
        refine ⟨_, rfl, _, _, rfl, rfl, ⟨by decide, by decide⟩, _, _, rfl, rfl, (show (0 : Int) < 4 by decide), l2, _, _, _, rfl, rfl, sql upd_same, hrv, ?_⟩
        have hq4 := same_upd (o := .lst [V.int (v / 20 % 16), V.int (v / 20 % ((ns.map V.int).length : Int)), V.int (v / 20 % 4), V.int (v / 20 % 4096)]) hl3 _ _ (sl _ _ hq)
        refine ⟨_, rfl, .inl ⟨rfl, _, sql hq4⟩, _, rfl, _, _, rfl, rfl, .inr ⟨by decide, by decide⟩, _, rfl, _, _, rfl, rfl, p, _, _, rfl, rfl, hq4, small, ?_⟩
        exact ⟨ws ++ [_], _, _, _, _, _, _, rfl, ((s2.trans sl).trans (same_upd hl3)).mut hp, by rw [upd_same, List.map_append]; rfl, by rw [List.length_append, lw]; rfl⟩
    · rintro σ H2 ⟨ws, y3, y4, y5, y6, y7, y8, rfl, s2, hq, lw⟩
      exact ⟨_, rfl, k p H2 ws s2 hp hq (by omega)⟩
theorem ok__law_lively (T : Tx K mg) (Sr : Src K mg "_law_lively" s__law_lively) (D__law_mixed : Def P w K mg base "_law_mixed" 1 ["_law_number", "_law_k"] (sp__law_mixed K)) : Def P w K mg base "_law_lively" 2 ["_law_cells"] (sp__law_lively K) := by
  obtain ⟨f__law_mixed, fd__law_mixed, g__law_mixed, k__law_mixed, b__law_mixed, G__law_mixed⟩ := D__law_mixed.ex
  refine Def.of Sr (fun f fd F => F.bindsN fun _ _ _ _ _ _ us hl => match us, hl with | [_], _ => rfl) fun f fd F => ok0 F sc__law_lively (fun vs H Q E h => ?_) (fun cdv A outer s H vs Q E hr h => ?_)
  · obtain ⟨a, ns, rfl, hS, hl, k⟩ := h
    rfl
  · have hu := hu_of hr
    have nd := sc__law_lively.nd
    have R__law_mixed : 1 ≤ 1 := by decide
    obtain ⟨a, ns, rfl, hS, hl, k⟩ := h
    refine ⟨_, (pss_cons (ps_set (i := 1) nd rfl (Or.inl rfl) (pe_lst pa_nil))
      (pss_cons (ps_for PassesOwn.never rfl (pi_range1 rfl T.b_range (pa_cons (pe_callB call_len_seq rfl T.b_len PySem.boot_len (pa_cons (pv 0) pa_nil)) pa_nil)) (pg_name (i := 2) nd rfl (Or.inl rfl)) (pss_cons (ps_set (i := 3) nd rfl (Or.inl rfl) (pe_call G__law_mixed (hr.mono R__law_mixed) rfl g__law_mixed k__law_mixed b__law_mixed .nil pass0 (pa_cons (pe_ix ix_list (pv 0) (pv 2) (fun _ _ => rfl)) (pa_cons (pe_op op_add pe_int (pv 2)) pa_nil))))
      (pss_cons (ps_set (i := 4) nd rfl (Or.inl rfl) (pe_op op_fdiv (pv 3) pe_int))
      (pss_cons (ps_set (i := 5) nd rfl (Or.inl rfl) (pe_op op_add (pe_op op_mul pe_int pe_int) (pe_ix ix_list (pe_lst (pa_cons pe_int (pa_cons pe_int (pa_cons pe_int (pa_cons pe_int (pa_cons pe_int (pa_cons pe_int (pa_cons pe_int (pa_cons pe_int (pa_cons pe_int (pa_cons pe_int pa_nil))))))))))) (pe_op op_mod (pv 4) pe_int) (fun _ _ => rfl))))
      (pss_cons (ps_set (i := 6) nd rfl (Or.inl rfl) (pe_ix ix_list (pe_lst (pa_cons (pe_op op_mod (pv 4) pe_int) (pa_cons (pe_op op_mod (pv 4) pe_int) (pa_cons (pv 5) (pa_cons (pv 5) (pa_cons (pe_op op_add (pe_op op_mul pe_int pe_int) (pe_op op_mod (pv 4) (pe_callB call_len_seq rfl T.b_len PySem.boot_len (pa_cons (pv 0) pa_nil)))) pa_nil)))))) (pe_op op_mod (pe_op op_mod (pv 3) pe_int) pe_int) (fun _ _ => rfl)))
      (pss_cons (ps_if (pt_cmpR op_gt (pe_op op_mod (pv 3) pe_int) pe_int (nomark _)) (pss_one (ps_set (i := 6) nd rfl (Or.inl rfl) (pe_op op_add (pe_op op_mul (pe_ix ix_list (pe_lst (pa_cons pe_int (pa_cons pe_int (pa_cons pe_int (pa_cons pe_int (pa_cons pe_int (pa_cons pe_int pa_nil))))))) (pe_op op_sub (pe_op op_mod (pv 3) pe_int) pe_int) (fun _ _ => rfl)) pe_int) (pe_op op_mod (pv 4) (pe_callB call_len_seq rfl T.b_len PySem.boot_len (pa_cons (pv 0) pa_nil)))))) pss_nil)
      (pss_one (ps_expr (pe_bm PySem.F.plainAttrs_list PySem.F.slot_list_append PySem.F.type_list_append mt_append (pv 1) (pa_cons (pv 6) pa_nil))))))))))
      (pss_one (ps_ret (pv 1))))), ?_⟩
    refine ⟨Nat.zero_le _, fun p hp => ?_⟩
    have hS1 := sqS (same_upd (o := .lst []) hp) hS
    refine ⟨_, rfl, a, _, rfl, .inl hS1, _, rfl, by rw [List.length_map]; omega, by rw [List.length_map]; omega, ?_⟩
    rw [List.length_map]
    refine for_it (n := ((ns.length : Nat) : Int).toNat) walk_range (fun i σ H2 => ∃ (ws : List Int) (y2 y3 y4 y5 y6 : Option V), σ = [some (.ref a), some (.ref p), y2, y3, y4, y5, y6] ∧ Same H H2 ∧ H2 p = some (.lst (ws.map V.int)) ∧ ws.length = i)
      ⟨[], none, none, none, none, none, rfl, same_upd hp, upd_same, rfl⟩ (fun _ _ _ _ _ => trivial) ?_ ?_
    · rintro i x σ H2 H3 hi ⟨ws, y2, y3, y4, y5, y6, rfl, s2, hq, lw⟩ ⟨rfl, rfl⟩
      have hil : i < ns.length := by omega
      obtain ⟨cv, hcv, _⟩ := atI_int (l := ns) (i := (0 : Int) + (i : Int)) (by omega) (by omega)
      have small : (ws.map V.int).length < sizeLine := by rw [List.length_map]; exact small17s (by omega)
      refine ⟨_, rfl, _, rfl, a, _, _, _, rfl, rfl, sqS s2 hS, hcv, _, rfl, _, _, rfl, rfl, _, _, rfl, fun v v0 v1 => ?_⟩
      refine ⟨_, rfl, _, _, rfl, rfl, ⟨by decide, by decide⟩, ?_⟩
      refine ⟨_, _, rfl, rfl, .inl ⟨by decide, by decide⟩, sz rfl, fun l hl2 => ?_⟩
      have sl := same_upd (o := .lst [V.int 1, V.int 1, V.int 1, V.int 3, V.int 3, V.int 2, V.int 2, V.int 1, V.int 2, V.int 3]) hl2
      have b1 := Int.emod_nonneg (v / 16) (show (10 : Int) ≠ 0 by decide)
      have b2 := Int.emod_lt_of_pos (v / 16) (show (0 : Int) < 10 by decide)
      obtain ⟨ov, hov, _⟩ := atI_int (l := [1, 1, 1, 3, 3, 2, 2, 1, 2, 3]) b1 b2
      refine ⟨_, rfl, _, _, rfl, rfl, (show (0 : Int) < 10 by decide), l, _, _, _, rfl, rfl, sql upd_same, hov, _, _, rfl, rfl, ?_⟩
      have s3 := s2.trans sl
      have hq3 := sl _ _ hq
      have hS3 := sqS s3 hS
      have lpos : (0 : Int) < ((ns.map V.int).length : Int) := by rw [List.length_map]; omega
      generalize upd H3 l (.lst [V.int 1, V.int 1, V.int 1, V.int 3, V.int 3, V.int 2, V.int 2, V.int 1, V.int 2, V.int 3]) = H4 at s3 hq3 hS3 ⊢
      refine ⟨_, rfl, _, _, rfl, rfl, (show (0 : Int) < 4096 by decide), _, rfl, _, _, rfl, rfl, (show (0 : Int) < 99 by decide), _, rfl, _, rfl, _, _, rfl, rfl, .inl ⟨by decide, by decide⟩, _, rfl, _, rfl, a, _, rfl, .inl hS3, _, _, rfl, rfl, lpos, _, _, rfl, rfl, sz rfl, fun l2 hl3 => ?_⟩
      have b3 := Int.emod_nonneg (v % 16) (show (5 : Int) ≠ 0 by decide)
      have b4 := Int.emod_lt_of_pos (v % 16) (show (0 : Int) < 5 by decide)
      obtain ⟨wv, hwv, _⟩ := atI_int (l := [v / 16 % 4096, v / 16 % 99, 13 * 4096 + ov, 13 * 4096 + ov, 3 * 4096 + v / 16 % ((ns.map V.int).length : Int)]) b3 b4
      refine ⟨_, rfl, _, _, rfl, rfl, (show (0 : Int) < 16 by decide), _, _, rfl, rfl, (show (0 : Int) < 5 by decide), l2, _, _, _, rfl, rfl, sql upd_same, hwv, ?_⟩
      have sl2 := same_upd (o := .lst [V.int (v / 16 % 4096), V.int (v / 16 % 99), V.int (13 * 4096 + ov), V.int (13 * 4096 + ov), V.int (3 * 4096 + v / 16 % ((ns.map V.int).length : Int))]) hl3
      have s4 := s3.trans sl2
      have hq4 := sl2 _ _ hq3
      have hS4 := sqS s4 hS
      generalize upd H4 l2 (.lst [V.int (v / 16 % 4096), V.int (v / 16 % 99), V.int (13 * 4096 + ov), V.int (13 * 4096 + ov), V.int (3 * 4096 + v / 16 % ((ns.map V.int).length : Int))]) = H5 at s4 hq4 hS4 ⊢
      refine ⟨_, rfl, _, _, rfl, rfl, (show (0 : Int) < 16 by decide), _, _, rfl, rfl, _, rfl, if_dec (fun c => ?_) (fun c => ?_)⟩
      · refine ⟨sz rfl, fun l3 hl4 => ?_⟩
        have sl3 := same_upd (o := .lst [V.int 6, V.int 7, V.int 8, V.int 1, V.int 2, V.int 3]) hl4
        have b5 := Int.emod_lt_of_pos v (show (0 : Int) < 16 by decide)
        obtain ⟨gv, hgv, _⟩ := atI_int (l := [6, 7, 8, 1, 2, 3]) (i := v % 16 - 10) (by omega) (by show _ < (6 : Int); omega)
        refine ⟨_, rfl, _, _, rfl, rfl, (show (0 : Int) < 16 by decide), _, _, rfl, rfl, l3, _, _, _, rfl, rfl, sql upd_same, hgv, _, _, rfl, rfl, .inr ⟨by decide, by decide⟩, _, rfl, _, rfl, a, _, rfl, .inl (sqS sl3 hS4), _, _, rfl, rfl, lpos, _, _, rfl, rfl, ?_⟩
        have hq5 := sl3 _ _ hq4
        refine ⟨_, rfl, .inl ⟨rfl, _, sql hq5⟩, _, rfl, p, _, _, rfl, rfl, hq5, small, ?_⟩
        exact ⟨ws ++ [_], _, _, _, _, _, rfl, (s4.trans sl3).mut hp, by rw [upd_same, List.map_append]; rfl, by rw [List.length_append, lw]; rfl⟩
      · refine ⟨_, rfl, .inl ⟨rfl, _, sql hq4⟩, _, rfl, p, _, _, rfl, rfl, hq4, small, ?_⟩
        exact ⟨ws ++ [_], _, _, _, _, _, rfl, s4.mut hp, by rw [upd_same, List.map_append]; rfl, by rw [List.length_append, lw]; rfl⟩
    · rintro σ H2 ⟨ws, y2, y3, y4, y5, y6, rfl, s2, hq, lw⟩
      exact ⟨_, rfl, k p H2 ws s2 hp hq (by omega)⟩
theorem ixN_nat2 {n j : Nat} (h : j < n) : ixN n (j : Int) = some j := by
  unfold ixN
  rw [if_pos (by omega), Int.toNat_natCast, if_pos (by omega)]
theorem ok__law_image_by (T : Tx K mg) (Sr : Src K mg "_law_image_by" s__law_image_by) (D__law_lively : Def P w K mg base "_law_lively" 2 ["_law_cells"] (sp__law_lively K)) (D__law_words_by : Def P w K mg base "_law_words_by" 2 ["_law_cells", "_law_number"] (sp__law_words_by K)) : Def P w K mg base "_law_image_by" 3 ["_law_cells", "_law_number"] (sp__law_image_by K) := by
  obtain ⟨f__law_lively, fd__law_lively, g__law_lively, k__law_lively, b__law_lively, G__law_lively⟩ := D__law_lively.ex
  obtain ⟨f__law_words_by, fd__law_words_by, g__law_words_by, k__law_words_by, b__law_words_by, G__law_words_by⟩ := D__law_words_by.ex
  refine Def.of Sr (fun f fd F => F.bindsN fun _ _ _ _ _ _ us hl => match us, hl with | [_, _], _ => rfl) fun f fd F => ok0 F sc__law_image_by (fun vs H Q E h => ?_) (fun cdv A outer s H vs Q E hr h => ?_)
  · obtain ⟨a, ns, n, rfl, hS, hl, k⟩ := h
    rfl
  · have hu := hu_of hr
    have nd := sc__law_image_by.nd
    have R__law_lively : 2 ≤ 2 := by decide
    have R__law_words_by : 2 ≤ 2 := by decide
    obtain ⟨a, ns, n, rfl, hS, hl, k⟩ := h
    refine ⟨_, (pss_cons (ps_if (pt_cmpR op_eq (pe_op op_mod (pe_op op_fdiv (pv 1) pe_int) pe_int) pe_int (nomark _)) (pss_one (ps_ret (pe_call G__law_lively (hr.mono R__law_lively) rfl g__law_lively k__law_lively b__law_lively .nil pass0 (pa_cons (pv 0) pa_nil)))) pss_nil)
      (pss_cons (ps_set (i := 2) nd rfl (Or.inl rfl) (pe_call G__law_words_by (hr.mono R__law_words_by) rfl g__law_words_by k__law_words_by b__law_words_by .nil pass0 (pa_cons (pv 0) (pa_cons (pe_op op_mod (pv 1) pe_int) pa_nil))))
      (pss_cons (ps_for PassesOwn.never rfl (pi_range1 rfl T.b_range (pa_cons (pe_callB call_len_seq rfl T.b_len PySem.boot_len (pa_cons (pv 2) pa_nil)) pa_nil)) (pg_name (i := 3) nd rfl (Or.inl rfl)) (pss_cons (ps_if (PW.pt (pw_and (pt_cmpR op_eq (pe_op op_fdiv (pe_ix ix_list (pv 2) (pv 3) (fun _ _ => rfl)) pe_int) pe_int (nomark _)) (pw_and1 (pt_cmpR op_gt (pe_op op_mod (pe_ix ix_list (pv 2) (pv 3) (fun _ _ => rfl)) pe_int) pe_int (nomark _))))) (pss_one (ps_asg (pe_op op_add (pe_op op_mul pe_int pe_int) (pe_op op_mod (pe_ix ix_list (pv 2) (pv 3) (fun _ _ => rfl)) pe_int)) (pg_sub (pv 2) (pv 3) set_list))) pss_nil)
      (pss_one (ps_if (PW.pt (pw_and (pt_cmpR op_eq (pe_op op_mod (pe_op op_fdiv (pv 1) pe_int) pe_int) pe_int (nomark _)) (pw_and1 (pt_cmpR op_gt (pe_op op_fdiv (pe_ix ix_list (pv 2) (pv 3) (fun _ _ => rfl)) pe_int) pe_int (nomark _))))) (pss_one (ps_asg (pe_op op_mod (pe_ix ix_list (pv 2) (pv 3) (fun _ _ => rfl)) pe_int) (pg_sub (pv 2) (pv 3) set_list))) pss_nil))))
      (pss_one (ps_ret (pv 2)))))), ?_⟩
    refine ⟨_, rfl, _, _, rfl, rfl, ⟨by decide, by decide⟩, _, _, rfl, rfl, (show (0 : Int) < 2 by decide), rfl, _, rfl, if_eq (fun _ => ?_) (fun _ => ?_)⟩
    · exact ⟨_, rfl, a, ns, rfl, hS, hl, fun p H' ws s1 np hp lw => k p H' ws s1 np hp lw⟩
    refine ⟨_, rfl, _, rfl, _, _, rfl, rfl, (show (0 : Int) < 3 by decide), a, ns, _, rfl, hS, hl, fun p H1 ws1 s1 np hp1 lw1 => ?_⟩
    refine ⟨_, rfl, p, _, rfl, .inl (sql hp1), _, rfl, by rw [List.length_map]; omega, by rw [List.length_map]; omega, ?_⟩
    rw [List.length_map]
    refine for_it (n := ((ws1.length : Nat) : Int).toNat) walk_range (fun i σ H2 => ∃ (ws : List Int) (y3 : Option V), σ = [some (.ref a), some (.int n), some (.ref p), y3] ∧ Same H H2 ∧ H2 p = some (.lst (ws.map V.int)) ∧ ws.length = ns.length)
      ⟨ws1, none, rfl, s1, hp1, lw1⟩ (fun _ _ _ _ _ => trivial) ?_ ?_
    · rintro i x σ H2 H3 hi ⟨ws, y3, rfl, s2, hq, lw⟩ ⟨rfl, rfl⟩
      have hil : i < ws.length := by omega
      have e1 : (0 : Int) + (i : Int) = (i : Int) := Int.zero_add _
      have hw0 : ∀ ws' : List Int, ws'.length = ns.length → ∃ cv : Int, atI (ws'.map V.int) ((0 : Int) + (i : Int)) = some (.int cv) := fun ws' h => by
        obtain ⟨cv, h, _⟩ := atI_int (l := ws') (i := (0 : Int) + (i : Int)) (by omega) (by omega)
        exact ⟨cv, h⟩
      have hix : ∀ ws' : List Int, ws'.length = ns.length → ixN (ws'.map V.int).length ((0 : Int) + (i : Int)) = some i := fun ws' h => by
        rw [e1]
        exact ixN_nat2 (by rw [List.length_map]; omega)
      obtain ⟨cv, hcv⟩ := hw0 ws lw
      refine ⟨_, rfl, _, rfl, p, _, _, _, rfl, rfl, sql hq, hcv, _, _, rfl, rfl, ⟨by decide, by decide⟩, rfl, _, rfl, if_eq (fun _ => ?a) (fun _ => iteF ?b)⟩
      case' a => refine ⟨_, rfl, _, rfl, p, _, _, _, rfl, rfl, sql hq, hcv, _, _, rfl, rfl, (show (0 : Int) < 3 by decide), _, _, rfl, rfl, _, rfl, if_dec (fun _ => ?c) (fun _ => ?d)⟩
      case' c =>
        refine ⟨_, _, rfl, rfl, .inl ⟨by decide, by decide⟩, _, rfl, _, rfl, p, _, _, _, rfl, rfl, sql hq, hcv, _, _, rfl, rfl, (show (0 : Int) < 5 by decide), _, _, rfl, rfl, _, rfl, _, rfl, p, _, _, i, rfl, rfl, hq, hix ws lw, ?_⟩
        have hq4 : upd H3 p (.lst ((ws.map V.int).set i (.int (13 * 4096 + cv % 5)))) p = some (.lst ((ws.set i (13 * 4096 + cv % 5)).map V.int)) := by rw [upd_same, List.map_set]
        have s4 : Same H (upd H3 p (.lst ((ws.map V.int).set i (.int (13 * 4096 + cv % 5))))) := s2.mut np
        have lw4 : (ws.set i (13 * 4096 + cv % 5)).length = ns.length := by rw [List.length_set, lw]
        generalize upd H3 p (.lst ((ws.map V.int).set i (.int (13 * 4096 + cv % 5)))) = H4 at s4 hq4 ⊢
      case' b =>
        have s4 := s2
        have hq4 := hq
        have lw4 := lw
      case' d =>
        have s4 := s2
        have hq4 := hq
        have lw4 := lw
      all_goals
        obtain ⟨cv4, hcv4⟩ := hw0 _ lw4
        refine ⟨_, rfl, _, _, rfl, rfl, ⟨by decide, by decide⟩, _, _, rfl, rfl, (show (0 : Int) < 4 by decide), rfl, _, rfl, if_eq (fun _ => ?_) (fun _ => iteF ⟨_, _, rfl, s4, hq4, lw4⟩)⟩
        refine ⟨_, rfl, _, rfl, p, _, _, _, rfl, rfl, sql hq4, hcv4, _, _, rfl, rfl, ⟨by decide, by decide⟩, _, _, rfl, rfl, _, rfl, if_dec (fun _ => ?_) (fun _ => ⟨_, _, rfl, s4, hq4, lw4⟩)⟩
        refine ⟨_, rfl, _, rfl, p, _, _, _, rfl, rfl, sql hq4, hcv4, _, _, rfl, rfl, (show (0 : Int) < 4096 by decide), _, rfl, _, rfl, p, _, _, i, rfl, rfl, hq4, hix _ lw4, ?_⟩
        exact ⟨List.set _ i (cv4 % 4096), _, rfl, s4.mut np, upd_same.trans (congrArg some (congrArg HO.lst (List.map_set (f := V.int)).symm)), by rw [List.length_set, lw4]⟩
    · rintro σ H2 ⟨ws, y3, rfl, s2, hq, lw⟩
      exact ⟨_, rfl, k p H2 ws s2 np hq lw⟩
end
end G3
set_option Elab.async false
set_option linter.all false
set_option maxRecDepth 100000
set_option maxHeartbeats 1000000
namespace G3
open PySem PySem.Spec PyProof.Rows L2
local macro_rules | `(tactic| walk_at "hp") => `(tactic| first | assumption | exact upd_same | (refine same_upd (by assumption) _ _ ?_; walk_at "hp") | (refine (‹Same _ _›) _ _ ?_; walk_at "hp"))
local macro_rules | `(tactic| walk_at "sm") => `(tactic| first | exact Same.refl _ | assumption | (refine Same.trans ?_ (same_upd (by assumption)); walk_at "sm") | (refine Same.trans ?_ (by assumption); walk_at "sm"))
def sp__law_images_by (K : PySem.W.Frag) : Sp := fun vs H Q _ => ∃ (a : Addr) (ns : List Int) (n : Int), vs = [.ref a, .int n] ∧ SqL K H a (ns.map V.int) ∧ ns.length ≤ 20 ∧ n % 4 ≤ 2 ∧
  ∀ (p I G : Addr) (rsI rsG : List V) (images given : List (List Int)) H', Same H H' → H' p = some (.tup [.ref I, .ref G]) → H' I = some (.lst rsI) → RowsAt H' rsI images → H' G = some (.lst rsG) → RowsAt H' rsG given →
    1 ≤ images.length → images.length ≤ 3 → given.length = images.length → images.flatten.length ≤ 60 → given.flatten.length ≤ 9 → H I = none → H G = none → I ≠ G → (∀ q, .ref q ∈ rsI → q ≠ I ∧ q ≠ G) → (∀ q, .ref q ∈ rsG → q ≠ I ∧ q ≠ G) → Q (.ref p) H'
theorem RowsAt.one {H : Hp} {p : Addr} {ws : List Int} (h : H p = some (.lst (ws.map V.int))) : RowsAt H [.ref p] [ws] := ⟨h, trivial⟩
section
variable {P : Program} {w : World} {K : PySem.W.Frag} {mg : Str → Option Value} {base : Heap}
theorem ok__law_images_by (T : Tx K mg) (Sr : Src K mg "_law_images_by" s__law_images_by) (D__law_mixed : Def P w K mg base "_law_mixed" 1 ["_law_number", "_law_k"] (sp__law_mixed K)) (D__law_image_by : Def P w K mg base "_law_image_by" 3 ["_law_cells", "_law_number"] (sp__law_image_by K)) : Def P w K mg base "_law_images_by" 4 ["_law_cells", "_law_number"] (sp__law_images_by K) := by
  obtain ⟨f__law_mixed, fd__law_mixed, g__law_mixed, k__law_mixed, b__law_mixed, G__law_mixed⟩ := D__law_mixed.ex
  obtain ⟨f__law_image_by, fd__law_image_by, g__law_image_by, k__law_image_by, b__law_image_by, G__law_image_by⟩ := D__law_image_by.ex
  refine Def.of Sr (fun f fd F => F.bindsN fun _ _ _ _ _ _ us hl => match us, hl with | [_, _], _ => rfl) fun f fd F => ok0 F sc__law_images_by (fun vs H Q E h => ?_) (fun cdv A outer s H vs Q E hr h => ?_)
  · obtain ⟨a, ns, n, rfl, hS, hl, hn, k⟩ := h
    rfl
  · have hu := hu_of hr
    have nd := sc__law_images_by.nd
    have R__law_mixed : 1 ≤ 3 := by decide
    have R__law_image_by : 3 ≤ 3 := by decide
    obtain ⟨a, ns, n, rfl, hS, hl, hn, k⟩ := h
    refine ⟨_, (pss_cons (ps_set (i := 2) nd rfl (Or.inr rfl) (pe_op op_add pe_int (pe_op op_mod (pv 1) pe_int)))
      (pss_cons (ps_set (i := 3) nd rfl (Or.inl rfl) (pe_lst pa_nil))
      (pss_cons (ps_set (i := 4) nd rfl (Or.inl rfl) (pe_lst pa_nil))
      (pss_cons (ps_for PassesOwn.never rfl (pi_range1 rfl T.b_range (pa_cons (pv 2) pa_nil)) (pg_name (i := 5) nd rfl (Or.inr rfl)) (pss_cons (ps_setLc (i := 6) (own := [("_law_j", 7)]) rfl nd rfl rfl (sw_true rfl rfl rfl (by decide +kernel)) (pi_range1 rfl T.b_range (pa_cons (pe_callB call_len_seq rfl T.b_len PySem.boot_len (pa_cons (pv 0) pa_nil)) pa_nil)) (blkOk_by (N := N__law_images_by) (sc := defScope s__law_images_by) (by decide +kernel)) (fun _ _ _ _ _ => pg_name (i := 7) nd rfl (Or.inl rfl)) (fun _ _ _ _ _ => pts_one (pt_cmpR op_eq (pe_op op_mod (pv 7) (pv 2)) (pv 5) (nomark _))) (fun _ _ _ _ _ => (pe_ix (ix_listK (K := K) rfl) (pv 0) (pv 7) (fun _ _ => rfl))))
      (pss_cons (ps_expr (pe_bm PySem.F.plainAttrs_list PySem.F.slot_list_append PySem.F.type_list_append mt_append (pv 3) (pa_cons (pe_call G__law_image_by (hr.mono R__law_image_by) rfl g__law_image_by k__law_image_by b__law_image_by .nil pass0 (pa_cons (pv 6) (pa_cons (pe_call G__law_mixed (hr.mono R__law_mixed) rfl g__law_mixed k__law_mixed b__law_mixed .nil pass0 (pa_cons (pv 1) (pa_cons (pe_op op_add pe_int (pv 5)) pa_nil))) pa_nil))) pa_nil)))
      (pss_one (ps_expr (pe_bm PySem.F.plainAttrs_list PySem.F.slot_list_append PySem.F.type_list_append mt_append (pv 4) (pa_cons (pe_lc (own := [("_law_j", 7)]) rfl nd (pi_range1 rfl T.b_range (pa_cons (pe_op op_mod (pe_call G__law_mixed (hr.mono R__law_mixed) rfl g__law_mixed k__law_mixed b__law_mixed .nil pass0 (pa_cons (pv 1) (pa_cons (pe_op op_add pe_int (pv 5)) pa_nil))) pe_int) pa_nil)) (blkOk_by (N := N__law_images_by) (sc := defScope s__law_images_by) (by decide +kernel)) (fun _ _ _ _ _ => pg_name (i := 7) nd rfl (Or.inl rfl)) (fun _ _ _ _ _ => pts_nil) (fun _ _ _ _ _ => (pe_op op_mod (pe_call G__law_mixed (hr.mono R__law_mixed) rfl g__law_mixed k__law_mixed b__law_mixed .nil pass0 (pa_cons (pv 1) (pa_cons (pe_op op_add (pe_op op_add pe_int (pe_op op_mul pe_int (pv 5))) (pv 7)) pa_nil))) pe_int))) pa_nil)))))))
      (pss_one (ps_ret (pe_tup (pa_cons (pv 3) (pa_cons (pv 4) pa_nil))))))))), ?_⟩
    have b1 := Int.emod_nonneg n (show (4 : Int) ≠ 0 by decide)
    refine ⟨_, rfl, _, _, rfl, rfl, (show (0 : Int) < 4 by decide), _, _, rfl, rfl, ?_⟩
    obtain ⟨many, hmany⟩ : ∃ m : Nat, 1 + n % 4 = (m : Int) := ⟨(1 + n % 4).toNat, by omega⟩
    refine ⟨Nat.zero_le _, fun I hI => ⟨Nat.zero_le _, fun G hG => ?_⟩⟩
    have sI := same_upd (o := .lst []) hI
    have sG := same_upd (o := .lst []) hG
    have nIG : I ≠ G := ne_of_none upd_same hG
    have G0 : H G = none := sI.free hG
    refine ⟨_, rfl, _, rfl, by show -2 ^ 62 ≤ 1 + n % 4; omega, by show 1 + n % 4 < 2 ^ 62; omega, ?_⟩
    refine for_it (n := (1 + n % 4 : Int).toNat) walk_range (fun i σ H2 => ∃ (rsI rsG : List V) (images given : List (List Int)) (y5 y6 : Option V), σ = [some (.ref a), some (.int n), some (.int (1 + n % 4)), some (.ref I), some (.ref G), y5, y6, none] ∧ Same H H2 ∧
        H2 I = some (.lst rsI) ∧ RowsAt H2 rsI images ∧ H2 G = some (.lst rsG) ∧ RowsAt H2 rsG given ∧ images.length = i ∧ given.length = i ∧ images.flatten.length ≤ 20 * i ∧ given.flatten.length ≤ 3 * i ∧ (∀ q, .ref q ∈ rsI → q ≠ I ∧ q ≠ G) ∧ (∀ q, .ref q ∈ rsG → q ≠ I ∧ q ≠ G))
      ⟨[], [], [], [], none, none, rfl, sI.trans sG, sG _ _ upd_same, trivial, upd_same, trivial, rfl, rfl, Nat.le_refl _, Nat.le_refl _, fun q h => by simp at h, fun q h => by simp at h⟩ (fun _ _ _ _ _ => trivial) ?_ ?_
    · rintro i x σ H2 H3 hi ⟨rsI, rsG, images, given, y5, y6, rfl, s2, hI2, rI, hG2, rG, li, lg, fi, fg, nI, nG⟩ ⟨rfl, rfl⟩
      refine ⟨_, rfl, a, _, rfl, .inl (sqS s2 hS), _, rfl, by rw [List.length_map]; omega, by rw [List.length_map]; omega, ?_⟩
      rw [List.length_map]
      intro D hD
      have sD := same_upd (o := .lst []) hD
      refine lc_it (n := ((ns.length : Nat) : Int).toNat) walk_range (fun j H4 => ∃ os : List Int, Same H3 H4 ∧ H4 D = some (.lst (os.map V.int)) ∧ os.length ≤ j) ⟨[], sD, upd_same, Nat.le_refl _⟩ (fun _ _ _ _ => trivial) ?_ ?_
      · rintro j x H4 H5 hj ⟨os, s4, hD4, lo⟩ ⟨rfl, rfl⟩
        obtain ⟨cv, hcv, _⟩ := atI_int (l := ns) (i := (0 : Int) + (j : Int)) (by omega) (by omega)
        refine ⟨rfl, _, rfl, _, rfl, _, _, rfl, rfl, (show (0 : Int) < 1 + n % 4 by omega), _, rfl, rfl, _, rfl, if_eq (fun _ => ?_) (fun _ => ⟨os, s4, hD4, by omega⟩)⟩
        refine ⟨_, rfl, _, rfl, a, _, _, _, rfl, rfl, sqS (s2.trans s4) hS, hcv, _, hD4, small17s (by rw [List.length_map]; omega), os ++ [cv], s4.mut hD, ?_, by rw [List.length_append]; exact Nat.succ_le_succ lo⟩
        rw [upd_same, List.map_append]
        rfl
      rintro H4 ⟨os, s4, hD4, lo⟩
      have s24 := s2.trans s4
      refine ⟨_, rfl, .inl ⟨rfl, _, sql (s4 _ _ hI2)⟩, _, rfl, _, rfl, _, rfl, _, _, rfl, rfl, _, _, rfl, fun v v0 v1 => ?_⟩
      refine ⟨D, os, v, rfl, sql hD4, by omega, fun p H5 ws s5 np hp lw => ?_⟩
      have hI5 := s5 _ _ (s4 _ _ hI2)
      have hG5 := s5 _ _ (s4 _ _ hG2)
      have npI : p ≠ I := (ne_of_none (s4 _ _ hI2) np).symm
      have npG : p ≠ G := (ne_of_none (s4 _ _ hG2) np).symm
      have lrI : rsI.length = images.length := rI.len
      have lrG : rsG.length = given.length := rG.len
      refine ⟨I, rsI, _, rfl, rfl, hI5, small17s (by omega), ?_⟩
      have s45 := s4.trans s5
      have s6 : Same H (upd H5 I (.lst (rsI ++ [.ref p]))) := (s24.trans s5).mut hI
      have hI6 : upd H5 I (.lst (rsI ++ [.ref p])) I = some (.lst (rsI ++ [.ref p])) := upd_same
      have hG6 : upd H5 I (.lst (rsI ++ [.ref p])) G = some (.lst rsG) := (upd_ne nIG.symm).trans hG5
      have bI : ∀ b o, b ≠ I → H5 b = some o → upd H5 I (.lst (rsI ++ [.ref p])) b = some o := fun b o nb h => (upd_ne nb).trans h
      have rI6 : RowsAt (upd H5 I (.lst (rsI ++ [.ref p]))) (rsI ++ [.ref p]) (images ++ [ws]) := ((rI.same s45).but bI fun q hq => (nI q hq).1).app (RowsAt.one (bI _ _ npI hp))
      have rG6 : RowsAt (upd H5 I (.lst (rsI ++ [.ref p]))) rsG given := (rG.same s45).but bI fun q hq => (nG q hq).1
      generalize upd H5 I (.lst (rsI ++ [.ref p])) = H6 at s6 hI6 hG6 rI6 rG6 ⊢
      refine ⟨_, rfl, .inl ⟨rfl, _, sql hG6⟩, _, rfl, _, rfl, _, _, rfl, rfl, _, _, rfl, fun u u0 u1 => ?_⟩
      have b3 := Int.emod_nonneg u (show (4 : Int) ≠ 0 by decide)
      have b4 := Int.emod_lt_of_pos u (show (0 : Int) < 4 by decide)
      refine ⟨_, _, rfl, rfl, (show (0 : Int) < 4 by decide), _, rfl, by show -2 ^ 62 ≤ u % 4; omega, by show u % 4 < 2 ^ 62; omega, ?_⟩
      intro D2 hD2
      refine lc_it (n := (u % 4).toNat) walk_range (fun j H7 => ∃ os : List Int, Same H6 H7 ∧ H7 D2 = some (.lst (os.map V.int)) ∧ os.length = j) ⟨[], same_upd hD2, upd_same, rfl⟩ (fun _ _ _ _ => trivial) ?_ ?_
      · rintro j x H7 H8 hj ⟨os, s7, hD7, lo⟩ ⟨rfl, rfl⟩
        refine ⟨rfl, _, rfl, _, rfl, _, _, rfl, rfl, .inl ⟨by decide, by decide⟩, _, _, rfl, rfl, _, rfl, _, _, rfl, rfl, _, _, rfl, fun z z0 z1 => ?_⟩
        refine ⟨_, _, rfl, rfl, (show (0 : Int) < 65536 by decide), _, hD7, small17s (by rw [List.length_map]; omega), os ++ [z % 65536], s7.mut hD2, ?_, by rw [List.length_append, lo]; rfl⟩
        rw [upd_same, List.map_append]
        rfl
      rintro H7 ⟨os2, s7, hD7, lo2⟩
      have hG7 := s7 _ _ hG6
      have hI7 := s7 _ _ hI6
      have nDG : D2 ≠ G := (ne_of_none hG6 hD2).symm
      have nDI : D2 ≠ I := (ne_of_none hI6 hD2).symm
      refine ⟨G, rsG, _, rfl, rfl, hG7, small17s (by omega), ?_⟩
      have bG : ∀ b o, b ≠ G → H7 b = some o → upd H7 G (.lst (rsG ++ [.ref D2])) b = some o := fun b o nb h => (upd_ne nb).trans h
      refine ⟨rsI ++ [.ref p], rsG ++ [.ref D2], images ++ [ws], given ++ [os2], _, _, rfl, (s6.trans s7).mut G0, bG _ _ nIG hI7, (rI6.same s7).but bG ?_, upd_same, ((rG6.same s7).but bG fun q hq => (nG q hq).2).app (RowsAt.one (bG _ _ nDG hD7)), ?_, ?_, ?_, ?_, ?_, ?_⟩
      · intro q hq
        rcases List.mem_append.mp hq with h | h
        · exact (nI q h).2
        · cases List.mem_singleton.mp h
          exact npG
      · rw [List.length_append, li]
        rfl
      · rw [List.length_append, lg]
        rfl
      · rw [List.flatten_append, List.length_append]
        have : [ws].flatten.length = ws.length := by simp
        omega
      · rw [List.flatten_append, List.length_append]
        have : [os2].flatten.length = os2.length := by simp
        omega
      · intro q hq
        rcases List.mem_append.mp hq with h | h
        · exact nI q h
        · cases List.mem_singleton.mp h
          exact ⟨npI, npG⟩
      · intro q hq
        rcases List.mem_append.mp hq with h | h
        · exact nG q h
        · cases List.mem_singleton.mp h
          exact ⟨nDI, nDG⟩
    · rintro σ H2 ⟨rsI, rsG, images, given, y5, y6, rfl, s2, hI2, rI, hG2, rG, li, lg, fi, fg, nI, nG⟩
      refine ⟨_, rfl, _, rfl, sz rfl, fun p hp => ?_⟩
      have sp := same_upd (o := .tup [V.ref I, V.ref G]) hp
      exact k p I G rsI rsG images given _ (s2.trans sp) upd_same (sp _ _ hI2) (rI.same sp) (sp _ _ hG2) (rG.same sp) (by omega) (by omega) (by omega) (by omega) (by omega) hI G0 nIG nI nG
end
theorem RowsAt.ins {H : Hp} {p : Addr} {w : List Int} (hp : H p = some (.lst (w.map V.int))) : ∀ (k : Nat) {rs : List V} {ws : List (List Int)}, RowsAt H rs ws → RowsAt H (rs.take k ++ [.ref p] ++ rs.drop k) (ws.take k ++ [w] ++ ws.drop k)
  | 0, rs, ws, h => ⟨hp, h⟩
  | k + 1, [], [], h => ⟨hp, trivial⟩
  | k + 1, .ref a :: rs, x :: ws, h => ⟨h.1, RowsAt.ins hp k h.2⟩
theorem ins_len {α : Type} (l : List α) (k : Nat) (a : α) : (l.take k ++ [a] ++ l.drop k).length = l.length + 1 := by
  rw [List.length_append, List.length_append, List.length_take, List.length_drop]
  show min k l.length + 1 + (l.length - k) = _
  omega
theorem ins_at {α : Type} (l : List α) (k : Nat) (a d : α) (h : k ≤ l.length) : (l.take k ++ [a] ++ l.drop k).getD k d = a := by
  rw [List.append_assoc, List.getD_eq_getElem?_getD, List.getElem?_append_right (by rw [List.length_take]; omega), List.length_take, Nat.min_eq_left h, Nat.sub_self]
  rfl
theorem ins_flat (l : List (List Int)) (k : Nat) (a : List Int) : (l.take k ++ [a] ++ l.drop k).flatten.length = l.flatten.length + a.length := by
  have e : l.flatten.length = (l.take k).flatten.length + (l.drop k).flatten.length := by
    rw [← List.length_append, ← List.flatten_append, List.take_append_drop]
  rw [List.flatten_append, List.flatten_append, List.length_append, List.length_append, e]
  have : [a].flatten.length = a.length := by simp
  omega
def sp__law_one_town (K : PySem.W.Frag) : Sp := fun vs H Q _ => ∃ (a im gw : Addr) (ns image words : List Int) (n : Int), vs = [.ref a, .int n, .ref im, .ref gw] ∧ SqL K H a (ns.map V.int) ∧ ns.length ≤ 20 ∧ n % 4 ≤ 2 ∧ 0 ≤ n ∧
  H im = some (.lst (image.map V.int)) ∧ image.length ≤ 20 ∧ H gw = some (.lst (words.map V.int)) ∧ words.length ≤ 3 ∧
  ∀ (p u o : Addr) (A : Lay) (m : Mem) (t : List Int) H', Same H H' → Good A m t → A.me < A.T → A.l A.me = (image.length : Int) → A.w0 = memOf image → A.gw = words → (foc A.me t).length ≤ 1000 →
    H' u = some (.lst ((foc A.me t).map V.int)) → H' o = some (.lst (((List.range image.length).map fun k : Nat => m (A.b A.me + (k : Int))).map V.int)) →
    H' p = some (.tup [.ref u, .str (ends3.getD (m (r A.me + 5)).toNat Str.empty), .ref o]) → Q (.ref p) H'
theorem pg_tupK {X : Cx} {K : PySem.W.Frag} {es : List Expr} {k : Nat} {t : TGs} {n : Nat} {pos : Pos} (hK : X.K = K) (hc : X.calm = true) (h : PGs X es t)
    (hn : (assignEach es X.env).length = n := by rfl) (hst : (assignEach es X.env).findIdx? (·.1) = none := by rfl) : PG X (.Tuple es k pos) (gTup K n t) := hK ▸ pg_tup hc h hn hst
section
variable {P : Program} {w : World} {K : PySem.W.Frag} {mg : Str → Option Value} {base : Heap}
theorem ok__law_one_town (T : Tx K mg) (Sr : Src K mg "_law_one_town" s__law_one_town) (D__law_images_by : Def P w K mg base "_law_images_by" 4 ["_law_cells", "_law_number"] (sp__law_images_by K)) (D__law_mixed : Def P w K mg base "_law_mixed" 1 ["_law_number", "_law_k"] (sp__law_mixed K)) (D__law_quota_by : Def P w K mg base "_law_quota_by" 1 ["_law_number"] (sp__law_quota_by K)) (D_town_run : Def P w K mg base "town_run" 8 ["images", "given", "quota", "beats"] (sp_town_run K)) (D_town : Def P w K mg base "town" 7 ["images", "given", "quota"] (sp_town K)) : Def P w K mg base "_law_one_town" 9 ["_law_cells", "_law_number", "_law_image", "_law_words"] (sp__law_one_town K) := by
  obtain ⟨f__law_images_by, fd__law_images_by, g__law_images_by, k__law_images_by, b__law_images_by, G__law_images_by⟩ := D__law_images_by.ex
  obtain ⟨f__law_mixed, fd__law_mixed, g__law_mixed, k__law_mixed, b__law_mixed, G__law_mixed⟩ := D__law_mixed.ex
  obtain ⟨f__law_quota_by, fd__law_quota_by, g__law_quota_by, k__law_quota_by, b__law_quota_by, G__law_quota_by⟩ := D__law_quota_by.ex
  obtain ⟨f_town_run, fd_town_run, g_town_run, k_town_run, b_town_run, G_town_run⟩ := D_town_run.ex
  obtain ⟨f_town, fd_town, g_town, k_town, b_town, G_town⟩ := D_town.ex
  refine Def.of Sr (fun f fd F => F.bindsN fun _ _ _ _ _ _ us hl => match us, hl with | [_, _, _, _], _ => rfl) fun f fd F => ok0 F sc__law_one_town (fun vs H Q E h => ?_) (fun cdv A outer s H vs Q E hr h => ?_)
  · obtain ⟨a, im, gw, ns, image, words, n, rfl, hS, hl, hn, hn0, him, lim, hgw, lgw, k⟩ := h
    rfl
  · have hu := hu_of hr
    have nd := sc__law_one_town.nd
    have R__law_images_by : 4 ≤ 8 := by decide
    have R__law_mixed : 1 ≤ 8 := by decide
    have R__law_quota_by : 1 ≤ 8 := by decide
    have R_town_run : 8 ≤ 8 := by decide
    have R_town : 7 ≤ 8 := by decide
    obtain ⟨a, im, gw, ns, image, words, n, rfl, hS, hl, hn, hn0, him, lim, hgw, lgw, k⟩ := h
    refine ⟨_, (pss_cons (ps_asg (pe_call G__law_images_by (hr.mono R__law_images_by) rfl g__law_images_by k__law_images_by b__law_images_by .nil pass0 (pa_cons (pv 0) (pa_cons (pv 1) pa_nil))) (pg_tup rfl (pgs_cons (pg_name (i := 4) nd rfl (Or.inl rfl)) (pgs_cons (pg_name (i := 5) nd rfl (Or.inl rfl)) pgs_nil))))
      (pss_cons (ps_set (i := 6) nd rfl (Or.inr rfl) (pe_op op_mod (pe_op op_fdiv (pv 1) pe_int) (pe_op op_add (pe_callB call_len_seq rfl T.b_len PySem.boot_len (pa_cons (pv 4) pa_nil)) pe_int)))
      (pss_cons (ps_expr (pe_bm PySem.F.plainAttrs_list PySem.F.slot_list_insert PySem.F.type_list_insert mt_insert (pv 4) (pa_cons (pv 6) (pa_cons (pv 2) pa_nil))))
      (pss_cons (ps_expr (pe_bm PySem.F.plainAttrs_list PySem.F.slot_list_insert PySem.F.type_list_insert mt_insert (pv 5) (pa_cons (pv 6) (pa_cons (pv 3) pa_nil))))
      (pss_cons (ps_set (i := 7) nd rfl (Or.inl rfl) (pe_call G__law_quota_by (hr.mono R__law_quota_by) rfl g__law_quota_by k__law_quota_by b__law_quota_by .nil pass0 (pa_cons (pe_call G__law_mixed (hr.mono R__law_mixed) rfl g__law_mixed k__law_mixed b__law_mixed .nil pass0 (pa_cons (pv 1) (pa_cons pe_int pa_nil))) pa_nil)))
      (pss_cons (ps_asg (pe_call G_town_run (hr.mono R_town_run) rfl g_town_run k_town_run b_town_run .nil pass0 (pa_cons (pv 4) (pa_cons (pv 5) (pa_cons (pv 7) (pa_cons (pe_op op_mod (pe_call G__law_mixed (hr.mono R__law_mixed) rfl g__law_mixed k__law_mixed b__law_mixed .nil pass0 (pa_cons (pv 1) (pa_cons pe_int pa_nil))) pe_int) pa_nil))))) (pg_tup rfl (pgs_cons (pg_name (i := 8) nd rfl (Or.inl rfl)) (pgs_cons (pg_name (i := 9) nd rfl (Or.inl rfl)) (pgs_cons (pg_name (i := 10) nd rfl (Or.inr rfl)) (pgs_cons (pg_name (i := 11) nd rfl (Or.inl rfl)) pgs_nil))))))
      (pss_cons (ps_asg (pe_ix ix_list (pe_ix ix_tup (pe_call G_town (hr.mono R_town) rfl g_town k_town b_town .nil pass0 (pa_cons (pv 4) (pa_cons (pv 5) (pa_cons (pv 7) pa_nil)))) pe_int (fun _ _ => rfl)) (pv 6) (fun _ _ => rfl)) (pg_tup rfl (pgs_cons (pg_name (i := 12) nd rfl (Or.inr rfl)) (pgs_cons (pg_name (i := 13) nd rfl (Or.inl rfl)) pgs_nil))))
      (pss_cons (ps_setLc (i := 14) (own := [("_law_k", 15)]) rfl nd rfl rfl (sw_true rfl rfl rfl (by decide +kernel)) (pi_range1 rfl T.b_range (pa_cons (pv 13) pa_nil)) (blkOk_by (N := N__law_one_town) (sc := defScope s__law_one_town) (by decide +kernel)) (fun _ _ _ _ _ => pg_name (i := 15) nd rfl (Or.inl rfl)) (fun _ _ _ _ _ => pts_nil) (fun _ _ _ _ _ => (pe_dget2 hu (pv 10) (pe_op op_add (pv 12) (pv 15)) pe_int ⟨rfl, rfl, rfl, rfl⟩)))
      (pss_one (ps_ret (pe_tup (pa_cons (pe_lc (own := [("_law_task", 16), ("_law_word", 17)]) rfl nd (pi_list (pv 8)) (blkOk_by (N := N__law_one_town) (sc := defScope s__law_one_town) (by decide +kernel)) (fun _ _ _ _ _ => pg_tupK (K := K) (n := 2) rfl rfl (pgs_cons (pg_name (i := 16) nd rfl (Or.inl rfl)) (pgs_cons (pg_name (i := 17) nd rfl (Or.inl rfl)) pgs_nil))) (fun _ _ _ _ _ => pts_one (pt_cmpR op_eq (pv 16) (pv 6) (nomark _))) (fun _ _ _ _ _ => (pv 17))) (pa_cons (pe_ix ix_list (pv 9) (pv 6) (fun _ _ => rfl)) (pa_cons (pv 14) pa_nil)))))))))))))), ?_⟩
    refine ⟨_, rfl, _, rfl, a, ns, n, rfl, hS, hl, hn, fun p I G rsI rsG images given H1 e1 hp hI rI hG rG li1 li3 lg fi fg nI0 nG0 nIG nI nG => ?_⟩
    refine ⟨p, _, rfl, sqt hp, rfl, _, _, rfl, _, _, rfl, rfl, ?_⟩
    have lrI : rsI.length = images.length := rI.len
    have lrG : rsG.length = given.length := rG.len
    have pos : (0 : Int) < (rsI.length : Int) + 1 := by omega
    refine ⟨_, rfl, _, _, rfl, rfl, ⟨by decide, by decide⟩, _, rfl, I, _, rfl, .inl (sql hI), _, _, rfl, rfl, _, _, rfl, rfl, pos, ?_⟩
    have c1 := Int.emod_nonneg (n / 4) (show ((rsI.length : Int) + 1) ≠ 0 by omega)
    have c2 := Int.emod_lt_of_pos (n / 4) pos
    obtain ⟨me, hme⟩ : ∃ m : Nat, n / 4 % ((rsI.length : Int) + 1) = (m : Int) := ⟨(n / 4 % ((rsI.length : Int) + 1)).toNat, by omega⟩
    have hme2 : me ≤ images.length := by omega
    refine ⟨_, rfl, .inl ⟨rfl, _, sql hI⟩, _, rfl, _, rfl, I, rsI, (me : Int), .ref im, rfl, ?_, hI, small17s (by omega), by omega, by omega, ?_⟩
    · show [V.int (n / 4 % ((rsI.length : Int) + 1)), V.ref im] = _
      rw [hme]
    rw [Int.toNat_natCast]
    have nimI : im ≠ I := ne_of_none him nI0
    have ngwI : gw ≠ I := ne_of_none hgw nI0
    have nimG : im ≠ G := ne_of_none him nG0
    have ngwG : gw ≠ G := ne_of_none hgw nG0
    have b2 : ∀ b o, b ≠ I → H1 b = some o → upd H1 I (.lst (rsI.take me ++ [.ref im] ++ rsI.drop me)) b = some o := fun b o nb h => (upd_ne nb).trans h
    have s2 : Same H (upd H1 I (.lst (rsI.take me ++ [.ref im] ++ rsI.drop me))) := e1.mut nI0
    have hI2 : upd H1 I (.lst (rsI.take me ++ [.ref im] ++ rsI.drop me)) I = some (.lst (rsI.take me ++ [.ref im] ++ rsI.drop me)) := upd_same
    have hG2 := b2 _ _ nIG.symm hG
    have rI2 := ((rI.but b2 fun q hq => (nI q hq).1).ins (s2 _ _ him) me)
    have rG2 := rG.but b2 fun q hq => (nG q hq).1
    generalize upd H1 I (.lst (rsI.take me ++ [.ref im] ++ rsI.drop me)) = H2 at s2 hI2 hG2 rI2 rG2 ⊢
    clear b2
    refine ⟨_, rfl, .inl ⟨rfl, _, sql hG2⟩, _, rfl, _, rfl, G, rsG, (me : Int), .ref gw, rfl, ?_, hG2, small17s (by omega), by omega, by omega, ?_⟩
    · show [V.int (n / 4 % ((rsI.length : Int) + 1)), V.ref gw] = _
      rw [hme]
    rw [Int.toNat_natCast]
    have b3 : ∀ b o, b ≠ G → H2 b = some o → upd H2 G (.lst (rsG.take me ++ [.ref gw] ++ rsG.drop me)) b = some o := fun b o nb h => (upd_ne nb).trans h
    have s3 : Same H (upd H2 G (.lst (rsG.take me ++ [.ref gw] ++ rsG.drop me))) := s2.mut nG0
    have hG3 : upd H2 G (.lst (rsG.take me ++ [.ref gw] ++ rsG.drop me)) G = some (.lst (rsG.take me ++ [.ref gw] ++ rsG.drop me)) := upd_same
    have hI3 := b3 _ _ nIG hI2
    have rI3 := rI2.but b3 fun q hq => by
      rcases List.mem_append.mp hq with h | h
      · rcases List.mem_append.mp h with h | h
        · exact (nI q (List.mem_of_mem_take h)).2
        · cases List.mem_singleton.mp h
          exact nimG
      · exact (nI q (List.mem_of_mem_drop h)).2
    have rG3 := ((rG2.but b3 fun q hq => (nG q hq).2).ins (s3 _ _ hgw) me)
    generalize upd H2 G (.lst (rsG.take me ++ [.ref gw] ++ rsG.drop me)) = H3 at s3 hI3 hG3 rI3 rG3 ⊢
    clear b3
    have ei : (images.take me ++ [image] ++ images.drop me).getD me [] = image := ins_at _ _ _ _ hme2
    have eg : (given.take me ++ [words] ++ given.drop me).getD me [] = words := ins_at _ _ _ _ (by omega)
    have il := ins_len images me image
    have gl := ins_len given me words
    have ifl := ins_flat images me image
    have gfl := ins_flat given me words
    generalize images.take me ++ [image] ++ images.drop me = images' at rI3 ei il ifl
    generalize given.take me ++ [words] ++ given.drop me = given' at rG3 eg gl gfl
    generalize rsI.take me ++ [.ref im] ++ rsI.drop me = rsI' at hI3 rI3
    generalize rsG.take me ++ [.ref gw] ++ rsG.drop me = rsG' at hG3 rG3
    refine ⟨_, rfl, _, _, rfl, fun v v0 v1 => ⟨v, rfl, fun q H4 e4 q1 q2 => ?_⟩⟩
    have ta : TownArgs H4 I G images' given' q := ⟨⟨rsI', e4 _ _ hI3, rI3.same e4⟩, ⟨rsG', e4 _ _ hG3, rG3.same e4⟩, by omega, by omega, by omega, q1, q2, by omega⟩
    have s4 := s3.trans e4
    have tok : TownOk given' images' me := ta.ok (by omega)
    refine ⟨_, rfl, _, rfl, _, rfl, _, rfl, _, _, rfl, fun v v0 v1 => ?_⟩
    have c3 := Int.emod_nonneg v (show (401 : Int) ≠ 0 by decide)
    have c4 := Int.emod_lt_of_pos v (show (0 : Int) < 401 by decide)
    obtain ⟨b, hb⟩ : ∃ b : Nat, v % 401 = (b : Int) := ⟨(v % 401).toNat, by omega⟩
    refine ⟨_, _, rfl, rfl, (show (0 : Int) < 401 by decide), I, G, images', given', q, b, ?_, ta, by omega, fun pt pa qs ps ae am tr H5 e5 hpt hpa hPs hpl hfoc hae ham => ?_⟩
    · show [V.ref I, V.ref G, V.int q, V.int (v % 401)] = _
      rw [hb]
    refine ⟨pt, _, rfl, sqt hpt, rfl, _, _, rfl, _, _, rfl, _, _, rfl, _, _, rfl, rfl, ?_⟩
    have good := ran_good tok b q
    have s5 := s4.trans e5
    refine ⟨_, rfl, _, rfl, _, rfl, I, G, images', given', q, rfl, ta.keep e5, fun pp dd st qs2 H6 e6 hpp hdd hst hPI => ?_⟩
    have hmi : me < images'.length := by omega
    have hsl : (stretches given' images' images'.length).length = images'.length := laid_len _ _
    have hse : (stretches given' images' images'.length)[me]? = some ((layOf given' images' me).b me, (layOf given' images' me).l me) := by
      show _ = some (((stretches given' images' images'.length).getD me (0, 0)).1, ((stretches given' images' images'.length).getD me (0, 0)).2)
      rw [List.getD_eq_getElem?_getD, List.getElem?_eq_getElem (by omega)]
      rfl
    have hll : (layOf given' images' me).l me = (image.length : Int) := by
      show ((stretches given' images' images'.length).getD me (0, 0)).2 = _
      rw [st_at me hmi]
      show ((images'[me]).length : Int) = _
      have : images'[me] = image := by
        rw [← ei, List.getD_eq_getElem?_getD, List.getElem?_eq_getElem hmi]
        rfl
      rw [this]
    obtain ⟨lp, elp, hlp⟩ := hPI.at hse
    refine ⟨pp, _, _, _, rfl, rfl, sqt hpp, rfl, _, rfl, st, _, _, _, rfl, rfl, sql hst, at_of hme elp, ?_⟩
    refine ⟨lp, _, rfl, sqt hlp, rfl, _, _, rfl, _, _, rfl, rfl, ?_⟩
    rw [hll]
    obtain ⟨kvs, hkv, hmem, hkl⟩ := ham
    have s6 := s5.trans e6
    have aMe : (layOf given' images' me).me = me := rfl
    have aT : (layOf given' images' me).T = images'.length := rfl
    have aW : (layOf given' images' me).w0 = memOf image := by show memOf (images'.getD me []) = _; rw [ei]
    have aG : (layOf given' images' me).gw = words := eg
    generalize (ranC b q given' images').2.1 = MM at good hmem hae
    generalize (ranC b q given' images').2.2 = TT at good hfoc
    clear hse elp hlp
    generalize layOf given' images' me = AA at good hll aMe aT aW aG ⊢
    generalize hbb : AA.b me = bb
    show tSeq _ _ _ [some (.ref a), some (.int n), some (.ref im), some (.ref gw), some (.ref I), some (.ref G), some (.int (n / 4 % ((rsI.length : Int) + 1))), some (.int q), some (.ref pa), some (.ref ae), some (.ref am), some (.ref tr), some (.int bb), some (.int (image.length : Int)), none, none, none, none] H6
    refine ⟨_, rfl, _, rfl, by omega, by omega, ?_⟩
    intro D hD
    have sD := same_upd (o := .lst []) hD
    refine lc_it (n := ((image.length : Nat) : Int).toNat) walk_range (fun j H7 => Same H6 H7 ∧ H7 D = some (.lst (((List.range j).map fun k : Nat => MM (bb + (k : Int))).map V.int))) ⟨sD, upd_same⟩ (fun _ _ _ _ => trivial) ?_ ?_
    · rintro j x H7 H8 hj ⟨s7, hD7⟩ ⟨rfl, rfl⟩
      have hk8 := s7 _ _ (e6 _ _ hkv)
      have e1' : bb + ((0 : Int) + (j : Int)) = bb + (j : Int) := by omega
      refine ⟨rfl, _, rfl, am, rfl, .inl ⟨kvs, .inl hk8⟩, _, rfl, _, rfl, _, _, rfl, rfl, _, DGet.k (k := Sum.inl (bb + ((0 : Int) + (j : Int)))) hk8, _, hD7, small17s (by rw [List.length_map, List.length_map, List.length_range]; omega), s7.mut hD, ?_⟩
      rw [upd_same, hmem.look, e1', List.range_succ, List.map_append, List.map_append]
      rfl
    rintro H7 ⟨s7, hD7⟩
    have s57 := e6.trans s7
    refine ⟨_, rfl, pa, rfl, ⟨_, sql (s57 _ _ hpa)⟩, ?_⟩
    intro D2 hD2
    have sD2 := same_upd (o := .lst []) hD2
    have hPs7 := hPs.same s57
    have lqs : qs.length = ps.length := hPs.len
    refine lc_it walk_list (fun j H8 => Same H7 H8 ∧ H8 D2 = some (.lst ((((ps.take j).filter fun q => decide (q.1 = (me : Int))).map (·.2)).map V.int))) ⟨sD2, upd_same⟩ (fun j H8 _ h => sql (h.1 _ _ (s57 _ _ hpa))) ?_ ?_
    · rintro j x H8 H9 hj ⟨s8, hD8⟩ ⟨rfl, ex⟩
      obtain ⟨px, ta', wa, rfl, epx, hpx⟩ := (hPs7.same s8).get ex
      have few : ((((ps.take j).filter fun q => decide (q.1 = (me : Int))).map (·.2)).map V.int).length < sizeLine := by
        rw [List.length_map, List.length_map]
        refine small17s (Nat.le_trans (List.length_filter_le _ _) ?_)
        rw [List.length_take]
        omega
      refine ⟨px, _, rfl, sqt hpx, rfl, _, _, rfl, _, _, rfl, rfl, rfl, _, rfl, _, rfl, rfl, _, rfl, if_eq (fun e => ?_) (fun e => ?_)⟩
      · have e : ta' = (me : Int) := e.trans hme
        refine ⟨_, rfl, _, hD8, few, s8.mut hD2, ?_⟩
        rw [upd_same, take_snoc2 epx, List.filter_append, List.filter_cons, if_pos (decide_eq_true e), List.map_append, List.map_append]
        rfl
      · have e : ta' ≠ (me : Int) := fun z => e (z.trans hme.symm)
        refine ⟨s8, ?_⟩
        rw [hD8, take_snoc2 epx, List.filter_append, List.filter_cons, if_neg (by rw [decide_eq_true_eq]; exact e), List.filter_nil, List.append_nil]
    rintro H8 ⟨s8, hD8⟩
    rw [lqs, List.take_length, hfoc me] at hD8
    have s68 := s7.trans s8
    have hae8 := s8 _ _ (s57 _ _ hae)
    have hget : ((List.range images'.length).map fun j => V.str (ends3.getD (MM (r j + 5)).toNat Str.empty))[me]? = some (V.str (ends3.getD (MM (r me + 5)).toNat Str.empty)) := by
      rw [List.getElem?_map, List.getElem?_range hmi]
      rfl
    refine ⟨_, rfl, _, rfl, ae, _, _, _, rfl, rfl, sql hae8, at_of hme hget, _, rfl, sz rfl, fun p2 hp2 => ?_⟩
    have sP := same_upd (o := .tup [V.ref D2, V.str (ends3.getD (MM (r me + 5)).toNat Str.empty), V.ref D]) hp2
    have lfoc : (foc me TT).length ≤ 1000 := by
      rw [← hfoc me, List.length_map]
      exact Nat.le_trans (List.length_filter_le _ _) hpl
    subst aMe hbb
    exact k p2 D2 D AA MM TT _ ((s6.trans s68).trans sP) good (by rw [aT]; exact hmi) hll aW aG lfoc (sP _ _ hD8) (sP _ _ (s8 _ _ hD7)) upd_same
end
end G3
set_option Elab.async false
set_option linter.all false
set_option maxRecDepth 100000
set_option maxHeartbeats 1000000
namespace G3
open PySem PySem.Spec PyProof.Rows L2
local macro_rules | `(tactic| walk_at "hp") => `(tactic| first | assumption | exact upd_same | (refine same_upd (by assumption) _ _ ?_; walk_at "hp") | (refine (‹Same _ _›) _ _ ?_; walk_at "hp"))
local macro_rules | `(tactic| walk_at "sm") => `(tactic| first | exact Same.refl _ | assumption | (refine Same.trans ?_ (same_upd (by assumption)); walk_at "sm") | (refine Same.trans ?_ (by assumption); walk_at "sm"))
def sp_law (K : PySem.W.Frag) : Sp := fun vs H Q _ => ∃ (a : Addr) (ns : List Int), vs = [.ref a] ∧ SqL K H a (ns.map V.int) ∧ ∀ H', Q (.bl true) H'
def cutI (ns : List Int) (lo hi : Option Int) : List Int := (ns.drop (HT.sIx ns.length 0 lo)).take (HT.sIx ns.length ns.length hi - HT.sIx ns.length 0 lo)
theorem cut_map (ns : List Int) (lo hi : Option Int) : cutV (ns.map V.int) lo hi = (cutI ns lo hi).map V.int := by
  unfold cutV cutI
  rw [List.length_map, List.map_take, List.map_drop]
theorem cut20 (ns : List Int) (k : Nat) : (cutI ns (some (k : Int)) (some ((k + 20 : Nat) : Int))).length ≤ 20 := by
  unfold cutI
  rw [List.length_take, HT.sIx_nat, HT.sIx_nat]
  omega
theorem Dp_ints {K : PySem.W.Frag} {H : Hp} {a : Addr} {ns : List Int} (h : SqL K H a (ns.map V.int)) : Dp K H (.ref a) (.list (ns.map PyData.int)) := by
  refine .lst h ?_
  clear h
  induction ns with
  | nil => exact .nil
  | cons n ns ih => exact .cons (.int n) ih
theorem cut_take (ns : List Int) (k : Nat) : cutI ns none (some (k : Int)) = ns.take k := by
  unfold cutI
  rw [HT.sIx_none, HT.sIx_nat, List.drop_zero, Nat.sub_zero]
  by_cases h : k ≤ ns.length
  · rw [Nat.min_eq_left h]
  · rw [List.take_of_length_le (by omega), List.take_of_length_le (by omega)]
theorem shaped_tup (F O : List Int) {s : Str} (hs : PyData.strOk s = true) : SeqAt.shaped (.tuple [.list (F.map PyData.int), .str s, .list (O.map PyData.int)]) = true := by
  simp [SeqAt.shaped, PyData.canLay0, PyData.canLayAll0, PyData.depth, PyData.depthAll, PySem.W.ke_canLayAll0, PySem.W.ke_depthAll, hs]
theorem ends_ok {w : Int} (h : w = 0 ∨ w = 1 ∨ w = 2) : PyData.strOk (ends3.getD w.toNat Str.empty) = true := by
  rcases h with rfl | rfl | rfl
  · decide +kernel
  · decide +kernel
  · decide +kernel
section
variable {P : Program} {w : World} {K : PySem.W.Frag} {mg : Str → Option Value} {base : Heap}
theorem ok_law (T : Tx K mg) {f : Addr} {fd : FuncData} (F : FunD K "law" "law" (defArgs s_law) (defBody s_law) (defScope s_law) [] [] f fd) (D__law_cell_at : Def P w K mg base "_law_cell_at" 1 ["_law_script", "_law_k"] (sp__law_cell_at K)) (D__law_mixed : Def P w K mg base "_law_mixed" 1 ["_law_number", "_law_k"] (sp__law_mixed K)) (D__law_image_by : Def P w K mg base "_law_image_by" 3 ["_law_cells", "_law_number"] (sp__law_image_by K)) (D__law_one_town : Def P w K mg base "_law_one_town" 9 ["_law_cells", "_law_number", "_law_image", "_law_words"] (sp__law_one_town K)) : FnOk P w K mg base CX0 10 f fd ["_law_script"] (sp_law K) := by
  obtain ⟨f__law_cell_at, fd__law_cell_at, g__law_cell_at, k__law_cell_at, b__law_cell_at, G__law_cell_at⟩ := D__law_cell_at.ex
  obtain ⟨f__law_mixed, fd__law_mixed, g__law_mixed, k__law_mixed, b__law_mixed, G__law_mixed⟩ := D__law_mixed.ex
  obtain ⟨f__law_image_by, fd__law_image_by, g__law_image_by, k__law_image_by, b__law_image_by, G__law_image_by⟩ := D__law_image_by.ex
  obtain ⟨f__law_one_town, fd__law_one_town, g__law_one_town, k__law_one_town, b__law_one_town, G__law_one_town⟩ := D__law_one_town.ex
  refine ok0 F sc_law (fun vs H Q E h => ?_) (fun cdv A outer s H vs Q E hr h => ?_)
  · obtain ⟨a, ns, rfl, hS, k⟩ := h
    rfl
  · have hu := hu_of hr
    have nd := sc_law.nd
    have R__law_cell_at : 1 ≤ 9 := by decide
    have R__law_mixed : 1 ≤ 9 := by decide
    have R__law_image_by : 3 ≤ 9 := by decide
    have R__law_one_town : 9 ≤ 9 := by decide
    obtain ⟨a, ns, rfl, hS, k⟩ := h
    refine ⟨_, (pss_cons (ps_set (i := 1) nd rfl (Or.inr rfl) (pe_call G__law_mixed (hr.mono R__law_mixed) rfl g__law_mixed k__law_mixed b__law_mixed .nil pass0 (pa_cons (pe_call G__law_cell_at (hr.mono R__law_cell_at) rfl g__law_cell_at k__law_cell_at b__law_cell_at .nil pass0 (pa_cons (pv 0) (pa_cons pe_int pa_nil))) (pa_cons pe_int pa_nil))))
      (pss_cons (ps_set (i := 2) nd rfl (Or.inl rfl) (pe_call G__law_image_by (hr.mono R__law_image_by) rfl g__law_image_by k__law_image_by b__law_image_by .nil pass0 (pa_cons (pe_slice sl_list (pv 0) (po_some pe_int) (po_some pe_int)) (pa_cons (pe_call G__law_mixed (hr.mono R__law_mixed) rfl g__law_mixed k__law_mixed b__law_mixed .nil pass0 (pa_cons (pv 1) (pa_cons pe_int pa_nil))) pa_nil))))
      (pss_cons (ps_setLc (i := 3) (own := [("_law_k", 8)]) rfl nd rfl rfl (sw_true rfl rfl rfl (by decide +kernel)) (pi_range1 rfl T.b_range (pa_cons (pe_op op_mod (pv 1) pe_int) pa_nil)) (blkOk_by (N := N_law) (sc := defScope s_law) (by decide +kernel)) (fun _ _ _ _ _ => pg_name (i := 8) nd rfl (Or.inl rfl)) (fun _ _ _ _ _ => pts_nil) (fun _ _ _ _ _ => (pe_op op_mod (pe_call G__law_mixed (hr.mono R__law_mixed) rfl g__law_mixed k__law_mixed b__law_mixed .nil pass0 (pa_cons (pv 1) (pa_cons (pe_op op_add pe_int (pv 8)) pa_nil))) pe_int)))
      (pss_cons (ps_set (i := 4) nd rfl (Or.inl rfl) (pe_call G__law_one_town (hr.mono R__law_one_town) rfl g__law_one_town k__law_one_town b__law_one_town .nil pass0 (pa_cons (pe_slice sl_list (pv 0) (po_some pe_int) (po_some pe_int)) (pa_cons (pe_op op_add (pe_op op_mul (pe_op op_fdiv (pe_call G__law_mixed (hr.mono R__law_mixed) rfl g__law_mixed k__law_mixed b__law_mixed .nil pass0 (pa_cons (pe_call G__law_cell_at (hr.mono R__law_cell_at) rfl g__law_cell_at k__law_cell_at b__law_cell_at .nil pass0 (pa_cons (pv 0) (pa_cons pe_int pa_nil))) (pa_cons pe_int pa_nil))) pe_int) pe_int) (pe_op op_mod (pv 1) pe_int)) (pa_cons (pv 2) (pa_cons (pv 3) pa_nil))))))
      (pss_cons (ps_set (i := 5) nd rfl (Or.inl rfl) (pe_op op_add (pe_op op_mul (pe_op op_fdiv (pe_call G__law_mixed (hr.mono R__law_mixed) rfl g__law_mixed k__law_mixed b__law_mixed .nil pass0 (pa_cons (pe_call G__law_cell_at (hr.mono R__law_cell_at) rfl g__law_cell_at k__law_cell_at b__law_cell_at .nil pass0 (pa_cons (pv 0) (pa_cons pe_int pa_nil))) (pa_cons pe_int pa_nil))) pe_int) pe_int) (pe_op op_mod (pe_op op_fdiv (pv 1) pe_int) pe_int)))
      (pss_cons (ps_set (i := 6) nd rfl (Or.inl rfl) (pe_call G__law_one_town (hr.mono R__law_one_town) rfl g__law_one_town k__law_one_town b__law_one_town .nil pass0 (pa_cons (pe_slice sl_list (pv 0) (po_some pe_int) (po_some pe_int)) (pa_cons (pv 5) (pa_cons (pv 2) (pa_cons (pv 3) pa_nil))))))
      (pss_cons (ps_set (i := 7) nd rfl (Or.inl rfl) (pe_callB (call_min2 rfl) rfl T.b_min (by decide +kernel) (pa_cons (pe_callB call_len_seq rfl T.b_len PySem.boot_len (pa_cons (pe_ix ix_tup (pv 4) pe_int (fun _ _ => rfl)) pa_nil)) (pa_cons (pe_callB call_len_seq rfl T.b_len PySem.boot_len (pa_cons (pe_ix ix_tup (pv 6) pe_int (fun _ _ => rfl)) pa_nil)) pa_nil))))
      (pss_cons (ps_if (pt_cmpR (op_neD hr.units) (pe_slice sl_list (pe_ix ix_tup (pv 4) pe_int (fun _ _ => rfl)) po_none (po_some (pv 7))) (pe_slice sl_list (pe_ix ix_tup (pv 6) pe_int (fun _ _ => rfl)) po_none (po_some (pv 7))) (nomark _)) (pss_one (ps_ret pe_bl)) pss_nil)
      (pss_cons (ps_if (PW.pt (pw_and (pt_cmpR op_ne (pe_ix ix_tup (pv 4) pe_int (fun _ _ => rfl)) pe_str (nomark _)) (pw_and1 (pt_cmpR op_ne (pe_ix ix_tup (pv 6) pe_int (fun _ _ => rfl)) pe_str (nomark _))))) (pss_one (ps_ret (pe_cmpR (op_eqD hr.units) (pv 4) (pv 6) (nomark _)))) pss_nil)
      (pss_one (ps_ret pe_bl))))))))))), ?_⟩
    refine ⟨_, rfl, a, ns, 0, rfl, hS, fun v => ⟨_, _, rfl, fun num n0 n1 => ?_⟩⟩
    refine ⟨_, rfl, _, rfl, _, rfl, a, _, rfl, hS, fun l1 hl1 => ?_⟩
    have s1 := same_upd (o := .lst (cutV (ns.map V.int) (some 3) (some 23))) hl1
    have hc1 : upd H l1 (.lst (cutV (ns.map V.int) (some 3) (some 23))) l1 = some (.lst ((cutI ns (some 3) (some 23)).map V.int)) := by rw [upd_same, cut_map]
    have lc1 : (cutI ns (some 3) (some 23)).length ≤ 20 := cut20 ns 3
    generalize upd H l1 (.lst (cutV (ns.map V.int) (some 3) (some 23))) = H1 at s1 hc1 ⊢
    refine ⟨_, rfl, _, _, rfl, fun v2 _ _ => ?_⟩
    refine ⟨l1, _, v2, rfl, sql hc1, by omega, fun im H2 image e2 nim him lim => ?_⟩
    have s2 := s1.trans e2
    -- the words
    have c0 := Int.emod_nonneg num (show (4 : Int) ≠ 0 by decide)
    have c1 := Int.emod_lt_of_pos num (show (0 : Int) < 4 by decide)
    refine ⟨_, rfl, _, _, rfl, rfl, (show (0 : Int) < 4 by decide), _, rfl, by show -2 ^ 62 ≤ num % 4; omega, by show num % 4 < 2 ^ 62; omega, ?_⟩
    intro D hD
    refine lc_it (n := (num % 4).toNat) walk_range (fun j H7 => ∃ os : List Int, Same H2 H7 ∧ H7 D = some (.lst (os.map V.int)) ∧ os.length = j) ⟨[], same_upd hD, upd_same, rfl⟩ (fun _ _ _ _ => trivial) ?_ ?_
    · rintro j x H7 H8 hj ⟨os, s7, hD7, lo⟩ ⟨rfl, rfl⟩
      refine ⟨rfl, _, rfl, _, rfl, _, _, rfl, rfl, _, _, rfl, fun z z0 z1 => ?_⟩
      refine ⟨_, _, rfl, rfl, (show (0 : Int) < 65536 by decide), _, hD7, small17s (by rw [List.length_map]; omega), os ++ [z % 65536], s7.mut hD, ?_, by rw [List.length_append, lo]; rfl⟩
      rw [upd_same, List.map_append]
      rfl
    rintro H3 ⟨words, e3, hD3, lwd⟩
    have s3 := s2.trans e3
    -- the first town
    refine ⟨_, rfl, _, rfl, _, rfl, a, _, rfl, sqS s3 hS, fun l2 hl2 => ?_⟩
    have s4' := same_upd (o := .lst (cutV (ns.map V.int) (some 23) (some 43))) hl2
    have hc2 : upd H3 l2 (.lst (cutV (ns.map V.int) (some 23) (some 43))) l2 = some (.lst ((cutI ns (some 23) (some 43)).map V.int)) := by rw [upd_same, cut_map]
    have lc2 : (cutI ns (some 23) (some 43)).length ≤ 20 := cut20 ns 23
    generalize upd H3 l2 (.lst (cutV (ns.map V.int) (some 23) (some 43))) = H4 at s4' hc2 ⊢
    have s4 := s3.trans s4'
    have e24 := e3.trans s4'
    have d0 := Int.emod_nonneg num (show (3 : Int) ≠ 0 by decide)
    have d1 := Int.emod_lt_of_pos num (show (0 : Int) < 3 by decide)
    refine ⟨_, rfl, a, ns, 1, rfl, sqS s4 hS, fun v3 => ⟨_, _, rfl, fun w3 w30 w31 => ?_⟩⟩
    refine ⟨_, _, rfl, rfl, ⟨by decide, by decide⟩, _, _, rfl, rfl, .inr ⟨by decide, by decide⟩, _, rfl, _, _, rfl, rfl, (show (0 : Int) < 3 by decide), _, _, rfl, rfl, _, rfl, _, rfl, ?_⟩
    refine ⟨l2, im, D, _, image, words, w3 / 4 * 4 + num % 3, rfl, sql hc2, lc2, by omega, by omega, e24 _ _ him, by omega, s4' _ _ hD3, by omega, fun p1 u1 o1 A1 m1 t1 H5 e5 good1 me1 ll1 aw1 ag1 lf1 hu1 ho1 hp1 => ?_⟩
    have s5 := s4.trans e5
    -- further
    have f0 := Int.emod_nonneg (num / 3) (show (3 : Int) ≠ 0 by decide)
    have f1 := Int.emod_lt_of_pos (num / 3) (show (0 : Int) < 3 by decide)
    refine ⟨_, rfl, a, ns, 2, rfl, sqS s5 hS, fun v5 => ⟨_, _, rfl, fun w5 w50 w51 => ?_⟩⟩
    refine ⟨_, _, rfl, rfl, ⟨by decide, by decide⟩, _, _, rfl, rfl, .inr ⟨by decide, by decide⟩, _, rfl, _, _, rfl, rfl, ⟨by decide, by decide⟩, _, _, rfl, rfl, (show (0 : Int) < 3 by decide), _, _, rfl, rfl, ?_⟩
    -- the other town
    refine ⟨_, rfl, _, rfl, _, rfl, a, _, rfl, sqS s5 hS, fun l3 hl3 => ?_⟩
    have s6' := same_upd (o := .lst (cutV (ns.map V.int) (some 43) (some 63))) hl3
    have hc3 : upd H5 l3 (.lst (cutV (ns.map V.int) (some 43) (some 63))) l3 = some (.lst ((cutI ns (some 43) (some 63)).map V.int)) := by rw [upd_same, cut_map]
    have lc3 : (cutI ns (some 43) (some 63)).length ≤ 20 := cut20 ns 43
    generalize upd H5 l3 (.lst (cutV (ns.map V.int) (some 43) (some 63))) = H6 at s6' hc3 ⊢
    have e56 := e5.trans s6'
    refine ⟨_, rfl, _, rfl, _, rfl, ?_⟩
    refine ⟨l3, im, D, _, image, words, w5 / 4 * 4 + num / 3 % 3, rfl, sql hc3, lc3, by omega, by omega, e56 _ _ (e24 _ _ him), by omega, e56 _ _ (s4' _ _ hD3), by omega, fun p2 u2 o2 A2 m2 t2 H7 e7 good2 me2 ll2 aw2 ag2 lf2 hu2 ho2 hp2 => ?_⟩
    have e57 := s6'.trans e7
    have hu1 := e57 _ _ hu1
    have ho1 := e57 _ _ ho1
    have hp1 := e57 _ _ hp1
    obtain ⟨ag, bg⟩ := agree (ll1.trans ll2.symm) (aw1.trans aw2.symm) (ag1.trans ag2.symm) good1 good2
    have h1 := good1.1 A1.me me1
    have h2 := good2.1 A2.me me2
    have hOwn : m1 (r A1.me + 5) ≠ 1 → m2 (r A2.me + 5) ≠ 1 → ((List.range image.length).map fun k : Nat => m1 (A1.b A1.me + (k : Int))) = ((List.range image.length).map fun k : Nat => m2 (A2.b A2.me + (k : Int))) := by
      intro x1 x2
      have hb := (bg x1 x2).2.2
      refine List.map_congr_left fun k hk => ?_
      have := List.mem_range.mp hk
      exact hb k (by omega) (by rw [ll1]; omega)
    have bg2 : m1 (r A1.me + 5) ≠ 1 → m2 (r A2.me + 5) ≠ 1 → foc A1.me t1 = foc A2.me t2 ∧ m1 (r A1.me + 5) = m2 (r A2.me + 5) := fun x1 x2 => ⟨(bg x1 x2).1, (bg x1 x2).2.1⟩
    clear bg good1 good2
    generalize ((List.range image.length).map fun k : Nat => m1 (A1.b A1.me + (k : Int))) = O1 at hOwn ho1
    generalize ((List.range image.length).map fun k : Nat => m2 (A2.b A2.me + (k : Int))) = O2 at hOwn ho2
    generalize m1 (r A1.me + 5) = w1 at h1 hOwn bg2 hp1
    generalize m2 (r A2.me + 5) = w2 at h2 hOwn bg2 hp2
    generalize foc A1.me t1 = F1 at bg2 hu1 ag lf1
    generalize foc A2.me t2 = F2 at bg2 hu2 ag lf2
    have str1 := ends_ok h1
    have str2 := ends_ok h2
    show tSeq _ _ _ [some (.ref a), some (.int num), some (.ref im), some (.ref D), some (.ref p1), some (.int (w5 / 4 * 4 + num / 3 % 3)), some (.ref p2), none, none] H7
    refine ⟨_, rfl, p1, _, _, _, rfl, rfl, sqt hp1, rfl, u1, _, rfl, .inl (sql hu1), ?_⟩
    refine ⟨_, rfl, p2, _, _, _, rfl, rfl, sqt hp2, rfl, u2, _, rfl, .inl (sql hu2), _, _, rfl, ?_⟩
    have hmin : (if (((F2.map V.int).length : Nat) : Int) < (((F1.map V.int).length : Nat) : Int) then (((F2.map V.int).length : Nat) : Int) else (((F1.map V.int).length : Nat) : Int)) = ((min F1.length F2.length : Nat) : Int) := by
      rw [List.length_map, List.length_map]
      split <;> omega
    rw [hmin]
    refine ⟨_, rfl, p1, _, _, _, rfl, rfl, sqt hp1, rfl, _, rfl, _, rfl, u1, _, rfl, sql hu1, fun l5 hl5 => ?_⟩
    have s8 := same_upd (o := .lst (cutV (F1.map V.int) none (some ((min F1.length F2.length : Nat) : Int)))) hl5
    have hl5' : upd H7 l5 (.lst (cutV (F1.map V.int) none (some ((min F1.length F2.length : Nat) : Int)))) l5 = some (.lst ((F1.take (min F1.length F2.length)).map V.int)) := by rw [upd_same, cut_map, cut_take]
    generalize upd H7 l5 (.lst (cutV (F1.map V.int) none (some ((min F1.length F2.length : Nat) : Int)))) = H8 at s8 hl5' ⊢
    refine ⟨_, rfl, p2, _, _, _, rfl, rfl, sqt (s8 _ _ hp2), rfl, _, rfl, _, rfl, u2, _, rfl, sql (s8 _ _ hu2), fun l6 hl6 => ?_⟩
    have s9 := same_upd (o := .lst (cutV (F2.map V.int) none (some ((min F1.length F2.length : Nat) : Int)))) hl6
    have hl6' : upd H8 l6 (.lst (cutV (F2.map V.int) none (some ((min F1.length F2.length : Nat) : Int)))) l6 = some (.lst ((F2.take (min F1.length F2.length)).map V.int)) := by rw [upd_same, cut_map, cut_take]
    generalize upd H8 l6 (.lst (cutV (F2.map V.int) none (some ((min F1.length F2.length : Nat) : Int)))) = H9 at s9 hl6' ⊢
    have hl5 := s9 _ _ hl5'
    rw [← ag] at hl6'
    refine ⟨_, _, Dp_ints (sql hl5), Dp_ints (sql hl6'), PySem.W.ke_shaped_ints _, PySem.W.ke_shaped_ints _, ?_⟩
    rw [SeqAt.eqv_refl _ (SeqAt.canLay_of_shaped (PySem.W.ke_shaped_ints _))]
    refine ⟨_, rfl, iteF ?_⟩
    have s79 := s8.trans s9
    have hp1 := s79 _ _ hp1
    have hp2 := s79 _ _ hp2
    refine ⟨_, rfl, p1, _, _, _, rfl, rfl, sqt hp1, rfl, rfl, _, rfl, if_sne (fun x1 => ?_) (fun _ => iteF (k _))⟩
    refine ⟨_, rfl, p2, _, _, _, rfl, rfl, sqt hp2, rfl, rfl, _, rfl, if_sne (fun x2 => ?_) (fun _ => k _)⟩
    have y1 : w1 ≠ 1 := fun z => x1 (by rw [z]; rfl)
    have y2 : w2 ≠ 1 := fun z => x2 (by rw [z]; rfl)
    obtain ⟨eF, eW⟩ := bg2 y1 y2
    have eO := hOwn y1 y2
    subst eF eW eO
    have D1 : Dp K H9 (.ref p1) (.tuple [.list (F1.map PyData.int), .str (ends3.getD w1.toNat Str.empty), .list (O1.map PyData.int)]) :=
      .tup (sqt hp1) (.cons (Dp_ints (sql (s79 _ _ hu1))) (.cons (.str _) (.cons (Dp_ints (sql (s79 _ _ ho1))) .nil)))
    have D2 : Dp K H9 (.ref p2) (.tuple [.list (F1.map PyData.int), .str (ends3.getD w1.toNat Str.empty), .list (O1.map PyData.int)]) :=
      .tup (sqt hp2) (.cons (Dp_ints (sql (s79 _ _ hu2))) (.cons (.str _) (.cons (Dp_ints (sql (s79 _ _ ho2))) .nil)))
    have sh := shaped_tup F1 O1 str1
    refine ⟨_, rfl, _, rfl, _, _, D1, D2, sh, sh, ?_⟩
    rw [SeqAt.eqv_refl _ (SeqAt.canLay_of_shaped sh)]
    exact k _
end
end G3
set_option Elab.async false
set_option linter.all false
set_option maxRecDepth 100000
set_option maxHeartbeats 4000000
namespace G3
open PySem PySem.W
/-! ### the look at the law: the long text's part by hand -/
theorem road_list (x : Str) : roadStr x = ((x.cps.toList.any fun c => c == 123 || c == 125) || ((x.cps.toList.any (· == 46)) && !x.cps.toList.any (· ≤ 32))) := by
  unfold roadStr
  rw [← Array.any_toList, ← Array.any_toList, ← Array.any_toList]
theorem rowsX_road : roadStr rowsX = false := by
  rw [road_list]
  decide +kernel
def lkA : Look := { strict := false, foot := none, bare := [] }
theorem rowsX_str : lkA.str rowsX = true := by
  unfold Look.str
  rw [rowsX_road]
  decide +kernel
def body1 : List Stmt := P1.main.body
def isLong : Stmt → Bool
  | .Assign [.Name n _] (.Constant (.str _) _ _) _ => lkA.name n
  | _ => false
theorem long_ok {x : Str} (hx : lkA.str x = true) : ∀ s : Stmt, isLong s = true → noRoadLS lkA (strPut x s) = true := by
  intro s h
  unfold isLong at h
  split at h
  · rename_i n p y k q1 q2
    show (lkA.stores [.Name n p] && noRoadLs lkA [.Name n p] && noRoadL lkA (.Constant (.str x) k q1)) = true
    have e1 : lkA.stores [.Name n p] = true := rfl
    have e2 : noRoadLs lkA [.Name n p] = true := by
      show (lkA.name n && true) = true
      rw [h]
      rfl
    have e3 : noRoadL lkA (.Constant (.str x) k q1) = true := hx
    rw [e1, e2, e3]
    rfl
  · cases h
theorem noRoad_app (lk : Look) : ∀ a b : List Stmt, noRoadLSs lk (a ++ b) = (noRoadLSs lk a && noRoadLSs lk b)
  | [], b => rfl
  | s :: a, b => by
    show (noRoadLS lk s && noRoadLSs lk (a ++ b)) = ((noRoadLS lk s && noRoadLSs lk a) && noRoadLSs lk b)
    rw [noRoad_app lk a b, Bool.and_assoc]
theorem body_cut : P1.main.body = P0.main.body.take 11 ++ (strPut rowsX (top0 11) :: P0.main.body.drop 12) := by
  have h : ∀ (l : List Stmt) (i : Nat) (x : Stmt), i < l.length → l.set i x = l.take i ++ (x :: l.drop (i + 1)) := by
    intro l
    induction l with
    | nil => intro i x h; exact absurd h (Nat.not_lt_zero _)
    | cons a l ih =>
      intro i x h
      cases i with
      | zero => rfl
      | succ i =>
        show a :: l.set i x = a :: (l.take i ++ (x :: l.drop (i + 1)))
        rw [ih i x (Nat.lt_of_succ_lt_succ h)]
  exact h _ 11 _ (by decide +kernel)
theorem r1 : noRoadLSs lkA (P0.main.body.take 11) = true := by decide +kernel
theorem r2 : noRoadLSs lkA (P0.main.body.drop 12) = true := by decide +kernel
theorem noRoad1 : noRoadLSs lkA P1.main.body = true := by
  rw [body_cut, noRoad_app, r1]
  show (true && (noRoadLS lkA (strPut rowsX (top0 11)) && noRoadLSs lkA (P0.main.body.drop 12))) = true
  rw [long_ok rowsX_str _ (by decide +kernel), r2]
  rfl
theorem ro (n : Str) (h : readsOut P1 P1.main.body n = false) : readsOut P1 P1.main.body n = false := h
theorem lk_eq : ({ strict := !(importedModules P1.main.body).all cThrough.contains, foot := none, bare := (["vars", "dir", "locals"] : List Str).filter (readsOut P1 P1.main.body) } : Look) = lkA := by
  have e1 : (!(importedModules P1.main.body).all cThrough.contains) = false := by decide +kernel
  have e2 : (["vars", "dir", "locals"] : List Str).filter (readsOut P1 P1.main.body) = [] := by decide +kernel
  rw [e1, e2]
  rfl
theorem noRoad2 : noRoadLSs { strict := !(importedModules P1.main.body).all cThrough.contains, foot := none, bare := (["vars", "dir", "locals"] : List Str).filter (readsOut P1 P1.main.body) } P1.main.body = true := by
  rw [lk_eq]
  exact noRoad1
theorem noRoad3 : noRoadLSs { strict := !(importedModules rw1.row.prog.main.body).all cThrough.contains, foot := none, bare := (["vars", "dir", "locals"] : List Str).filter (readsOut rw1.row.prog rw1.row.prog.main.body) } rw1.row.prog.main.body = true := noRoad2
theorem said1 : rw1.wellSaid = true := by
  unfold OpenLaw.wellSaid OpenRow.wellSaid OpenRow.partSaid looksOpen
  repeat' (with_reducible apply look_both)
  all_goals first | (with_reducible exact noRoad3) | decide +kernel
end G3
set_option Elab.async false
set_option linter.all false
set_option maxRecDepth 100000
namespace G3
open PySem PySem.Spec PyProof.Rows L2
/-! ### what the head has written, gathered level by level -/
def refsG (g : Addr → Option Obj) (a : Addr) : List Addr := match g a with
  | some o => He.refsD o
  | none => []
def forceL {β : Type} : List Addr → (List Addr → β) → β
  | [], k => k []
  | a :: as, k => forceL as fun r => k (a :: r)
theorem forceL_eq {β : Type} : ∀ (l : List Addr) (k : List Addr → β), forceL l k = k l
  | [], k => rfl
  | a :: l, k => forceL_eq l fun r => k (a :: r)
def forceK {β : Type} (g : Addr → Option Obj) : List Addr → (PySem.W.Frag → β) → β
  | [], k => k []
  | a :: as, k => match g a with
    | some o => forceK g as fun r => k ((a, o) :: r)
    | none => forceK g as k
theorem forceK_eq {β : Type} (g : Addr → Option Obj) : ∀ (l : List Addr) (k : PySem.W.Frag → β), forceK g l k = k (He.frG g l)
  | [], k => rfl
  | a :: l, k => by
    unfold forceK He.frG
    rw [List.filterMap_cons]
    cases e : g a with
    | none => exact forceK_eq g l k
    | some o => exact forceK_eq g l fun r => k ((a, o) :: r)
def withK {β : Type} (g : Addr → Option Obj) (k : PySem.W.Frag → β) : β :=
  forceL (refsG g mainGlobals) fun l1 => forceL (l1.flatMap (refsG g)) fun l2 => forceL (l2.flatMap (refsG g)) fun l3 => forceL (l3.flatMap (refsG g)) fun l4 =>
    forceK g (mainGlobals :: (l1 ++ (l2 ++ (l3 ++ l4)))) k
def lev (g : Addr → Option Obj) : List Addr :=
  mainGlobals :: (refsG g mainGlobals ++ ((refsG g mainGlobals).flatMap (refsG g) ++ (((refsG g mainGlobals).flatMap (refsG g)).flatMap (refsG g) ++ (((refsG g mainGlobals).flatMap (refsG g)).flatMap (refsG g)).flatMap (refsG g))))
theorem withK_eq {β : Type} (g : Addr → Option Obj) (k : PySem.W.Frag → β) : withK g k = k (He.frG g (lev g)) := by
  unfold withK
  rw [forceL_eq, forceL_eq, forceL_eq, forceL_eq, forceK_eq]
  rfl
abbrev R : PySem.W.OpenRow := PySem.W.OpenLaw.row rw1
noncomputable def X0 (w : World) (os : OsState) : Option PySem.W.SharedT := HandSHeadRun.endF (HandSHeadRun.stepQ (HandSHeadRun.denQ HandSHeadRun.tabQ) R.prog w) 4000 R.prog w os
abbrev KK (s : PySem.W.SharedT) : PySem.W.Frag := He.frG (HandSHeadRun.getT s) (lev (HandSHeadRun.getT s))
end G3
set_option Elab.async false
set_option linter.all false
set_option maxRecDepth 100000
set_option maxHeartbeats 0
namespace G3
open PySem PySem.Spec PyProof.Rows L2
def fa0 : List He.Fa := [.int "A" 0, .int "B" 6, .int "BARRED" 2, .int "BELL" 4, .int "C" 12, .int "CALL" 3, .int "ENDED" 0, .int "F" 4, .str "FIGURES" "0123456789", .int "GOING" 1, .int "GUARD" 1, .int "H" 14, .int "HOW" 5, .int "I" 3, .int "L" 7, .str "LETTERS" "abcdefghijklmnopqrstuvwxyz", .int "M" 5, .int "N" 13, .int "P" 2, .int "PLACES_codes" 4096, .int "PLACES_machine" 4096, .int "RECORD" 16, .int "SA" 9, .int "SP" 11, .int "SX" 10, .int "T" 8, .int "TOP" 32768, .int "WORDS" 65536, .int "X" 1, .free "all", .free "enumerate", .free "int", .free "len", .free "list", .free "min", .free "range", .free "sorted", .free "str", .free "tuple", .free "zip"]
def fn0 : List He.DefD := []
def fa1 : List He.Fa := [.glo "Names", .cls "Names", .noat "Names" "head", .noat "Names" "labels", .noat "Names" "needs", .noat "Names" "met", .meth "Names" "is_new", .mkr "Names", .glo "OPS", .glo "ENDS"]
def fn1 : List He.DefD := [⟨("Names", some "is_new"), "is_new", "Names.is_new", defArgs s_Names_is_new, defBody s_Names_is_new, defScope s_Names_is_new, [], []⟩, ⟨("Names", some "__init__"), "__init__", "Names.__init__", defArgs s_Names___init__, defBody s_Names___init__, defScope s_Names___init__, [], []⟩]
def fa2 : List He.Fa := [.glo "cell_rows", .glo "kernel_text", .glo "word_of", .glo "moved", .glo "begins_of", .glo "homes_of", .glo "look_needed", .glo "words_at", .glo "linked", .glo "first_state", .glo "op_of", .glo "number_of", .glo "changed", .glo "wanted", .glo "asked", .glo "is_barred", .glo "trap", .glo "own_row", .glo "move_row", .glo "leap_row", .glo "word_row", .glo "row_done", .glo "rung", .glo "trap_of", .glo "trapped", .glo "fetched", .glo "beat_of", .glo "is_name", .glo "number_in", .glo "arg_in", .glo "row_in", .glo "rows_in", .glo "head_of", .glo "names_of", .glo "head_stands", .glo "row_stands", .glo "size_of", .glo "places_of", .glo "labels_of", .glo "words_in", .glo "assembled", .glo "without_noughts", .glo "one_beat", .glo "run", .glo "kernel_words", .glo "laid_behind", .glo "fill_record", .glo "town", .glo "by_task", .glo "ends_in", .glo "town_run", .glo "_law_cell_at", .glo "_law_mixed", .glo "_law_words_by", .glo "_law_lively", .glo "_law_image_by", .glo "_law_images_by", .glo "_law_quota_by", .glo "_law_one_town", .glo "law"]
def fn2 : List He.DefD := [⟨("cell_rows", none), "cell_rows", "cell_rows", defArgs s_cell_rows, defBody s_cell_rows, defScope s_cell_rows, [], []⟩, ⟨("kernel_text", none), "kernel_text", "kernel_text", defArgs s_kernel_text, defBody s_kernel_text, defScope s_kernel_text, [], []⟩, ⟨("word_of", none), "word_of", "word_of", defArgs s_word_of, defBody s_word_of, defScope s_word_of, [], []⟩, ⟨("moved", none), "moved", "moved", defArgs s_moved, defBody s_moved, defScope s_moved, [], []⟩, ⟨("begins_of", none), "begins_of", "begins_of", defArgs s_begins_of, defBody s_begins_of, defScope s_begins_of, [], []⟩, ⟨("homes_of", none), "homes_of", "homes_of", defArgs s_homes_of, defBody s_homes_of, defScope s_homes_of, [], []⟩, ⟨("look_needed", none), "look_needed", "look_needed", defArgs s_look_needed, defBody s_look_needed, defScope s_look_needed, [], []⟩, ⟨("words_at", none), "words_at", "words_at", defArgs s_words_at, defBody s_words_at, defScope s_words_at, [], []⟩, ⟨("linked", none), "linked", "linked", defArgs s_linked, defBody s_linked, defScope s_linked, [], []⟩, ⟨("first_state", none), "first_state", "first_state", defArgs s_first_state, defBody s_first_state, defScope s_first_state, [], []⟩, ⟨("op_of", none), "op_of", "op_of", defArgs s_op_of, defBody s_op_of, defScope s_op_of, [], []⟩, ⟨("number_of", none), "number_of", "number_of", defArgs s_number_of, defBody s_number_of, defScope s_number_of, [], []⟩, ⟨("changed", none), "changed", "changed", defArgs s_changed, defBody s_changed, defScope s_changed, [], []⟩, ⟨("wanted", none), "wanted", "wanted", defArgs s_wanted, defBody s_wanted, defScope s_wanted, [], []⟩, ⟨("asked", none), "asked", "asked", defArgs s_asked, defBody s_asked, defScope s_asked, [], []⟩, ⟨("is_barred", none), "is_barred", "is_barred", defArgs s_is_barred, defBody s_is_barred, defScope s_is_barred, [], []⟩, ⟨("trap", none), "trap", "trap", defArgs s_trap, defBody s_trap, defScope s_trap, [], []⟩, ⟨("own_row", none), "own_row", "own_row", defArgs s_own_row, defBody s_own_row, defScope s_own_row, [], []⟩, ⟨("move_row", none), "move_row", "move_row", defArgs s_move_row, defBody s_move_row, defScope s_move_row, [], []⟩, ⟨("leap_row", none), "leap_row", "leap_row", defArgs s_leap_row, defBody s_leap_row, defScope s_leap_row, [], []⟩, ⟨("word_row", none), "word_row", "word_row", defArgs s_word_row, defBody s_word_row, defScope s_word_row, [], []⟩, ⟨("row_done", none), "row_done", "row_done", defArgs s_row_done, defBody s_row_done, defScope s_row_done, [], []⟩, ⟨("rung", none), "rung", "rung", defArgs s_rung, defBody s_rung, defScope s_rung, [], []⟩, ⟨("trap_of", none), "trap_of", "trap_of", defArgs s_trap_of, defBody s_trap_of, defScope s_trap_of, [], []⟩, ⟨("trapped", none), "trapped", "trapped", defArgs s_trapped, defBody s_trapped, defScope s_trapped, [], []⟩, ⟨("fetched", none), "fetched", "fetched", defArgs s_fetched, defBody s_fetched, defScope s_fetched, [], []⟩, ⟨("beat_of", none), "beat_of", "beat_of", defArgs s_beat_of, defBody s_beat_of, defScope s_beat_of, [], []⟩, ⟨("is_name", none), "is_name", "is_name", defArgs s_is_name, defBody s_is_name, defScope s_is_name, [], []⟩, ⟨("number_in", none), "number_in", "number_in", defArgs s_number_in, defBody s_number_in, defScope s_number_in, [], []⟩, ⟨("arg_in", none), "arg_in", "arg_in", defArgs s_arg_in, defBody s_arg_in, defScope s_arg_in, [], []⟩, ⟨("row_in", none), "row_in", "row_in", defArgs s_row_in, defBody s_row_in, defScope s_row_in, [], []⟩, ⟨("rows_in", none), "rows_in", "rows_in", defArgs s_rows_in, defBody s_rows_in, defScope s_rows_in, [], []⟩, ⟨("head_of", none), "head_of", "head_of", defArgs s_head_of, defBody s_head_of, defScope s_head_of, [], []⟩, ⟨("names_of", none), "names_of", "names_of", defArgs s_names_of, defBody s_names_of, defScope s_names_of, [], []⟩, ⟨("head_stands", none), "head_stands", "head_stands", defArgs s_head_stands, defBody s_head_stands, defScope s_head_stands, [], []⟩, ⟨("row_stands", none), "row_stands", "row_stands", defArgs s_row_stands, defBody s_row_stands, defScope s_row_stands, [], []⟩, ⟨("size_of", none), "size_of", "size_of", defArgs s_size_of, defBody s_size_of, defScope s_size_of, [], []⟩, ⟨("places_of", none), "places_of", "places_of", defArgs s_places_of, defBody s_places_of, defScope s_places_of, [], []⟩, ⟨("labels_of", none), "labels_of", "labels_of", defArgs s_labels_of, defBody s_labels_of, defScope s_labels_of, [], []⟩, ⟨("words_in", none), "words_in", "words_in", defArgs s_words_in, defBody s_words_in, defScope s_words_in, [], []⟩, ⟨("assembled", none), "assembled", "assembled", defArgs s_assembled, defBody s_assembled, defScope s_assembled, [], []⟩, ⟨("without_noughts", none), "without_noughts", "without_noughts", defArgs s_without_noughts, defBody s_without_noughts, defScope s_without_noughts, [], []⟩, ⟨("one_beat", none), "one_beat", "one_beat", defArgs s_one_beat, defBody s_one_beat, defScope s_one_beat, [], []⟩, ⟨("run", none), "run", "run", defArgs s_run, defBody s_run, defScope s_run, [], []⟩, ⟨("kernel_words", none), "kernel_words", "kernel_words", defArgs s_kernel_words, defBody s_kernel_words, defScope s_kernel_words, [], []⟩, ⟨("laid_behind", none), "laid_behind", "laid_behind", defArgs s_laid_behind, defBody s_laid_behind, defScope s_laid_behind, [], []⟩, ⟨("fill_record", none), "fill_record", "fill_record", defArgs s_fill_record, defBody s_fill_record, defScope s_fill_record, [], []⟩, ⟨("town", none), "town", "town", defArgs s_town, defBody s_town, defScope s_town, [], []⟩, ⟨("by_task", none), "by_task", "by_task", defArgs s_by_task, defBody s_by_task, defScope s_by_task, [], []⟩, ⟨("ends_in", none), "ends_in", "ends_in", defArgs s_ends_in, defBody s_ends_in, defScope s_ends_in, [], []⟩, ⟨("town_run", none), "town_run", "town_run", defArgs s_town_run, defBody s_town_run, defScope s_town_run, [], []⟩, ⟨("_law_cell_at", none), "_law_cell_at", "_law_cell_at", defArgs s__law_cell_at, defBody s__law_cell_at, defScope s__law_cell_at, [], []⟩, ⟨("_law_mixed", none), "_law_mixed", "_law_mixed", defArgs s__law_mixed, defBody s__law_mixed, defScope s__law_mixed, [], []⟩, ⟨("_law_words_by", none), "_law_words_by", "_law_words_by", defArgs s__law_words_by, defBody s__law_words_by, defScope s__law_words_by, [], []⟩, ⟨("_law_lively", none), "_law_lively", "_law_lively", defArgs s__law_lively, defBody s__law_lively, defScope s__law_lively, [], []⟩, ⟨("_law_image_by", none), "_law_image_by", "_law_image_by", defArgs s__law_image_by, defBody s__law_image_by, defScope s__law_image_by, [], []⟩, ⟨("_law_images_by", none), "_law_images_by", "_law_images_by", defArgs s__law_images_by, defBody s__law_images_by, defScope s__law_images_by, [], []⟩, ⟨("_law_quota_by", none), "_law_quota_by", "_law_quota_by", defArgs s__law_quota_by, defBody s__law_quota_by, defScope s__law_quota_by, [], []⟩, ⟨("_law_one_town", none), "_law_one_town", "_law_one_town", defArgs s__law_one_town, defBody s__law_one_town, defScope s__law_one_town, [], []⟩, ⟨("law", none), "law", "law", defArgs s_law, defBody s_law, defScope s_law, [], []⟩]
def opsD : List He.Dv := [.str "set", .str "load", .str "store", .str "add", .str "take", .str "both", .str "goto", .str "zero", .str "below", .str "from", .str "into", .str "move", .str "link", .str "call", .str "own", .str "back"]
def endsD : List He.Dv := [.str "ended", .str "going", .str "fault"]
def isTup (K : PySem.W.Frag) (x : Str) : Bool := match K.lookup (He.ga K x) with
  | some ⟨.type c, none, _, _⟩ => decide (c = "tuple")
  | _ => false
theorem isTup_ok {K : PySem.W.Frag} {x : Str} (h : isTup K x = true) : ∃ ob, List.lookup (He.ga K x) K = some ob ∧ ob.cls = Value.type "tuple" ∧ ob.dict = none := by
  unfold isTup at h
  split at h
  · rename_i c d s e
    exact ⟨_, e, congrArg Value.type (of_decide_eq_true h), rfl⟩
  · cases h
def tupsB (K : PySem.W.Frag) : Bool := He.tupB K "OPS" opsD && (He.tupB K "ENDS" endsD && isTup K "OPS")
def rowsV (K : PySem.W.Frag) : Str := match PySem.W.nsIn K mainGlobals "ROWS" with
  | some (some (.str y _)) => y
  | _ => Str.empty
theorem rowsV_ok {K : PySem.W.Frag} {h : Heap} {mg : Str → Option Value} (X : K.In h) (G : h.Ns mainGlobals mg) (e : rowsV K = rowsX) : ∃ t, mg "ROWS" = some (.str rowsX t) := by
  have ne : Str.empty ≠ rowsX := fun z => by
    have h2 : rowsX.cps.toList = [] := by rw [← z]; rfl
    have h3 : rowsX.cps.toList.isEmpty = false := by decide +kernel
    rw [h2] at h3
    cases h3
  unfold rowsV at e
  split at e
  · rename_i y t q
    subst e
    exact ⟨t, PySem.W.mg_of X G q⟩
  · exact absurd e ne
theorem pt0 (w : World) (os : OsState) : (X0 w os).map (fun s => withK (HandSHeadRun.getT s) (He.obsD fa0 fn0)) = some (He.valD fn0) := by kernel_rfl
theorem pt1 (w : World) (os : OsState) : (X0 w os).map (fun s => withK (HandSHeadRun.getT s) (He.obsD fa1 fn1)) = some (He.valD fn1) := by kernel_rfl
theorem pt2 (w : World) (os : OsState) : (X0 w os).map (fun s => withK (HandSHeadRun.getT s) (He.obsD fa2 fn2)) = some (He.valD fn2) := by kernel_rfl
theorem ptr (w : World) (os : OsState) : (X0 w os).map (fun s => withK (HandSHeadRun.getT s) rowsV) = some rowsX := by kernel_rfl
theorem ptt (w : World) (os : OsState) : (X0 w os).map (fun s => withK (HandSHeadRun.getT s) tupsB) = some true := by kernel_rfl
def names0 : List Str := ["TownError", "BadRow", "TooLong", "Lacking", "GivenTwice", "RECORD", "HOW", "ENDED", "GOING", "ROWS", "cell_rows", "kernel_text", "OPS", "PLACES_codes", "word_of", "moved", "begins_of", "homes_of", "look_needed", "words_at", "linked", "WORDS", "PLACES_machine", "TOP", "A", "X", "P", "I", "F", "M"]
def names1 : List Str := ["B", "L", "T", "SA", "SX", "SP", "C", "N", "H", "GUARD", "BARRED", "CALL", "BELL", "first_state", "op_of", "number_of", "changed", "wanted", "asked", "is_barred", "trap", "own_row", "move_row", "leap_row", "word_row", "row_done", "rung", "trap_of", "trapped", "fetched"]
def names2 : List Str := ["beat_of", "LETTERS", "FIGURES", "is_name", "number_in", "arg_in", "row_in", "rows_in", "head_of", "names_of", "Names", "head_stands", "row_stands", "size_of", "places_of", "labels_of", "words_in", "assembled", "without_noughts", "one_beat", "run", "ENDS", "kernel_words", "laid_behind", "fill_record", "town", "by_task", "ends_in", "town_run", "_law_cell_at"]
def names3 : List Str := ["_law_mixed", "_law_figures", "_law_drawn", "_law_words_by", "_law_lively", "_law_image_by", "_law_images_by", "_law_quota_by", "_law_one_town"]
def names : List Str := names0 ++ names1 ++ names2 ++ names3
theorem run0 (w : World) : HandSHeadRun.RunEq R (PySem.W.view R.prog [108]) PySem.W.Hook.none (fun _ => ()) 4000 names w := by
  intro os
  kernel_rfl
end G3
set_option Elab.async false
set_option linter.all false
set_option maxRecDepth 100000
set_option maxHeartbeats 0
namespace G3
open PySem PySem.Spec PyProof.Rows L2
abbrev AlX : Type := He.AlD × He.AlD × He.AlD × Str × Bool
def obsX (K : PySem.W.Frag) : AlX := (He.obsD fa0 fn0 K, He.obsD fa1 fn1 K, He.obsD fa2 fn2 K, rowsV K, tupsB K)
def valX : AlX := (He.valD fn0, He.valD fn1, He.valD fn2, rowsX, true)
def SaysX (K : PySem.W.Frag) : Prop := obsX K = valX
def hk : PySem.W.Hook where
  α := AlX
  obs := fun s => obsX (He.frG s.heap.get? (lev s.heap.get?))
  val := fun _ => valX
  says := fun _ h => ∃ K : PySem.W.Frag, K.In h ∧ SaysX K
  of := fun _ _ e => ⟨_, He.frG_in, e⟩
  keeps := fun _ _ _ ⟨K, hK, c⟩ k => ⟨K, PySem.W.Frag.In.keeps hK k, c⟩
def ob (s : PySem.W.SharedT) : AlX := obsX (KK s)
theorem ob_eq (s : PySem.W.SharedT) : ob s = hk.obs s.abs := by
  have e : HandSHeadRun.getT s = s.abs.heap.get? := funext (HandSHeadRun.getT_eq s)
  show obsX (He.frG (HandSHeadRun.getT s) (lev (HandSHeadRun.getT s))) = obsX (He.frG s.abs.heap.get? (lev s.abs.heap.get?))
  rw [e]
theorem comb {σ A B C : Type} {x : Option σ} {f : σ → A} {g : σ → B} {u : σ → C} {a : A} {b : B} {c : C} (h0 : x.map (fun s => (f s, g s, ())) = some (a, b, ())) (h1 : x.map u = some c) : x.map (fun s => (f s, g s, u s)) = some (a, b, c) := by
  cases x with
  | none => cases h0
  | some s =>
    have e1 : (f s, g s, ()) = (a, b, ()) := Option.some.inj h0
    have e2 : u s = c := Option.some.inj h1
    have e3 := congrArg Prod.fst e1
    have e4 := congrArg (fun z => z.2.1) e1
    have e3 : f s = a := e3
    have e4 : g s = b := e4
    show some (f s, g s, u s) = _
    rw [e3, e4, e2]
theorem comb2 {σ A B : Type} {x : Option σ} {f : σ → A} {g : σ → B} {a : A} {b : B} (h : x.map f = some a) (k : x.map g = some b) : x.map (fun s => (f s, g s)) = some (a, b) := by
  cases x with
  | none => cases h
  | some s =>
    have e1 : f s = a := Option.some.inj h
    have e2 : g s = b := Option.some.inj k
    show some (f s, g s) = _
    rw [e1, e2]
theorem toK {β : Type} {x : Option PySem.W.SharedT} {f : PySem.W.Frag → β} {b : β} (h : x.map (fun s => withK (HandSHeadRun.getT s) f) = some b) : x.map (fun s => f (KK s)) = some b := by
  cases x with
  | none => cases h
  | some s =>
    have e : withK (HandSHeadRun.getT s) f = b := Option.some.inj h
    rw [withK_eq] at e
    exact congrArg some e
theorem obs_run (w : World) (os : OsState) : (X0 w os).map ob = some valX := comb2 (toK (pt0 w os)) (comb2 (toK (pt1 w os)) (comb2 (toK (pt2 w os)) (comb2 (toK (ptr w os)) (toK (ptt w os)))))
theorem head_run (w : World) : HandSHeadRun.RunEq R (PySem.W.view R.prog [108]) hk ob 4000 names w := by
  intro os
  exact comb (run0 w os) (obs_run w os)
theorem src {K : PySem.W.Frag} {mg : Str → Option Value} {x : Str} {st : Stmt} (m : mg x = some (.ref (He.ga K x))) (F : ∃ fd, FunD K x x (defArgs st) (defBody st) (defScope st) [] [] (He.ga K x) fd) : Src K mg x st := by
  obtain ⟨fd, F⟩ := F
  exact ⟨_, fd, m, F⟩
theorem facts {P : Program} {w : World} {K : PySem.W.Frag} {h : Heap} {mg : Str → Option Value} {f : Addr} (X : K.In h) (G : h.Ns mainGlobals mg) (hfa : mg ("law" : Str) = some (.ref f)) (cx : SaysX K) :
    ∃ fd : FuncData, (∀ (s : Shared) (v : Value), BindsTo s fd ⟨[v], []⟩ [("_law_script", v)]) ∧ ∀ base : Heap, K.In base → base.Ns mainGlobals mg → FnOk P w K mg base CX0 10 f fd ["_law_script"] (sp_law K) := by
  have c0 : He.SaysD fa0 fn0 K := congrArg (fun z : AlX => z.1) cx
  have c1 : He.SaysD fa1 fn1 K := congrArg (fun z : AlX => z.2.1) cx
  have c2 : He.SaysD fa2 fn2 K := congrArg (fun z : AlX => z.2.2.1) cx
  have cr : rowsV K = rowsX := congrArg (fun z : AlX => z.2.2.2.1) cx
  have ct : tupsB K = true := congrArg (fun z : AlX => z.2.2.2.2) cx
  have T : Tx K mg := ⟨He.int_ok X G (c0.fact 0 rfl), He.int_ok X G (c0.fact 1 rfl), He.int_ok X G (c0.fact 2 rfl), He.int_ok X G (c0.fact 3 rfl), He.int_ok X G (c0.fact 4 rfl), He.int_ok X G (c0.fact 5 rfl), He.int_ok X G (c0.fact 6 rfl), He.int_ok X G (c0.fact 7 rfl), He.str_ok X G (c0.fact 8 rfl), He.int_ok X G (c0.fact 9 rfl), He.int_ok X G (c0.fact 10 rfl), He.int_ok X G (c0.fact 11 rfl), He.int_ok X G (c0.fact 12 rfl), He.int_ok X G (c0.fact 13 rfl), He.int_ok X G (c0.fact 14 rfl), He.str_ok X G (c0.fact 15 rfl), He.int_ok X G (c0.fact 16 rfl), He.int_ok X G (c0.fact 17 rfl), He.int_ok X G (c0.fact 18 rfl), He.int_ok X G (c0.fact 19 rfl), He.int_ok X G (c0.fact 20 rfl), He.int_ok X G (c0.fact 21 rfl), rowsV_ok X G cr, He.int_ok X G (c0.fact 22 rfl), He.int_ok X G (c0.fact 23 rfl), He.int_ok X G (c0.fact 24 rfl), He.int_ok X G (c0.fact 25 rfl), He.int_ok X G (c0.fact 26 rfl), He.int_ok X G (c0.fact 27 rfl), He.int_ok X G (c0.fact 28 rfl), He.free_ok X G (c0.fact 29 rfl), He.free_ok X G (c0.fact 30 rfl), He.free_ok X G (c0.fact 31 rfl), He.free_ok X G (c0.fact 32 rfl), He.free_ok X G (c0.fact 33 rfl), He.free_ok X G (c0.fact 34 rfl), He.free_ok X G (c0.fact 35 rfl), He.free_ok X G (c0.fact 36 rfl), He.free_ok X G (c0.fact 37 rfl), He.free_ok X G (c0.fact 38 rfl), He.free_ok X G (c0.fact 39 rfl)⟩
  have S_cell_rows : Src K mg "cell_rows" s_cell_rows := src (He.glo_ok X G (c2.fact 0 rfl)) (c2.def_ 0 rfl)
  have S_kernel_text : Src K mg "kernel_text" s_kernel_text := src (He.glo_ok X G (c2.fact 1 rfl)) (c2.def_ 1 rfl)
  have S_word_of : Src K mg "word_of" s_word_of := src (He.glo_ok X G (c2.fact 2 rfl)) (c2.def_ 2 rfl)
  have S_moved : Src K mg "moved" s_moved := src (He.glo_ok X G (c2.fact 3 rfl)) (c2.def_ 3 rfl)
  have S_begins_of : Src K mg "begins_of" s_begins_of := src (He.glo_ok X G (c2.fact 4 rfl)) (c2.def_ 4 rfl)
  have S_homes_of : Src K mg "homes_of" s_homes_of := src (He.glo_ok X G (c2.fact 5 rfl)) (c2.def_ 5 rfl)
  have S_look_needed : Src K mg "look_needed" s_look_needed := src (He.glo_ok X G (c2.fact 6 rfl)) (c2.def_ 6 rfl)
  have S_words_at : Src K mg "words_at" s_words_at := src (He.glo_ok X G (c2.fact 7 rfl)) (c2.def_ 7 rfl)
  have S_linked : Src K mg "linked" s_linked := src (He.glo_ok X G (c2.fact 8 rfl)) (c2.def_ 8 rfl)
  have S_first_state : Src K mg "first_state" s_first_state := src (He.glo_ok X G (c2.fact 9 rfl)) (c2.def_ 9 rfl)
  have S_op_of : Src K mg "op_of" s_op_of := src (He.glo_ok X G (c2.fact 10 rfl)) (c2.def_ 10 rfl)
  have S_number_of : Src K mg "number_of" s_number_of := src (He.glo_ok X G (c2.fact 11 rfl)) (c2.def_ 11 rfl)
  have S_changed : Src K mg "changed" s_changed := src (He.glo_ok X G (c2.fact 12 rfl)) (c2.def_ 12 rfl)
  have S_wanted : Src K mg "wanted" s_wanted := src (He.glo_ok X G (c2.fact 13 rfl)) (c2.def_ 13 rfl)
  have S_asked : Src K mg "asked" s_asked := src (He.glo_ok X G (c2.fact 14 rfl)) (c2.def_ 14 rfl)
  have S_is_barred : Src K mg "is_barred" s_is_barred := src (He.glo_ok X G (c2.fact 15 rfl)) (c2.def_ 15 rfl)
  have S_trap : Src K mg "trap" s_trap := src (He.glo_ok X G (c2.fact 16 rfl)) (c2.def_ 16 rfl)
  have S_own_row : Src K mg "own_row" s_own_row := src (He.glo_ok X G (c2.fact 17 rfl)) (c2.def_ 17 rfl)
  have S_move_row : Src K mg "move_row" s_move_row := src (He.glo_ok X G (c2.fact 18 rfl)) (c2.def_ 18 rfl)
  have S_leap_row : Src K mg "leap_row" s_leap_row := src (He.glo_ok X G (c2.fact 19 rfl)) (c2.def_ 19 rfl)
  have S_word_row : Src K mg "word_row" s_word_row := src (He.glo_ok X G (c2.fact 20 rfl)) (c2.def_ 20 rfl)
  have S_row_done : Src K mg "row_done" s_row_done := src (He.glo_ok X G (c2.fact 21 rfl)) (c2.def_ 21 rfl)
  have S_rung : Src K mg "rung" s_rung := src (He.glo_ok X G (c2.fact 22 rfl)) (c2.def_ 22 rfl)
  have S_trap_of : Src K mg "trap_of" s_trap_of := src (He.glo_ok X G (c2.fact 23 rfl)) (c2.def_ 23 rfl)
  have S_trapped : Src K mg "trapped" s_trapped := src (He.glo_ok X G (c2.fact 24 rfl)) (c2.def_ 24 rfl)
  have S_fetched : Src K mg "fetched" s_fetched := src (He.glo_ok X G (c2.fact 25 rfl)) (c2.def_ 25 rfl)
  have S_beat_of : Src K mg "beat_of" s_beat_of := src (He.glo_ok X G (c2.fact 26 rfl)) (c2.def_ 26 rfl)
  have S_is_name : Src K mg "is_name" s_is_name := src (He.glo_ok X G (c2.fact 27 rfl)) (c2.def_ 27 rfl)
  have S_number_in : Src K mg "number_in" s_number_in := src (He.glo_ok X G (c2.fact 28 rfl)) (c2.def_ 28 rfl)
  have S_arg_in : Src K mg "arg_in" s_arg_in := src (He.glo_ok X G (c2.fact 29 rfl)) (c2.def_ 29 rfl)
  have S_row_in : Src K mg "row_in" s_row_in := src (He.glo_ok X G (c2.fact 30 rfl)) (c2.def_ 30 rfl)
  have S_rows_in : Src K mg "rows_in" s_rows_in := src (He.glo_ok X G (c2.fact 31 rfl)) (c2.def_ 31 rfl)
  have S_head_of : Src K mg "head_of" s_head_of := src (He.glo_ok X G (c2.fact 32 rfl)) (c2.def_ 32 rfl)
  have S_names_of : Src K mg "names_of" s_names_of := src (He.glo_ok X G (c2.fact 33 rfl)) (c2.def_ 33 rfl)
  have S_head_stands : Src K mg "head_stands" s_head_stands := src (He.glo_ok X G (c2.fact 34 rfl)) (c2.def_ 34 rfl)
  have S_row_stands : Src K mg "row_stands" s_row_stands := src (He.glo_ok X G (c2.fact 35 rfl)) (c2.def_ 35 rfl)
  have S_size_of : Src K mg "size_of" s_size_of := src (He.glo_ok X G (c2.fact 36 rfl)) (c2.def_ 36 rfl)
  have S_places_of : Src K mg "places_of" s_places_of := src (He.glo_ok X G (c2.fact 37 rfl)) (c2.def_ 37 rfl)
  have S_labels_of : Src K mg "labels_of" s_labels_of := src (He.glo_ok X G (c2.fact 38 rfl)) (c2.def_ 38 rfl)
  have S_words_in : Src K mg "words_in" s_words_in := src (He.glo_ok X G (c2.fact 39 rfl)) (c2.def_ 39 rfl)
  have S_assembled : Src K mg "assembled" s_assembled := src (He.glo_ok X G (c2.fact 40 rfl)) (c2.def_ 40 rfl)
  have S_without_noughts : Src K mg "without_noughts" s_without_noughts := src (He.glo_ok X G (c2.fact 41 rfl)) (c2.def_ 41 rfl)
  have S_one_beat : Src K mg "one_beat" s_one_beat := src (He.glo_ok X G (c2.fact 42 rfl)) (c2.def_ 42 rfl)
  have S_run : Src K mg "run" s_run := src (He.glo_ok X G (c2.fact 43 rfl)) (c2.def_ 43 rfl)
  have S_kernel_words : Src K mg "kernel_words" s_kernel_words := src (He.glo_ok X G (c2.fact 44 rfl)) (c2.def_ 44 rfl)
  have S_laid_behind : Src K mg "laid_behind" s_laid_behind := src (He.glo_ok X G (c2.fact 45 rfl)) (c2.def_ 45 rfl)
  have S_fill_record : Src K mg "fill_record" s_fill_record := src (He.glo_ok X G (c2.fact 46 rfl)) (c2.def_ 46 rfl)
  have S_town : Src K mg "town" s_town := src (He.glo_ok X G (c2.fact 47 rfl)) (c2.def_ 47 rfl)
  have S_by_task : Src K mg "by_task" s_by_task := src (He.glo_ok X G (c2.fact 48 rfl)) (c2.def_ 48 rfl)
  have S_ends_in : Src K mg "ends_in" s_ends_in := src (He.glo_ok X G (c2.fact 49 rfl)) (c2.def_ 49 rfl)
  have S_town_run : Src K mg "town_run" s_town_run := src (He.glo_ok X G (c2.fact 50 rfl)) (c2.def_ 50 rfl)
  have S__law_cell_at : Src K mg "_law_cell_at" s__law_cell_at := src (He.glo_ok X G (c2.fact 51 rfl)) (c2.def_ 51 rfl)
  have S__law_mixed : Src K mg "_law_mixed" s__law_mixed := src (He.glo_ok X G (c2.fact 52 rfl)) (c2.def_ 52 rfl)
  have S__law_words_by : Src K mg "_law_words_by" s__law_words_by := src (He.glo_ok X G (c2.fact 53 rfl)) (c2.def_ 53 rfl)
  have S__law_lively : Src K mg "_law_lively" s__law_lively := src (He.glo_ok X G (c2.fact 54 rfl)) (c2.def_ 54 rfl)
  have S__law_image_by : Src K mg "_law_image_by" s__law_image_by := src (He.glo_ok X G (c2.fact 55 rfl)) (c2.def_ 55 rfl)
  have S__law_images_by : Src K mg "_law_images_by" s__law_images_by := src (He.glo_ok X G (c2.fact 56 rfl)) (c2.def_ 56 rfl)
  have S__law_quota_by : Src K mg "_law_quota_by" s__law_quota_by := src (He.glo_ok X G (c2.fact 57 rfl)) (c2.def_ 57 rfl)
  have S__law_one_town : Src K mg "_law_one_town" s__law_one_town := src (He.glo_ok X G (c2.fact 58 rfl)) (c2.def_ 58 rfl)
  have S_law : Src K mg "law" s_law := src (He.glo_ok X G (c2.fact 59 rfl)) (c2.def_ 59 rfl)
  have NF : NmF K mg := ⟨He.glo_ok X G (c1.fact 0 rfl), He.cls_ok (c1.fact 1 rfl), He.noat_ok (c1.fact 2 rfl), He.noat_ok (c1.fact 3 rfl), He.noat_ok (c1.fact 4 rfl), He.noat_ok (c1.fact 5 rfl)⟩
  obtain ⟨t1, t2⟩ := He.ba ct
  obtain ⟨t2, t3⟩ := He.ba t2
  have OP : OpsAt K mg := ⟨_, He.glo_ok X G (c1.fact 8 rfl), fun H => He.tupB_ok t1 H, isTup_ok t3⟩
  have EN : ∃ a, mg "ENDS" = some (.ref a) ∧ ∀ H : Hp, SqT K H a (ends3.map V.str) := ⟨_, He.glo_ok X G (c1.fact 9 rfl), fun H => He.tupB_ok t2 H⟩
  obtain ⟨fdN, FN⟩ := c1.def_ 0 (d := ⟨("Names", some "is_new"), "is_new", "Names.is_new", defArgs s_Names_is_new, defBody s_Names_is_new, defScope s_Names_is_new, [], []⟩) rfl
  obtain ⟨fdI, FI⟩ := c1.def_ 1 (d := ⟨("Names", some "__init__"), "__init__", "Names.__init__", defArgs s_Names___init__, defBody s_Names___init__, defScope s_Names___init__, [], []⟩) rfl
  have MN := He.meth_ok (c1.fact 6 (f := .meth "Names" "is_new") rfl)
  have MI := He.mkr_ok (c1.fact 7 (f := .mkr "Names") rfl)
  have e := hfa.symm.trans (He.glo_ok X G (c2.fact 59 (f := .glo "law") rfl))
  cases e
  obtain ⟨fd, F⟩ := c2.def_ 59 (d := ⟨("law", none), "law", "law", defArgs s_law, defBody s_law, defScope s_law, [], []⟩) rfl
  have b := FunD.bindsA (ps := ["_law_script"]) F fun _ _ _ _ _ _ us hl => match us, hl with | [_], _ => rfl
  refine ⟨fd, fun s v => b s [v] rfl, fun base _ _ => ?_⟩
  have D__law_cell_at := ok__law_cell_at (P := P) (w := w) (base := base) T S__law_cell_at 
  have D__law_mixed := ok__law_mixed (P := P) (w := w) (base := base) T S__law_mixed 
  have D__law_lively := ok__law_lively (P := P) (w := w) (base := base) T S__law_lively D__law_mixed
  have D__law_words_by := ok__law_words_by (P := P) (w := w) (base := base) T S__law_words_by D__law_mixed
  have D__law_image_by := ok__law_image_by (P := P) (w := w) (base := base) T S__law_image_by D__law_lively D__law_words_by
  have D__law_images_by := ok__law_images_by (P := P) (w := w) (base := base) T S__law_images_by D__law_mixed D__law_image_by
  have D__law_quota_by := ok__law_quota_by (P := P) (w := w) (base := base) T S__law_quota_by 
  have D_cell_rows := ok_cell_rows (P := P) (w := w) (base := base) T S_cell_rows 
  have D_kernel_text := ok_kernel_text (P := P) (w := w) (base := base) T S_kernel_text D_cell_rows
  have D_is_name := ok_is_name (P := P) (w := w) (base := base) T S_is_name 
  have D_number_in := ok_number_in (P := P) (w := w) (base := base) T S_number_in 
  have D_arg_in := ok_arg_in (P := P) (w := w) (base := base) T S_arg_in D_is_name D_number_in
  have D_row_in := ok_row_in (P := P) (w := w) (base := base) T S_row_in D_is_name D_number_in D_arg_in OP
  have D_rows_in := ok_rows_in (P := P) (w := w) (base := base) T S_rows_in D_row_in
  have D_head_of := ok_head_of (P := P) (w := w) (base := base) T S_head_of 
  have D_names_of := ok_names_of (P := P) (w := w) (base := base) T S_names_of 
  have D_Names___init__ : DefI P w K mg base 2 ["self", "rows"] (sp_Names___init__ K) := ⟨_, fdI, MI, FI.bindsN (fun _ _ _ _ _ _ us hl => match us, hl with | [_, _], _ => rfl), ok_Names___init__ T NF D_head_of D_names_of FI⟩
  have D_Names_is_new : DefM P w K mg base "is_new" 1 ["self", "form", "name"] (sp_Names_is_new K) := ⟨_, fdN, MN, FN.bindsN (fun _ _ _ _ _ _ us hl => match us, hl with | [_, _, _], _ => rfl), ok_Names_is_new T NF FN⟩
  have D_head_stands := ok_head_stands (P := P) (w := w) (base := base) T S_head_stands NF D_Names_is_new
  have D_row_stands := ok_row_stands (P := P) (w := w) (base := base) T S_row_stands D_head_stands NF D_Names_is_new
  have D_size_of := ok_size_of (P := P) (w := w) (base := base) T S_size_of 
  have D_places_of := ok_places_of (P := P) (w := w) (base := base) T S_places_of D_size_of
  have D_labels_of := ok_labels_of (P := P) (w := w) (base := base) T S_labels_of 
  have D_word_of := ok_word_of (P := P) (w := w) (base := base) T S_word_of OP
  have D_moved := ok_moved (P := P) (w := w) (base := base) T S_moved 
  have D_words_in := ok_words_in (P := P) (w := w) (base := base) T S_words_in D_word_of D_moved
  have D_assembled := ok_assembled (P := P) (w := w) (base := base) T S_assembled D_rows_in D_row_stands D_places_of D_labels_of D_words_in D_names_of NF D_Names___init__
  have D_begins_of := ok_begins_of (P := P) (w := w) (base := base) T S_begins_of 
  have D_homes_of := ok_homes_of (P := P) (w := w) (base := base) T S_homes_of 
  have D_look_needed := ok_look_needed (P := P) (w := w) (base := base) T S_look_needed 
  have D_words_at := ok_words_at (P := P) (w := w) (base := base) T S_words_at D_moved
  have D_linked := ok_linked (P := P) (w := w) (base := base) T S_linked D_begins_of D_homes_of D_look_needed D_words_at
  have D_kernel_words := ok_kernel_words (P := P) (w := w) (base := base) T S_kernel_words D_kernel_text D_assembled D_linked
  have D_laid_behind := ok_laid_behind (P := P) (w := w) (base := base) T S_laid_behind 
  have D_fill_record := ok_fill_record (P := P) (w := w) (base := base) T S_fill_record 
  have D_town := ok_town (P := P) (w := w) (base := base) T S_town D_kernel_words D_laid_behind D_fill_record
  have D_first_state := ok_first_state (P := P) (w := w) (base := base) T S_first_state 
  have D_without_noughts := ok_without_noughts (P := P) (w := w) (base := base) T S_without_noughts 
  have D_op_of := ok_op_of (P := P) (w := w) (base := base) T S_op_of 
  have D_number_of := ok_number_of (P := P) (w := w) (base := base) T S_number_of 
  have D_wanted := ok_wanted (P := P) (w := w) (base := base) T S_wanted D_op_of D_number_of
  have D_asked := ok_asked (P := P) (w := w) (base := base) T S_asked D_wanted
  have D_is_barred := ok_is_barred (P := P) (w := w) (base := base) T S_is_barred D_wanted
  have D_changed := ok_changed (P := P) (w := w) (base := base) T S_changed 
  have D_trap := ok_trap (P := P) (w := w) (base := base) T S_trap D_changed
  have D_fetched := ok_fetched (P := P) (w := w) (base := base) T S_fetched D_is_barred D_trap D_changed
  have D_trap_of := ok_trap_of (P := P) (w := w) (base := base) T S_trap_of D_op_of D_is_barred
  have D_trapped := ok_trapped (P := P) (w := w) (base := base) T S_trapped D_number_of D_changed D_trap
  have D_leap_row := ok_leap_row (P := P) (w := w) (base := base) T S_leap_row D_number_of D_changed
  have D_move_row := ok_move_row (P := P) (w := w) (base := base) T S_move_row D_number_of D_changed
  have D_own_row := ok_own_row (P := P) (w := w) (base := base) T S_own_row D_number_of D_changed
  have D_word_row := ok_word_row (P := P) (w := w) (base := base) T S_word_row D_number_of D_changed
  have D_row_done := ok_row_done (P := P) (w := w) (base := base) T S_row_done D_op_of D_changed D_leap_row D_move_row D_own_row D_word_row
  have D_rung := ok_rung (P := P) (w := w) (base := base) T S_rung D_changed D_trap
  have D_beat_of := ok_beat_of (P := P) (w := w) (base := base) T S_beat_of D_fetched D_trap_of D_trapped D_op_of D_number_of D_row_done D_rung
  have D_one_beat := ok_one_beat (P := P) (w := w) (base := base) T S_one_beat D_asked D_beat_of
  have D_run := ok_run (P := P) (w := w) (base := base) T S_run D_without_noughts D_one_beat
  have D_by_task := ok_by_task (P := P) (w := w) (base := base) T S_by_task 
  have D_ends_in := ok_ends_in (P := P) (w := w) (base := base) T S_ends_in EN
  have D_town_run := ok_town_run (P := P) (w := w) (base := base) T S_town_run D_town D_first_state D_run D_kernel_words D_by_task D_ends_in
  have D__law_one_town := ok__law_one_town (P := P) (w := w) (base := base) T S__law_one_town D__law_images_by D__law_mixed D__law_quota_by D_town_run D_town
  exact ok_law (P := P) (w := w) (base := base) T F D__law_cell_at D__law_mixed D__law_image_by D__law_one_town
end G3
set_option Elab.async false
set_option linter.all false
set_option maxRecDepth 100000
set_option maxHeartbeats 0
open PySem PySem.W PySem.Calls PyProof.Rows
namespace G3
theorem holds1 : rw1.Holds := by
  w_on
  refine holds_law said1 (fun said => ?_)
  refine HandSHeadRun.head_any (r := R) (q := view R.prog [108]) (H := hk) (ob := ob) (M := 4000) (loose := names) (d := HandSHeadRun.topDef R.prog 108) (kwd := []) ob_eq (by kernel_rfl) (fun s => by kernel_rfl) head_run (by kernel_rfl) (by kernel_rfl) (by kernel_rfl) (by rfl) said (by decide +kernel) ⟨rfl, rfl, rfl, rfl, rfl, by decide +kernel⟩ ?hw ?hc
  case hw => w_witness2
  case hc =>
    refine L2.walk_ofE (l := rw1) (n := 63) (k := 10) (x := "_law_script") (CX := L2.CX0) rfl (by decide) (by kernel_rfl) ⟨rfl, by decide, by decide⟩ ?F (fun _ _ _ _ z => z)
    intro w mg fa h Y G hmg0
    obtain ⟨K, KX, c⟩ := Y
    have hmg : mg ("law" : PySem.Str) = some (.ref fa) := by
      have e : (HandSHeadRun.topDef R.prog 108).name = ("law" : PySem.Str) := by kernel_rfl
      rw [← e]
      exact hmg0
    obtain ⟨fd, hb, hF⟩ := facts (P := rw1.prog) (w := w) KX G hmg c
    exact ⟨K, fd, sp_law K, KX, hb, fun H a ns hl _ hS => ⟨a, ns, rfl, hS, fun _ => rfl⟩, hF⟩
end G3
theorem PySem.Challenge.cw_gatetown_k93_whole_whatever_others_do_holds : PySem.Challenge.rw_gatetown_k93_whole_whatever_others_do.Holds := by
  exact G3.holds_of G3.holds1
