import PyProof.Rows.All
import Wide.All
import OpenK.AllK
import Wide.FinOn
import HandS.ForMost
import HandS.Exc
import HandS.TryOnly
import HandS.ExcOwn
import HandS.WordsExc
import HandS.ExcInit
import HandS.ExcField
import HandS.Codes
import HandS.TupAny
import HandS.IsInst
import HandS.FStr
import HandS.Zip
import HandS.NoneIn
import HandS.CallSlots
import HandS.More
import KE.GoesNew
import KE.KExcSuper
import PySem.Challenge.RW_everyturn_k10_faults_of_programs
set_option Elab.async false
set_option linter.all false
set_option maxRecDepth 100000
set_option maxHeartbeats 4000000
namespace K10
open PySem PySem.Spec PyProof.Rows L2
def top (i : Nat) : Stmt := PySem.Challenge.pw_everyturn_k10_faults_of_programs.main.body.getD i (.Pass ⟨0, 0, 0, 0⟩)
abbrev s_PF_init : Stmt := inClass (top 2) 0
abbrev s_Reader___init__ : Stmt := inClass (top 9) 0
abbrev N_Reader___init__ : List Str := ["self", "parts"]
theorem sc_Reader___init__ : FnScope N_Reader___init__ ["self", "parts"] (defScope s_Reader___init__) := ⟨rfl, rfl, rfl, by decide +kernel, rfl, by decide +kernel, by decide +kernel⟩
abbrev s_Reader_sees : Stmt := inClass (top 9) 1
abbrev N_Reader_sees : List Str := ["self", "texts"]
theorem sc_Reader_sees : FnScope N_Reader_sees ["self", "texts"] (defScope s_Reader_sees) := ⟨rfl, rfl, rfl, by decide +kernel, rfl, by decide +kernel, by decide +kernel⟩
abbrev s_Reader_take : Stmt := inClass (top 9) 2
abbrev N_Reader_take : List Str := ["self", "token"]
theorem sc_Reader_take : FnScope N_Reader_take ["self"] (defScope s_Reader_take) := ⟨rfl, rfl, rfl, by decide +kernel, rfl, by decide +kernel, by decide +kernel⟩
abbrev s_Reader_group : Stmt := inClass (top 9) 3
abbrev N_Reader_group : List Str := ["self", "tree"]
theorem sc_Reader_group : FnScope N_Reader_group ["self"] (defScope s_Reader_group) := ⟨rfl, rfl, rfl, by decide +kernel, rfl, by decide +kernel, by decide +kernel⟩
abbrev s_Reader_factor : Stmt := inClass (top 9) 4
abbrev N_Reader_factor : List Str := ["self", "kind", "text"]
theorem sc_Reader_factor : FnScope N_Reader_factor ["self"] (defScope s_Reader_factor) := ⟨rfl, rfl, rfl, by decide +kernel, rfl, by decide +kernel, by decide +kernel⟩
abbrev s_Reader_level : Stmt := inClass (top 9) 5
abbrev N_Reader_level : List Str := ["self", "depth", "tree", "more", "sign"]
theorem sc_Reader_level : FnScope N_Reader_level ["self", "depth"] (defScope s_Reader_level) := ⟨rfl, rfl, rfl, by decide +kernel, rfl, by decide +kernel, by decide +kernel⟩
abbrev s_read_expression : Stmt := top 10
abbrev N_read_expression : List Str := ["parts", "reader", "tree"]
theorem sc_read_expression : FnScope N_read_expression ["parts"] (defScope s_read_expression) := ⟨rfl, rfl, rfl, by decide +kernel, rfl, by decide +kernel, by decide +kernel⟩
abbrev s_run_end : Stmt := top 16
abbrev N_run_end : List Str := ["line", "at", "chars", "end"]
theorem sc_run_end : FnScope N_run_end ["line", "at", "chars"] (defScope s_run_end) := ⟨rfl, rfl, rfl, by decide +kernel, rfl, by decide +kernel, by decide +kernel⟩
abbrev s_token : Stmt := top 17
abbrev N_token : List Str := ["line", "at", "char", "run"]
theorem sc_token : FnScope N_token ["line", "at"] (defScope s_token) := ⟨rfl, rfl, rfl, by decide +kernel, rfl, by decide +kernel, by decide +kernel⟩
abbrev s_tokens : Stmt := top 18
abbrev N_tokens : List Str := ["line", "found", "at", "token"]
theorem sc_tokens : FnScope N_tokens ["line"] (defScope s_tokens) := ⟨rfl, rfl, rfl, by decide +kernel, rfl, by decide +kernel, by decide +kernel⟩
abbrev s_is_name : Stmt := top 21
abbrev N_is_name : List Str := ["text"]
theorem sc_is_name : FnScope N_is_name ["text"] (defScope s_is_name) := ⟨rfl, rfl, rfl, by decide +kernel, rfl, by decide +kernel, by decide +kernel⟩
abbrev s_fits : Stmt := top 27
abbrev N_fits : List Str := ["parts", "form", "part", "wanted"]
theorem sc_fits : FnScope N_fits ["parts", "form"] (defScope s_fits) := ⟨rfl, rfl, rfl, by decide +kernel, rfl, by decide +kernel, by decide +kernel⟩
abbrev s_shared : Stmt := top 28
abbrev N_shared : List Str := ["parts", "texts", "part"]
theorem sc_shared : FnScope N_shared ["parts"] (defScope s_shared) := ⟨rfl, rfl, rfl, by decide +kernel, rfl, by decide +kernel, by decide +kernel⟩
abbrev s_with_tree : Stmt := top 29
abbrev N_with_tree : List Str := ["head", "parts", "tree"]
theorem sc_with_tree : FnScope N_with_tree ["head", "parts"] (defScope s_with_tree) := ⟨rfl, rfl, rfl, by decide +kernel, rfl, by decide +kernel, by decide +kernel⟩
abbrev s_simple : Stmt := top 30
abbrev N_simple : List Str := ["parts", "texts", "part", "word"]
theorem sc_simple : FnScope N_simple ["parts"] (defScope s_simple) := ⟨rfl, rfl, rfl, by decide +kernel, rfl, by decide +kernel, by decide +kernel⟩
abbrev s_instruction : Stmt := top 31
abbrev N_instruction : List Str := ["parts", "texts", "part", "simple", "word"]
theorem sc_instruction : FnScope N_instruction ["parts"] (defScope s_instruction) := ⟨rfl, rfl, rfl, by decide +kernel, rfl, by decide +kernel, by decide +kernel⟩
abbrev s_Draft___init__ : Stmt := inClass (top 32) 0
abbrev N_Draft___init__ : List Str := ["self", "lines"]
theorem sc_Draft___init__ : FnScope N_Draft___init__ ["self", "lines"] (defScope s_Draft___init__) := ⟨rfl, rfl, rfl, by decide +kernel, rfl, by decide +kernel, by decide +kernel⟩
abbrev s_Draft_program : Stmt := inClass (top 32) 1
abbrev N_Draft_program : List Str := ["self", "thread"]
theorem sc_Draft_program : FnScope N_Draft_program ["self"] (defScope s_Draft_program) := ⟨rfl, rfl, rfl, by decide +kernel, rfl, by decide +kernel, by decide +kernel⟩
abbrev s_Draft_kind : Stmt := inClass (top 32) 2
abbrev N_Draft_kind : List Str := ["self", "name", "thing"]
theorem sc_Draft_kind : FnScope N_Draft_kind ["self", "name"] (defScope s_Draft_kind) := ⟨rfl, rfl, rfl, by decide +kernel, rfl, by decide +kernel, by decide +kernel⟩
abbrev s_Draft_add_shared : Stmt := inClass (top 32) 3
abbrev N_Draft_add_shared : List Str := ["self", "at", "thing"]
theorem sc_Draft_add_shared : FnScope N_Draft_add_shared ["self", "at", "thing"] (defScope s_Draft_add_shared) := ⟨rfl, rfl, rfl, by decide +kernel, rfl, by decide +kernel, by decide +kernel⟩
abbrev s_Draft_add_thread : Stmt := inClass (top 32) 4
abbrev N_Draft_add_thread : List Str := ["self", "at"]
theorem sc_Draft_add_thread : FnScope N_Draft_add_thread ["self", "at"] (defScope s_Draft_add_thread) := ⟨rfl, rfl, rfl, by decide +kernel, rfl, by decide +kernel, by decide +kernel⟩
abbrev s_Draft_size : Stmt := inClass (top 32) 5
abbrev N_Draft_size : List Str := ["self", "at", "first", "count", "parts"]
theorem sc_Draft_size : FnScope N_Draft_size ["self", "at"] (defScope s_Draft_size) := ⟨rfl, rfl, rfl, by decide +kernel, rfl, by decide +kernel, by decide +kernel⟩
abbrev s_Draft_add_instruction : Stmt := inClass (top 32) 6
abbrev N_Draft_add_instruction : List Str := ["self", "at", "instruction", "kind", "name"]
theorem sc_Draft_add_instruction : FnScope N_Draft_add_instruction ["self", "at", "instruction"] (defScope s_Draft_add_instruction) := ⟨rfl, rfl, rfl, by decide +kernel, rfl, by decide +kernel, by decide +kernel⟩
abbrev s_Draft_add_line : Stmt := inClass (top 32) 7
abbrev N_Draft_add_line : List Str := ["self", "at", "parts", "part", "thing", "instruction"]
theorem sc_Draft_add_line : FnScope N_Draft_add_line ["self", "at", "parts"] (defScope s_Draft_add_line) := ⟨rfl, rfl, rfl, by decide +kernel, rfl, by decide +kernel, by decide +kernel⟩
abbrev s_read_program : Stmt := top 33
abbrev N_read_program : List Str := ["text", "lines", "line", "draft", "at", "parts", "thread"]
theorem sc_read_program : FnScope N_read_program ["text"] (defScope s_read_program) := ⟨rfl, rfl, rfl, by decide +kernel, rfl, by decide +kernel, by decide +kernel⟩
abbrev s_law_cell : Stmt := top 35
abbrev N_law_cell : List Str := ["_law_script", "_law_k"]
theorem sc_law_cell : FnScope N_law_cell ["_law_script", "_law_k"] (defScope s_law_cell) := ⟨rfl, rfl, rfl, by decide +kernel, rfl, by decide +kernel, by decide +kernel⟩
abbrev s_law_digits : Stmt := top 36
abbrev N_law_digits : List Str := ["_law_script", "_law_first", "_law_last", "_law_digits_here", "_law_k", "_law_cell_here", "_law_turn", "_law_seed"]
theorem sc_law_digits : FnScope N_law_digits ["_law_script", "_law_first", "_law_last"] (defScope s_law_digits) := ⟨rfl, rfl, rfl, by decide +kernel, rfl, by decide +kernel, by decide +kernel⟩
abbrev s_law_draw : Stmt := top 37
abbrev N_law_draw : List Str := ["_law_box", "_law_many", "_law_at"]
theorem sc_law_draw : FnScope N_law_draw ["_law_box", "_law_many"] (defScope s_law_draw) := ⟨rfl, rfl, rfl, by decide +kernel, rfl, by decide +kernel, by decide +kernel⟩
abbrev s_law_same : Stmt := top 38
abbrev N_law_same : List Str := ["_law_actual", "_law_due", "_law_k"]
theorem sc_law_same : FnScope N_law_same ["_law_actual", "_law_due"] (defScope s_law_same) := ⟨rfl, rfl, rfl, by decide +kernel, rfl, by decide +kernel, by decide +kernel⟩
abbrev s_law_tree : Stmt := top 39
abbrev N_law_tree : List Str := ["_law_box", "_law_depth", "_law_kind", "_law_sign", "_law_left"]
theorem sc_law_tree : FnScope N_law_tree ["_law_box", "_law_depth"] (defScope s_law_tree) := ⟨rfl, rfl, rfl, by decide +kernel, rfl, by decide +kernel, by decide +kernel⟩
abbrev s_law_level : Stmt := top 40
abbrev N_law_level : List Str := ["_law_tree_here"]
theorem sc_law_level : FnScope N_law_level ["_law_tree_here"] (defScope s_law_level) := ⟨rfl, rfl, rfl, by decide +kernel, rfl, by decide +kernel, by decide +kernel⟩
abbrev s_law_around : Stmt := top 41
abbrev N_law_around : List Str := ["_law_tree_here", "_law_least"]
theorem sc_law_around : FnScope N_law_around ["_law_tree_here", "_law_least"] (defScope s_law_around) := ⟨rfl, rfl, rfl, by decide +kernel, rfl, by decide +kernel, by decide +kernel⟩
abbrev s_law_texts : Stmt := top 42
abbrev N_law_texts : List Str := ["_law_tree_here", "_law_level_here", "_law_left"]
theorem sc_law_texts : FnScope N_law_texts ["_law_tree_here"] (defScope s_law_texts) := ⟨rfl, rfl, rfl, by decide +kernel, rfl, by decide +kernel, by decide +kernel⟩
abbrev s_law_name : Stmt := top 43
abbrev N_law_name : List Str := ["_law_box", "_law_taken", "_law_letters", "_law_reserved", "_law_name_here", "_law_k", "_law_turn"]
theorem sc_law_name : FnScope N_law_name ["_law_box", "_law_taken"] (defScope s_law_name) := ⟨rfl, rfl, rfl, by decide +kernel, rfl, by decide +kernel, by decide +kernel⟩
abbrev s_law_of_kind : Stmt := top 44
abbrev N_law_of_kind : List Str := ["_law_shared_here", "_law_kind", "_law_thing"]
theorem sc_law_of_kind : FnScope N_law_of_kind ["_law_shared_here", "_law_kind"] (defScope s_law_of_kind) := ⟨rfl, rfl, rfl, by decide +kernel, rfl, by decide +kernel, by decide +kernel⟩
abbrev s_law_shared : Stmt := top 45
abbrev N_law_shared : List Str := ["_law_box", "_law_shared_here", "_law_names", "_law_locks", "_law_k", "_law_kind", "_law_name_here"]
theorem sc_law_shared : FnScope N_law_shared ["_law_box"] (defScope s_law_shared) := ⟨rfl, rfl, rfl, by decide +kernel, rfl, by decide +kernel, by decide +kernel⟩
abbrev s_law_instruction : Stmt := top 46
abbrev N_law_instruction : List Str := ["_law_box", "_law_shared_here", "_law_size", "_law_depth", "_law_kind", "_law_places", "_law_tree_here", "_law_letter", "_law_place", "_law_names", "_law_name_here"]
theorem sc_law_instruction : FnScope N_law_instruction ["_law_box", "_law_shared_here", "_law_size", "_law_depth"] (defScope s_law_instruction) := ⟨rfl, rfl, rfl, by decide +kernel, rfl, by decide +kernel, by decide +kernel⟩
abbrev s_law_thread : Stmt := top 47
abbrev N_law_thread : List Str := ["_law_box", "_law_shared_here", "_law_most", "_law_depth", "_law_size", "_law_thread_here", "_law_k", "_law_first", "_law_last", "_law_again"]
theorem sc_law_thread : FnScope N_law_thread ["_law_box", "_law_shared_here", "_law_most", "_law_depth"] (defScope s_law_thread) := ⟨rfl, rfl, rfl, by decide +kernel, rfl, by decide +kernel, by decide +kernel⟩
abbrev s_law_program : Stmt := top 48
abbrev N_law_program : List Str := ["_law_box", "_law_threads", "_law_most", "_law_depth", "_law_shared_here", "_law_count", "_law_k"]
theorem sc_law_program : FnScope N_law_program ["_law_box", "_law_threads", "_law_most", "_law_depth"] (defScope s_law_program) := ⟨rfl, rfl, rfl, by decide +kernel, rfl, by decide +kernel, by decide +kernel⟩
abbrev s_law_line : Stmt := top 49
abbrev N_law_line : List Str := ["_law_item", "_law_kind", "_law_part"]
theorem sc_law_line : FnScope N_law_line ["_law_item"] (defScope s_law_line) := ⟨rfl, rfl, rfl, by decide +kernel, rfl, by decide +kernel, by decide +kernel⟩
abbrev s_law_lines : Stmt := top 50
abbrev N_law_lines : List Str := ["_law_program_here", "_law_lines_here", "_law_thing", "_law_thread_here", "_law_item"]
theorem sc_law_lines : FnScope N_law_lines ["_law_program_here"] (defScope s_law_lines) := ⟨rfl, rfl, rfl, by decide +kernel, rfl, by decide +kernel, by decide +kernel⟩
abbrev s_law_fault : Stmt := top 51
abbrev N_law_fault : List Str := ["_law_text", "wrong"]
theorem sc_law_fault : FnScope N_law_fault ["_law_text"] (defScope s_law_fault) := ⟨rfl, rfl, rfl, by decide +kernel, rfl, by decide +kernel, by decide +kernel⟩
abbrev s_law_bad_shared : Stmt := top 52
abbrev N_law_bad_shared : List Str := ["_law_box", "_law_shared_here", "_law_name_here", "_law_lines_here"]
theorem sc_law_bad_shared : FnScope N_law_bad_shared ["_law_box", "_law_shared_here"] (defScope s_law_bad_shared) := ⟨rfl, rfl, rfl, by decide +kernel, rfl, by decide +kernel, by decide +kernel⟩
abbrev s_law_bad_instruction : Stmt := top 53
abbrev N_law_bad_instruction : List Str := ["_law_box", "_law_size", "_law_lines_here"]
theorem sc_law_bad_instruction : FnScope N_law_bad_instruction ["_law_box", "_law_size"] (defScope s_law_bad_instruction) := ⟨rfl, rfl, rfl, by decide +kernel, rfl, by decide +kernel, by decide +kernel⟩
abbrev s_law_texts_of : Stmt := top 54
abbrev N_law_texts_of : List Str := ["_law_program_here", "_law_line_here"]
theorem sc_law_texts_of : FnScope N_law_texts_of ["_law_program_here"] (defScope s_law_texts_of) := ⟨rfl, rfl, rfl, by decide +kernel, rfl, by decide +kernel, by decide +kernel⟩
abbrev s_law_is_open : Stmt := top 55
abbrev N_law_is_open : List Str := ["_law_thread_here", "_law_at", "_law_item"]
theorem sc_law_is_open : FnScope N_law_is_open ["_law_thread_here", "_law_at"] (defScope s_law_is_open) := ⟨rfl, rfl, rfl, by decide +kernel, rfl, by decide +kernel, by decide +kernel⟩
abbrev s_law_too_many : Stmt := top 56
abbrev N_law_too_many : List Str := ["_law_box", "_law_program_here", "_law_lines_here", "_law_things", "_law_kind", "_law_more", "_law_k", "_law_thread_here", "_law_first", "_law_at", "_law_word"]
theorem sc_law_too_many : FnScope N_law_too_many ["_law_box", "_law_program_here", "_law_lines_here"] (defScope s_law_too_many) := ⟨rfl, rfl, rfl, by decide +kernel, rfl, by decide +kernel, by decide +kernel⟩
abbrev s_law : Stmt := top 57
abbrev N_law : List Str := ["_law_script", "_law_box", "_law_program_here", "_law_lines_here", "_law_things", "_law_made", "_law_at", "_law_word", "_law_bad", "_law_which", "_law_first", "_law_k", "_law_size"]
theorem sc_law : FnScope N_law ["_law_script"] (defScope s_law) := ⟨rfl, rfl, rfl, by decide +kernel, rfl, by decide +kernel, by decide +kernel⟩
end K10
set_option linter.all false
set_option maxRecDepth 100000
set_option maxHeartbeats 4000000
/-! The layer of rules that the proofs below use: as HandS's, but over tracked lists and tuples alone, new heaps told by what they keep. -/
namespace K10
open PySem PySem.Spec PyProof.Rows L2
/-! ### heaps -/
structure New (p : Addr) (o : HO) (H H1 : Hp) : Prop where
  fr : H p = none
  at_ : H1 p = some o
  kp : Same H H1
structure Chg (p : Addr) (o : HO) (H H1 : Hp) : Prop where
  at_ : H1 p = some o
  kp : ∀ a u, a ≠ p → H a = some u → H1 a = some u
def nw (o : HO) (H : Hp) (Q : V → Hp → Prop) : Prop := ∀ p H1, New p o H H1 → Q (.ref p) H1
def cg (p : Addr) (o : HO) (H : Hp) (k : Hp → Prop) : Prop := ∀ H1, Chg p o H H1 → k H1
theorem New.of {H : Hp} {p : Addr} {o : HO} (h : H p = none) : New p o H (upd H p o) := ⟨h, upd_same, fun a u e => by rw [upd_ne (ne_of_none e h)]; exact e⟩
theorem Chg.of {H : Hp} {p : Addr} {o : HO} : Chg p o H (upd H p o) := ⟨upd_same, fun a u n e => by rw [upd_ne n]; exact e⟩
theorem nw_el {o : HO} {H : Hp} {Q : V → Hp → Prop} (h : nw o H Q) : ∀ p, H p = none → Q (.ref p) (upd H p o) := fun p hp => h p _ (.of hp)
theorem cg_el {p : Addr} {o : HO} {H : Hp} {k : Hp → Prop} (h : cg p o H k) : k (upd H p o) := h _ .of
/-! ### weakening -/
section
variable {X : Cx} {e : Expr} {t t' : TE}
theorem PE.imp (h : PE X e t) (w : ∀ σ H Q, t' σ H Q → t σ H Q) : PE X e t' := ⟨fun pins s σ H Q I q => h.run pins s σ H Q I (w _ _ _ q)⟩
theorem OpR.imp {f : Value → Value → Sem Value} {r r' : R2} (h : OpR X f r) (w : ∀ x y H Q, r' x y H Q → r x y H Q) : OpR X f r' :=
  fun pins s σ H x y v u Q I rx ry q => h pins s σ H x y v u Q I rx ry (w _ _ _ _ q)
theorem IxR.imp {r r' : R2} (h : IxR X r) (w : ∀ x y H Q, r' x y H Q → r x y H Q) : IxR X r' :=
  fun a b pins s σ H x y v u Q I rx ry q => h a b pins s σ H x y v u Q I rx ry (w _ _ _ _ q)
theorem CallR.imp {f : Value} {r r' : List V → Hp → VK → Prop} (h : CallR X f r) (w : ∀ x H Q, r' x H Q → r x H Q) : CallR X f r' :=
  fun pins s σ H x v Q I rx q => h pins s σ H x v Q I rx (w _ _ _ q)
theorem SlR.imp {r r' : V → Option Int → Option Int → Hp → VK → Prop} (h : SlR X r) (w : ∀ x a b H Q, r' x a b H Q → r x a b H Q) : SlR X r' :=
  fun pins s σ H x v vl vu lo hi sl Q I rx hs pl pu q => h pins s σ H x v vl vu lo hi sl Q I rx hs pl pu (w _ _ _ _ _ q)
theorem PI.imp {tg it : Expr} {w w' : TI} (h : PI X tg it w) (z : ∀ σ H R, w' σ H R → w σ H R) : PI X tg it w' := ⟨fun pins s σ H R I q => h.run pins s σ H R I (z _ _ _ q)⟩
theorem PG.imp {tg : Expr} {g g' : TG} (h : PG X tg g) (z : ∀ v σ H R, g' v σ H R → g v σ H R) : PG X tg g' := ⟨fun pins s σ H v u Q I r q => h.run pins s σ H v u Q I r (z _ _ _ _ q)⟩
end
/-! ### displays, items, slices, lengths -/
def xTup (t : TA) : TE := fun σ H Q => t σ H fun xs H1 => xs.length ≤ 100 ∧ nw (.tup xs) H1 Q
def xLst (t : TA) : TE := fun σ H Q => t σ H fun xs H1 => xs.length ≤ 100 ∧ nw (.lst xs) H1 Q
def xIxL : R2 := fun x y H Q => ∃ p i, x = .ref p ∧ y = .int i ∧ ∃ xs, H p = some (.lst xs) ∧ ∃ v, atI xs i = some v ∧ Q v H
def xIxT : R2 := fun x y H Q => ∃ p i, x = .ref p ∧ y = .int i ∧ ∃ xs, H p = some (.tup xs) ∧ ∃ v, atI xs i = some v ∧ Q v H
def xIxK (K : PySem.W.Frag) : R2 := fun x y H Q => ∃ p i, x = .ref p ∧ y = .int i ∧ ∃ xs, SqT K H p xs ∧ ∃ v, atI xs i = some v ∧ Q v H
def xIxS : R2 := fun x y H Q => ∃ z i, x = .str z ∧ y = .int i ∧ z.length ≤ sizeLine ∧ ∃ c, atI z.cps.toList i = some c ∧ Q (.str ⟨#[c]⟩) H
def xLenL : List V → Hp → VK → Prop := fun vs H Q => ∃ p, vs = [.ref p] ∧ ∃ xs, H p = some (.lst xs) ∧ Q (.int xs.length) H
def xLenT : List V → Hp → VK → Prop := fun vs H Q => ∃ p, vs = [.ref p] ∧ ∃ xs, H p = some (.tup xs) ∧ Q (.int xs.length) H
def xLenK (K : PySem.W.Frag) : List V → Hp → VK → Prop := fun vs H Q => ∃ p, vs = [.ref p] ∧ ∃ xs, SqT K H p xs ∧ Q (.int xs.length) H
def xLenS : List V → Hp → VK → Prop := fun vs H Q => ∃ z : Str, vs = [.str z] ∧ z.length ≤ sizeLine ∧ Q (.int z.length) H
def xSlL : V → Option Int → Option Int → Hp → VK → Prop := fun x lo hi H Q => ∃ p, x = .ref p ∧ ∃ xs, H p = some (.lst xs) ∧ nw (.lst (cutV xs lo hi)) H Q
/-- a slice of a tuple: the tuple itself, or a new one -/
def xSlT : V → Option Int → Option Int → Hp → VK → Prop := fun x lo hi H Q => ∃ p, x = .ref p ∧ ∃ xs, H p = some (.tup xs) ∧ ∀ q H1, Same H H1 → H1 q = some (.tup (cutV xs lo hi)) → Q (.ref q) H1
def xSlS : V → Option Int → Option Int → Hp → VK → Prop := fun x lo hi H Q => ∃ z, x = .str z ∧ z.length ≤ sizeLine ∧ Q (.str (cutS z lo hi)) H
def xInL (neg : Bool) : R2 := fun x y H Q => ∃ p, y = .ref p ∧ ∃ xs, H p = some (.lst xs) ∧ flatV x = true ∧ xs.all flatV = true ∧ Q (.bl (if neg then !inV x xs else inV x xs)) H
def xInT (neg : Bool) : R2 := fun x y H Q => ∃ p, y = .ref p ∧ ∃ xs, H p = some (.tup xs) ∧ flatV x = true ∧ xs.all flatV = true ∧ Q (.bl (if neg then !inV x xs else inV x xs)) H
def xInK (K : PySem.W.Frag) (neg : Bool) : R2 := fun x y H Q => ∃ p, y = .ref p ∧ ∃ xs, SqT K H p xs ∧ flatV x = true ∧ xs.all flatV = true ∧ Q (.bl (if neg then !inV x xs else inV x xs)) H
def xCat : R2 := fun x y H Q => ∃ l b, x = .ref l ∧ y = .ref b ∧ ∃ xs, H l = some (.lst xs) ∧ ∃ ys, H b = some (.lst ys) ∧ xs.length + ys.length ≤ sizeLine ∧ nw (.lst (xs ++ ys)) H Q
def xRep : R2 := fun x y H Q => ∃ l k, x = .ref l ∧ y = .int k ∧ ∃ xs, H l = some (.lst xs) ∧ 0 ≤ k ∧ k < 100 ∧ xs.length ≤ 100 ∧ nw (.lst (List.replicate k.toNat xs).flatten) H Q
def xCatT : R2 := fun x y H Q => ∃ a b, x = .ref a ∧ y = .ref b ∧ ∃ xs, H a = some (.tup xs) ∧ ∃ ys, H b = some (.tup ys) ∧ xs ≠ [] ∧ ys ≠ [] ∧ xs.length + ys.length ≤ sizeLine ∧ nw (.tup (xs ++ ys)) H Q
def xTupL : List V → Hp → VK → Prop := fun vs H Q => ∃ p, vs = [.ref p] ∧ ∃ xs, H p = some (.lst xs) ∧ nw (.tup xs) H Q
def xSetL : TSet := fun o i v H Q => ∃ p k, o = .ref p ∧ i = .int k ∧ ∃ xs, H p = some (.lst xs) ∧ ∃ j, ixN xs.length k = some j ∧ cg p (.lst (xs.set j v)) H Q
def xIntS : List V → Hp → VK → Prop := fun xs H Q => ∃ a, xs = [.str a] ∧ ∃ n, PySem.intText? a = some n ∧ a.length ≤ 640 ∧ Q (.int n) H
def xIntI : List V → Hp → VK → Prop := fun xs H Q => ∃ i, xs = [.int i] ∧ Q (.int i) H
def xIntB : List V → Hp → VK → Prop := fun xs H Q => ∃ k, xs = [.bl k] ∧ Q (.int (if k then 1 else 0)) H
/-- o.append(e) -/
def xApp (to : TE) (te : TE) : TE := fun σ H Q => to σ H fun x H1 => ∃ p, x = .ref p ∧ (∃ xs, H1 p = some (.lst xs)) ∧ te σ H1 fun y H2 => ∃ xs, H2 p = some (.lst xs) ∧ xs.length < sizeLine ∧ cg p (.lst (xs ++ [y])) H2 fun H3 => Q .non H3
/-- sep.join(xs) -/
def xJoin (to te : TE) : TE := fun σ H Q => to σ H fun x H1 => ∃ a, x = .str a ∧ te σ H1 fun y H2 => ∃ p, y = .ref p ∧ ∃ ys : List Str, H2 p = some (.lst (ys.map V.str)) ∧ (ys.map (·.length)).sum + ys.length * a.length ≤ 16777216 ∧ Q (.str (Txt.join a ys)) H2
def xSplit (to te : TE) : TE := fun σ H Q => to σ H fun x H1 => ∃ a, x = .str a ∧ te σ H1 fun y H2 => ∃ b, y = .str b ∧ (b.length == 0) = false ∧ a.length + 2 ≤ sizeLine ∧ nw (.lst ((Txt.split a b).map V.str)) H2 Q
def xFld (K : PySem.W.Frag) (ta : TE) (f : Str) : TE := fun σ H Q => ta σ H fun x H1 => ∃ a, x = .ref a ∧ ∃ C dx fs, H1 a = some (.ins C dx fs) ∧ Cls K C ∧ NoAttr K C f ∧ ∃ v, fs.lookup f = some v ∧ Q v H1
def xSetF (K : PySem.W.Frag) (ta tv : TE) (f : Str) : TS := fun D σ H => tv σ H fun y H1 => ta σ H1 fun x H2 => ∃ a, x = .ref a ∧ ∃ C dx fs, H2 a = some (.ins C dx fs) ∧ Cls K C ∧ NoAttr K C f ∧ fs.length ≤ 100 ∧ cg a (.ins C dx (putF f y fs)) H2 fun H3 => D.nx σ H3
/-- self.f += e, ints -/
def xAugF (K : PySem.W.Frag) (ta tv : TE) (g : Int → Int → Int) (f : Str) : TS := fun D σ H => ta σ H fun x H1 => ∃ a, x = .ref a ∧ ∃ C dx fs, H1 a = some (.ins C dx fs) ∧ Cls K C ∧ NoAttr K C f ∧ fs.length ≤ 100 ∧ ∃ i, fs.lookup f = some (.int i) ∧
  tv σ H1 fun y H2 => ∃ j, y = .int j ∧ H2 = H1 ∧ cg a (.ins C dx (putF f (.int (g i j)) fs)) H2 fun H3 => D.nx σ H3
theorem le_line {n : Nat} (h : n ≤ 1000000) : n ≤ sizeLine := Nat.le_trans h (by decide)
theorem lt_line {n : Nat} (h : n < 1000000) : n < sizeLine := Nat.lt_of_lt_of_le h (by decide)


/-! ### a reading under a weaker end -/
def mo (t : TE) : TE := fun σ H Q => ∃ Q0 : VK, t σ H Q0 ∧ ∀ v H1, Q0 v H1 → Q v H1
def moA (t : TA) : TA := fun σ H Q => ∃ Q0 : List V → Hp → Prop, t σ H Q0 ∧ ∀ v H1, Q0 v H1 → Q v H1
section
variable {X : Cx} {a b o e i l lo hi v : Expr} {es : List Expr} {pos apos p p2 cpos p' : Pos} {t : TA} {to te ta tb tv : TE} {x f : Str}
theorem pe_mo (h : PE X e te) : PE X e (mo te) := ⟨fun pins s σ H Q I ⟨Q0, q, w⟩ => thn (h.run pins s σ H Q0 I q) fun _ _ ⟨v, H1, I1, r, q1⟩ => ⟨v, H1, I1, r, w _ _ q1⟩⟩
theorem pa_mo (h : PA X es t) : PA X es (moA t) := ⟨fun pos pins s σ H Q I ⟨Q0, q, w⟩ => thn (h.run pos pins s σ H Q0 I q) fun _ _ ⟨v, H1, I1, r, q1⟩ => ⟨v, H1, I1, r, w _ _ q1⟩⟩
theorem px_tup {x1} (h : PA X es t) : PE X (.Tuple es x1 pos) (xTup t) :=
  PE.imp (pe_tup (pa_mo h)) fun σ H Q q => ⟨_, q, fun xs H1 z => ⟨le_line (Nat.le_trans z.1 (by decide)), nw_el z.2⟩⟩
theorem px_lst (h : PA X es t) : PE X (.List es pos) (xLst t) :=
  PE.imp (pe_lst (pa_mo h)) fun σ H Q q => ⟨_, q, fun xs H1 z => ⟨le_line (Nat.le_trans z.1 (by decide)), nw_el z.2⟩⟩
theorem ix_l : IxR X xIxL := IxR.imp ix_list fun _ _ _ _ ⟨p, i, e1, e2, xs, h, v, h1, q⟩ => ⟨p, xs, i, v, e1, e2, SqL.of h, h1, q⟩
theorem ix_t : IxR X xIxT := IxR.imp ix_tup fun _ _ _ _ ⟨p, i, e1, e2, xs, h, v, h1, q⟩ => ⟨p, xs, i, v, e1, e2, SqT.of h, h1, q⟩
theorem ix_k : IxR X (xIxK X.K) := IxR.imp ix_tup fun _ _ _ _ ⟨p, i, e1, e2, xs, h, v, h1, q⟩ => ⟨p, xs, i, v, e1, e2, h, h1, q⟩
theorem ix_s : IxR X xIxS := IxR.imp ix_str fun _ _ _ _ ⟨z, i, e1, e2, hz, c, h1, q⟩ => ⟨z, i, c, e1, e2, hz, h1, q⟩
theorem len_l : CallR X (.builtin "len") xLenL := CallR.imp call_len_seq fun _ _ _ ⟨p, e, xs, h, q⟩ => ⟨p, xs, e, .inl (SqL.of h), q⟩
theorem len_t : CallR X (.builtin "len") xLenT := CallR.imp call_len_seq fun _ _ _ ⟨p, e, xs, h, q⟩ => ⟨p, xs, e, .inr (SqT.of h), q⟩
theorem len_k : CallR X (.builtin "len") (xLenK X.K) := CallR.imp call_len_seq fun _ _ _ ⟨p, e, xs, h, q⟩ => ⟨p, xs, e, .inr h, q⟩
theorem len_s : CallR X (.builtin "len") xLenS := call_len_str
theorem sl_l : SlR X xSlL := SlR.imp sl_list fun _ _ _ _ _ ⟨p, e, xs, h, q⟩ => ⟨p, xs, e, SqL.of h, nw_el q⟩
theorem sl_s : SlR X xSlS := sl_str
theorem sl_t : SlR X xSlT := SlR.imp sl_tupA fun x lo hi H Q ⟨p, e, xs, h, q⟩ => ⟨p, xs, e, SqT.of h, fun ⟨z1, z2⟩ => q p H (Same.refl H) (by rw [h]; unfold cutV; rw [z1, z2, List.drop_zero, Nat.sub_zero, List.take_length]),
  fun _ r hr => q r _ (New.of hr).kp upd_same⟩
theorem in_l : OpR X (compareOp .In) (xInL false) := OpR.imp op_in_seq fun _ _ _ _ ⟨p, e, xs, h, f1, f2, q⟩ => ⟨p, xs, e, .inl (SqL.of h), f1, f2, q⟩
theorem in_t : OpR X (compareOp .In) (xInT false) := OpR.imp op_in_seq fun _ _ _ _ ⟨p, e, xs, h, f1, f2, q⟩ => ⟨p, xs, e, .inr (SqT.of h), f1, f2, q⟩
theorem in_k : OpR X (compareOp .In) (xInK X.K false) := OpR.imp op_in_seq fun _ _ _ _ ⟨p, e, xs, h, f1, f2, q⟩ => ⟨p, xs, e, .inr h, f1, f2, q⟩
theorem ni_l : OpR X (compareOp .NotIn) (xInL true) := OpR.imp op_notIn_seq fun _ _ _ _ ⟨p, e, xs, h, f1, f2, q⟩ => ⟨p, xs, e, .inl (SqL.of h), f1, f2, q⟩
theorem ni_k : OpR X (compareOp .NotIn) (xInK X.K true) := OpR.imp op_notIn_seq fun _ _ _ _ ⟨p, e, xs, h, f1, f2, q⟩ => ⟨p, xs, e, .inr h, f1, f2, q⟩
theorem cat_l : OpR X (binaryOp .Add) xCat := OpR.imp op_cat fun _ _ _ _ ⟨l, b, e1, e2, xs, h, ys, h2, z, q⟩ => ⟨l, b, xs, ys, e1, e2, h, h2, z, nw_el q⟩
theorem cat_t : OpR X (binaryOp .Add) xCatT := OpR.imp op_catA fun _ _ _ _ ⟨l, b, e1, e2, xs, h, ys, h2, n1, n2, z, q⟩ => ⟨l, b, xs, ys, e1, e2, SqT.of h, SqT.of h2, z, fun w => absurd w n1, fun _ w => absurd w n2, fun _ _ => nw_el q⟩
theorem rep_l : OpR X (binaryOp .Mult) xRep := OpR.imp op_rep fun _ _ _ _ ⟨l, k, e1, e2, xs, h, k0, k1, z, q⟩ => ⟨l, k, xs, e1, e2, h, by omega, by omega, le_line (by
  have h1 : k.toNat ≤ 100 := by omega
  have h2 := Nat.mul_le_mul z h1
  omega), nw_el q⟩
theorem tup_l : CallR X (.type "tuple") xTupL := CallR.imp call_tuple_of fun _ _ _ ⟨p, e, xs, h, q⟩ => ⟨p, xs, e, .inl ⟨SqL.of h, nw_el q⟩⟩
theorem set_l : PSet X xSetL := fun pins s σ H o i v ov iv u Q I r1 r2 r3 ⟨p, k, e1, e2, xs, h, j, hj, q⟩ => set_list pins s σ H o i v ov iv u Q I r1 r2 r3 ⟨p, xs, k, j, e1, e2, h, hj, cg_el q⟩
theorem int_s : CallR X (.type "int") xIntS := CallR.imp call_int_str fun _ _ _ ⟨a, e, n, h, z, q⟩ => ⟨a, n, e, h, z, q⟩
theorem int_i : CallR X (.type "int") xIntI := CallR.imp call_int1 fun _ _ _ ⟨a, e, q⟩ => .inl ⟨a, e, q⟩
theorem int_b : CallR X (.type "int") xIntB := CallR.imp call_int1 fun _ _ _ ⟨a, e, q⟩ => .inr ⟨a, e, q⟩
theorem px_fld (he : PE X e ta) (hb : attributeBase e f X.env (eval e X.env) = eval e X.env) : PE X (.Attribute e f pos) (xFld X.K ta f) :=
  PE.imp (pe_fld (pe_mo he) hb) fun σ H Q q => ⟨_, q, fun x H1 ⟨a, e1, C, dx, fs, h, c, n, v, l, q⟩ => ⟨a, C, dx, fs, v, e1, h, c, n, l, q⟩⟩
theorem PS.imp {st : Stmt} {u u' : TS} (h : PS X st u) (w : ∀ D σ H, u' D σ H → u D σ H) : PS X st u' := ⟨fun pins s σ H D I q => h.run pins s σ H D I (w _ _ _ q)⟩
theorem px_setf (ho : PE X o ta) (hv : PE X v tv) (hs : swapsWith v (some (.Attribute o f p')) pos.line X.env = pure false) : PS X (.Assign [.Attribute o f p'] v pos) (xSetF X.K ta tv f) :=
  PS.imp (ps_fld (pe_mo ho) (pe_mo hv) hs) fun D σ H q => ⟨_, q, fun y H1 q1 => ⟨_, q1, fun x H2 ⟨a, e1, C, dx, fs, h, c, n, z, q2⟩ => ⟨a, C, dx, fs, e1, h, c, n, Nat.lt_of_le_of_lt z (by decide), cg_el q2⟩⟩⟩
theorem px_app (ho : PE X o to) (he : PE X e te) (hst : starEach [e] X.env = (false, eval e X.env) :: starEach [] X.env := by rfl)
    (hbase : attributeBase o "append" X.env (eval o X.env) = eval o X.env := by rfl) (hline : (apos.endLine == cpos.line) = true := by rfl)
    (hfew : (((backTo cpos (starEach [e] X.env)).all fun x => !x.1) && (backToKw cpos (keywordEach [] X.env)).all (fun x => x.1.isSome) && decide (([e].length + ([] : List Keyword).length + if ([] : List Keyword).isEmpty = true then 0 else 1) < 30)) = true := by rfl) : PE X (.Call (.Attribute o "append" apos) [e] [] cpos) (xApp to te) :=
  PE.imp (pe_bm PySem.F.plainAttrs_list PySem.F.slot_list_append PySem.F.type_list_append mt_append (pe_mo ho) (pa_cons (pe_mo he) pa_nil hst) (hbase := hbase) (hfew := hfew) (hline := hline) (hs := hst)) fun σ H Q q =>
    ⟨_, q, fun x H1 ⟨p, e1, ⟨xs, h⟩, q1⟩ => ⟨by subst e1; exact .inl ⟨rfl, xs, SqL.of h⟩, ⟨_, q1, fun y H2 ⟨ys, h2, z, q2⟩ => ⟨p, ys, y, e1, rfl, h2, z, cg_el q2⟩⟩⟩⟩
theorem px_join (ho : PE X o to) (he : PE X e te) (hs : starEach [e] X.env = [(false, eval e X.env)] := by rfl) (hbase : attributeBase o "join" X.env (eval o X.env) = eval o X.env := by rfl) (hline : (apos.endLine == pos.line) = true := by rfl) :
    PE X (.Call (.Attribute o "join" apos) [e] [] pos) (xJoin to te) :=
  PE.imp (pe_join (pe_mo ho) (pe_mo he) hs hbase hline) fun σ H Q q => ⟨_, q, fun x H1 ⟨a, e1, q1⟩ => ⟨⟨a, e1⟩, _, q1, fun y H2 ⟨p, e2, ys, h, z, q2⟩ => ⟨a, p, ys, e1, by rw [e2], .inl (SqL.of h), z, q2⟩⟩⟩
theorem px_split (ho : PE X o to) (he : PE X e te) (hs : starEach [e] X.env = [(false, eval e X.env)] := by rfl) (hbase : attributeBase o "split" X.env (eval o X.env) = eval o X.env := by rfl) (hline : (apos.endLine == pos.line) = true := by rfl) :
    PE X (.Call (.Attribute o "split" apos) [e] [] pos) (xSplit to te) :=
  PE.imp (pe_split (pe_mo ho) (pe_mo he) hs hbase hline) fun σ H Q q => ⟨_, q, fun x H1 ⟨a, e1, q1⟩ => ⟨⟨a, e1⟩, _, q1, fun y H2 ⟨b, e2, z1, z2, q2⟩ => ⟨a, b, e1, by rw [e2], z1, z2, nw_el q2⟩⟩⟩
/-! ### walks and targets -/
def xiL (K : PySem.W.Frag) (tl : TE) : TI := fun σ H R => tl σ H fun x H1 => ∃ a, x = .ref a ∧ (∃ xs, H1 a = some (.lst xs)) ∧ R (Itl K a) H1
def xiT (K : PySem.W.Frag) (tl : TE) : TI := fun σ H R => tl σ H fun x H1 => ∃ a, x = .ref a ∧ (∃ xs, H1 a = some (.tup xs)) ∧ R (Itt K a) H1
def xiE (K : PySem.W.Frag) (ta : TE) : TI := fun σ H R => ta σ H fun x H1 => ∃ a, x = .ref a ∧ (∃ xs, H1 a = some (.lst xs)) ∧ R (Ite K a) H1
def xgT (K : PySem.W.Frag) (n : Nat) (t : TGs) : TG := fun v σ H Q => ∃ a, v = .ref a ∧ ∃ xs, H a = some (.tup xs) ∧ xs.length = n ∧ t xs σ H Q
def xgL (K : PySem.W.Frag) (n : Nat) (t : TGs) : TG := fun v σ H Q => ∃ a, v = .ref a ∧ ∃ xs, H a = some (.lst xs) ∧ xs.length = n ∧ t xs σ H Q
theorem pi_l {tg : Expr} (h : PE X l te) : PI X tg l (xiL X.K te) := PI.imp (pi_list (pe_mo h)) fun σ H R q => ⟨_, q, fun x H1 ⟨a, e, ⟨xs, h⟩, q⟩ => ⟨a, e, ⟨xs, SqL.of h⟩, q⟩⟩
theorem pi_t {tg : Expr} (h : PE X l te) : PI X tg l (xiT X.K te) := PI.imp (pi_tup (pe_mo h)) fun σ H R q => ⟨_, q, fun x H1 ⟨a, e, ⟨xs, h⟩, q⟩ => ⟨a, e, ⟨xs, SqT.of h⟩, q⟩⟩
theorem pi_e {elts : List Expr} {kk : Nat} {tpos : Pos} (hg : Gl X "enumerate") (hm : X.mg "enumerate" = none) (h : PE X e te) (hs : starEach [e] X.env = [(false, eval e X.env)] := by rfl) (hst : starEach [e] X.env = (false, eval e X.env) :: starEach [] X.env := by rfl) :
    PI X (.Tuple elts kk tpos) (.Call (.Name "enumerate" p) [e] [] pos) (xiE X.K te) :=
  PI.imp (pi_enum hg hm (pa_cons (pe_mo h) pa_nil hst) hs) fun σ H R q => ⟨_, q, fun x H1 ⟨a, e, ⟨xs, h⟩, q⟩ => ⟨a, xs, by rw [e], SqL.of h, q⟩⟩
theorem pg_t {k n : Nat} {tt : TGs} (hc : X.calm = true) (h : PGs X es tt) (hn : (assignEach es X.env).length = n := by rfl) (hst : (assignEach es X.env).findIdx? (·.1) = none := by rfl) : PG X (.Tuple es k pos) (xgT X.K n tt) :=
  PG.imp (pg_tup hc h hn hst) fun v σ H R ⟨a, e, xs, h, z, q⟩ => ⟨a, xs, e, SqT.of h, z, q⟩
theorem pg_l {k n : Nat} {tt : TGs} (hc : X.calm = true) (h : PGs X es tt) (hn : (assignEach es X.env).length = n := by rfl) (hst : (assignEach es X.env).findIdx? (·.1) = none := by rfl) : PG X (.Tuple es k pos) (xgL X.K n tt) :=
  PG.imp (pg_unl hc h hn hst) fun v σ H R ⟨a, e, xs, h, z, q⟩ => ⟨a, xs, e, SqL.of h, z, q⟩
end
end K10
set_option linter.all false
set_option maxRecDepth 100000
set_option maxHeartbeats 4000000
namespace K10
open PySem PySem.Spec PyProof.Rows L2
abbrev CXE (P : Program) (w : World) : CXT := L2.CX P w
/-! ### a def under its name, a method, a class: what callers use -/
structure Cl (P : Program) (w : World) (K : PySem.W.Frag) (mg : Str → Option Value) (base : Heap) (CX : CXT) (k : Nat) (x : Str) (sp : Sp) : Prop where
  ex : ∃ (f : Addr) (fd : FuncData) (ps : List Str), FnOk P w K mg base CX k f fd ps sp ∧ mg x = some (.ref f) ∧ PySem.W.keepIn K (.ref f) = true ∧ Binds K fd ps []
structure Me (P : Program) (w : World) (K : PySem.W.Frag) (mg : Str → Option Value) (base : Heap) (CX : CXT) (k : Nat) (C : Addr) (m : Str) (sp : Sp) : Prop where
  ex : ∃ (f : Addr) (fd : FuncData) (ps : List Str), Cls K C ∧ Meth K C m f ∧ FnOk P w K mg base CX k f fd ps sp ∧ Binds K fd ps []
structure Mq (P : Program) (w : World) (K : PySem.W.Frag) (mg : Str → Option Value) (base : Heap) (k : Nat) (x : Str) (C : Addr) (sp : Sp) : Prop where
  ex : ∃ (f : Addr) (fd : FuncData) (ps : List Str), Mk K C f ∧ FnOk P w K mg base L2.CX0 k f fd ps sp ∧ mg x = some (.ref C) ∧ Binds K fd ps []
def xCall (sp : Sp) (E : XK) (t : TA) : TE := fun σ H Q => t σ H fun vs H1 => sp vs H1 Q E
def xMeth (C : Addr) (m : Str) (sp : Sp) (E : XK) (ta : TE) (t : TA) : TE := fun σ H Q => ta σ H fun x H1 => ∃ a, x = .ref a ∧ ∃ dx fs, H1 a = some (.ins C dx fs) ∧ fs.lookup m = none ∧ t σ H1 fun vs H2 => sp (x :: vs) H2 Q E
def xMeth0 (C : Addr) (m : Str) (sp : Sp) (E : XK) (ta : TE) : TE := fun σ H Q => ta σ H fun x H1 => ∃ a, x = .ref a ∧ ∃ dx fs, H1 a = some (.ins C dx fs) ∧ fs.lookup m = none ∧ sp [x] H1 Q E
def xMake (C : Addr) (sp : Sp) (t : TA) : TE := fun σ H Q => t σ H fun vs H1 => ∀ x dx H2, New x (.ins C dx []) H1 H2 → H1 dx = none → sp (.ref x :: vs) H2 (fun v H3 => v = .non ∧ Q (.ref x) H3) E0
section
variable {X : Cx} {CX : CXT} {k j : Nat} {C : Addr} {x m : Str} {sp : Sp} {E : XK} {p pos apos : Pos} {e o : Expr} {es : List Expr} {ta : TE} {t : TA}
theorem px_cE (c : Cl X.prog X.w X.K X.mg X.base CX k x sp) (hr : Room j X.A) (hk : k ≤ j) (hx : Passes CX X E) (hg : Gl X x) (ha : PA X (e :: es) t)
    (hdb : (x == ("__debug__" : Str)) = false := by decide) (he : starEach (e :: es) X.env = (false, eval e X.env) :: starEach es X.env := by rfl) (hpl : (backTo pos (starEach es X.env)).any (·.1) = false := by rfl) :
    PE X (.Call (.Name x p) (e :: es) [] pos) (xCall sp E t) := by
  obtain ⟨f, fd, ps, F, hm, kp, b⟩ := c.ex
  exact PE.imp (pe_call F (hr.mono hk) hg hm kp b .nil hx (pa_mo ha) hdb he hpl) fun σ H Q q => ⟨_, q, fun vs H1 z => by
    show sp (vs ++ []) H1 Q E
    rw [List.append_nil]
    exact z⟩
theorem px_c (c : Cl X.prog X.w X.K X.mg X.base L2.CX0 k x sp) (hr : Room j X.A) (hk : k ≤ j) (hg : Gl X x) (ha : PA X (e :: es) t)
    (hdb : (x == ("__debug__" : Str)) = false := by decide) (he : starEach (e :: es) X.env = (false, eval e X.env) :: starEach es X.env := by rfl) (hpl : (backTo pos (starEach es X.env)).any (·.1) = false := by rfl) :
    PE X (.Call (.Name x p) (e :: es) [] pos) (xCall sp L2.E0 t) := px_cE c hr hk L2.pass0 hg ha hdb he hpl
theorem px_mE {pl : Sem Bool} (c : Me X.prog X.w X.K X.mg X.base CX k C m sp) (hr : Room j X.A) (hk : k ≤ j) (hx : Passes CX X E) (he : PE X o ta) (ha : PA X (e :: es) t)
    (hst : starEach (e :: es) X.env = (false, eval e X.env) :: starEach es X.env := by rfl) (hpl : (backTo pos (starEach es X.env)).any (·.1) = false := by rfl)
    (ht : eval (.Call (.Attribute o m apos) (e :: es) [] pos) X.env = (do
      let ov ← eval o X.env
      standAt apos.atName
      let (f, first) ← holding [ov] (getMethod ov m pl)
      callWith pos f first (backTo pos (starEach (e :: es) X.env)) (backToKw pos (keywordEach [] X.env))) := by rfl) :
    PE X (.Call (.Attribute o m apos) (e :: es) [] pos) (xMeth C m sp E ta t) := by
  obtain ⟨f, fd, ps, hc, hm, F, b⟩ := c.ex
  exact PE.imp (pe_meth (pl := pl) (pe_mo he) hc hm F (hr.mono hk) b .nil hx (pa_mo ha) hst hpl ht) fun σ H Q q =>
    ⟨_, q, fun x H1 ⟨a, e1, dx, fs, h, l, q1⟩ => ⟨a, dx, fs, e1, h, l, _, q1, fun vs H2 z => by
      show sp (x :: (vs ++ [])) H2 Q E
      rw [List.append_nil]
      exact z⟩⟩
theorem px_m {pl : Sem Bool} (c : Me X.prog X.w X.K X.mg X.base L2.CX0 k C m sp) (hr : Room j X.A) (hk : k ≤ j) (he : PE X o ta) (ha : PA X (e :: es) t)
    (hst : starEach (e :: es) X.env = (false, eval e X.env) :: starEach es X.env := by rfl) (hpl : (backTo pos (starEach es X.env)).any (·.1) = false := by rfl)
    (ht : eval (.Call (.Attribute o m apos) (e :: es) [] pos) X.env = (do
      let ov ← eval o X.env
      standAt apos.atName
      let (f, first) ← holding [ov] (getMethod ov m pl)
      callWith pos f first (backTo pos (starEach (e :: es) X.env)) (backToKw pos (keywordEach [] X.env))) := by rfl) :
    PE X (.Call (.Attribute o m apos) (e :: es) [] pos) (xMeth C m sp L2.E0 ta t) := px_mE (pl := pl) c hr hk L2.pass0 he ha hst hpl ht
theorem px_m0 {pl : Sem Bool} (c : Me X.prog X.w X.K X.mg X.base L2.CX0 k C m sp) (hr : Room j X.A) (hk : k ≤ j) (he : PE X o ta)
    (ht : eval (.Call (.Attribute o m apos) [] [] pos) X.env = (do
      let ov ← eval o X.env
      standAt apos.atName
      let (f, first) ← holding [ov] (getMethod ov m pl)
      callWith pos f first (backTo pos (starEach [] X.env)) (backToKw pos (keywordEach [] X.env))) := by rfl) :
    PE X (.Call (.Attribute o m apos) [] [] pos) (xMeth0 C m sp L2.E0 ta) := by
  obtain ⟨f, fd, ps, hc, hm, F, b⟩ := c.ex
  exact PE.imp (pe_meth0 (pl := pl) (pe_mo he) hc hm F (hr.mono hk) b .nil L2.pass0 ht) fun σ H Q q =>
    ⟨_, q, fun x H1 ⟨a, e1, dx, fs, h, l, q1⟩ => ⟨a, dx, fs, e1, h, l, q1⟩⟩
theorem px_mk (c : Mq X.prog X.w X.K X.mg X.base k x C sp) (hr : Room j X.A) (hk : k + 1 ≤ j) (hg : Gl X x) (ha : PA X (e :: es) t)
    (hdb : (x == ("__debug__" : Str)) = false := by decide) (he : starEach (e :: es) X.env = (false, eval e X.env) :: starEach es X.env := by rfl) (hpl : (backTo pos (starEach es X.env)).any (·.1) = false := by rfl) :
    PE X (.Call (.Name x p) (e :: es) [] pos) (xMake C sp t) := by
  obtain ⟨f, fd, ps, M, F, hm, b⟩ := c.ex
  exact PE.imp (pe_make M F (hr.mono hk) hg hm b .nil L2.pass0 (pa_mo ha) hdb he hpl) fun σ H Q q => ⟨_, q, fun vs H1 z x dx nx nd ne => by
    rw [List.append_nil]
    exact z x dx _ ⟨nx, upd_same, fun a u h => by rw [upd_ne (ne_of_none h nx), upd_ne (ne_of_none h nd)]; exact h⟩ nd⟩
end
/-! ### raise ProgramFault(line, word) -/
/-- the error's own dict -/
def pfF (n : Int) (w : Str) : List (Str × V) := [("word", .str w), ("line", .int n)]
/-- its __init__: from a fresh exception to one with its dict -/
def spPF (C : Addr) : Sp := fun vs H Q _ => ∃ (a : Addr) (n : Int) (w : Str), vs = [.ref a, .int n, .str w] ∧ H a = some (exo a C none) ∧ 0 ≤ n ∧ n < 1000 ∧ w.length ≤ 100 ∧
  ∀ (d : Addr) (H' : Hp), H' a = some (exo a C (some d)) → H' d = some (exd d (pfF n w)) → H d = none → (∀ b o, b ≠ a → H b = some o → H' b = some o) → Q .non H'
structure PF (P : Program) (w : World) (K : PySem.W.Frag) (mg : Str → Option Value) (base : Heap) (C : Addr) : Prop where
  ex : ∃ (fI : Addr) (fd : FuncData) (ps : List Str), OexC K C ∧ PySem.W.findIn K (.ref C) "__init__" = some (some (.ref fI)) ∧ PySem.W.typeIn K (.ref fI) = some (.type "function") ∧
    FnOk P w K mg base L2.CX0 1 fI fd ps (spPF C) ∧ Binds K fd ps [] ∧ mg "ProgramFault" = some (.ref C)
def xRaise (C : Addr) (W : WX) (ta : TA) : TS := fun _ σ H => ta σ H fun vs H1 => ∃ n w, vs = [.int n, .str w] ∧ 0 ≤ n ∧ n < 1000 ∧ w.length ≤ 100 ∧ ∀ d H2, H2 d = some (.xd (pfF n w)) → Same H1 H2 → W (.ref C) (some d) σ H2
section
variable {X : Cx} {k j : Nat} {C : Addr} {W : WX} {p pos pos2 : Pos} {e : Expr} {es : List Expr} {t : TA}
theorem px_raise (hc : X.calm = true) (c : PF X.prog X.w X.K X.mg X.base C) (hr : Room j X.A) (hk : 2 ≤ j) (tk : Takes X W) (hg : Gl X "ProgramFault") (ha : PA X (e :: es) t)
    (he : starEach (e :: es) X.env = (false, eval e X.env) :: starEach es X.env := by rfl) (hpl : (backTo pos (starEach es X.env)).any (·.1) = false := by rfl) :
    PS X (.Raise (some (.Call (.Name "ProgramFault" p) (e :: es) [] pos)) none pos2) (xRaise C W t) := by
  obtain ⟨fI, fd, ps, T, iC, tI, F, b, hm⟩ := c.ex
  refine PS.imp (ps_raise hc tk (pmk_oex T iC tI F (hr.mono hk) b .nil L2.pass0 hg hm (pa_mo ha) (by decide) he hpl)) fun D σ H q => ⟨_, q, fun vs H1 z => ?_⟩
  obtain ⟨n, w, rfl, n0, n1, hw, z⟩ := z
  refine ⟨by show 2 ≤ 1000; decide, fun a na => ⟨a, n, w, rfl, upd_same, n0, n1, hw, fun d H' h1 h2 h3 h4 => ⟨rfl, d, _, h1, h2, ?_, ?_⟩⟩⟩
  · have hda : d ≠ a := by
      intro q
      rw [q, upd_same] at h3
      cases h3
    rw [upd_ne hda] at h3
    exact h3
  · have hda : d ≠ a := by
      intro q
      rw [q, upd_same] at h3
      cases h3
    rw [upd_ne hda] at h3
    refine z d _ upd_same fun b o q => ?_
    have hba := ne_of_none q na
    rw [upd_ne (ne_of_none q h3), del_ne hba]
    exact h4 b o hba (by rw [upd_ne hba]; exact q)
end
/-! ### the written dict KINDS -/
/-- what KINDS says of a word -/
def KAt (K : PySem.W.Frag) (w : World) (a : Addr) (x : Str) (o : Option Str) : Prop :=
  ∃ es n r, K.lookup a = some ⟨.type "dict", none, .dict es n, #[]⟩ ∧ PySem.W.KeysLit w.params es.toList ∧ PySem.W.nsIn K a x = some r ∧ (a == sysModules) = false ∧
    match o with | none => r = none | some s => ∃ u, r = some u ∧ RelV (.str s) u
def xInD (K : PySem.W.Frag) (w : World) : R2 := fun x y H Q => ∃ z p, x = .str z ∧ y = .ref p ∧ ∃ o, KAt K w p z o ∧ Q (.bl o.isSome) H
def xIxD (K : PySem.W.Frag) (w : World) : R2 := fun x y H Q => ∃ p z, x = .ref p ∧ y = .str z ∧ ∃ s, KAt K w p z (some s) ∧ Q (.str s) H
section
variable {X : Cx}
theorem in_d : OpR X (compareOp .In) (xInD X.K X.w) := by
  intro pins s σ H x y v u Q I rx ry h
  obtain ⟨z, p, rfl, rfl, o, ⟨es, n, r, h1, h2, h3, h4, h5⟩, q⟩ := h
  obtain ⟨tk, rfl⟩ := rx
  obtain rfl : u = Value.ref p := ry
  obtain ⟨m, F⟩ := I.fr
  refine PySem.W.topIn_K F I.ok.mod.kin h1 h2 h3 h4 ⟨.bl o.isSome, H, I.tok _, ?_, q⟩
  cases o with
  | none =>
    have e : r = none := h5
    rw [e]
    rfl
  | some s =>
    obtain ⟨u, e, _⟩ := h5
    rw [e]
    rfl
theorem ix_d : IxR X (xIxD X.K X.w) := IxR.imp ix_kdict fun x y H Q ⟨p, z, e1, e2, s, ⟨es, n, r, h1, h2, h3, h4, u, h5, h6⟩, q⟩ => ⟨p, z, .str s, e1, e2, ⟨es, n, u, h1, h2, by rw [h3, h5], h6⟩, q⟩
end
theorem hu64 {A : Around} {k : Nat} (hr : Room k A) : A.units + 64 < cLine := by have := hr.un; omega
/-! ### a field grown in place -/
section
variable {X : Cx} {o v : Expr} {to tv : TE} {p' pos : Pos} {f : Str}
theorem px_augf {g : Int → Int → Int} {op : Operator} (hop : InOp X op fun x y H Q => ∃ i j, x = .int i ∧ y = .int j ∧ Q (.int (g i j)) H) (ho : PE X o to) (hv : PE X v tv) : PS X (.AugAssign (.Attribute o f p') op v pos) (xAugF X.K to tv g f) :=
  PS.imp (ps_fldaug (pe_mo ho) (pe_mo hv) hop) fun D σ H q => ⟨_, q, fun x H1 ⟨a, e1, C, dx, fs, h, c, n, z, i, l, q1⟩ => ⟨a, C, dx, fs, .int i, e1, h, c, n, l, _, q1, fun y H2 ⟨j, e2, e3, q2⟩ => by
    subst e3
    exact ⟨i, j, rfl, e2, dx, fs, h, Nat.lt_of_le_of_lt z (by decide), cg_el q2⟩⟩⟩
end
end K10
set_option linter.all false
set_option maxRecDepth 100000
set_option maxHeartbeats 4000000
namespace K10
open PySem PySem.Spec PyProof.Rows L2
/-! ### small equations for the readings -/
section
variable {a b c d e : V} {l : List V} {n m : Int} {s t : Str} {k j : Bool}
theorem at0 : atI (a :: l) 0 = some a := by
  have e : (0 : Int) = ((0 : Nat) : Int) := rfl
  rw [e]
  exact atI_nat rfl
theorem at1 : atI (a :: b :: l) 1 = some b := by
  have e : (1 : Int) = ((1 : Nat) : Int) := rfl
  rw [e]
  exact atI_nat rfl
theorem at2 : atI (a :: b :: c :: l) 2 = some c := by
  have e : (2 : Int) = ((2 : Nat) : Int) := rfl
  rw [e]
  exact atI_nat rfl
theorem at3 : atI (a :: b :: c :: d :: l) 3 = some d := by
  have e : (3 : Int) = ((3 : Nat) : Int) := rfl
  rw [e]
  exact atI_nat rfl
theorem at4 : atI (a :: b :: c :: d :: e :: l) 4 = some e := by
  have h : (4 : Int) = ((4 : Nat) : Int) := rfl
  rw [h]
  exact atI_nat rfl
theorem ix0 : ixN (a :: l).length 0 = some 0 := by
  unfold ixN
  rw [if_pos (by omega), if_pos (by rw [List.length_cons]; omega)]
  rfl
theorem ix1 : ixN (a :: b :: l).length 1 = some 1 := by
  unfold ixN
  rw [if_pos (by omega), if_pos (by rw [List.length_cons, List.length_cons]; omega)]
  rfl
theorem fl_int : (flatV (.int n) = true) = True := eq_true rfl
theorem fl_str : (flatV (.str s) = true) = True := eq_true rfl
theorem fl_bl : (flatV (.bl k) = true) = True := eq_true rfl
theorem fl_non : (flatV .non = true) = True := eq_true rfl
theorem al_nil : (([] : List V).all flatV = true) = True := eq_true rfl
theorem al_cons : ((a :: l).all flatV = true) = (flatV a = true ∧ l.all flatV = true) := by rw [List.all_cons, Bool.and_eq_true]
theorem lenNil : (([] : List V).length ≤ 100) = True := eq_true (by decide)
theorem len1 : ([a].length ≤ 100) = True := eq_true (by show 1 ≤ 100; decide)
theorem len2 : ([a, b].length ≤ 100) = True := eq_true (by show 2 ≤ 100; decide)
theorem len3 : ([a, b, c].length ≤ 100) = True := eq_true (by show 3 ≤ 100; decide)
theorem len4 : ([a, b, c, d].length ≤ 100) = True := eq_true (by show 4 ≤ 100; decide)
theorem sc_ii : (scal (.int n) (.int m) = true) = True := eq_true rfl
theorem sc_ss : (scal (.str s) (.str t) = true) = True := eq_true rfl
theorem sc_ns : (scal .non (.str t) = true) = True := eq_true rfl
theorem sc_sn : (scal (.str s) .non = true) = True := eq_true rfl
theorem sc_nn : (scal .non .non = true) = True := eq_true rfl
theorem sc_in : (scal (.int n) .non = true) = True := eq_true rfl
theorem sc_si : (scal (.str s) (.int n) = true) = True := eq_true rfl
theorem sc_is : (scal (.int n) (.str s) = true) = True := eq_true rfl
theorem sc_bb : (scal (.bl k) (.bl j) = true) = True := eq_true rfl
end
theorem consV {a b : V} {l m : List V} : ((a :: l : List V) = b :: m) = (a = b ∧ l = m) := List.cons.injEq ..
theorem st_go {N : List Str} {vs : List V} : L2.start N vs = vs.map some ++ List.replicate (N.length - vs.length) none := rfl
/-! ### loops, folded -/
def Lp (J : It) (g : TG) (tb : TS) (D : Ends) (σ : L2.St) (H : Hp) : Prop := ∃ W : Nat → Nat → L2.St → Hp → Prop, (∃ m, W 0 m σ H) ∧ ∀ i m σ H, W i m σ H →
  (J.stop i H ∧ D.nx σ H) ∨ (J.go i H ∧ ∃ N : L2.St → Hp → Prop, (∀ σ' H', N σ' H' → ∃ m', m' < m ∧ W (i + 1) m' σ' H') ∧ ∀ x H', J.yld i H x H' → g x σ H' fun σ2 H2 => tb { D with nx := N, ct := N, bk := D.nx } σ2 H2)
section
variable {K : PySem.W.Frag} {ta : TA} {tl : TE} {g : TG} {tb : TS} {D : Ends} {σ : L2.St} {H : Hp} {a : Addr} {xs : List V}
theorem for_r1 : tFor (iRng1 ta) g tb D σ H = ta σ H fun vs H1 => ∃ j : Int, vs = [.int j] ∧ -(2 ^ 62) ≤ j ∧ j < 2 ^ 62 ∧ Lp (Itr 0 j.toNat) g tb D σ H1 := rfl
theorem for_r2 : tFor (iRng2 ta) g tb D σ H = ta σ H fun vs H1 => ∃ i j : Int, vs = [.int i, .int j] ∧ (-(2 ^ 62) ≤ i ∧ i < 2 ^ 62 ∧ -(2 ^ 62) ≤ j ∧ j < 2 ^ 62) ∧ Lp (Itr i (j - i).toNat) g tb D σ H1 := rfl
theorem for_l : tFor (xiL K tl) g tb D σ H = tl σ H fun x H1 => ∃ a, x = .ref a ∧ (∃ xs, H1 a = some (.lst xs)) ∧ Lp (Itl K a) g tb D σ H1 := rfl
theorem for_t : tFor (xiT K tl) g tb D σ H = tl σ H fun x H1 => ∃ a, x = .ref a ∧ (∃ xs, H1 a = some (.tup xs)) ∧ Lp (Itt K a) g tb D σ H1 := rfl
theorem for_e : tFor (xiE K tl) g tb D σ H = tl σ H fun x H1 => ∃ a, x = .ref a ∧ (∃ xs, H1 a = some (.lst xs)) ∧ Lp (Ite K a) g tb D σ H1 := rfl
theorem lp_r {lo : Int} {n : Nat} (Pv : Nat → L2.St → Hp → Prop) (h0 : Pv 0 σ H)
    (hs : ∀ i σ H, i < n → Pv i σ H → g (.int (lo + i)) σ H fun σ2 H2 => tb { D with nx := Pv (i + 1), ct := Pv (i + 1), bk := D.nx } σ2 H2) (hd : ∀ σ H, Pv n σ H → D.nx σ H) : Lp (Itr lo n) g tb D σ H := for_range Pv h0 hs hd
theorem lp_l (Pv : Nat → L2.St → Hp → Prop) (h0 : Pv 0 σ H) (hl : ∀ i σ H, Pv i σ H → H a = some (.lst xs))
    (hs : ∀ i x σ H, xs[i]? = some x → Pv i σ H → g x σ H fun σ2 H2 => tb { D with nx := Pv (i + 1), ct := Pv (i + 1), bk := D.nx } σ2 H2) (hd : ∀ σ H, Pv xs.length σ H → D.nx σ H) : Lp (Itl K a) g tb D σ H :=
  for_list (xs := xs) Pv h0 (fun i σ H _ p => SqL.of (hl i σ H p)) hs hd
theorem lp_t (Pv : Nat → L2.St → Hp → Prop) (h0 : Pv 0 σ H) (hl : ∀ i σ H, Pv i σ H → H a = some (.tup xs))
    (hs : ∀ i x σ H, xs[i]? = some x → Pv i σ H → g x σ H fun σ2 H2 => tb { D with nx := Pv (i + 1), ct := Pv (i + 1), bk := D.nx } σ2 H2) (hd : ∀ σ H, Pv xs.length σ H → D.nx σ H) : Lp (Itt K a) g tb D σ H :=
  for_tup (xs := xs) Pv h0 (fun i σ H _ p => SqT.of (hl i σ H p)) hs hd
/-- enumerate of a list: each turn a new tuple -/
theorem lp_e (Pv : Nat → L2.St → Hp → Prop) (h0 : Pv 0 σ H) (hl : ∀ i σ H, Pv i σ H → SqL K H a xs)
    (hs : ∀ (i : Nat) x T σ H H1, xs[i]? = some x → Pv i σ H → New T (.tup [.int (i : Nat), x]) H H1 → g (.ref T) σ H1 fun σ2 H2 => tb { D with nx := Pv (i + 1), ct := Pv (i + 1), bk := D.nx } σ2 H2) (hd : ∀ σ H, Pv xs.length σ H → D.nx σ H) : Lp (Ite K a) g tb D σ H := by
  refine ⟨fun i m σ H => m = xs.length - i ∧ i ≤ xs.length ∧ Pv i σ H, ⟨_, rfl, Nat.zero_le _, h0⟩, ?_⟩
  rintro i m σ H ⟨rfl, hi, p⟩
  by_cases c : i < xs.length
  · refine .inr ⟨⟨xs, xs[i], hl i σ H p, List.getElem?_eq_getElem c⟩, Pv (i + 1), fun σ' H' p' => ⟨xs.length - (i + 1), by omega, rfl, c, p'⟩, ?_⟩
    rintro v H' ⟨T, x, rfl, hT, rfl, hx⟩
    exact hs i x T σ H _ (hx xs (hl i σ H p)) p (New.of hT)
  · obtain rfl : i = xs.length := by omega
    exact .inl ⟨⟨xs, hl _ σ H p, Nat.le_refl _⟩, hd σ H p⟩
end
/-! ### isinstance against a built-in class -/
inductive TyS (H : Hp) : V → String → Prop where
  | int (i : Int) : TyS H (.int i) "int"
  | str (x : Str) : TyS H (.str x) "str"
  | lst {a : Addr} {xs : List V} (e : H a = some (.lst xs)) : TyS H (.ref a) "list"
def IsB (H : Hp) (x : V) (T : String) (b : Bool) : Prop := ∃ t, TyS H x t ∧ kitB t T = some b
def xIsi : List V → Hp → VK → Prop := fun xs H Q => ∃ x T, xs = [x, .ty T] ∧ ∃ b, IsB H x T b ∧ Q (.bl b) H
theorem isi {X : Cx} : CallR X (.builtin "isinstance") xIsi := CallR.imp call_isi fun xs H Q ⟨x, T, e, b, ⟨t, ty, k⟩, q⟩ => by
  refine ⟨x, .ty T, .type t, .type T, b, e, .ty T, ?_, kit_ty k, q⟩
  cases ty with
  | int i => exact .base (.int i)
  | str z => exact .base (.str z)
  | lst h => exact .base (.lst h)
theorem isbI {H : Hp} {n : Int} {T : String} {b : Bool} : IsB H (.int n) T b = (kitB "int" T = some b) := propext ⟨fun ⟨_, t, k⟩ => by cases t; exact k, fun k => ⟨_, .int n, k⟩⟩
theorem isbS {H : Hp} {n : Str} {T : String} {b : Bool} : IsB H (.str n) T b = (kitB "str" T = some b) := propext ⟨fun ⟨_, t, k⟩ => by cases t; exact k, fun k => ⟨_, .str n, k⟩⟩
theorem isbL {H : Hp} {p : Addr} {xs : List V} {T : String} {b : Bool} (h : H p = some (.lst xs)) : IsB H (.ref p) T b = (kitB "list" T = some b) := propext ⟨fun ⟨_, t, k⟩ => by cases t; exact k, fun k => ⟨_, .lst h, k⟩⟩
theorem kb1 : kitB "int" "list" = some false := by decide +kernel
theorem kb2 : kitB "int" "tuple" = some false := by decide +kernel
theorem kb3 : kitB "int" "bool" = some false := by decide +kernel
theorem kb4 : kitB "int" "str" = some false := by decide +kernel
theorem kb5 : kitB "int" "int" = some true := by decide +kernel
theorem kb6 : kitB "str" "list" = some false := by decide +kernel
theorem kb7 : kitB "str" "tuple" = some false := by decide +kernel
theorem kb8 : kitB "str" "bool" = some false := by decide +kernel
theorem kb9 : kitB "str" "str" = some true := by decide +kernel
theorem kb10 : kitB "list" "list" = some true := by decide +kernel
theorem kb11 : kitB "list" "tuple" = some false := by decide +kernel
/-! ### what the top has written, as the bodies use it -/
/-- addresses of the written part -/
structure Ad where
  reg : Addr
  lev : Addr
  lv : Nat → Addr
  res : Addr
  kin : Addr
  pf : Addr
  rd : Addr
  dr : Addr
def S (x : String) : V := .str (Str.ofString x)
def regV : List V := [S "a", S "b", S "c", S "d"]
def lvV : Nat → List V
  | 0 => [S "or"]
  | 1 => [S "and"]
  | 2 => [S "=", S "<"]
  | 3 => [S "+", S "-"]
  | _ => [S "*"]
def resV : List V := [S "var", S "lock", S "cond", S "of", S "queue", S "thread", S "let", S "get", S "put", S "add", S "unlock", S "wait", S "notify", S "all", S "send", S "take", S "check", S "go", S "if", S "begin", S "end", S "stop", S "and", S "or", S "not"]
def IsV (mg : Str → Option Value) (x : Str) (v : V) : Prop := ∃ u, mg x = some u ∧ RelV v u
/-- what KINDS holds -/
def kinds : List (String × String) := [("get", "var"), ("put", "var"), ("add", "var"), ("lock", "lock"), ("unlock", "lock"), ("wait", "cond"), ("notify", "cond"), ("notifyall", "cond"), ("send", "queue"), ("take", "queue")]
structure Tx (w : World) (K : PySem.W.Frag) (mg : Str → Option Value) (A : Ad) : Prop where
  b_len : mg "len" = none
  b_range : mg "range" = none
  b_int : mg "int" = none
  b_isinstance : mg "isinstance" = none
  b_str : mg "str" = none
  b_list : mg "list" = none
  b_tuple : mg "tuple" = none
  b_bool : mg "bool" = none
  b_zip : mg "zip" = none
  b_enumerate : mg "enumerate" = none
  b_any : mg "any" = none
  b_max : mg "max" = none
  g_REGISTERS : mg "REGISTERS" = some (.ref A.reg)
  g_LEVELS : mg "LEVELS" = some (.ref A.lev)
  g_RESERVED : mg "RESERVED" = some (.ref A.res)
  g_KINDS : mg "KINDS" = some (.ref A.kin)
  g_ProgramFault : mg "ProgramFault" = some (.ref A.pf)
  v_DIGITS : IsV mg "DIGITS" (S "0123456789")
  v_LETTERS : IsV mg "LETTERS" (S "abcdefghijklmnopqrstuvwxyz")
  v_SIGNS : IsV mg "SIGNS" (S "+-*=<()")
  v_WORD_LENGTH : IsV mg "WORD_LENGTH" (.int 8)
  v_MOST_TOKENS : IsV mg "MOST_TOKENS" (.int 20)
  v_CLAIM : IsV mg "CLAIM" (.int 2)
  v_MOST_SHARED : IsV mg "MOST_SHARED" (.int 6)
  v_MOST_THREADS : IsV mg "MOST_THREADS" (.int 4)
  v_MOST_INSTRUCTIONS : IsV mg "MOST_INSTRUCTIONS" (.int 12)
  reg : ∀ H, SqT K H A.reg regV
  res : ∀ H, SqT K H A.res resV
  lev : ∀ H, SqT K H A.lev [.ref (A.lv 0), .ref (A.lv 1), .ref (A.lv 2), .ref (A.lv 3), .ref (A.lv 4)]
  lv : ∀ H i, i < 5 → SqT K H (A.lv i) (lvV i)
  kin : ∀ x y, (x, y) ∈ kinds → KAt K w A.kin (Str.ofString x) (some (Str.ofString y))
  kno : ∀ x, x ∈ ["let", "check", "go", "begin", "end", "stop"] → KAt K w A.kin (Str.ofString x) none
end K10
set_option linter.all false
set_option maxRecDepth 100000
set_option maxHeartbeats 4000000
namespace K10
open PySem PySem.Spec PyProof.Rows L2
/-! ### comprehensions, folded -/
def Lc (J : It) (g : TG) (tt : TT) (te : TE) (vs : List Nat) (σ : L2.St) (H1 : Hp) (Q : VK) : Prop := ∀ D, H1 D = none → ∃ W : Nat → Nat → Hp → Prop, (∃ m, W 0 m (upd H1 D (.lst []))) ∧ ∀ i m H, W i m H →
  (J.stop i H ∧ Q (.ref D) H) ∨ (J.go i H ∧ ∃ Nx : Hp → Prop, (∀ H', Nx H' → ∃ m', m' < m ∧ W (i + 1) m' H') ∧ ∀ x H', J.yld i H x H' → g x (wipe σ vs) H' fun σ2 H2 => wipe σ2 vs = wipe σ vs ∧ tt σ2 H2 fun b H3 =>
    if b = true then te σ2 H3 fun y H4 => ∃ acc, H4 D = some (.lst acc) ∧ acc.length < sizeLine ∧ Nx (upd H4 D (.lst (acc ++ [y]))) else Nx H3)
/-- the turn of a comprehension: D its list so far -/
def Tn (tt : TT) (te : TE) (σ2 : L2.St) (D : Addr) (acc : List V) (P : List V → Hp → Prop) (H : Hp) : Prop := tt σ2 H fun b H3 => if b = true then te σ2 H3 fun y H4 => H4 D = some (.lst acc) ∧ cg D (.lst (acc ++ [y])) H4 (P (acc ++ [y])) else H3 D = some (.lst acc) ∧ P acc H3
def moT (t : TT) : TT := fun σ H Q => ∃ Q0 : Bool → Hp → Prop, t σ H Q0 ∧ ∀ v H1, Q0 v H1 → Q v H1
theorem pts_mo {X : Cx} {ifs : List Expr} {t : TT} (h : PTs X ifs t) : PTs X ifs (moT t) := ⟨fun pins s σ H Q I ⟨Q0, q, w⟩ => thn (h.run pins s σ H Q0 I q) fun _ _ ⟨H1, I1, q1⟩ => ⟨H1, I1, w _ _ q1⟩⟩
section
variable {K : PySem.W.Frag} {ta : TA} {tl : TE} {j : Nat} {tt : TT} {te : TE} {vs : List Nat} {σ : L2.St} {H : Hp} {Q : VK} {a : Addr} {xs : List V}
theorem lc_xl {g : TG} : tLc (xiL K tl) g tt te vs σ H Q = tl σ H fun x H1 => ∃ a, x = .ref a ∧ (∃ xs, H1 a = some (.lst xs)) ∧ Lc (Itl K a) g tt te vs σ H1 Q := rfl
theorem lc_xt {g : TG} : tLc (xiT K tl) g tt te vs σ H Q = tl σ H fun x H1 => ∃ a, x = .ref a ∧ (∃ xs, H1 a = some (.tup xs)) ∧ Lc (Itt K a) g tt te vs σ H1 Q := rfl
theorem lc_xr {g : TG} : tLc (iRng1 ta) g tt te vs σ H Q = ta σ H fun vs' H1 => ∃ j : Int, vs' = [.int j] ∧ -(2 ^ 62) ≤ j ∧ j < 2 ^ 62 ∧ Lc (Itr 0 j.toNat) g tt te vs σ H1 Q := rfl
/-- the bookkeeping that all walks share: D the new list, acc what it holds -/
theorem lc_any {J : It} {n : Nat} (Pv : Addr → Nat → List V → Hp → Prop) (h0 : ∀ D H1, New D (.lst []) H H1 → Pv D 0 [] H1) (hle : n ≤ 100000) (hlen : ∀ D i acc H', Pv D i acc H' → acc.length ≤ i)
    (hgo : ∀ D i acc H', i < n → H' D = some (.lst acc) → Pv D i acc H' → J.go i H' ∧ ∀ x H'', J.yld i H' x H'' → H'' = H' ∧ wipe ((wipe σ vs).set j (some x)) vs = wipe σ vs ∧ Tn tt te ((wipe σ vs).set j (some x)) D acc (fun acc' H5 => Pv D (i + 1) acc' H5) H')
    (hst : ∀ D acc H', H' D = some (.lst acc) → Pv D n acc H' → J.stop n H') (hd : ∀ D acc H', H D = none → H' D = some (.lst acc) → Pv D n acc H' → Q (.ref D) H') : Lc J (gName j) (moT tt) (mo te) vs σ H Q := by
  intro D hD
  refine ⟨fun i m H' => m = n - i ∧ i ≤ n ∧ ∃ acc, H' D = some (.lst acc) ∧ Pv D i acc H', ⟨_, rfl, Nat.zero_le _, [], upd_same, h0 D _ (New.of hD)⟩, ?_⟩
  rintro i m H' ⟨rfl, hi, acc, hacc, p⟩
  by_cases c : i < n
  · obtain ⟨g1, g2⟩ := hgo D i acc H' c hacc p
    refine .inr ⟨g1, fun H5 => i + 1 ≤ n ∧ ∃ acc, H5 D = some (.lst acc) ∧ Pv D (i + 1) acc H5, fun H5 ⟨q1, q2⟩ => ⟨n - (i + 1), by omega, rfl, q1, q2⟩, fun x H'' y => ?_⟩
    obtain ⟨rfl, w, t⟩ := g2 x H'' y
    refine ⟨w, _, t, fun b H3 z => ?_⟩
    cases b with
    | true => exact ⟨_, z, fun y H4 z => ⟨acc, z.1, lt_line (by have := hlen D i acc H'' p; omega), c, _, upd_same, cg_el z.2⟩⟩
    | false => exact ⟨c, acc, z.1, z.2⟩
  · obtain rfl : i = n := by omega
    exact .inl ⟨hst D acc H' hacc p, hd D acc H' hD hacc p⟩
theorem lc_l (Pv : Addr → Nat → List V → Hp → Prop) (h0 : ∀ D H1, New D (.lst []) H H1 → Pv D 0 [] H1) (hle : xs.length ≤ 100000) (hlen : ∀ D i acc H', Pv D i acc H' → acc.length ≤ i) (hl : ∀ D i acc H', H' D = some (.lst acc) → Pv D i acc H' → SqL K H' a xs)
    (hs : ∀ D i x acc H', xs[i]? = some x → H' D = some (.lst acc) → Pv D i acc H' → wipe ((wipe σ vs).set j (some x)) vs = wipe σ vs ∧ Tn tt te ((wipe σ vs).set j (some x)) D acc (fun acc' H5 => Pv D (i + 1) acc' H5) H')
    (hd : ∀ D acc H', H D = none → H' D = some (.lst acc) → Pv D xs.length acc H' → Q (.ref D) H') : Lc (Itl K a) (gName j) (moT tt) (mo te) vs σ H Q :=
  lc_any (n := xs.length) Pv h0 hle hlen (fun D i acc H' hi h p => ⟨⟨xs, xs[i], hl D i acc H' h p, List.getElem?_eq_getElem hi⟩, fun x H'' ⟨e, f⟩ => ⟨e, hs D i x acc H' (f xs (hl D i acc H' h p)) h p⟩⟩) (fun D acc H' h p => ⟨xs, hl D _ acc H' h p, Nat.le_refl _⟩) hd
theorem lc_t (Pv : Addr → Nat → List V → Hp → Prop) (h0 : ∀ D H1, New D (.lst []) H H1 → Pv D 0 [] H1) (hle : xs.length ≤ 100000) (hlen : ∀ D i acc H', Pv D i acc H' → acc.length ≤ i) (hl : ∀ D i acc H', H' D = some (.lst acc) → Pv D i acc H' → SqT K H' a xs)
    (hs : ∀ D i x acc H', xs[i]? = some x → H' D = some (.lst acc) → Pv D i acc H' → wipe ((wipe σ vs).set j (some x)) vs = wipe σ vs ∧ Tn tt te ((wipe σ vs).set j (some x)) D acc (fun acc' H5 => Pv D (i + 1) acc' H5) H')
    (hd : ∀ D acc H', H D = none → H' D = some (.lst acc) → Pv D xs.length acc H' → Q (.ref D) H') : Lc (Itt K a) (gName j) (moT tt) (mo te) vs σ H Q :=
  lc_any (n := xs.length) Pv h0 hle hlen (fun D i acc H' hi h p => ⟨⟨xs, xs[i], hl D i acc H' h p, List.getElem?_eq_getElem hi⟩, fun x H'' ⟨e, f⟩ => ⟨e, hs D i x acc H' (f xs (hl D i acc H' h p)) h p⟩⟩) (fun D acc H' h p => ⟨xs, hl D _ acc H' h p, Nat.le_refl _⟩) hd
theorem lc_r {n : Nat} (Pv : Addr → Nat → List V → Hp → Prop) (h0 : ∀ D H1, New D (.lst []) H H1 → Pv D 0 [] H1) (hle : n ≤ 100000) (hlen : ∀ D i acc H', Pv D i acc H' → acc.length ≤ i)
    (hs : ∀ D (i : Nat) acc H', i < n → H' D = some (.lst acc) → Pv D i acc H' → wipe ((wipe σ vs).set j (some (.int (0 + (i : Int))))) vs = wipe σ vs ∧ Tn tt te ((wipe σ vs).set j (some (.int (0 + (i : Int))))) D acc (fun acc' H5 => Pv D (i + 1) acc' H5) H')
    (hd : ∀ D acc H', H D = none → H' D = some (.lst acc) → Pv D n acc H' → Q (.ref D) H') : Lc (Itr 0 n) (gName j) (moT tt) (mo te) vs σ H Q :=
  lc_any (n := n) Pv h0 hle hlen (fun D i acc H' hi h p => ⟨hi, fun x H'' y => by
    obtain ⟨e, f⟩ := y
    subst e
    subst f
    exact ⟨rfl, hs D i acc _ hi h p⟩⟩) (fun D acc H' h p => Nat.le_refl _) hd
/-- where the element and the test only lay new objects: the list of the chosen items' values -/
theorem lc_pure {α : Type} {ds : List α} (f : α → Bool) (v : α → V) (hx : H a = some (.lst xs)) (hl : xs.length = ds.length) (hle : xs.length ≤ 100000) (hw : ∀ x, wipe ((wipe σ vs).set j (some x)) vs = wipe σ vs)
    (turn : ∀ (i : Nat) (x : V) (d : α) (H' : Hp), xs[i]? = some x → ds[i]? = some d → Same H H' → ∀ (K1 : VK) (K0 : Hp → Prop), (f d = true → ∀ H4, Same H' H4 → K1 (v d) H4) → (f d = false → ∀ H3, Same H' H3 → K0 H3) →
      tt ((wipe σ vs).set j (some x)) H' fun b H3 => if b = true then te ((wipe σ vs).set j (some x)) H3 K1 else K0 H3)
    (hd : ∀ D H', H D = none → Same H H' → H' D = some (.lst ((ds.filter f).map v)) → Q (.ref D) H') : Lc (Itl K a) (gName j) (moT tt) (mo te) vs σ H Q := by
  refine lc_l (xs := xs) (fun D i acc H' => H D = none ∧ Same H H' ∧ acc = ((ds.take i).filter f).map v) (fun D H1 n => ⟨n.fr, n.kp, rfl⟩) hle (fun D i acc H' p => ?_) (fun D i acc H' _ p => SqL.of (p.2.1 _ _ hx)) (fun D i x acc H' hi h p => ⟨hw x, ?_⟩) (fun D acc H' n h p => hd D H' n p.2.1 ?_)
  · rw [p.2.2, List.length_map]
    exact Nat.le_trans (List.length_filter_le _ _) (by rw [List.length_take]; omega)
  · obtain ⟨n, s, e⟩ := p
    have hil := (List.getElem?_eq_some_iff.mp hi).1
    have hid : i < ds.length := by omega
    have hde : ds[i]? = some ds[i] := List.getElem?_eq_getElem hid
    have et : ds.take (i + 1) = ds.take i ++ [ds[i]] := by rw [List.take_add_one, hde]; rfl
    refine turn i x ds[i] H' hi hde s _ _ (fun c H4 s4 => ⟨s4 _ _ h, fun H5 g => ⟨n, ?_, ?_⟩⟩) (fun c H3 s3 => ⟨s3 _ _ h, n, s.trans s3, ?_⟩)
    · exact fun b o q => g.kp b o (ne_of_none q n) (s4 b o (s b o q))
    · rw [e, et, List.filter_append, List.map_append, List.filter_cons, if_pos c]
      rfl
    · rw [e, et, List.filter_append, List.map_append, List.filter_cons, if_neg (by rw [c]; exact Bool.false_ne_true)]
      simp
  · rw [h, p.2.2, hl, List.take_length]
/-- over a tuple -/
theorem lc_pureT {α : Type} {ds : List α} (f : α → Bool) (v : α → V) (hx : H a = some (.tup xs)) (hl : xs.length = ds.length) (hle : xs.length ≤ 100000) (hw : ∀ x, wipe ((wipe σ vs).set j (some x)) vs = wipe σ vs)
    (turn : ∀ (i : Nat) (x : V) (d : α) (H' : Hp), xs[i]? = some x → ds[i]? = some d → Same H H' → ∀ (K1 : VK) (K0 : Hp → Prop), (f d = true → ∀ H4, Same H' H4 → K1 (v d) H4) → (f d = false → ∀ H3, Same H' H3 → K0 H3) →
      tt ((wipe σ vs).set j (some x)) H' fun b H3 => if b = true then te ((wipe σ vs).set j (some x)) H3 K1 else K0 H3)
    (hd : ∀ D H', H D = none → Same H H' → H' D = some (.lst ((ds.filter f).map v)) → Q (.ref D) H') : Lc (Itt K a) (gName j) (moT tt) (mo te) vs σ H Q := by
  refine lc_t (xs := xs) (fun D i acc H' => H D = none ∧ Same H H' ∧ acc = ((ds.take i).filter f).map v) (fun D H1 n => ⟨n.fr, n.kp, rfl⟩) hle (fun D i acc H' p => ?_) (fun D i acc H' _ p => SqT.of (p.2.1 _ _ hx)) (fun D i x acc H' hi h p => ⟨hw x, ?_⟩) (fun D acc H' n h p => hd D H' n p.2.1 ?_)
  · rw [p.2.2, List.length_map]
    exact Nat.le_trans (List.length_filter_le _ _) (by rw [List.length_take]; omega)
  · obtain ⟨n, s, e⟩ := p
    have hil := (List.getElem?_eq_some_iff.mp hi).1
    have hid : i < ds.length := by omega
    have hde : ds[i]? = some ds[i] := List.getElem?_eq_getElem hid
    have et : ds.take (i + 1) = ds.take i ++ [ds[i]] := by rw [List.take_add_one, hde]; rfl
    refine turn i x ds[i] H' hi hde s _ _ (fun c H4 s4 => ⟨s4 _ _ h, fun H5 g => ⟨n, ?_, ?_⟩⟩) (fun c H3 s3 => ⟨s3 _ _ h, n, s.trans s3, ?_⟩)
    · exact fun b o q => g.kp b o (ne_of_none q n) (s4 b o (s b o q))
    · rw [e, et, List.filter_append, List.map_append, List.filter_cons, if_pos c]
      rfl
    · rw [e, et, List.filter_append, List.map_append, List.filter_cons, if_neg (by rw [c]; exact Bool.false_ne_true)]
      simp
  · rw [h, p.2.2, hl, List.take_length]
end
end K10
set_option linter.all false
set_option maxRecDepth 100000
set_option maxHeartbeats 4000000
namespace K10
open PySem PySem.Spec PyProof.Rows L2
/-! ### the box of draws -/
/-- at b: a list of a list of ints and a place -/
def Bx (H : Hp) (b : Addr) : Prop := ∃ (d : Addr) (ns : List Int) (i : Int), H b = some (.lst [.ref d, .int i]) ∧ H d = some (.lst (ns.map V.int)) ∧ 0 ≤ i ∧ d ≠ b
/-- the box may have moved on, all else stands -/
structure Go (b : Addr) (H H' : Hp) : Prop where
  bx : Bx H' b
  kp : ∀ a o, a ≠ b → H a = some o → H' a = some o
  dd : ∀ d i, H b = some (.lst [.ref d, .int i]) → ∃ j, H' b = some (.lst [.ref d, .int j])
theorem Bx.same {H H' : Hp} {b : Addr} (h : Bx H b) (e : Same H H') : Bx H' b := by
  obtain ⟨d, ns, i, h1, h2, h3, h4⟩ := h
  exact ⟨d, ns, i, e _ _ h1, e _ _ h2, h3, h4⟩
theorem Go.refl {H : Hp} {b : Addr} (h : Bx H b) : Go b H H := ⟨h, fun _ _ _ e => e, fun _ i e => ⟨i, e⟩⟩
theorem Go.of {H H' : Hp} {b : Addr} (h : Bx H b) (e : Same H H') : Go b H H' := ⟨h.same e, fun a o _ q => e a o q, fun _ i q => ⟨i, e _ _ q⟩⟩
theorem Go.trans {H H1 H2 : Hp} {b : Addr} (a : Go b H H1) (c : Go b H1 H2) : Go b H H2 := ⟨c.bx, fun x o n h => c.kp x o n (a.kp x o n h), fun d i e => by
  obtain ⟨j, h⟩ := a.dd d i e
  exact c.dd d j h⟩
theorem Go.then {H H1 H2 : Hp} {b : Addr} (a : Go b H H1) (c : Same H1 H2) : Go b H H2 := a.trans (.of a.bx c)
theorem Bx.ne_tup {H : Hp} {b a : Addr} {xs : List V} (h : Bx H b) (e : H a = some (.tup xs)) : a ≠ b := by
  obtain ⟨d, ns, i, h1, _⟩ := h
  exact ne_of e h1 (by intro z; cases z)
theorem Bx.ne_new {H : Hp} {b a : Addr} (h : Bx H b) (e : H a = none) : a ≠ b := by
  obtain ⟨d, ns, i, h1, _⟩ := h
  exact Ne.symm (ne_of_none h1 e)
theorem Go.tup {H H1 : Hp} {b a : Addr} {xs : List V} (g : Go b H H1) (h : Bx H b) (e : H a = some (.tup xs)) : H1 a = some (.tup xs) := g.kp a _ (h.ne_tup e) e
/-- what is free behind was free before -/
theorem Go.free {H H1 : Hp} {b a : Addr} (g : Go b H H1) (h : Bx H b) (e : H1 a = none) : H a = none := by
  cases q : H a with
  | none => rfl
  | some o =>
    by_cases hb : a = b
    · subst hb
      obtain ⟨d, ns, i, h1, _⟩ := g.bx
      rw [h1] at e
      cases e
    · rw [g.kp a o hb q] at e
      cases e
/-- N is not the list of digits -/
def Nd (b N : Addr) (H : Hp) : Prop := N ≠ b ∧ ∀ d i, H b = some (.lst [.ref d, .int i]) → d ≠ N
theorem Bx.nd {H : Hp} {b N : Addr} (h : Bx H b) (n : H N = none) : Nd b N H := by
  refine ⟨h.ne_new n, fun d i e q => ?_⟩
  obtain ⟨d', ns, i', h1, h2, _⟩ := h
  rw [h1] at e
  cases e
  rw [q, n] at h2
  cases h2
theorem Nd.go {H H' : Hp} {b N : Addr} (h : Nd b N H) (bx : Bx H b) (g : Go b H H') : Nd b N H' := by
  refine ⟨h.1, fun d i e => ?_⟩
  obtain ⟨d', ns, i', h1, _⟩ := bx
  obtain ⟨j, h2⟩ := g.dd d' i' h1
  rw [h2] at e
  cases e
  exact h.2 _ _ h1
theorem Nd.same {H H' : Hp} {b N : Addr} (h : Nd b N H) (bx : Bx H b) (s : Same H H') : Nd b N H' := h.go bx (.of bx s)
theorem Nd.chg {H H' : Hp} {b N M : Addr} {o : HO} (h : Nd b N H) (m : M ≠ b) (bx : Bx H b) (g : Chg M o H H') : Nd b N H' := by
  refine ⟨h.1, fun d i e => ?_⟩
  obtain ⟨d', ns, i', h1, _⟩ := bx
  rw [g.kp b _ (Ne.symm m) h1] at e
  cases e
  exact h.2 _ _ h1
theorem Bx.chg {H H' : Hp} {b N : Addr} {o : HO} (bx : Bx H b) (h : Nd b N H) (g : Chg N o H H') : Bx H' b := by
  obtain ⟨d, ns, i, h1, h2, h3⟩ := bx
  exact ⟨d, ns, i, g.kp b _ (Ne.symm h.1) h1, g.kp d _ (h.2 _ _ h1) h2, h3⟩
/-- the box may have moved on; of what stood in H only the box has changed; N are ours -/
theorem Go.chg {H H1 H' : Hp} {b N : Addr} {o : HO} (g : Go b H H1) (n : H N = none) (h : Nd b N H1) (c : Chg N o H1 H') : Go b H H' := by
  refine ⟨g.bx.chg h c, fun a u ne e => c.kp a u (ne_of_none e n) (g.kp a u ne e), fun d i e => ?_⟩
  obtain ⟨j, h1⟩ := g.dd d i e
  exact ⟨j, c.kp b _ (Ne.symm h.1) h1⟩
def spDraw : Sp := fun vs H Q _ => ∃ (b : Addr) (m : Int), vs = [.ref b, .int m] ∧ 0 < m ∧ Bx H b ∧
  ∀ (r : Int) (H' : Hp), 0 ≤ r → r < m → Go b H H' → Q (.int r) H'
theorem at_map {ns : List Int} {i : Int} (h0 : 0 ≤ i) (h1 : i < ((ns.map V.int).length : Nat)) : ∃ z, atI (ns.map V.int) i = some (.int z) := by
  obtain ⟨k, rfl⟩ : ∃ k : Nat, i = (k : Int) := ⟨i.toNat, by omega⟩
  rw [List.length_map] at h1
  have hk : k < ns.length := by omega
  exact ⟨ns[k], atI_nat (by rw [List.getElem?_map, List.getElem?_eq_getElem hk]; rfl)⟩
section
variable {P : Program} {w : World} {K : PySem.W.Frag} {mg : Str → Option Value} {base : Heap} {Ax : Ad}
local macro_rules | `(tactic| walk_at "wp") => `(tactic| simp only [tVar, tC, tOp, rI0, rI, rU, tUn, rEq, rNe, tTest, tB, tAnd, tOr, tNot, tAndV, tOrV, tNotV, tIf, tSeq, tNext, tAsg, gName, gSub, tDrop, tRet, tRetN, tIfS, tBreak, tCont, tAug, ipI, tCB, tCons, tNil,
  xTup, xLst, xIxL, xIxT, xIxS, xIxK, xLenL, xLenT, xLenS, xLenK, xSlL, xSlT, xSlS, xInL, xInT, xInK, xCat, xRep, xCatT, xTupL, xSetL, xIntS, xIntI, xIntB, xApp, xJoin, xSplit, xFld, xSetF, xAugF, tSl, tPart, tNoPart, xCall, xMeth, xMeth0, xMake, xRaise, xgT, xgL, gCons, gNil, xInD, xIxD, C8.tCut, xIsi, for_r1, for_r2, for_l, for_t, for_e, lc_xl, lc_xt, lc_xr, tM0, S,
  exists_eq_left, exists_eq_left', exists_and_left, V.int.injEq, V.ref.injEq, V.str.injEq, V.bl.injEq, consV, Option.some.injEq, HO.lst.injEq, HO.tup.injEq, HO.ins.injEq, and_true, true_and, List.getElem?_cons_zero, List.getElem?_cons_succ, List.set_cons_zero, List.set_cons_succ,
  if_true, if_false, Bool.false_eq_true, and_assoc, V.ty.injEq, isbI, isbS, kb1, kb2, kb3, kb4, kb5, kb6, kb7, kb8, kb9, reduceCtorEq, decide_false, decide_true, decide_eq_true_eq, Bool.not_eq_true', decide_eq_false_iff_not, Bool.not_true, Bool.not_false, ite_not, at0, at1, at2, at3, at4, ix0, ix1, fl_int, fl_str, fl_bl, fl_non, al_nil, al_cons, lenNil, len1, len2, len3, len4, sc_ii, sc_ss, sc_ns, sc_sn, sc_nn, sc_in, sc_si, sc_is, sc_bb, st_go])
local macro_rules | `(tactic| walk_at "wf") => `(tactic| simp only [*,
  exists_eq_left, exists_eq_left', exists_and_left, V.int.injEq, V.ref.injEq, V.str.injEq, V.bl.injEq, consV, Option.some.injEq, HO.lst.injEq, HO.tup.injEq, HO.ins.injEq, and_true, true_and, List.getElem?_cons_zero, List.getElem?_cons_succ, List.set_cons_zero, List.set_cons_succ,
  if_true, if_false, Bool.false_eq_true, and_assoc, V.ty.injEq, isbI, isbS, kb1, kb2, kb3, kb4, kb5, kb6, kb7, kb8, kb9, reduceCtorEq, decide_false, decide_true, decide_eq_true_eq, Bool.not_eq_true', decide_eq_false_iff_not, Bool.not_true, Bool.not_false, ite_not, at0, at1, at2, at3, at4, ix0, ix1, fl_int, fl_str, fl_bl, fl_non, al_nil, al_cons, lenNil, len1, len2, len3, len4, sc_ii, sc_ss, sc_ns, sc_sn, sc_nn, sc_in, sc_si, sc_is, sc_bb, st_go])
local macro_rules | `(tactic| walk_at "len") => `(tactic| (refine le_line ?_; simp only [List.length_cons, List.length_nil, List.length_append, List.length_map, List.map_nil, List.map_cons] <;> omega))
theorem ok_law_draw {f : Addr} {fd : FuncData} (F : L2.Fun K "_law_draw" "_law_draw" s_law_draw f fd) (T : Tx w K mg Ax) : FnOk P w K mg base L2.CX0 1 f fd ["_law_box", "_law_many"] spDraw := by
  refine F.ok sc_law_draw (fun vs H Q E h => ?_) (fun cdv A outer s H vs Q E hr h => ?_)
  · obtain ⟨b, m, rfl, _⟩ := h
    rfl
  · obtain ⟨b, m, rfl, hm, ⟨d, ns, i, hb, hd, i0, nbd⟩, k⟩ := h
    refine ⟨_, (pss_cons (ps_set (i := 2) sc_law_draw.nd rfl (Or.inl rfl) (pe_ix ix_l (pv 0) pe_int (fun _ _ => rfl)))
  (pss_cons (ps_asg (pe_op op_add (pv 2) pe_int) (pg_sub (pv 0) pe_int set_l))
  (pss_cons (ps_if (pt_cmpR op_lt (pv 2) (pe_callB len_l (by rfl) T.b_len PySem.boot_len (pa_cons (pe_ix ix_l (pv 0) pe_int (fun _ _ => rfl)) pa_nil)) (nomark _)) (pss_one (ps_ret (pe_op op_modN (pe_callTy int_i (by rfl) T.b_int (by decide +kernel) (pa_cons (pe_ix ix_l (pe_ix ix_l (pv 0) pe_int (fun _ _ => rfl)) (pv 2) (fun _ _ => rfl)) pa_nil)) (pv 1)))) pss_nil)
  (pss_one (ps_ret pe_int))))), ?_⟩
    rw [show L2.start N_law_draw [V.ref b, V.int m] = [some (.ref b), some (.int m), none] from rfl]
    walk_at "wp"
    walk_at "wf"
    intro H3 c
    have h3 := c.at_
    have hd3 := c.kp d _ nbd hd
    walk_at "wf"
    have g : Go b H H3 := ⟨⟨d, ns, i + 1, h3, hd3, by omega, nbd⟩, c.kp, fun d' i' e => by
      rw [hb] at e
      cases e
      exact ⟨_, h3⟩⟩
    refine ite2 (fun q => ?_) (fun q => k 0 _ (by omega) hm g)
    obtain ⟨z, hz⟩ := at_map i0 q
    walk_at "wf"
    refine ⟨by omega, k _ _ ?_ ?_ g⟩
    · exact Int.fmod_nonneg_of_pos _ hm
    · exact Int.fmod_lt_of_pos _ hm
end
end K10
set_option linter.all false
set_option maxRecDepth 100000
set_option maxHeartbeats 4000000
namespace K10
open PySem PySem.Spec PyProof.Rows L2
/-! ### data as tuples -/
inductive D where
  | non
  | int (i : Int)
  | str (s : Str)
  | tup (l : List D)
/-- the value v stands for the datum d -/
inductive Rp (H : Hp) : V → D → Prop where
  | non : Rp H .non .non
  | int (i : Int) : Rp H (.int i) (.int i)
  | str (s : Str) : Rp H (.str s) (.str s)
  | tup {p : Addr} {vs : List V} {ds : List D} (h : H p = some (.tup vs)) (l : vs.length = ds.length) (r : ∀ (i : Nat) (v : V) (d : D), vs[i]? = some v → ds[i]? = some d → Rp H v d) : Rp H (.ref p) (.tup ds)
def Rps (H : Hp) (vs : List V) (ds : List D) : Prop := vs.length = ds.length ∧ ∀ (i : Nat) (v : V) (d : D), vs[i]? = some v → ds[i]? = some d → Rp H v d
/-- tuples stand -/
def Tk (H H' : Hp) : Prop := ∀ a vs, H a = some (.tup vs) → H' a = some (.tup vs)
theorem Tk.of {H H' : Hp} (e : Same H H') : Tk H H' := fun a vs h => e a _ h
theorem Go.tk {H H' : Hp} {b : Addr} (g : Go b H H') (h : Bx H b) : Tk H H' := fun a vs e => g.tup h e
theorem Tk.trans {H H1 H2 : Hp} (a : Tk H H1) (b : Tk H1 H2) : Tk H H2 := fun x vs h => b x vs (a x vs h)
theorem Chg.tk {H H' : Hp} {p : Addr} {o : HO} {xs : List V} (c : Chg p o H H') (h : H p = some (.lst xs)) : Tk H H' := fun a vs e => c.kp a _ (ne_of e h (by intro z; cases z)) e
theorem Rp.tk {H H' : Hp} (t : Tk H H') {v : V} {d : D} (r : Rp H v d) : Rp H' v d := by
  induction r with
  | non => exact .non
  | int i => exact .int i
  | str s => exact .str s
  | tup h l _ ih => exact .tup (t _ _ h) l ih
theorem Rps.tk {H H' : Hp} (t : Tk H H') {vs : List V} {ds : List D} (r : Rps H vs ds) : Rps H' vs ds := ⟨r.1, fun i v d h1 h2 => (r.2 i v d h1 h2).tk t⟩
theorem Rps.nil {H : Hp} : Rps H [] [] := ⟨rfl, fun i v d h => by simp at h⟩
theorem Rps.cons {H : Hp} {v : V} {d : D} {vs : List V} {ds : List D} (r : Rp H v d) (rs : Rps H vs ds) : Rps H (v :: vs) (d :: ds) :=
  ⟨by rw [List.length_cons, List.length_cons, rs.1], fun i v' d' h1 h2 => by
    cases i with
    | zero =>
      cases Option.some.inj h1
      cases Option.some.inj h2
      exact r
    | succ i => exact rs.2 i v' d' (by simpa using h1) (by simpa using h2)⟩
theorem Rps.uncons {H : Hp} {v : V} {d : D} {vs : List V} {ds : List D} (r : Rps H (v :: vs) (d :: ds)) : Rp H v d ∧ Rps H vs ds :=
  ⟨r.2 0 v d rfl rfl, by have h := r.1; rw [List.length_cons, List.length_cons] at h; omega, fun i v' d' h1 h2 => r.2 (i + 1) v' d' (by simpa using h1) (by simpa using h2)⟩
theorem Rps.snoc {H : Hp} {v : V} {d : D} : ∀ {vs : List V} {ds : List D}, Rps H vs ds → Rp H v d → Rps H (vs ++ [v]) (ds ++ [d])
  | [], [], _, r => .cons r .nil
  | [], _ :: _, rs, _ => by have h := rs.1; simp at h
  | _ :: _, [], rs, _ => by have h := rs.1; simp at h
  | _ :: _, _ :: _, rs, r => .cons rs.uncons.1 (Rps.snoc rs.uncons.2 r)
theorem Rp.ofs {H : Hp} {p : Addr} {vs : List V} {ds : List D} (h : H p = some (.tup vs)) (r : Rps H vs ds) : Rp H (.ref p) (.tup ds) := .tup h r.1 r.2
theorem Rp.tup_inv {H : Hp} {v : V} {ds : List D} (r : Rp H v (.tup ds)) : ∃ p vs, v = .ref p ∧ H p = some (.tup vs) ∧ Rps H vs ds := by
  cases r with
  | tup h l q => exact ⟨_, _, rfl, h, l, q⟩
theorem Rp.str_inv {H : Hp} {v : V} {s : Str} (r : Rp H v (.str s)) : v = .str s := by cases r; rfl
theorem Rp.int_inv {H : Hp} {v : V} {i : Int} (r : Rp H v (.int i)) : v = .int i := by cases r; rfl
theorem Rp.non_inv {H : Hp} {v : V} (r : Rp H v .non) : v = .non := by cases r; rfl
theorem Rps.inv_nil {H : Hp} {vs : List V} (r : Rps H vs []) : vs = [] := List.eq_nil_of_length_eq_zero (by have h := r.1; simpa using h)
theorem Rps.inv_cons {H : Hp} {vs : List V} {d : D} {ds : List D} (r : Rps H vs (d :: ds)) : ∃ v ws, vs = v :: ws ∧ Rp H v d ∧ Rps H ws ds := by
  cases vs with
  | nil => have h := r.1; simp at h
  | cons v ws => exact ⟨v, ws, rfl, r.uncons.1, r.uncons.2⟩
theorem Rp.t1 {H : Hp} {v : V} {a : D} (r : Rp H v (.tup [a])) : ∃ p x, v = .ref p ∧ H p = some (.tup [x]) ∧ Rp H x a := by
  obtain ⟨p, vs, rfl, h, r⟩ := r.tup_inv
  obtain ⟨x, ws, rfl, r1, r⟩ := r.inv_cons
  cases r.inv_nil
  exact ⟨p, x, rfl, h, r1⟩
theorem Rp.t2 {H : Hp} {v : V} {a b : D} (r : Rp H v (.tup [a, b])) : ∃ p x y, v = .ref p ∧ H p = some (.tup [x, y]) ∧ Rp H x a ∧ Rp H y b := by
  obtain ⟨p, vs, rfl, h, r⟩ := r.tup_inv
  obtain ⟨x, ws, rfl, r1, r⟩ := r.inv_cons
  obtain ⟨y, ws, rfl, r2, r⟩ := r.inv_cons
  cases r.inv_nil
  exact ⟨p, x, y, rfl, h, r1, r2⟩
theorem Rp.t3 {H : Hp} {v : V} {a b c : D} (r : Rp H v (.tup [a, b, c])) : ∃ p x y z, v = .ref p ∧ H p = some (.tup [x, y, z]) ∧ Rp H x a ∧ Rp H y b ∧ Rp H z c := by
  obtain ⟨p, vs, rfl, h, r⟩ := r.tup_inv
  obtain ⟨x, ws, rfl, r1, r⟩ := r.inv_cons
  obtain ⟨y, ws, rfl, r2, r⟩ := r.inv_cons
  obtain ⟨z, ws, rfl, r3, r⟩ := r.inv_cons
  cases r.inv_nil
  exact ⟨p, x, y, z, rfl, h, r1, r2, r3⟩
theorem Rp.t4 {H : Hp} {v : V} {a b c d : D} (r : Rp H v (.tup [a, b, c, d])) : ∃ p x y z u, v = .ref p ∧ H p = some (.tup [x, y, z, u]) ∧ Rp H x a ∧ Rp H y b ∧ Rp H z c ∧ Rp H u d := by
  obtain ⟨p, vs, rfl, h, r⟩ := r.tup_inv
  obtain ⟨x, ws, rfl, r1, r⟩ := r.inv_cons
  obtain ⟨y, ws, rfl, r2, r⟩ := r.inv_cons
  obtain ⟨z, ws, rfl, r3, r⟩ := r.inv_cons
  obtain ⟨u, ws, rfl, r4, r⟩ := r.inv_cons
  cases r.inv_nil
  exact ⟨p, x, y, z, u, rfl, h, r1, r2, r3, r4⟩
theorem Rp.m1 {H : Hp} {p : Addr} {x : V} {a : D} (h : H p = some (.tup [x])) (r1 : Rp H x a) : Rp H (.ref p) (.tup [a]) := .ofs h (.cons r1 .nil)
theorem Rp.m2 {H : Hp} {p : Addr} {x y : V} {a b : D} (h : H p = some (.tup [x, y])) (r1 : Rp H x a) (r2 : Rp H y b) : Rp H (.ref p) (.tup [a, b]) := .ofs h (.cons r1 (.cons r2 .nil))
theorem Rp.m3 {H : Hp} {p : Addr} {x y z : V} {a b c : D} (h : H p = some (.tup [x, y, z])) (r1 : Rp H x a) (r2 : Rp H y b) (r3 : Rp H z c) : Rp H (.ref p) (.tup [a, b, c]) := .ofs h (.cons r1 (.cons r2 (.cons r3 .nil)))
theorem Rp.m4 {H : Hp} {p : Addr} {x y z u : V} {a b c d : D} (h : H p = some (.tup [x, y, z, u])) (r1 : Rp H x a) (r2 : Rp H y b) (r3 : Rp H z c) (r4 : Rp H u d) : Rp H (.ref p) (.tup [a, b, c, d]) := .ofs h (.cons r1 (.cons r2 (.cons r3 (.cons r4 .nil))))
theorem Rps.at_ {H : Hp} {vs : List V} {ds : List D} (r : Rps H vs ds) {i : Nat} {v : V} (h : vs[i]? = some v) : ∃ d, ds[i]? = some d ∧ Rp H v d := by
  have hi := (List.getElem?_eq_some_iff.mp h).1
  have hj : i < ds.length := by have := r.1; omega
  exact ⟨ds[i], List.getElem?_eq_getElem hj, r.2 i v _ h (List.getElem?_eq_getElem hj)⟩
/-! ### what a program is made of -/
inductive Tr where
  | reg (s : Str)
  | num (n : Int)
  | neg (s : Str)
  | nt (s : Str)
  | op (g s t : Str)
def regD (s : Str) : D := .tup [.str "reg", .str s]
def trD : Tr → D
  | .reg s => regD s
  | .num n => .tup [.str "num", .int n]
  | .neg s => .tup [.str "neg", regD s]
  | .nt s => .tup [.str "not", regD s]
  | .op g s t => .tup [.str "op", .str g, regD s, regD t]
def regS : List Str := ["a", "b", "c", "d"]
def sgS : List Str := ["+", "-", "*", "=", "<", "and", "or", "+"]
def numS : List Int := [0, 1, 2, 9, 10, 99]
def TrOk : Tr → Prop
  | .reg s => s ∈ regS
  | .num n => n ∈ numS
  | .neg s => s ∈ regS
  | .nt s => s ∈ regS
  | .op g s t => g ∈ sgS ∧ s ∈ regS ∧ t ∈ regS
def trW : Tr → List Str
  | .reg s => [s]
  | .num n => [(toString n : Str)]
  | .neg s => ["-", s]
  | .nt s => ["not", s]
  | .op g s t => [s, g, t]
inductive Th where
  | var (n : Str) (v : Int)
  | lock (n : Str)
  | cond (n l : Str)
  | queue (n : Str) (k : Int)
def thD : Th → D
  | .var n v => .tup [.str "var", .str n, .int v]
  | .lock n => .tup [.str "lock", .str n]
  | .cond n l => .tup [.str "cond", .str n, .str l]
  | .queue n k => .tup [.str "queue", .str n, .int k]
def thW : Th → List Str
  | .var n v => if v < 0 then ["var", n, "=", "-", (toString (0 - v) : Str)] else ["var", n, "=", (toString v : Str)]
  | .lock n => ["lock", n]
  | .cond n l => ["cond", n, "of", l]
  | .queue n k => ["queue", n, (toString k : Str)]
def thK : Th → Str
  | .var _ _ => "var"
  | .lock _ => "lock"
  | .cond _ _ => "cond"
  | .queue _ _ => "queue"
def thN : Th → Str
  | .var n _ => n
  | .lock n => n
  | .cond n _ => n
  | .queue n _ => n
inductive Ins where
  /-- lock unlock wait notify notifyall -/
  | two (k x : Str)
  /-- get take -/
  | three (k r x : Str)
  /-- let put add send -/
  | xt (k x : Str) (t : Tr)
  | check (t : Tr)
  | go (n : Int)
  | goIf (n : Int) (t : Tr)
  /-- begin end stop -/
  | one (k : Str)
def inD : Ins → D
  | .two k x => .tup [.str k, .str x]
  | .three k r x => .tup [.str k, .str r, .str x]
  | .xt k x t => .tup [.str k, .str x, trD t]
  | .check t => .tup [.str "check", trD t]
  | .go n => .tup [.str "go", .int n, .non]
  | .goIf n t => .tup [.str "go", .int n, trD t]
  | .one k => .tup [.str k]
def inW : Ins → List Str
  | .two k x => if k = "notifyall" then ["notify", "all", x] else [k, x]
  | .three k r x => [k, r, x]
  | .xt k x t => if k = "let" then "let" :: x :: "=" :: trW t else k :: x :: trW t
  | .check t => "check" :: trW t
  | .go n => ["go", (toString n : Str)]
  | .goIf n t => "go" :: (toString n : Str) :: "if" :: trW t
  | .one k => [k]
end K10
set_option linter.all false
set_option maxRecDepth 100000
set_option maxHeartbeats 4000000
namespace K10
open PySem PySem.Spec PyProof.Rows L2
/-! ### a def of the text as it stands, and what its body gives to callers -/
structure Df (K : PySem.W.Frag) (mg : Str → Option Value) (x : Str) (st : Stmt) (ps : List Str) : Prop where
  ex : ∃ (f : Addr) (fd : FuncData), L2.Fun K x x st f fd ∧ mg x = some (.ref f) ∧ L2.Binds K fd ps []
section
variable {P : Program} {w : World} {K : PySem.W.Frag} {mg : Str → Option Value} {base : Heap} {x : Str} {st : Stmt} {ps N : List Str} {k : Nat} {sp : Sp}
theorem Df.cl (F : Df K mg x st ps) (S : FnScope N ps (defScope st)) (len : ∀ vs H Q E, sp vs H Q E → vs.length = ps.length)
    (hbody : ∀ (f : Addr) (cdv : Value) (A : Around) (outer : List Env) (s : Shared) (H : Hp) (vs : List V) (Q : VK) (E : XK), Room k (A.deeper (envOfC x (defScope st) s.heap.objs.size f cdv)) → sp vs H Q E →
      ∃ t, PSs (cxOf L2.CX0 P w K mg base N x (defScope st) f cdv A outer s H E).nox (defBody st) t ∧ t { nx := fun _ H' => Q .non H', rt := Q } (L2.start N vs) H) : Cl P w K mg base L2.CX0 (k + 1) x sp := by
  obtain ⟨f, fd, F, hm, b⟩ := F.ex
  exact ⟨f, fd, ps, F.ok S len (hbody f), hm, F.kp, b⟩
theorem Df.clX (F : Df K mg x st ps) (S : FnScope N ps (defScope st)) (len : ∀ vs H Q E, sp vs H Q E → vs.length = ps.length)
    (hbody : ∀ (f : Addr) (cdv : Value) (A : Around) (outer : List Env) (s : Shared) (H : Hp) (vs : List V) (Q : VK) (E : XK), Room k (A.deeper (envOfC x (defScope st) s.heap.objs.size f cdv)) → sp vs H Q E →
      ∃ t, PSs (cxOf (L2.CX P w) P w K mg base N x (defScope st) f cdv A outer s H E) (defBody st) t ∧ t { nx := fun _ H' => Q .non H', rt := Q } (L2.start N vs) H) : Cl P w K mg base (L2.CX P w) (k + 1) x sp := by
  obtain ⟨f, fd, F, hm, b⟩ := F.ex
  exact ⟨f, fd, ps, F.okX S len (hbody f), hm, F.kp, b⟩
/-- a call that never comes -/
def spNo : Sp := fun _ _ _ _ => False
theorem Df.no (F : Df K mg x st ps) {CX : CXT} : Cl P w K mg base CX k x spNo := by
  obtain ⟨f, fd, F, hm, b⟩ := F.ex
  exact ⟨f, fd, ps, ⟨fun _ _ _ _ h => h.elim, fun _ _ _ _ _ _ _ _ _ _ _ _ _ h => h.elim⟩, hm, F.kp, b⟩
end
theorem Cl.mono {P : Program} {w : World} {K : PySem.W.Frag} {mg : Str → Option Value} {base : Heap} {CX : CXT} {j k : Nat} {x : Str} {sp : Sp} (c : Cl P w K mg base CX j x sp) (h : j ≤ k) : Cl P w K mg base CX k x sp := by
  obtain ⟨f, fd, ps, F, a, b, d⟩ := c.ex
  exact ⟨f, fd, ps, F.mono h, a, b, d⟩
section
variable {P : Program} {w : World} {K : PySem.W.Frag} {mg : Str → Option Value} {base : Heap} {Ax : Ad}
local macro_rules | `(tactic| walk_at "wp") => `(tactic| simp only [tVar, tC, tOp, rI0, rI, rU, tUn, rEq, rNe, tTest, tB, tAnd, tOr, tNot, tAndV, tOrV, tNotV, tIf, tSeq, tNext, tAsg, gName, gSub, tDrop, tRet, tRetN, tIfS, tBreak, tCont, tAug, ipI, tCB, tCons, tNil,
  xTup, xLst, xIxL, xIxT, xIxS, xIxK, xLenL, xLenT, xLenS, xLenK, xSlL, xSlT, xSlS, xInL, xInT, xInK, xCat, xRep, xCatT, xTupL, xSetL, xIntS, xIntI, xIntB, xApp, xJoin, xSplit, xFld, xSetF, xAugF, tSl, tPart, tNoPart, xCall, xMeth, xMeth0, xMake, xRaise, xgT, xgL, gCons, gNil, xInD, xIxD, C8.tCut, xIsi, for_r1, for_r2, for_l, for_t, for_e, lc_xl, lc_xt, lc_xr, tM0, S,
  exists_eq_left, exists_eq_left', exists_and_left, V.int.injEq, V.ref.injEq, V.str.injEq, V.bl.injEq, consV, Option.some.injEq, HO.lst.injEq, HO.tup.injEq, HO.ins.injEq, and_true, true_and, List.getElem?_cons_zero, List.getElem?_cons_succ, List.set_cons_zero, List.set_cons_succ,
  if_true, if_false, Bool.false_eq_true, and_assoc, V.ty.injEq, isbI, isbS, kb1, kb2, kb3, kb4, kb5, kb6, kb7, kb8, kb9, reduceCtorEq, decide_false, decide_true, decide_eq_true_eq, Bool.not_eq_true', decide_eq_false_iff_not, Bool.not_true, Bool.not_false, ite_not, at0, at1, at2, at3, at4, ix0, ix1, fl_int, fl_str, fl_bl, fl_non, al_nil, al_cons, lenNil, len1, len2, len3, len4, sc_ii, sc_ss, sc_ns, sc_sn, sc_nn, sc_in, sc_si, sc_is, sc_bb, st_go])
local macro_rules | `(tactic| walk_at "wf") => `(tactic| simp only [*,
  exists_eq_left, exists_eq_left', exists_and_left, V.int.injEq, V.ref.injEq, V.str.injEq, V.bl.injEq, consV, Option.some.injEq, HO.lst.injEq, HO.tup.injEq, HO.ins.injEq, and_true, true_and, List.getElem?_cons_zero, List.getElem?_cons_succ, List.set_cons_zero, List.set_cons_succ,
  if_true, if_false, Bool.false_eq_true, and_assoc, V.ty.injEq, isbI, isbS, kb1, kb2, kb3, kb4, kb5, kb6, kb7, kb8, kb9, reduceCtorEq, decide_false, decide_true, decide_eq_true_eq, Bool.not_eq_true', decide_eq_false_iff_not, Bool.not_true, Bool.not_false, ite_not, at0, at1, at2, at3, at4, ix0, ix1, fl_int, fl_str, fl_bl, fl_non, al_nil, al_cons, lenNil, len1, len2, len3, len4, sc_ii, sc_ss, sc_ns, sc_sn, sc_nn, sc_in, sc_si, sc_is, sc_bb, st_go])
local macro_rules | `(tactic| walk_at "len") => `(tactic| (refine le_line ?_; simp only [List.length_cons, List.length_nil, List.length_append, List.length_map, List.map_nil, List.map_cons] <;> omega))
/-! ### cells of the script, digits -/
def spCell (K : PySem.W.Frag) : Sp := fun vs H Q _ => ∃ (a : Addr) (ns : List Int) (k : Int), vs = [.ref a, .int k] ∧ SqL K H a (ns.map V.int) ∧ 0 ≤ k ∧ ∀ z, Q (.int z) H
theorem ok_law_cell (F : Df K mg "_law_cell" s_law_cell ["_law_script", "_law_k"]) (T : Tx w K mg Ax) : Cl P w K mg base L2.CX0 1 "_law_cell" (spCell K) := by
  refine F.cl sc_law_cell (fun vs H Q E h => ?_) (fun f cdv A outer s H vs Q E hr h => ?_)
  · obtain ⟨_, _, _, rfl, _⟩ := h
    rfl
  · obtain ⟨a, ns, k, rfl, hs, k0, q⟩ := h
    refine ⟨_, (pss_cons (ps_if (pt_cmpR op_lt (pv 1) (pe_callB call_len_seq (by rfl) T.b_len PySem.boot_len (pa_cons (pv 0) pa_nil)) (nomark _)) (pss_one (ps_ret (pe_ix ix_list (pv 0) (pv 1) (fun _ _ => rfl)))) pss_nil)
      (pss_one (ps_ret pe_int))), ?_⟩
    rw [show L2.start N_law_cell [V.ref a, V.int k] = [some (.ref a), some (.int k)] from rfl]
    refine ⟨_, rfl, _, rfl, a, _, rfl, .inl hs, _, _, rfl, rfl, _, rfl, ite2 (fun c => ?_) (fun c => q 0)⟩
    obtain ⟨z, hz⟩ := at_map k0 (of_decide_eq_true c)
    exact ⟨_, rfl, _, rfl, a, _, k, _, rfl, rfl, hs, hz, q z⟩
/-- law's digits: a new list of ints -/
def spDigits (K : PySem.W.Frag) : Sp := fun vs H Q _ => ∃ (a : Addr) (ns : List Int), vs = [.ref a, .int 0, .int 63] ∧ SqL K H a (ns.map V.int) ∧
  ∀ (p : Addr) (H' : Hp) (ds : List Int), H p = none → H' p = some (.lst (ds.map V.int)) → Same H H' → Q (.ref p) H'
theorem Chg.same {H H1 H2 : Hp} {p : Addr} {o : HO} (c : Chg p o H1 H2) (n : H p = none) (s : Same H H1) : Same H H2 := fun a u h => c.kp a u (ne_of_none h n) (s a u h)
theorem snoc_map (ns : List Int) (z : Int) : ns.map V.int ++ [V.int z] = (ns ++ [z]).map V.int := by rw [List.map_append]; rfl
theorem ok_law_digits (F : Df K mg "_law_digits" s_law_digits ["_law_script", "_law_first", "_law_last"]) (T : Tx w K mg Ax) (G_law_cell : Cl P w K mg base L2.CX0 1 "_law_cell" (spCell K)) : Cl P w K mg base L2.CX0 2 "_law_digits" (spDigits K) := by
  refine F.cl sc_law_digits (fun vs H Q E h => ?_) (fun f cdv A outer s H vs Q E hr h => ?_)
  · obtain ⟨_, _, rfl, _⟩ := h
    rfl
  · obtain ⟨a, ns, rfl, hs, q⟩ := h
    refine ⟨_, (pss_cons (ps_set (i := 3) sc_law_digits.nd rfl (Or.inl rfl) (px_lst pa_nil))
  (pss_cons (ps_for PassesOwn.never rfl (pi_range2 rfl T.b_range (pa_cons (pv 1) (pa_cons (pv 2) pa_nil))) (pg_name (i := 4) sc_law_digits.nd rfl (Or.inl rfl))
    (pss_cons (ps_set (i := 5) sc_law_digits.nd rfl (Or.inl rfl) (px_c G_law_cell hr (by omega) (by rfl) (pa_cons (pv 0) (pa_cons (pv 4) pa_nil))))
  (C8.pss_cut (ps_if (pt_cmpR op_lt (pv 5) pe_int (nomark _)) (pss_one (ps_set (i := 5) sc_law_digits.nd rfl (Or.inl rfl) (pe_op op_sub pe_int (pe_op op_mul pe_int (pv 5))))) pss_nil)
  (pss_one (ps_if (pt_cmpR op_ge (pv 5) (pe_op op_pow pe_int pe_int) (nomark _)) (pss_one (ps_for PassesOwn.never rfl (pi_range1 rfl T.b_range (pa_cons pe_int pa_nil)) (pg_name (i := 6) sc_law_digits.nd rfl (Or.inl rfl))
    (pss_one (ps_if (pt_cmpR op_gt (pv 5) pe_int (nomark _)) (pss_cons (ps_expr (px_app (pv 3) (pe_op op_mod (pe_callTy int_i (by rfl) T.b_int (by decide +kernel) (pa_cons (pv 5) pa_nil)) pe_int)))
  (pss_one (ps_set (i := 5) sc_law_digits.nd rfl (Or.inl rfl) (pe_op op_fdiv (pv 5) pe_int)))) pss_nil)))) (pss_cons (ps_set (i := 7) sc_law_digits.nd rfl (Or.inl rfl) (pe_op op_mod (pe_callTy int_i (by rfl) T.b_int (by decide +kernel) (pa_cons (pe_op op_add (pe_op op_add (pe_op op_mul (pv 5) pe_int) (pe_op op_mul (pv 4) pe_int)) pe_int) pa_nil)) pe_int))
  (pss_one (ps_for PassesOwn.never rfl (pi_range1 rfl T.b_range (pa_cons pe_int pa_nil)) (pg_name (i := 6) sc_law_digits.nd rfl (Or.inl rfl))
    (pss_cons (ps_set (i := 7) sc_law_digits.nd rfl (Or.inl rfl) (pe_op op_mod (pe_callTy int_i (by rfl) T.b_int (by decide +kernel) (pa_cons (pe_op op_add (pe_op op_add (pe_op op_mul (pv 7) pe_int) (pe_op op_mul pe_int (pv 6))) pe_int) pa_nil)) pe_int))
  (pss_one (ps_expr (px_app (pv 3) (pe_op op_mod (pe_callTy int_i (by rfl) T.b_int (by decide +kernel) (pa_cons (pe_op op_fdiv (pv 7) pe_int) pa_nil)) pe_int)))))))))))))
  (pss_one (ps_ret (pv 3))))), ?_⟩
    rw [show L2.start N_law_digits [V.ref a, V.int 0, V.int 63] = [some (.ref a), some (.int 0), some (.int 63), none, none, none, none, none] from rfl]
    walk_at "wp"
    intro p H1 n1
    have s1 := n1.kp
    refine ⟨by decide, by decide, by decide, by decide, lp_r (lo := 0) (n := 63) (fun i σ H2 => ∃ (ds : List Int) (v4 v5 v6 v7 : Option V), σ = [some (.ref a), some (.int 0), some (.int 63), some (.ref p), v4, v5, v6, v7] ∧ Same H H2 ∧ H2 p = some (.lst (ds.map V.int)) ∧ ds.length ≤ 60 * i)
      ⟨[], none, none, none, none, rfl, s1, n1.at_, by simp⟩ ?_ ?_⟩
    · rintro i σ H2 hi ⟨ds, v4, v5, v6, v7, rfl, s2, hp, hl⟩
      have big : ∀ (cs : List Int) (j : Nat), cs.length ≤ 60 * i + j → j ≤ 60 → (cs.map V.int).length < sizeLine := fun cs j h1 h2 => lt_line (by rw [List.length_map]; omega)
      walk_at "wp"
      refine ⟨a, ns, _, rfl, ?_, by omega, fun z => ?_⟩
      · exact s2.seq hs
      walk_at "wp"
      refine ⟨fun σ H' => ∃ (y : Int), σ = [some (.ref a), some (.int 0), some (.int 63), some (.ref p), some (.int (0 + (i : Int))), some (.int y), v6, v7] ∧ H' = H2,
        ite2 (fun _ => ⟨.inl ⟨by decide, by decide⟩, _, rfl, rfl⟩) (fun _ => ⟨_, rfl, rfl⟩), ?_⟩
      rintro σ H3 ⟨y, rfl, rfl⟩
      walk_at "wp"
      refine ⟨⟨by decide, by decide, by decide⟩, ite2 (fun _ => ?_) (fun _ => ?_)⟩
      · refine ⟨by decide, by decide, lp_r (lo := 0) (n := 60) (fun j σ H4 => ∃ (cs : List Int) (y : Int) (v6 : Option V), σ = [some (.ref a), some (.int 0), some (.int 63), some (.ref p), some (.int (0 + (i : Int))), some (.int y), v6, v7] ∧ Same H H4 ∧ H4 p = some (.lst (cs.map V.int)) ∧ cs.length ≤ 60 * i + j)
          ⟨ds, y, v6, rfl, s2, hp, hl⟩ ?_ ?_⟩
        · rintro j σ H4 hj ⟨cs, y, v6, rfl, s4, hp4, hl4⟩
          walk_at "wp"
          refine ite2 (fun _ => ?_) (fun _ => ⟨cs, y, _, rfl, s4, hp4, by omega⟩)
          refine ⟨⟨_, hp4⟩, by decide, _, hp4, big cs j hl4 (by omega), fun H5 c => ⟨⟨by decide, by decide⟩, cs ++ [y % 1000], _, _, rfl, ?_, ?_, ?_⟩⟩
          · exact Chg.same c n1.fr s4
          · rw [c.at_, snoc_map]
          · rw [List.length_append, List.length_singleton]
            omega
        · rintro σ H4 ⟨cs, y, v6, rfl, s4, hp4, hl4⟩
          exact ⟨cs, _, _, _, _, rfl, s4, hp4, by omega⟩
      · refine ⟨.inr ⟨by decide, by decide⟩, .inr ⟨by decide, by decide⟩, by decide, by decide, by decide, lp_r (lo := 0) (n := 12) (fun j σ H4 => ∃ (cs : List Int) (y z : Int) (v6 : Option V), σ = [some (.ref a), some (.int 0), some (.int 63), some (.ref p), some (.int (0 + (i : Int))), some (.int y), v6, some (.int z)] ∧ Same H H4 ∧ H4 p = some (.lst (cs.map V.int)) ∧ cs.length ≤ 60 * i + j)
          ⟨ds, y, _, v6, rfl, s2, hp, hl⟩ ?_ ?_⟩
        · rintro j σ H4 hj ⟨cs, y, z, v6, rfl, s4, hp4, hl4⟩
          walk_at "wp"
          refine ⟨.inr ⟨by decide, by decide⟩, .inl ⟨by decide, by decide⟩, by decide, ⟨_, hp4⟩, ⟨by decide, by decide⟩, by decide, _, hp4, big cs j hl4 (by omega), fun H5 c => ⟨cs ++ [(z * 16807 + 7 * (0 + (j : Int)) + 1) % 2147483647 / 997 % 1000], _, _, _, rfl, ?_, ?_, ?_⟩⟩
          · exact Chg.same c n1.fr s4
          · rw [c.at_, snoc_map]
          · rw [List.length_append, List.length_singleton]
            omega
        · rintro σ H4 ⟨cs, y, z, v6, rfl, s4, hp4, hl4⟩
          exact ⟨cs, _, _, _, _, rfl, s4, hp4, by omega⟩
    · rintro σ H2 ⟨ds, v4, v5, v6, v7, rfl, s2, hp, hl⟩
      walk_at "wp"
      exact q p H2 ds n1.fr hp s2
end
end K10
set_option linter.all false
set_option maxRecDepth 100000
set_option maxHeartbeats 4000000
namespace K10
open PySem PySem.Spec PyProof.Rows L2
section
variable {P : Program} {w : World} {K : PySem.W.Frag} {mg : Str → Option Value} {base : Heap} {Ax : Ad}
local macro_rules | `(tactic| walk_at "wp") => `(tactic| simp only [tVar, tC, tOp, rI0, rI, rU, tUn, rEq, rNe, tTest, tB, tAnd, tOr, tNot, tAndV, tOrV, tNotV, tIf, tSeq, tNext, tAsg, gName, gSub, tDrop, tRet, tRetN, tIfS, tBreak, tCont, tAug, ipI, tCB, tCons, tNil,
  xTup, xLst, xIxL, xIxT, xIxS, xIxK, xLenL, xLenT, xLenS, xLenK, xSlL, xSlT, xSlS, xInL, xInT, xInK, xCat, xRep, xCatT, xTupL, xSetL, xIntS, xIntI, xIntB, xApp, xJoin, xSplit, xFld, xSetF, xAugF, tSl, tPart, tNoPart, xCall, xMeth, xMeth0, xMake, xRaise, xgT, xgL, gCons, gNil, xInD, xIxD, C8.tCut, xIsi, for_r1, for_r2, for_l, for_t, for_e, lc_xl, lc_xt, lc_xr, tM0, S,
  exists_eq_left, exists_eq_left', exists_and_left, V.int.injEq, V.ref.injEq, V.str.injEq, V.bl.injEq, consV, Option.some.injEq, HO.lst.injEq, HO.tup.injEq, HO.ins.injEq, and_true, true_and, List.getElem?_cons_zero, List.getElem?_cons_succ, List.set_cons_zero, List.set_cons_succ,
  if_true, if_false, Bool.false_eq_true, and_assoc, V.ty.injEq, isbI, isbS, kb1, kb2, kb3, kb4, kb5, kb6, kb7, kb8, kb9, reduceCtorEq, decide_false, decide_true, decide_eq_true_eq, Bool.not_eq_true', decide_eq_false_iff_not, Bool.not_true, Bool.not_false, ite_not, at0, at1, at2, at3, at4, ix0, ix1, fl_int, fl_str, fl_bl, fl_non, al_nil, al_cons, lenNil, len1, len2, len3, len4, sc_ii, sc_ss, sc_ns, sc_sn, sc_nn, sc_in, sc_si, sc_is, sc_bb, st_go])
local macro_rules | `(tactic| walk_at "wf") => `(tactic| simp only [*,
  exists_eq_left, exists_eq_left', exists_and_left, V.int.injEq, V.ref.injEq, V.str.injEq, V.bl.injEq, consV, Option.some.injEq, HO.lst.injEq, HO.tup.injEq, HO.ins.injEq, and_true, true_and, List.getElem?_cons_zero, List.getElem?_cons_succ, List.set_cons_zero, List.set_cons_succ,
  if_true, if_false, Bool.false_eq_true, and_assoc, V.ty.injEq, isbI, isbS, kb1, kb2, kb3, kb4, kb5, kb6, kb7, kb8, kb9, reduceCtorEq, decide_false, decide_true, decide_eq_true_eq, Bool.not_eq_true', decide_eq_false_iff_not, Bool.not_true, Bool.not_false, ite_not, at0, at1, at2, at3, at4, ix0, ix1, fl_int, fl_str, fl_bl, fl_non, al_nil, al_cons, lenNil, len1, len2, len3, len4, sc_ii, sc_ss, sc_ns, sc_sn, sc_nn, sc_in, sc_si, sc_is, sc_bb, st_go])
local macro_rules | `(tactic| walk_at "len") => `(tactic| (refine le_line ?_; simp only [List.length_cons, List.length_nil, List.length_append, List.length_map, List.map_nil, List.map_cons] <;> omega))
/-! ### _law_same -/
def spSame1 : Sp := fun vs H Q _ => ((∃ n, vs = [.int n, .int n]) ∨ ∃ z, vs = [.str z, .str z]) ∧ Q (.bl true) H
def spSame2 : Sp := fun vs H Q _ => ∃ (p q : Addr) (n : Int) (z : Str), vs = [.ref p, .ref q] ∧ H p = some (.lst [.int n, .str z]) ∧ H q = some (.lst [.int n, .str z]) ∧ Q (.bl true) H
theorem ok_law_same1 (F : Df K mg "_law_same" s_law_same ["_law_actual", "_law_due"]) (T : Tx w K mg Ax) : Cl P w K mg base L2.CX0 1 "_law_same" spSame1 := by
  have G_law_same : Cl P w K mg base L2.CX0 0 "_law_same" spNo := F.no
  refine F.cl sc_law_same (fun vs H Q E h => ?_) (fun f cdv A outer s H vs Q E hr h => ?_)
  · obtain ⟨⟨_, rfl⟩ | ⟨_, rfl⟩, _⟩ := h
    · rfl
    · rfl
  · refine ⟨_, (pss_cons (ps_if (PW.pt (pw_or (pt_val (pe_callB isi (by rfl) T.b_isinstance (by decide +kernel) (pa_cons (pv 1) (pa_cons (pe_bltn (v := .ty "list") (u := .type "list") (by rfl) T.b_list (by decide +kernel) rfl) pa_nil)))) (pw_or1 (pt_val (pe_callB isi (by rfl) T.b_isinstance (by decide +kernel) (pa_cons (pv 1) (pa_cons (pe_bltn (v := .ty "tuple") (u := .type "tuple") (by rfl) T.b_tuple (by decide +kernel) rfl) pa_nil))))))) (pss_cons (ps_if (PW.pt (pw_or (pt_cmpR op_ne (pe_callB isi (by rfl) T.b_isinstance (by decide +kernel) (pa_cons (pv 1) (pa_cons (pe_bltn (v := .ty "list") (u := .type "list") (by rfl) T.b_list (by decide +kernel) rfl) pa_nil))) (pe_callB isi (by rfl) T.b_isinstance (by decide +kernel) (pa_cons (pv 0) (pa_cons (pe_bltn (v := .ty "list") (u := .type "list") (by rfl) T.b_list (by decide +kernel) rfl) pa_nil))) (nomark _)) (pw_or1 (pt_cmpR op_ne (pe_callB isi (by rfl) T.b_isinstance (by decide +kernel) (pa_cons (pv 1) (pa_cons (pe_bltn (v := .ty "tuple") (u := .type "tuple") (by rfl) T.b_tuple (by decide +kernel) rfl) pa_nil))) (pe_callB isi (by rfl) T.b_isinstance (by decide +kernel) (pa_cons (pv 0) (pa_cons (pe_bltn (v := .ty "tuple") (u := .type "tuple") (by rfl) T.b_tuple (by decide +kernel) rfl) pa_nil))) (nomark _))))) (pss_one (ps_ret pe_bl)) pss_nil)
  (pss_cons (ps_if (pt_cmpR op_ne (pe_callB len_l (by rfl) T.b_len PySem.boot_len (pa_cons (pv 0) pa_nil)) (pe_callB len_l (by rfl) T.b_len PySem.boot_len (pa_cons (pv 1) pa_nil)) (nomark _)) (pss_one (ps_ret pe_bl)) pss_nil)
  (pss_cons (ps_for PassesOwn.never rfl (pi_range1 rfl T.b_range (pa_cons (pe_callB len_l (by rfl) T.b_len PySem.boot_len (pa_cons (pv 1) pa_nil)) pa_nil)) (pg_name (i := 2) sc_law_same.nd rfl (Or.inl rfl))
    (pss_one (ps_if (pt_not (pt_val (px_c G_law_same hr (by omega) (by rfl) (pa_cons (pe_ix ix_l (pv 0) (pv 2) (fun _ _ => rfl)) (pa_cons (pe_ix ix_l (pv 1) (pv 2) (fun _ _ => rfl)) pa_nil))))) (pss_one (ps_ret pe_bl)) pss_nil)))
  (pss_one (ps_ret pe_bl))))) pss_nil)
  (pss_cons (ps_if (pt_cmpR op_isN (pv 1) pe_non (nomark _)) (pss_one (ps_ret (pe_cmpR op_isN (pv 0) pe_non (nomark _)))) pss_nil)
  (pss_cons (ps_if (pt_val (pe_callB isi (by rfl) T.b_isinstance (by decide +kernel) (pa_cons (pv 1) (pa_cons (pe_bltn (v := .ty "bool") (u := .type "bool") (by rfl) T.b_bool (by decide +kernel) rfl) pa_nil)))) (pss_one (ps_ret (pe_and (pe_callB isi (by rfl) T.b_isinstance (by decide +kernel) (pa_cons (pv 0) (pa_cons (pe_bltn (v := .ty "bool") (u := .type "bool") (by rfl) T.b_bool (by decide +kernel) rfl) pa_nil))) (pe_one (pe_cmpR op_eq (pv 0) (pv 1) (nomark _)))))) pss_nil)
  (pss_cons (ps_if (pt_val (pe_callB isi (by rfl) T.b_isinstance (by decide +kernel) (pa_cons (pv 1) (pa_cons (pe_bltn (v := .ty "str") (u := .type "str") (by rfl) T.b_str (by decide +kernel) rfl) pa_nil)))) (pss_one (ps_ret (pe_and (pe_callB isi (by rfl) T.b_isinstance (by decide +kernel) (pa_cons (pv 0) (pa_cons (pe_bltn (v := .ty "str") (u := .type "str") (by rfl) T.b_str (by decide +kernel) rfl) pa_nil))) (pe_one (pe_cmpR op_eq (pv 0) (pv 1) (nomark _)))))) pss_nil)
  (pss_one (ps_ret (pe_and (pe_callB isi (by rfl) T.b_isinstance (by decide +kernel) (pa_cons (pv 0) (pa_cons (pe_bltn (v := .ty "int") (u := .type "int") (by rfl) T.b_int (by decide +kernel) rfl) pa_nil))) (pe_and (pe_not (pe_callB isi (by rfl) T.b_isinstance (by decide +kernel) (pa_cons (pv 0) (pa_cons (pe_bltn (v := .ty "bool") (u := .type "bool") (by rfl) T.b_bool (by decide +kernel) rfl) pa_nil)))) (pe_one (pe_cmpR op_eq (pv 0) (pv 1) (nomark _))))))))))), ?_⟩
    obtain ⟨⟨n, rfl⟩ | ⟨z, rfl⟩, q⟩ := h
    · rw [show L2.start N_law_same [V.int n, V.int n] = [some (.int n), some (.int n), none] from rfl]
      walk_at "wp"
      exact q
    · rw [show L2.start N_law_same [V.str z, V.str z] = [some (.str z), some (.str z), none] from rfl]
      walk_at "wp"
      exact q
theorem ok_law_same2 (F : Df K mg "_law_same" s_law_same ["_law_actual", "_law_due"]) (T : Tx w K mg Ax) : Cl P w K mg base L2.CX0 2 "_law_same" spSame2 := by
  have G_law_same : Cl P w K mg base L2.CX0 1 "_law_same" spSame1 := ok_law_same1 F T
  refine F.cl sc_law_same (fun vs H Q E h => ?_) (fun f cdv A outer s H vs Q E hr h => ?_)
  · obtain ⟨_, _, _, _, rfl, _⟩ := h
    rfl
  · obtain ⟨p, q, n, z, rfl, hp, hq, k⟩ := h
    refine ⟨_, (pss_cons (ps_if (PW.pt (pw_or (pt_val (pe_callB isi (by rfl) T.b_isinstance (by decide +kernel) (pa_cons (pv 1) (pa_cons (pe_bltn (v := .ty "list") (u := .type "list") (by rfl) T.b_list (by decide +kernel) rfl) pa_nil)))) (pw_or1 (pt_val (pe_callB isi (by rfl) T.b_isinstance (by decide +kernel) (pa_cons (pv 1) (pa_cons (pe_bltn (v := .ty "tuple") (u := .type "tuple") (by rfl) T.b_tuple (by decide +kernel) rfl) pa_nil))))))) (pss_cons (ps_if (PW.pt (pw_or (pt_cmpR op_ne (pe_callB isi (by rfl) T.b_isinstance (by decide +kernel) (pa_cons (pv 1) (pa_cons (pe_bltn (v := .ty "list") (u := .type "list") (by rfl) T.b_list (by decide +kernel) rfl) pa_nil))) (pe_callB isi (by rfl) T.b_isinstance (by decide +kernel) (pa_cons (pv 0) (pa_cons (pe_bltn (v := .ty "list") (u := .type "list") (by rfl) T.b_list (by decide +kernel) rfl) pa_nil))) (nomark _)) (pw_or1 (pt_cmpR op_ne (pe_callB isi (by rfl) T.b_isinstance (by decide +kernel) (pa_cons (pv 1) (pa_cons (pe_bltn (v := .ty "tuple") (u := .type "tuple") (by rfl) T.b_tuple (by decide +kernel) rfl) pa_nil))) (pe_callB isi (by rfl) T.b_isinstance (by decide +kernel) (pa_cons (pv 0) (pa_cons (pe_bltn (v := .ty "tuple") (u := .type "tuple") (by rfl) T.b_tuple (by decide +kernel) rfl) pa_nil))) (nomark _))))) (pss_one (ps_ret pe_bl)) pss_nil)
  (pss_cons (ps_if (pt_cmpR op_ne (pe_callB len_l (by rfl) T.b_len PySem.boot_len (pa_cons (pv 0) pa_nil)) (pe_callB len_l (by rfl) T.b_len PySem.boot_len (pa_cons (pv 1) pa_nil)) (nomark _)) (pss_one (ps_ret pe_bl)) pss_nil)
  (pss_cons (ps_for PassesOwn.never rfl (pi_range1 rfl T.b_range (pa_cons (pe_callB len_l (by rfl) T.b_len PySem.boot_len (pa_cons (pv 1) pa_nil)) pa_nil)) (pg_name (i := 2) sc_law_same.nd rfl (Or.inl rfl))
    (pss_one (ps_if (pt_not (pt_val (px_c G_law_same hr (by omega) (by rfl) (pa_cons (pe_ix ix_l (pv 0) (pv 2) (fun _ _ => rfl)) (pa_cons (pe_ix ix_l (pv 1) (pv 2) (fun _ _ => rfl)) pa_nil))))) (pss_one (ps_ret pe_bl)) pss_nil)))
  (pss_one (ps_ret pe_bl))))) pss_nil)
  (pss_cons (ps_if (pt_cmpR op_isN (pv 1) pe_non (nomark _)) (pss_one (ps_ret (pe_cmpR op_isN (pv 0) pe_non (nomark _)))) pss_nil)
  (pss_cons (ps_if (pt_val (pe_callB isi (by rfl) T.b_isinstance (by decide +kernel) (pa_cons (pv 1) (pa_cons (pe_bltn (v := .ty "bool") (u := .type "bool") (by rfl) T.b_bool (by decide +kernel) rfl) pa_nil)))) (pss_one (ps_ret (pe_and (pe_callB isi (by rfl) T.b_isinstance (by decide +kernel) (pa_cons (pv 0) (pa_cons (pe_bltn (v := .ty "bool") (u := .type "bool") (by rfl) T.b_bool (by decide +kernel) rfl) pa_nil))) (pe_one (pe_cmpR op_eq (pv 0) (pv 1) (nomark _)))))) pss_nil)
  (pss_cons (ps_if (pt_val (pe_callB isi (by rfl) T.b_isinstance (by decide +kernel) (pa_cons (pv 1) (pa_cons (pe_bltn (v := .ty "str") (u := .type "str") (by rfl) T.b_str (by decide +kernel) rfl) pa_nil)))) (pss_one (ps_ret (pe_and (pe_callB isi (by rfl) T.b_isinstance (by decide +kernel) (pa_cons (pv 0) (pa_cons (pe_bltn (v := .ty "str") (u := .type "str") (by rfl) T.b_str (by decide +kernel) rfl) pa_nil))) (pe_one (pe_cmpR op_eq (pv 0) (pv 1) (nomark _)))))) pss_nil)
  (pss_one (ps_ret (pe_and (pe_callB isi (by rfl) T.b_isinstance (by decide +kernel) (pa_cons (pv 0) (pa_cons (pe_bltn (v := .ty "int") (u := .type "int") (by rfl) T.b_int (by decide +kernel) rfl) pa_nil))) (pe_and (pe_not (pe_callB isi (by rfl) T.b_isinstance (by decide +kernel) (pa_cons (pv 0) (pa_cons (pe_bltn (v := .ty "bool") (u := .type "bool") (by rfl) T.b_bool (by decide +kernel) rfl) pa_nil)))) (pe_one (pe_cmpR op_eq (pv 0) (pv 1) (nomark _))))))))))), ?_⟩
    rw [show L2.start N_law_same [V.ref p, V.ref q] = [some (.ref p), some (.ref q), none] from rfl]
    walk_at "wp"
    simp only [isbL hp, isbL hq, kb10, kb11, Option.some.injEq, exists_eq_left', if_true, decide_true, not_true, if_false, reduceCtorEq, Bool.false_eq_true, hp, hq, HO.lst.injEq]
    refine ⟨by show -(2 ^ 62) ≤ (2 : Int); decide, by show (2 : Int) < 2 ^ 62; decide, lp_r (lo := 0) (n := 2) (fun i σ H1 => (∃ v2, σ = [some (.ref p), some (.ref q), v2]) ∧ H1 = H) ⟨⟨_, rfl⟩, rfl⟩ ?_ ?_⟩
    · rintro i σ H1 hi ⟨⟨v2, rfl⟩, rfl⟩
      walk_at "wp"
      simp only [hp, hq, Option.some.injEq, HO.lst.injEq, exists_eq_left']
      match i, hi with
      | 0, _ =>
        refine ⟨_, at0, _, at0, .inl ⟨n, rfl⟩, _, rfl, ?_⟩
        walk_at "wp"
        exact ⟨_, rfl⟩
      | 1, _ =>
        refine ⟨_, at1, _, at1, .inr ⟨z, rfl⟩, _, rfl, ?_⟩
        walk_at "wp"
        exact ⟨_, rfl⟩
    · rintro σ H1 ⟨⟨v2, rfl⟩, rfl⟩
      exact k
/-! ### draws, picks -/
theorem draw_ {H : Hp} {b : Addr} {m : Int} {Q : VK} {E : XK} (hm : 0 < m) (hb : Bx H b) (k : ∀ r H', 0 ≤ r → r < m → Go b H H' → Q (.int r) H') : spDraw [.ref b, .int m] H Q E := ⟨b, m, rfl, hm, hb, k⟩
theorem at_in {xs : List V} {i : Int} (h0 : 0 ≤ i) (h1 : i < (xs.length : Int)) : ∃ v, atI xs i = some v ∧ v ∈ xs := by
  obtain ⟨k, rfl⟩ : ∃ k : Nat, i = (k : Int) := ⟨i.toNat, by omega⟩
  have hk : k < xs.length := by omega
  exact ⟨xs[k], atI_nat (List.getElem?_eq_getElem hk), List.getElem_mem hk⟩
/-- [..][_law_draw(box, m)] -/
theorem pick_ {xs : List V} {H : Hp} {b : Addr} {m : Int} {Q : VK} {E : XK} (hl : xs.length ≤ 100) (hx : (xs.length : Int) = m) (hm : 0 < m) (hb : Bx H b) (k : ∀ v H', v ∈ xs → Go b H H' → Q v H') :
    xs.length ≤ 100 ∧ nw (.lst xs) H fun x H1 => spDraw [.ref b, .int m] H1 (fun y H2 => ∃ p, x = .ref p ∧ ∃ i, y = .int i ∧ ∃ xs, H2 p = some (.lst xs) ∧ ∃ v, atI xs i = some v ∧ Q v H2) E := by
  refine ⟨hl, fun p H1 n1 => draw_ hm (hb.same n1.kp) fun r H2 r0 r1 g => ⟨p, rfl, r, rfl, xs, g.kp _ _ (hb.ne_new n1.fr) n1.at_, ?_⟩⟩
  obtain ⟨v, h1, h2⟩ := at_in (xs := xs) r0 (by omega)
  exact ⟨v, h1, k v H2 h2 ((Go.of hb n1.kp).trans g)⟩
/-- "abcd"[_law_draw(box, 4)] -/
theorem letter_ {H : Hp} {b : Addr} {R : Nat → Hp → Prop} {E : XK} (hb : Bx H b) (k : ∀ c H', (⟨#[c]⟩ : Str) ∈ regS → Go b H H' → R c H') :
    spDraw [.ref b, .int 4] H (fun y H2 => ∃ x, y = .int x ∧ ("abcd" : Str).length ≤ sizeLine ∧ ∃ c, atI ("abcd" : Str).cps.toList x = some c ∧ R c H2) E := by
  refine draw_ (by decide) hb fun r H2 r0 r1 g => ⟨r, rfl, by decide +kernel, ?_⟩
  have h : r = 0 ∨ r = 1 ∨ r = 2 ∨ r = 3 := by omega
  rcases h with rfl | rfl | rfl | rfl
  · exact ⟨97, by decide +kernel, k 97 H2 (by decide +kernel) g⟩
  · exact ⟨98, by decide +kernel, k 98 H2 (by decide +kernel) g⟩
  · exact ⟨99, by decide +kernel, k 99 H2 (by decide +kernel) g⟩
  · exact ⟨100, by decide +kernel, k 100 H2 (by decide +kernel) g⟩
/-! ### trees -/
def spTree : Nat → Sp
  | 0 => spNo
  | n + 1 => fun vs H Q _ => ∃ b : Addr, vs = [.ref b, .int n] ∧ n ≤ 1 ∧ Bx H b ∧ ∀ (v : V) (t : Tr) (H' : Hp), Go b H H' → TrOk t → (n = 0 → ∃ s, t = .reg s) → Rp H' v (trD t) → Q v H'
theorem ok_law_tree (n : Nat) (hn : n ≤ 1) (F : Df K mg "_law_tree" s_law_tree ["_law_box", "_law_depth"]) (T : Tx w K mg Ax) (G_law_draw : Cl P w K mg base L2.CX0 1 "_law_draw" spDraw) (G_law_tree : Cl P w K mg base L2.CX0 (n + 1) "_law_tree" (spTree n)) :
    Cl P w K mg base L2.CX0 (n + 2) "_law_tree" (spTree (n + 1)) := by
  refine F.cl sc_law_tree (fun vs H Q E h => ?_) (fun f cdv A outer s H vs Q E hr h => ?_)
  · obtain ⟨_, rfl, _⟩ := h
    rfl
  · obtain ⟨b, rfl, _, hb, q⟩ := h
    refine ⟨_, (pss_cons (ps_set (i := 2) sc_law_tree.nd rfl (Or.inl rfl) (px_c G_law_draw hr (by omega) (by rfl) (pa_cons (pv 0) (pa_cons pe_int pa_nil))))
  (pss_cons (ps_if (PW.pt (pw_or (pt_cmpR op_eq (pv 1) pe_int (nomark _)) (pw_or1 (pt_cmpR op_lt (pv 2) pe_int (nomark _))))) (pss_one (ps_ret (px_tup (pa_cons pe_str (pa_cons (pe_ix ix_s pe_str (px_c G_law_draw hr (by omega) (by rfl) (pa_cons (pv 0) (pa_cons pe_int pa_nil))) (fun _ _ => rfl)) pa_nil))))) pss_nil)
  (pss_cons (ps_if (pt_cmpR op_eq (pv 2) pe_int (nomark _)) (pss_one (ps_ret (px_tup (pa_cons pe_str (pa_cons (pe_ix ix_l (px_lst (pa_cons pe_int (pa_cons pe_int (pa_cons pe_int (pa_cons pe_int (pa_cons pe_int (pa_cons pe_int pa_nil))))))) (px_c G_law_draw hr (by omega) (by rfl) (pa_cons (pv 0) (pa_cons pe_int pa_nil))) (fun _ _ => rfl)) pa_nil))))) pss_nil)
  (pss_cons (ps_if (pt_cmpR op_eq (pv 2) pe_int (nomark _)) (pss_one (ps_ret (px_tup (pa_cons pe_str (pa_cons (px_c G_law_tree hr (by omega) (by rfl) (pa_cons (pv 0) (pa_cons (pe_op op_sub (pv 1) pe_int) pa_nil))) pa_nil))))) pss_nil)
  (pss_cons (ps_if (pt_cmpR op_eq (pv 2) pe_int (nomark _)) (pss_one (ps_ret (px_tup (pa_cons pe_str (pa_cons (px_c G_law_tree hr (by omega) (by rfl) (pa_cons (pv 0) (pa_cons (pe_op op_sub (pv 1) pe_int) pa_nil))) pa_nil))))) pss_nil)
  (pss_cons (ps_set (i := 3) sc_law_tree.nd rfl (Or.inl rfl) (pe_ix ix_l (px_lst (pa_cons pe_str (pa_cons pe_str (pa_cons pe_str (pa_cons pe_str (pa_cons pe_str (pa_cons pe_str (pa_cons pe_str (pa_cons pe_str pa_nil))))))))) (px_c G_law_draw hr (by omega) (by rfl) (pa_cons (pv 0) (pa_cons pe_int pa_nil))) (fun _ _ => rfl)))
  (pss_cons (ps_set (i := 4) sc_law_tree.nd rfl (Or.inl rfl) (px_c G_law_tree hr (by omega) (by rfl) (pa_cons (pv 0) (pa_cons (pe_op op_sub (pv 1) pe_int) pa_nil))))
  (pss_one (ps_ret (px_tup (pa_cons pe_str (pa_cons (pv 3) (pa_cons (pv 4) (pa_cons (px_c G_law_tree hr (by omega) (by rfl) (pa_cons (pv 0) (pa_cons (pe_op op_sub (pv 1) pe_int) pa_nil))) pa_nil)))))))))))))), ?_⟩
    rw [show L2.start N_law_tree [V.ref b, V.int n] = [some (.ref b), some (.int n), none, none, none] from rfl]
    walk_at "wp"
    refine draw_ (by decide) hb fun r H1 r0 r1 g1 => ?_
    have leaf : spDraw [V.ref b, V.int 4] H1 (fun y H2 => ∃ x, y = V.int x ∧ (Str.ofString "abcd").length ≤ sizeLine ∧ ∃ c, atI (Str.ofString "abcd").cps.toList x = some c ∧ nw (HO.tup [V.str (Str.ofString "reg"), V.str { cps := #[c] }]) H2 Q) L2.E0 :=
      letter_ g1.bx fun c H2 hc g2 p H3 n3 => q _ (.reg ⟨#[c]⟩) _ ((g1.trans g2).then n3.kp) hc (fun _ => ⟨_, rfl⟩) (Rp.m2 n3.at_ (.str _) (.str _))
    refine ite2 (fun _ => leaf) (fun c0 => ⟨r, rfl, ite2 (fun _ => leaf) (fun _ => ?_)⟩)
    obtain rfl : n = 1 := by omega
    clear leaf
    walk_at "wp"
    have reg : ∀ {H2 : Hp} {R : VK} {E : XK}, Bx H2 b → (∀ v s H', Go b H2 H' → s ∈ regS → Rp H' v (regD s) → R v H') → spTree 1 [V.ref b, V.int ((1 : Nat) - 1)] H2 R E := fun {H2 R E} hb2 k =>
      ⟨b, rfl, by decide, hb2, fun v t H' g ok z rp => by
        obtain ⟨s, rfl⟩ := z rfl
        exact k v s H' g ok rp⟩
    refine ite2 (fun _ => ?_) (fun _ => ite2 (fun _ => ?_) (fun _ => ite2 (fun _ => ?_) (fun _ => ?_)))
    · refine pick_ (by decide) rfl (by decide) g1.bx fun v H2 hv g2 p H3 n3 => ?_
      obtain ⟨z, rfl, hz⟩ : ∃ z, v = .int z ∧ z ∈ numS := by
        have e : ([V.int 0, V.int 1, V.int 2, V.int 9, V.int 10, V.int 99] : List V) = numS.map V.int := rfl
        rw [e] at hv
        obtain ⟨z, h1, h2⟩ := List.mem_map.mp hv
        exact ⟨z, h2.symm, h1⟩
      exact q _ (.num z) _ ((g1.trans g2).then n3.kp) hz (fun h => absurd h (by decide)) (Rp.m2 n3.at_ (.str _) (.int _))
    · refine reg g1.bx fun v s H2 g2 hs rp p H3 n3 => ?_
      exact q _ (.neg s) _ ((g1.trans g2).then n3.kp) hs (fun h => absurd h (by decide)) (Rp.m2 n3.at_ (.str _) (rp.tk (.of n3.kp)))
    · refine reg g1.bx fun v s H2 g2 hs rp p H3 n3 => ?_
      exact q _ (.nt s) _ ((g1.trans g2).then n3.kp) hs (fun h => absurd h (by decide)) (Rp.m2 n3.at_ (.str _) (rp.tk (.of n3.kp)))
    · refine pick_ (Q := fun v H2 => spTree 1 [V.ref b, V.int ((1 : Nat) - 1)] H2 (fun x H1 => spTree 1 [V.ref b, V.int ((1 : Nat) - 1)] H1 (fun x_1 H1 => nw (HO.tup [V.str (Str.ofString "op"), v, x, x_1]) H1 Q) L2.E0) L2.E0) (by decide) rfl (by decide) g1.bx fun v H2 hv g2 => ?_
      refine reg g2.bx fun v1 s1 H3 g3 hs1 rp1 => ?_
      refine reg g3.bx fun v2 s2 H4 g4 hs2 rp2 p H5 n5 => ?_
      obtain ⟨g, rfl, hg⟩ : ∃ g, v = .str g ∧ g ∈ sgS := by
        have e : ([V.str "+", V.str "-", V.str "*", V.str "=", V.str "<", V.str "and", V.str "or", V.str "+"] : List V) = sgS.map V.str := rfl
        have hv' : v ∈ sgS.map V.str := hv
        obtain ⟨z, h1, h2⟩ := List.mem_map.mp hv'
        exact ⟨z, h2.symm, h1⟩
      exact q _ (.op g s1 s2) _ ((((g1.trans g2).trans g3).trans g4).then n5.kp) ⟨hg, hs1, hs2⟩ (fun h => absurd h (by decide)) (Rp.m4 n5.at_ (.str _) (.str _) ((rp1.tk (g4.tk g3.bx)).tk (.of n5.kp)) (rp2.tk (.of n5.kp)))
end
end K10
set_option linter.all false
set_option maxRecDepth 100000
set_option maxHeartbeats 4000000
namespace K10
open PySem PySem.Spec PyProof.Rows L2
section
variable {P : Program} {w : World} {K : PySem.W.Frag} {mg : Str → Option Value} {base : Heap} {Ax : Ad}
local macro_rules | `(tactic| walk_at "wp") => `(tactic| simp only [tVar, tC, tOp, rI0, rI, rU, tUn, rEq, rNe, tTest, tB, tAnd, tOr, tNot, tAndV, tOrV, tNotV, tIf, tSeq, tNext, tAsg, gName, gSub, tDrop, tRet, tRetN, tIfS, tBreak, tCont, tAug, ipI, tCB, tCons, tNil,
  xTup, xLst, xIxL, xIxT, xIxS, xIxK, xLenL, xLenT, xLenS, xLenK, xSlL, xSlT, xSlS, xInL, xInT, xInK, xCat, xRep, xCatT, xTupL, xSetL, xIntS, xIntI, xIntB, xApp, xJoin, xSplit, xFld, xSetF, xAugF, tSl, tPart, tNoPart, xCall, xMeth, xMeth0, xMake, xRaise, xgT, xgL, gCons, gNil, xInD, xIxD, C8.tCut, xIsi, for_r1, for_r2, for_l, for_t, for_e, lc_xl, lc_xt, lc_xr, tM0, S,
  exists_eq_left, exists_eq_left', exists_and_left, V.int.injEq, V.ref.injEq, V.str.injEq, V.bl.injEq, consV, Option.some.injEq, HO.lst.injEq, HO.tup.injEq, HO.ins.injEq, and_true, true_and, List.getElem?_cons_zero, List.getElem?_cons_succ, List.set_cons_zero, List.set_cons_succ,
  if_true, if_false, Bool.false_eq_true, and_assoc, V.ty.injEq, isbI, isbS, kb1, kb2, kb3, kb4, kb5, kb6, kb7, kb8, kb9, reduceCtorEq, decide_false, decide_true, decide_eq_true_eq, Bool.not_eq_true', decide_eq_false_iff_not, Bool.not_true, Bool.not_false, ite_not, at0, at1, at2, at3, at4, ix0, ix1, fl_int, fl_str, fl_bl, fl_non, al_nil, al_cons, lenNil, len1, len2, len3, len4, sc_ii, sc_ss, sc_ns, sc_sn, sc_nn, sc_in, sc_si, sc_is, sc_bb, st_go])
local macro_rules | `(tactic| walk_at "wf") => `(tactic| simp only [*,
  exists_eq_left, exists_eq_left', exists_and_left, V.int.injEq, V.ref.injEq, V.str.injEq, V.bl.injEq, consV, Option.some.injEq, HO.lst.injEq, HO.tup.injEq, HO.ins.injEq, and_true, true_and, List.getElem?_cons_zero, List.getElem?_cons_succ, List.set_cons_zero, List.set_cons_succ,
  if_true, if_false, Bool.false_eq_true, and_assoc, V.ty.injEq, isbI, isbS, kb1, kb2, kb3, kb4, kb5, kb6, kb7, kb8, kb9, reduceCtorEq, decide_false, decide_true, decide_eq_true_eq, Bool.not_eq_true', decide_eq_false_iff_not, Bool.not_true, Bool.not_false, ite_not, at0, at1, at2, at3, at4, ix0, ix1, fl_int, fl_str, fl_bl, fl_non, al_nil, al_cons, lenNil, len1, len2, len3, len4, sc_ii, sc_ss, sc_ns, sc_sn, sc_nn, sc_in, sc_si, sc_is, sc_bb, st_go])
local macro_rules | `(tactic| walk_at "len") => `(tactic| (refine le_line ?_; simp only [List.length_cons, List.length_nil, List.length_append, List.length_map, List.map_nil, List.map_cons] <;> omega))
theorem sne {a b : String} (h : ¬ (Str.ofString a) = (Str.ofString b)) : (Str.ofString a = Str.ofString b) = False := eq_false h
/-- a new list -/
def NwL (xs : List V) (H : Hp) (Q : VK) : Prop := ∀ (p : Addr) (H' : Hp), H p = none → H' p = some (.lst xs) → Same H H' → Q (.ref p) H'
theorem NwL.of {xs : List V} {H : Hp} {Q : VK} (k : NwL xs H Q) {p : Addr} {H1 : Hp} (n : New p (.lst xs) H H1) : Q (.ref p) H1 := k p H1 n.fr n.at_ n.kp
theorem NwL.of2 {xs : List V} {H H1 H2 : Hp} {Q : VK} (k : NwL xs H Q) (s : Same H H1) {p : Addr} (n : New p (.lst xs) H1 H2) : Q (.ref p) H2 := k p H2 (s.free n.fr) n.at_ (s.trans n.kp)
/-! ### _law_level -/
def spLevel : Sp := fun vs H Q _ => ∃ v, vs = [v] ∧ ((∃ s, Rp H v (regD s) ∧ Q (.int 5) H) ∨ ∃ g s t, Rp H v (trD (.op g s t)) ∧ ∀ (l : Int) (H' : Hp), 0 ≤ l → l ≤ 4 → Same H H' → Q (.int l) H')
theorem ok_law_level (F : Df K mg "_law_level" s_law_level ["_law_tree_here"]) (T : Tx w K mg Ax) : Cl P w K mg base L2.CX0 1 "_law_level" spLevel := by
  refine F.cl sc_law_level (fun vs H Q E h => ?_) (fun f cdv A outer s H vs Q E hr h => ?_)
  · obtain ⟨_, rfl, _⟩ := h
    rfl
  · refine ⟨_, (pss_cons (ps_if (pt_cmpR op_ne (pe_ix ix_t (pv 0) pe_int (fun _ _ => rfl)) pe_str (nomark _)) (pss_one (ps_ret pe_int)) pss_nil)
  (pss_cons (ps_if (pt_cmpR in_l (pe_ix ix_t (pv 0) pe_int (fun _ _ => rfl)) (px_lst (pa_cons pe_str (pa_cons pe_str pa_nil))) rfl) (pss_one (ps_ret (pe_callTy int_b (by rfl) T.b_int (by decide +kernel) (pa_cons (pe_cmpR op_eq (pe_ix ix_t (pv 0) pe_int (fun _ _ => rfl)) pe_str (nomark _)) pa_nil)))) pss_nil)
  (pss_cons (ps_if (pt_cmpR in_l (pe_ix ix_t (pv 0) pe_int (fun _ _ => rfl)) (px_lst (pa_cons pe_str (pa_cons pe_str pa_nil))) rfl) (pss_one (ps_ret pe_int)) pss_nil)
  (pss_one (ps_ret (pe_op op_add pe_int (pe_callTy int_b (by rfl) T.b_int (by decide +kernel) (pa_cons (pe_cmpR op_eq (pe_ix ix_t (pv 0) pe_int (fun _ _ => rfl)) pe_str (nomark _)) pa_nil)))))))), ?_⟩
    obtain ⟨v, rfl, ⟨s, rp, q⟩ | ⟨g, s, t, rp, q⟩⟩ := h
    · obtain ⟨p, x, y, rfl, hp, r1, r2⟩ := rp.t2
      cases r1.str_inv
      rw [show L2.start N_law_level [V.ref p] = [some (.ref p)] from rfl]
      walk_at "wp"
      simp only [hp, Option.some.injEq, HO.tup.injEq, exists_eq_left', at0]
      walk_at "wp"
      rw [if_neg (by decide +kernel)]
      exact q
    · obtain ⟨p, x, y, z, u, rfl, hp, r1, r2, r3, r4⟩ := rp.t4
      cases r1.str_inv
      cases r2.str_inv
      rw [show L2.start N_law_level [V.ref p] = [some (.ref p)] from rfl]
      walk_at "wp"
      simp only [hp, Option.some.injEq, HO.tup.injEq, exists_eq_left', at0, at1]
      walk_at "wp"
      intro p1 H1 n1
      have a1 := n1.at_
      have hp1 := n1.kp _ _ hp
      walk_at "wf"
      refine ite2 (fun _ => q _ _ (by split <;> decide) (by split <;> decide) n1.kp) (fun _ => ?_)
      intro p2 H2 n2
      have a2 := n2.at_
      have hp2 := n2.kp _ _ hp1
      walk_at "wf"
      exact ite2 (fun _ => q _ _ (by decide) (by decide) (n1.kp.trans n2.kp)) (fun _ => q _ _ (by split <;> decide) (by split <;> decide) (n1.kp.trans n2.kp))
/-! ### _law_around, _law_texts -/
def spText1 : Sp := fun vs H Q _ => ∃ v s, vs = [v] ∧ Rp H v (regD s) ∧ NwL [.str s] H Q
def spAround : Sp := fun vs H Q _ => ∃ v s n, vs = [v, .int n] ∧ n ≤ 5 ∧ Rp H v (regD s) ∧ NwL [.str s] H Q
def spTexts : Sp := fun vs H Q _ => ∃ v t, vs = [v] ∧ Rp H v (trD t) ∧ TrOk t ∧ NwL ((trW t).map V.str) H Q
theorem ok_law_around (F : Df K mg "_law_around" s_law_around ["_law_tree_here", "_law_least"]) (T : Tx w K mg Ax) (G_law_level : Cl P w K mg base L2.CX0 1 "_law_level" spLevel) (G_law_texts : Cl P w K mg base L2.CX0 1 "_law_texts" spText1) : Cl P w K mg base L2.CX0 2 "_law_around" spAround := by
  refine F.cl sc_law_around (fun vs H Q E h => ?_) (fun f cdv A outer s H vs Q E hr h => ?_)
  · obtain ⟨_, _, _, rfl, _⟩ := h
    rfl
  · obtain ⟨v, s, n, rfl, hn, rp, q⟩ := h
    refine ⟨_, (pss_cons (ps_if (pt_cmpR op_lt (px_c G_law_level hr (by omega) (by rfl) (pa_cons (pv 0) pa_nil)) (pv 1) (nomark _)) (pss_one (ps_ret (pe_op cat_l (pe_op cat_l (px_lst (pa_cons pe_str pa_nil)) (px_c G_law_texts hr (by omega) (by rfl) (pa_cons (pv 0) pa_nil))) (px_lst (pa_cons pe_str pa_nil))))) pss_nil)
  (pss_one (ps_ret (px_c G_law_texts hr (by omega) (by rfl) (pa_cons (pv 0) pa_nil))))), ?_⟩
    rw [show L2.start N_law_around [v, V.int n] = [some v, some (.int n)] from rfl]
    walk_at "wp"
    refine ⟨v, rfl, .inl ⟨s, rp, _, rfl, ?_⟩⟩
    rw [if_neg (by omega)]
    exact ⟨v, s, rfl, rp, q⟩
theorem int_fits {n : Int} (h : n.natAbs < 2 ^ 1000) : n.natAbs.log2 < 1920 := by
  by_cases h0 : n.natAbs = 0
  · rw [h0]
    decide
  · exact Nat.lt_of_lt_of_le ((Nat.log2_lt h0).mpr h) (by decide)
theorem ok_law_texts1 (F : Df K mg "_law_texts" s_law_texts ["_law_tree_here"]) (T : Tx w K mg Ax) (G_law_level : Cl P w K mg base L2.CX0 0 "_law_level" spNo) (G_law_around : Cl P w K mg base L2.CX0 0 "_law_around" spNo) : Cl P w K mg base L2.CX0 1 "_law_texts" spText1 := by
  refine F.cl sc_law_texts (fun vs H Q E h => ?_) (fun f cdv A outer s H vs Q E hr h => ?_)
  · obtain ⟨_, _, rfl, _⟩ := h
    rfl
  · obtain ⟨v, s, rfl, rp, q⟩ := h
    obtain ⟨p, x, y, rfl, hp, r1, r2⟩ := rp.t2
    cases r1.str_inv
    cases r2.str_inv
    refine ⟨_, (pss_cons (ps_if (pt_cmpR op_eq (pe_ix ix_t (pv 0) pe_int (fun _ _ => rfl)) pe_str (nomark _)) (pss_one (ps_ret (px_lst (pa_cons (pe_callTy call_str_int (by rfl) T.b_str (by decide +kernel) (pa_cons (pe_ix ix_t (pv 0) pe_int (fun _ _ => rfl)) pa_nil)) pa_nil)))) pss_nil)
  (pss_cons (ps_if (pt_cmpR op_eq (pe_ix ix_t (pv 0) pe_int (fun _ _ => rfl)) pe_str (nomark _)) (pss_one (ps_ret (px_lst (pa_cons (pe_ix ix_t (pv 0) pe_int (fun _ _ => rfl)) pa_nil)))) pss_nil)
  (pss_cons (ps_if (pt_cmpR op_eq (pe_ix ix_t (pv 0) pe_int (fun _ _ => rfl)) pe_str (nomark _)) (pss_one (ps_ret (pe_op cat_l (px_lst (pa_cons pe_str pa_nil)) (px_c G_law_around hr (by omega) (by rfl) (pa_cons (pe_ix ix_t (pv 0) pe_int (fun _ _ => rfl)) (pa_cons pe_int pa_nil)))))) pss_nil)
  (pss_cons (ps_if (pt_cmpR op_eq (pe_ix ix_t (pv 0) pe_int (fun _ _ => rfl)) pe_str (nomark _)) (pss_one (ps_ret (pe_op cat_l (px_lst (pa_cons pe_str pa_nil)) (px_c G_law_around hr (by omega) (by rfl) (pa_cons (pe_ix ix_t (pv 0) pe_int (fun _ _ => rfl)) (pa_cons pe_int pa_nil)))))) pss_nil)
  (pss_cons (ps_set (i := 1) sc_law_texts.nd rfl (Or.inl rfl) (px_c G_law_level hr (by omega) (by rfl) (pa_cons (pv 0) pa_nil)))
  (pss_cons (ps_set (i := 2) sc_law_texts.nd rfl (Or.inl rfl) (px_c G_law_around hr (by omega) (by rfl) (pa_cons (pe_ix ix_t (pv 0) pe_int (fun _ _ => rfl)) (pa_cons (pe_op op_add (pv 1) (pe_callTy int_b (by rfl) T.b_int (by decide +kernel) (pa_cons (pe_cmpR op_eq (pv 1) pe_int (nomark _)) pa_nil))) pa_nil))))
  (pss_one (ps_ret (pe_op cat_l (pe_op cat_l (pv 2) (px_lst (pa_cons (pe_ix ix_t (pv 0) pe_int (fun _ _ => rfl)) pa_nil))) (px_c G_law_around hr (by omega) (by rfl) (pa_cons (pe_ix ix_t (pv 0) pe_int (fun _ _ => rfl)) (pa_cons (pe_op op_add (pv 1) pe_int) pa_nil)))))))))))), ?_⟩
    rw [show L2.start N_law_texts [V.ref p] = [some (.ref p), none, none] from rfl]
    walk_at "wp"
    simp only [hp, Option.some.injEq, HO.tup.injEq, exists_eq_left', at0, at1]
    walk_at "wp"
    rw [if_neg (by decide +kernel)]
    exact fun p1 H1 n1 => q.of n1
theorem ok_law_texts (F : Df K mg "_law_texts" s_law_texts ["_law_tree_here"]) (T : Tx w K mg Ax) (G_law_level : Cl P w K mg base L2.CX0 1 "_law_level" spLevel) (G_law_around : Cl P w K mg base L2.CX0 2 "_law_around" spAround) : Cl P w K mg base L2.CX0 3 "_law_texts" spTexts := by
  refine F.cl sc_law_texts (fun vs H Q E h => ?_) (fun f cdv A outer s H vs Q E hr h => ?_)
  · obtain ⟨_, _, rfl, _⟩ := h
    rfl
  · obtain ⟨v, t, rfl, rp, ok, q⟩ := h
    refine ⟨_, (pss_cons (ps_if (pt_cmpR op_eq (pe_ix ix_t (pv 0) pe_int (fun _ _ => rfl)) pe_str (nomark _)) (pss_one (ps_ret (px_lst (pa_cons (pe_callTy call_str_int (by rfl) T.b_str (by decide +kernel) (pa_cons (pe_ix ix_t (pv 0) pe_int (fun _ _ => rfl)) pa_nil)) pa_nil)))) pss_nil)
  (pss_cons (ps_if (pt_cmpR op_eq (pe_ix ix_t (pv 0) pe_int (fun _ _ => rfl)) pe_str (nomark _)) (pss_one (ps_ret (px_lst (pa_cons (pe_ix ix_t (pv 0) pe_int (fun _ _ => rfl)) pa_nil)))) pss_nil)
  (pss_cons (ps_if (pt_cmpR op_eq (pe_ix ix_t (pv 0) pe_int (fun _ _ => rfl)) pe_str (nomark _)) (pss_one (ps_ret (pe_op cat_l (px_lst (pa_cons pe_str pa_nil)) (px_c G_law_around hr (by omega) (by rfl) (pa_cons (pe_ix ix_t (pv 0) pe_int (fun _ _ => rfl)) (pa_cons pe_int pa_nil)))))) pss_nil)
  (pss_cons (ps_if (pt_cmpR op_eq (pe_ix ix_t (pv 0) pe_int (fun _ _ => rfl)) pe_str (nomark _)) (pss_one (ps_ret (pe_op cat_l (px_lst (pa_cons pe_str pa_nil)) (px_c G_law_around hr (by omega) (by rfl) (pa_cons (pe_ix ix_t (pv 0) pe_int (fun _ _ => rfl)) (pa_cons pe_int pa_nil)))))) pss_nil)
  (pss_cons (ps_set (i := 1) sc_law_texts.nd rfl (Or.inl rfl) (px_c G_law_level hr (by omega) (by rfl) (pa_cons (pv 0) pa_nil)))
  (pss_cons (ps_set (i := 2) sc_law_texts.nd rfl (Or.inl rfl) (px_c G_law_around hr (by omega) (by rfl) (pa_cons (pe_ix ix_t (pv 0) pe_int (fun _ _ => rfl)) (pa_cons (pe_op op_add (pv 1) (pe_callTy int_b (by rfl) T.b_int (by decide +kernel) (pa_cons (pe_cmpR op_eq (pv 1) pe_int (nomark _)) pa_nil))) pa_nil))))
  (pss_one (ps_ret (pe_op cat_l (pe_op cat_l (pv 2) (px_lst (pa_cons (pe_ix ix_t (pv 0) pe_int (fun _ _ => rfl)) pa_nil))) (px_c G_law_around hr (by omega) (by rfl) (pa_cons (pe_ix ix_t (pv 0) pe_int (fun _ _ => rfl)) (pa_cons (pe_op op_add (pv 1) pe_int) pa_nil)))))))))))), ?_⟩
    cases t with
    | reg s =>
      obtain ⟨p, x, y, rfl, hp, r1, r2⟩ := Rp.t2 rp
      cases r1.str_inv
      cases r2.str_inv
      rw [show L2.start N_law_texts [V.ref p] = [some (.ref p), none, none] from rfl]
      walk_at "wp"
      simp only [hp, Option.some.injEq, HO.tup.injEq, exists_eq_left', at0, at1]
      walk_at "wp"
      rw [if_neg (by decide +kernel)]
      exact fun p1 H1 n1 => q.of n1
    | num n =>
      obtain ⟨p, x, y, rfl, hp, r1, r2⟩ := Rp.t2 rp
      cases r1.str_inv
      cases r2.int_inv
      rw [show L2.start N_law_texts [V.ref p] = [some (.ref p), none, none] from rfl]
      walk_at "wp"
      simp only [hp, Option.some.injEq, HO.tup.injEq, exists_eq_left', at0, at1]
      walk_at "wp"
      have hn : n.natAbs < 2 ^ 1000 := by
        have h : n ∈ numS := ok
        simp only [numS, List.mem_cons, List.not_mem_nil, or_false] at h
        omega
      exact ⟨int_fits hn, fun p1 H1 n1 => q.of n1⟩
    | neg s =>
      obtain ⟨p, x, y, rfl, hp, r1, r2⟩ := Rp.t2 rp
      cases r1.str_inv
      rw [show L2.start N_law_texts [V.ref p] = [some (.ref p), none, none] from rfl]
      walk_at "wp"
      simp only [hp, Option.some.injEq, HO.tup.injEq, exists_eq_left', at0, at1]
      walk_at "wp"
      rw [if_neg (by decide +kernel), if_neg (by decide +kernel)]
      intro p1 H1 n1
      have hp1 := n1.kp _ _ hp
      simp only [hp1, Option.some.injEq, HO.tup.injEq, exists_eq_left', at0, at1]
      refine ⟨_, _, _, rfl, by decide, r2.tk (.of n1.kp), fun p2 H2 n2 a2 s2 => ⟨_, rfl, _, rfl, _, s2 _ _ n1.at_, _, a2, by walk_at "len", fun p3 H3 n3 => q.of2 (n1.kp.trans s2) n3⟩⟩
    | nt s =>
      obtain ⟨p, x, y, rfl, hp, r1, r2⟩ := Rp.t2 rp
      cases r1.str_inv
      rw [show L2.start N_law_texts [V.ref p] = [some (.ref p), none, none] from rfl]
      walk_at "wp"
      simp only [hp, Option.some.injEq, HO.tup.injEq, exists_eq_left', at0, at1]
      walk_at "wp"
      rw [if_neg (by decide +kernel), if_neg (by decide +kernel), if_neg (by decide +kernel)]
      intro p1 H1 n1
      have hp1 := n1.kp _ _ hp
      simp only [hp1, Option.some.injEq, HO.tup.injEq, exists_eq_left', at0, at1]
      refine ⟨_, _, _, rfl, by decide, r2.tk (.of n1.kp), fun p2 H2 n2 a2 s2 => ⟨_, rfl, _, rfl, _, s2 _ _ n1.at_, _, a2, by walk_at "len", fun p3 H3 n3 => q.of2 (n1.kp.trans s2) n3⟩⟩
    | op g s t =>
      obtain ⟨p, x, y, z, u, rfl, hp, r1, r2, r3, r4⟩ := Rp.t4 rp
      cases r1.str_inv
      cases r2.str_inv
      rw [show L2.start N_law_texts [V.ref p] = [some (.ref p), none, none] from rfl]
      walk_at "wp"
      simp only [hp, Option.some.injEq, HO.tup.injEq, exists_eq_left', at0, at1]
      walk_at "wp"
      rw [if_neg (by decide +kernel), if_neg (by decide +kernel), if_neg (by decide +kernel), if_neg (by decide +kernel)]
      refine ⟨_, rfl, .inr ⟨g, s, t, rp, fun l H1 l0 l1 s1 => ?_⟩⟩
      have hp1 := s1 _ _ hp
      simp only [hp1, Option.some.injEq, HO.tup.injEq, exists_eq_left', at2]
      walk_at "wp"
      refine ⟨_, _, _, rfl, (by split <;> omega), r3.tk (.of s1), fun p2 H2 n2 a2 s2 => ?_⟩
      have hp2 := s2 _ _ hp1
      simp only [hp2, Option.some.injEq, HO.tup.injEq, exists_eq_left', at1]
      intro p3 H3 n3
      refine ⟨_, rfl, _, rfl, _, n3.kp _ _ a2, _, n3.at_, by walk_at "len", fun p4 H4 n4 => ?_⟩
      have hp4 := n4.kp _ _ (n3.kp _ _ hp2)
      simp only [hp4, Option.some.injEq, HO.tup.injEq, exists_eq_left', at3]
      have s4 : Same H H4 := ((s1.trans s2).trans n3.kp).trans n4.kp
      refine ⟨_, _, _, rfl, by omega, r4.tk (.of s4), fun p5 H5 n5 a5 s5 => ⟨_, rfl, _, rfl, _, s5 _ _ n4.at_, _, a5, by walk_at "len", fun p6 H6 n6 => q.of2 (s4.trans s5) n6⟩⟩
end
end K10
set_option linter.all false
set_option maxRecDepth 100000
set_option maxHeartbeats 4000000
namespace K10
open PySem PySem.Spec PyProof.Rows L2
/-! ### names -/
def resS : List Str := ["var", "lock", "cond", "of", "queue", "thread", "let", "get", "put", "add", "unlock", "wait", "notify", "all", "send", "take", "check", "go", "if", "begin", "end", "stop", "and", "or", "not"]
def lowC (c : Nat) : Bool := 97 ≤ c && c ≤ 122
def digC (c : Nat) : Bool := 48 ≤ c && c ≤ 57
def anC (c : Nat) : Bool := lowC c || digC c
def sufC (c : Nat) : Bool := c == 120 || digC c
/-- a name as the law draws it, while it grows -/
structure NP (l : List Nat) (n : Nat) : Prop where
  ex : ∃ base suf, l = base ++ suf ∧ base.length ≤ 5 ∧ (∃ c, base.head? = some c ∧ lowC c = true) ∧ base.all anC = true ∧ suf.all sufC = true ∧ (suf = [] ∨ suf.head? = some 120) ∧ suf.length ≤ n
/-- a name that is drawn -/
structure NmOk (s : Str) : Prop where
  hd : ∃ c, s.cps.toList.head? = some c ∧ lowC c = true
  an : s.cps.toList.all anC = true
  le : s.cps.toList.length ≤ 8
  nr : s ∉ resS
  ng : s ∉ regS
  five : ∀ x, s.cps.toList[5]? = some x → x ≠ 122 ∧ x ≠ 113
theorem no_x : ∀ s ∈ resS ++ regS, 120 ∉ s.cps.toList := by decide +kernel
theorem NP.start {c : Nat} (h : lowC c = true) : NP [c] 0 := ⟨[c], [], rfl, by simp, ⟨c, rfl, h⟩, by simp [anC, h], rfl, .inl rfl, Nat.le_refl _⟩
theorem NP.base {l : List Nat} {c : Nat} (h : NP l 0) (hl : l.length ≤ 4) (hc : anC c = true) : NP (l ++ [c]) 0 := by
  obtain ⟨b, s, rfl, h1, ⟨d, h2, h3⟩, h4, h5, h6, h7⟩ := h.ex
  have e : s = [] := List.eq_nil_of_length_eq_zero (by omega)
  subst e
  rw [List.append_nil] at hl ⊢
  refine ⟨b ++ [c], [], by simp, by simp; omega, ⟨d, ?_, h3⟩, by simp [h4, hc], rfl, .inl rfl, Nat.le_refl _⟩
  cases b with
  | nil => cases h2
  | cons x r => exact h2
theorem NP.more {l : List Nat} {n c : Nat} (h : NP l n) (hc : digC c = true) : NP (l ++ [120, c]) (n + 2) ∧ 120 ∈ l ++ [120, c] := by
  obtain ⟨b, s, rfl, h1, h2, h4, h5, h6, h7⟩ := h.ex
  refine ⟨⟨b, s ++ [120, c], by simp, h1, h2, h4, by simp [h5, sufC, hc], ?_, by simp; omega⟩, by simp⟩
  rcases h6 with rfl | h6
  · exact .inr rfl
  · cases s with
    | nil => cases h6
    | cons x r => exact .inr h6
theorem NP.mono {l : List Nat} {n m : Nat} (h : NP l n) (hm : n ≤ m) : NP l m := by
  obtain ⟨b, s, e, h1, h2, h4, h5, h6, h7⟩ := h.ex
  exact ⟨b, s, e, h1, h2, h4, h5, h6, Nat.le_trans h7 hm⟩
theorem tl_inj {a b : Str} (h : a.cps.toList = b.cps.toList) : a = b := by
  cases a with
  | mk x =>
    cases b with
    | mk y =>
      have e : x = y := by simpa using congrArg List.toArray h
      rw [e]
/-- the name cut to eight signs -/
theorem NP.cut {s : Str} {n : Nat} (h : NP s.cps.toList n) (nr : s ∉ resS) (ng : s ∉ regS) {t : Str} (e : t.cps.toList = s.cps.toList.take 8) : NmOk t := by
  obtain ⟨b, u, hs, h1, ⟨c, h2, h3⟩, h4, h5, h6, h7⟩ := h.ex
  have hx : s.cps.toList.length ≤ 8 ∨ 120 ∈ t.cps.toList := by
    by_cases q : s.cps.toList.length ≤ 8
    · exact .inl q
    · refine .inr ?_
      rw [e, hs]
      rcases h6 with rfl | h6
      · rw [hs, List.length_append] at q
        simp at q
        omega
      · cases u with
        | nil => cases h6
        | cons x r =>
          cases h6
          rw [List.take_append]
          refine List.mem_append_right _ ?_
          obtain ⟨k, hk⟩ : ∃ k, 8 - b.length = k + 1 := ⟨8 - b.length - 1, by omega⟩
          rw [hk, List.take_succ_cons]
          exact List.mem_cons_self ..
  have no : ∀ z ∈ resS ++ regS, t ≠ z := fun z hz q => by
    rcases hx with hx | hx
    · have e2 : t = s := tl_inj (by rw [e, List.take_of_length_le hx])
      subst e2
      rw [q] at nr ng
      rcases List.mem_append.mp hz with w | w
      · exact nr w
      · exact ng w
    · rw [q] at hx
      exact no_x z hz hx
  refine ⟨⟨c, ?_, h3⟩, ?_, by rw [e, List.length_take]; omega, fun q => no t (List.mem_append_left _ q) rfl, fun q => no t (List.mem_append_right _ q) rfl, fun x hx5 => ?_⟩
  · rw [e, hs]
    cases b with
    | nil => cases h2
    | cons y r => simpa using h2
  · rw [e]
    have all : s.cps.toList.all anC = true := by
      rw [hs, List.all_append, h4, Bool.true_and, List.all_eq_true]
      intro y hy
      have q := List.all_eq_true.mp h5 y hy
      simp only [sufC, Bool.or_eq_true, beq_iff_eq] at q
      rcases q with rfl | q
      · decide
      · simp [anC, q]
    rw [List.all_eq_true] at all ⊢
    exact fun y hy => all y (List.mem_of_mem_take hy)
  · rw [e, List.getElem?_take] at hx5
    simp only [show 5 < 8 by decide, if_true] at hx5
    rw [hs, List.getElem?_append_right h1] at hx5
    have q := List.all_eq_true.mp h5 x (List.mem_of_getElem? hx5)
    simp only [sufC, digC, Bool.or_eq_true, Bool.and_eq_true, beq_iff_eq, decide_eq_true_eq] at q
    omega
end K10
set_option linter.all false
set_option maxRecDepth 100000
set_option maxHeartbeats 4000000
namespace K10
open PySem PySem.Spec PyProof.Rows L2
section
variable {P : Program} {w : World} {K : PySem.W.Frag} {mg : Str → Option Value} {base : Heap} {Ax : Ad}
local macro_rules | `(tactic| walk_at "wp") => `(tactic| simp only [tVar, tC, tOp, rI0, rI, rU, tUn, rEq, rNe, tTest, tB, tAnd, tOr, tNot, tAndV, tOrV, tNotV, tIf, tSeq, tNext, tAsg, gName, gSub, tDrop, tRet, tRetN, tIfS, tBreak, tCont, tAug, ipI, tCB, tCons, tNil,
  xTup, xLst, xIxL, xIxT, xIxS, xIxK, xLenL, xLenT, xLenS, xLenK, xSlL, xSlT, xSlS, xInL, xInT, xInK, xCat, xRep, xCatT, xTupL, xSetL, xIntS, xIntI, xIntB, xApp, xJoin, xSplit, xFld, xSetF, xAugF, tSl, tPart, tNoPart, xCall, xMeth, xMeth0, xMake, xRaise, xgT, xgL, gCons, gNil, xInD, xIxD, C8.tCut, xIsi, for_r1, for_r2, for_l, for_t, for_e, lc_xl, lc_xt, lc_xr, tM0, S,
  exists_eq_left, exists_eq_left', exists_and_left, V.int.injEq, V.ref.injEq, V.str.injEq, V.bl.injEq, consV, Option.some.injEq, HO.lst.injEq, HO.tup.injEq, HO.ins.injEq, and_true, true_and, List.getElem?_cons_zero, List.getElem?_cons_succ, List.set_cons_zero, List.set_cons_succ,
  if_true, if_false, Bool.false_eq_true, and_assoc, V.ty.injEq, isbI, isbS, kb1, kb2, kb3, kb4, kb5, kb6, kb7, kb8, kb9, reduceCtorEq, decide_false, decide_true, decide_eq_true_eq, Bool.not_eq_true', decide_eq_false_iff_not, Bool.not_true, Bool.not_false, ite_not, at0, at1, at2, at3, at4, ix0, ix1, fl_int, fl_str, fl_bl, fl_non, al_nil, al_cons, lenNil, len1, len2, len3, len4, sc_ii, sc_ss, sc_ns, sc_sn, sc_nn, sc_in, sc_si, sc_is, sc_bb, st_go])
local macro_rules | `(tactic| walk_at "wf") => `(tactic| simp only [*,
  exists_eq_left, exists_eq_left', exists_and_left, V.int.injEq, V.ref.injEq, V.str.injEq, V.bl.injEq, consV, Option.some.injEq, HO.lst.injEq, HO.tup.injEq, HO.ins.injEq, and_true, true_and, List.getElem?_cons_zero, List.getElem?_cons_succ, List.set_cons_zero, List.set_cons_succ,
  if_true, if_false, Bool.false_eq_true, and_assoc, V.ty.injEq, isbI, isbS, kb1, kb2, kb3, kb4, kb5, kb6, kb7, kb8, kb9, reduceCtorEq, decide_false, decide_true, decide_eq_true_eq, Bool.not_eq_true', decide_eq_false_iff_not, Bool.not_true, Bool.not_false, ite_not, at0, at1, at2, at3, at4, ix0, ix1, fl_int, fl_str, fl_bl, fl_non, al_nil, al_cons, lenNil, len1, len2, len3, len4, sc_ii, sc_ss, sc_ns, sc_sn, sc_nn, sc_in, sc_si, sc_is, sc_bb, st_go])
local macro_rules | `(tactic| walk_at "len") => `(tactic| (refine le_line ?_; simp only [List.length_cons, List.length_nil, List.length_append, List.length_map, List.map_nil, List.map_cons] <;> omega))
theorem str_beq {a b : Str} : (a == b) = decide (a = b) := by
  rw [← toList_beq]
  by_cases h : a = b
  · subst h
    simp
  · rw [decide_eq_false h]
    exact beq_eq_false_iff_ne.mpr fun e => h (tl_inj e)
theorem inV_str (s : Str) : ∀ l : List Str, inV (.str s) (l.map V.str) = decide (s ∈ l)
  | [] => rfl
  | a :: l => by
    have ih := inV_str s l
    unfold inV at ih ⊢
    rw [List.map_cons, List.any_cons, ih]
    show ((a == s) || decide (s ∈ l)) = _
    rw [str_beq]
    by_cases h : a = s
    · subst h
      simp
    · have h' : ¬ s = a := fun e => h e.symm
      simp [h, h', List.mem_cons]
theorem all_str (l : List Str) : (l.map V.str).all flatV = true := by
  rw [List.all_eq_true]
  intro v hv
  obtain ⟨z, _, rfl⟩ := List.mem_map.mp hv
  rfl
/-- z[_law_draw(box, m)], z a text of m signs -/
theorem sidx_ {H : Hp} {b : Addr} {m : Int} {z : Str} {R : Nat → Hp → Prop} {E : XK} (hz : (z.length : Int) = m) (h0 : 0 < m) (hl : z.length ≤ 1000000) (hb : Bx H b) (k : ∀ c H', c ∈ z.cps.toList → Go b H H' → R c H') :
    spDraw [.ref b, .int m] H (fun y H2 => ∃ x, y = .int x ∧ z.length ≤ sizeLine ∧ ∃ c, atI z.cps.toList x = some c ∧ R c H2) E := by
  refine draw_ h0 hb fun r H2 r0 r1 g => ⟨r, rfl, le_line hl, ?_⟩
  obtain ⟨i, rfl⟩ : ∃ i : Nat, r = (i : Int) := ⟨r.toNat, by omega⟩
  have hi : i < z.cps.toList.length := by
    have e : z.cps.toList.length = z.length := by simp [Str.length]
    omega
  exact ⟨z.cps.toList[i], atI_nat (List.getElem?_eq_getElem hi), k _ H2 (List.getElem_mem hi) g⟩
def spName : Sp := fun vs H Q _ => ∃ (b t : Addr) (ns : List Str), vs = [.ref b, .ref t] ∧ Bx H b ∧ H t = some (.lst (ns.map V.str)) ∧ t ≠ b ∧ ∀ (nm : Str) (H' : Hp), NmOk nm → Go b H H' → Q (.str nm) H'
theorem ok_law_name (F : Df K mg "_law_name" s_law_name ["_law_box", "_law_taken"]) (T : Tx w K mg Ax) (G_law_draw : Cl P w K mg base L2.CX0 1 "_law_draw" spDraw) : Cl P w K mg base L2.CX0 2 "_law_name" spName := by
  refine F.cl sc_law_name (fun vs H Q E h => ?_) (fun f cdv A outer s H vs Q E hr h => ?_)
  · obtain ⟨_, _, _, rfl, _⟩ := h
    rfl
  · obtain ⟨b, t, ns, rfl, hb, ht, ntb, q⟩ := h
    refine ⟨_, (pss_cons (ps_set (i := 2) sc_law_name.nd rfl (Or.inl rfl) pe_str)
  (pss_cons (ps_set (i := 3) sc_law_name.nd rfl (Or.inl rfl) (px_lst (pa_cons pe_str (pa_cons pe_str (pa_cons pe_str (pa_cons pe_str (pa_cons pe_str (pa_cons pe_str (pa_cons pe_str (pa_cons pe_str (pa_cons pe_str (pa_cons pe_str (pa_cons pe_str (pa_cons pe_str (pa_cons pe_str (pa_cons pe_str (pa_cons pe_str (pa_cons pe_str (pa_cons pe_str (pa_cons pe_str (pa_cons pe_str (pa_cons pe_str (pa_cons pe_str (pa_cons pe_str (pa_cons pe_str (pa_cons pe_str (pa_cons pe_str pa_nil)))))))))))))))))))))))))))
  (pss_cons (ps_set (i := 4) sc_law_name.nd rfl (Or.inl rfl) (pe_ix ix_s (pv 2) (px_c G_law_draw hr (by omega) (by rfl) (pa_cons (pv 0) (pa_cons pe_int pa_nil))) (fun _ _ => rfl)))
  (pss_cons (ps_for PassesOwn.never rfl (pi_range1 rfl T.b_range (pa_cons (px_c G_law_draw hr (by omega) (by rfl) (pa_cons (pv 0) (pa_cons pe_int pa_nil))) pa_nil)) (pg_name (i := 5) sc_law_name.nd rfl (Or.inl rfl))
    (pss_one (ps_set (i := 4) sc_law_name.nd rfl (Or.inl rfl) (pe_op op_add_str (pv 4) (pe_ix ix_s (pe_op op_add_str (pv 2) pe_str) (px_c G_law_draw hr (by omega) (by rfl) (pa_cons (pv 0) (pa_cons pe_int pa_nil))) (fun _ _ => rfl))))))
  (pss_cons (ps_for PassesOwn.never rfl (pi_range1 rfl T.b_range (pa_cons pe_int pa_nil)) (pg_name (i := 6) sc_law_name.nd rfl (Or.inl rfl))
    (pss_one (ps_if (PW.pt (pw_or (pt_cmpR in_l (pv 4) (pv 3) rfl) (pw_or (pt_cmpR in_l (pv 4) (pv 1) rfl) (pw_or1 (pt_cmpR in_l (pv 4) (px_lst (pa_cons pe_str (pa_cons pe_str (pa_cons pe_str (pa_cons pe_str pa_nil))))) rfl))))) (pss_one (ps_set (i := 4) sc_law_name.nd rfl (Or.inl rfl) (pe_op op_add_str (pe_op op_add_str (pv 4) pe_str) (pe_callTy call_str_int (by rfl) T.b_str (by decide +kernel) (pa_cons (pv 6) pa_nil))))) pss_nil)))
  (pss_one (ps_ret (pe_slice sl_s (pv 4) po_none (po_some pe_int))))))))), ?_⟩
    rw [show L2.start N_law_name [V.ref b, V.ref t] = [some (.ref b), some (.ref t), none, none, none, none, none] from rfl]
    walk_at "wp"
    refine ⟨by decide, fun p H1 n1 => ?_⟩
    have a1 : H1 p = some (.lst (resS.map V.str)) := n1.at_
    have b1 := hb.same n1.kp
    have pb : p ≠ b := hb.ne_new n1.fr
    refine sidx_ (by decide +kernel) (by decide) (by decide +kernel) b1 fun c H2 hc g2 => ?_
    have lc : lowC c = true := (by decide +kernel : ∀ c ∈ ("abcdefghijklmnopqrstuvwxyz" : Str).cps.toList, lowC c = true) c hc
    refine draw_ (by decide) g2.bx fun r H3 r0 r1 g3 => ⟨r, rfl, by omega, by omega, lp_r (lo := 0) (n := r.toNat) (fun i σ H' => ∃ (nm : Str) (v5 : Option V), σ = [some (.ref b), some (.ref t), some (.str "abcdefghijklmnopqrstuvwxyz"), some (.ref p), some (.str nm), v5, none] ∧
        Go b H1 H' ∧ NP nm.cps.toList 0 ∧ nm.cps.toList.length ≤ i + 1)
      ⟨_, _, rfl, g2.trans g3, NP.start lc, Nat.le_refl _⟩ ?_ ?_⟩
    · rintro i σ H4 hi ⟨nm, v5, rfl, g4, np, hl⟩
      walk_at "wp"
      refine ⟨by decide +kernel, sidx_ (z := Str.ofString "abcdefghijklmnopqrstuvwxyz" ++ Str.ofString "0123456789") (by decide +kernel) (by decide) (by decide +kernel) g4.bx fun d H5 hd g5 => ?_⟩
      have ld : anC d = true := (by decide +kernel : ∀ c ∈ (Str.ofString "abcdefghijklmnopqrstuvwxyz" ++ Str.ofString "0123456789").cps.toList, anC c = true) d hd
      have e : (nm ++ (⟨#[d]⟩ : Str)).cps.toList = nm.cps.toList ++ [d] := TL.tl_append nm ⟨#[d]⟩
      refine ⟨le_line ?_, _, _, rfl, g4.trans g5, ?_, ?_⟩
      · rw [TL.len_tl nm]
        show nm.cps.toList.length + 1 ≤ 1000000
        omega
      · rw [e]
        exact np.base (by omega) ld
      · rw [e, List.length_append, List.length_singleton]
        omega
    · rintro σ H4 ⟨nm, v5, rfl, g4, np, hl⟩
      walk_at "wp"
      refine ⟨by decide, by decide, lp_r (lo := 0) (n := 9) (fun i σ H' => ∃ (nm : Str) (v6 : Option V), σ = [some (.ref b), some (.ref t), some (.str "abcdefghijklmnopqrstuvwxyz"), some (.ref p), some (.str nm), v5, v6] ∧
          Go b H1 H' ∧ NP nm.cps.toList (2 * i) ∧ (1 ≤ i → nm ∉ resS ∧ nm ∉ regS))
        ⟨_, _, rfl, g4, np, fun h => absurd h (by decide)⟩ ?_ ?_⟩
      · rintro i σ H5 hi ⟨nm, v6, rfl, g5, np, hn⟩
        have h5p := g5.kp _ _ pb a1
        have h5t := g5.kp _ _ ntb (n1.kp _ _ ht)
        have grow : ∀ H6, Go b H1 H6 → nm.length + ("x" : Str).length ≤ sizeLine ∧ ((0 : Int) + (i : Int)).natAbs.log2 < 1920 ∧ (nm ++ ("x" : Str)).length + (Str.ofString (toString ((0 : Int) + (i : Int)))).length ≤ sizeLine ∧
            ∃ (nm' : Str) (v6 : Option V), ([some (.ref b), some (.ref t), some (.str "abcdefghijklmnopqrstuvwxyz"), some (.ref p), some (V.str (nm ++ ("x" : Str) ++ Str.ofString (toString ((0 : Int) + (i : Int))))), v5, some (.int (0 + (i : Int)))] : L2.St) = [some (.ref b), some (.ref t), some (.str "abcdefghijklmnopqrstuvwxyz"), some (.ref p), some (.str nm'), v5, v6] ∧
              Go b H1 H6 ∧ NP nm'.cps.toList (2 * (i + 1)) ∧ (1 ≤ i + 1 → nm' ∉ resS ∧ nm' ∉ regS) := fun H6 g6 => by
          have ei : Str.ofString (toString ((0 : Int) + (i : Int))) = ⟨#[48 + i]⟩ := by
            rw [Int.zero_add]
            exact (by decide +kernel : ∀ i, i < 9 → Str.ofString (toString ((i : Nat) : Int)) = ⟨#[48 + i]⟩) i hi
          have hlen : nm.cps.toList.length ≤ 5 + 2 * i := by
            obtain ⟨bs, su, e, h1, _, _, _, _, h7⟩ := np.ex
            rw [e, List.length_append]
            omega
          have e : (nm ++ ("x" : Str) ++ (⟨#[48 + i]⟩ : Str)).cps.toList = nm.cps.toList ++ [120, 48 + i] := by
            have q1 := TL.tl_append (nm ++ ("x" : Str)) ⟨#[48 + i]⟩
            have q2 := TL.tl_append nm ("x" : Str)
            have q3 : TL.tl ("x" : Str) = [120] := by decide +kernel
            have q : TL.tl (nm ++ ("x" : Str) ++ (⟨#[48 + i]⟩ : Str)) = TL.tl nm ++ [120] ++ [48 + i] := by rw [q1, q2, q3]
            rw [show TL.tl nm ++ [120] ++ [48 + i] = TL.tl nm ++ [120, 48 + i] by simp] at q
            exact q
          have dg : digC (48 + i) = true := by simp only [digC, Bool.and_eq_true, decide_eq_true_eq]; omega
          obtain ⟨m1, m2⟩ := np.more dg
          have hx : ("x" : Str).length = 1 := by decide +kernel
          have e0 : nm.length = nm.cps.toList.length := TL.len_tl nm
          refine ⟨le_line (by rw [e0, hx]; omega), int_fits (by omega), le_line ?_, _, _, rfl, g6, ?_, fun _ => ?_⟩
          · rw [ei, TL.len_tl (nm ++ _), TL.tl_append, List.length_append, ← TL.len_tl ("x" : Str), hx]
            show nm.cps.toList.length + 1 + 1 ≤ 1000000
            omega
          · rw [ei, e]
            exact m1
          · rw [ei]
            have no : ∀ z ∈ resS ++ regS, nm ++ ("x" : Str) ++ (⟨#[48 + i]⟩ : Str) ≠ z := fun z hz w => no_x z hz (by rw [← w, e]; exact m2)
            exact ⟨fun w => no _ (List.mem_append_left _ w) rfl, fun w => no _ (List.mem_append_right _ w) rfl⟩
        walk_at "wp"
        simp only [h5p, Option.some.injEq, HO.lst.injEq, exists_eq_left', all_str, true_and, inV_str, decide_eq_true_eq]
        refine ite2 (fun _ => grow H5 g5) (fun c1 => ?_)
        simp only [h5t, Option.some.injEq, HO.lst.injEq, exists_eq_left', all_str, true_and, inV_str, decide_eq_true_eq]
        refine ite2 (fun _ => grow H5 g5) (fun c2 => ?_)
        intro p2 H6 n2
        have a2 : H6 p2 = some (.lst (regS.map V.str)) := n2.at_
        have g6 := g5.then n2.kp
        refine ⟨p2, rfl, _, a2, all_str _, ?_⟩
        rw [inV_str]
        simp only [decide_eq_true_eq]
        refine ite2 (fun _ => grow H6 g6) (fun c3 => ?_)
        exact ⟨nm, _, rfl, g6, np.mono (by omega), fun _ => ⟨c1, c3⟩⟩
      · rintro σ H5 ⟨nm, v6, rfl, g5, np, hn⟩
        walk_at "wp"
        have hlen : nm.cps.toList.length ≤ 5 + 2 * 9 := by
          obtain ⟨bs, su, e, h1, _, _, _, _, h7⟩ := np.ex
          rw [e, List.length_append]
          omega
        have e0 : nm.length = nm.cps.toList.length := TL.len_tl nm
        refine ⟨le_line (by rw [e0]; omega), q _ H5 (np.cut (hn (by decide)).1 (hn (by decide)).2 ?_) ((Go.of hb n1.kp).trans g5)⟩
        show ((nm.cps.toList.drop 0).take (min 8 nm.length - 0)) = nm.cps.toList.take 8
        rw [List.drop_zero, Nat.sub_zero, TL.len_tl nm]
        by_cases h8 : nm.cps.toList.length ≤ 8
        · rw [List.take_of_length_le h8, List.take_of_length_le (by show _ ≤ min 8 nm.cps.toList.length; omega)]
        · rw [show min 8 (TL.tl nm).length = 8 by show min 8 nm.cps.toList.length = 8; omega]
end
end K10
set_option linter.all false
set_option maxRecDepth 100000
set_option maxHeartbeats 4000000
namespace K10
open PySem PySem.Spec PyProof.Rows L2
section
variable {P : Program} {w : World} {K : PySem.W.Frag} {mg : Str → Option Value} {base : Heap} {Ax : Ad}
local macro_rules | `(tactic| walk_at "wp") => `(tactic| simp only [tVar, tC, tOp, rI0, rI, rU, tUn, rEq, rNe, tTest, tB, tAnd, tOr, tNot, tAndV, tOrV, tNotV, tIf, tSeq, tNext, tAsg, gName, gSub, tDrop, tRet, tRetN, tIfS, tBreak, tCont, tAug, ipI, tCB, tCons, tNil,
  xTup, xLst, xIxL, xIxT, xIxS, xIxK, xLenL, xLenT, xLenS, xLenK, xSlL, xSlT, xSlS, xInL, xInT, xInK, xCat, xRep, xCatT, xTupL, xSetL, xIntS, xIntI, xIntB, xApp, xJoin, xSplit, xFld, xSetF, xAugF, tSl, tPart, tNoPart, xCall, xMeth, xMeth0, xMake, xRaise, xgT, xgL, gCons, gNil, xInD, xIxD, C8.tCut, xIsi, for_r1, for_r2, for_l, for_t, for_e, lc_xl, lc_xt, lc_xr, tM0, S,
  exists_eq_left, exists_eq_left', exists_and_left, V.int.injEq, V.ref.injEq, V.str.injEq, V.bl.injEq, consV, Option.some.injEq, HO.lst.injEq, HO.tup.injEq, HO.ins.injEq, and_true, true_and, List.getElem?_cons_zero, List.getElem?_cons_succ, List.set_cons_zero, List.set_cons_succ,
  if_true, if_false, Bool.false_eq_true, and_assoc, V.ty.injEq, isbI, isbS, kb1, kb2, kb3, kb4, kb5, kb6, kb7, kb8, kb9, reduceCtorEq, decide_false, decide_true, decide_eq_true_eq, Bool.not_eq_true', decide_eq_false_iff_not, Bool.not_true, Bool.not_false, ite_not, at0, at1, at2, at3, at4, ix0, ix1, fl_int, fl_str, fl_bl, fl_non, al_nil, al_cons, lenNil, len1, len2, len3, len4, sc_ii, sc_ss, sc_ns, sc_sn, sc_nn, sc_in, sc_si, sc_is, sc_bb, st_go])
local macro_rules | `(tactic| walk_at "wf") => `(tactic| simp only [*,
  exists_eq_left, exists_eq_left', exists_and_left, V.int.injEq, V.ref.injEq, V.str.injEq, V.bl.injEq, consV, Option.some.injEq, HO.lst.injEq, HO.tup.injEq, HO.ins.injEq, and_true, true_and, List.getElem?_cons_zero, List.getElem?_cons_succ, List.set_cons_zero, List.set_cons_succ,
  if_true, if_false, Bool.false_eq_true, and_assoc, V.ty.injEq, isbI, isbS, kb1, kb2, kb3, kb4, kb5, kb6, kb7, kb8, kb9, reduceCtorEq, decide_false, decide_true, decide_eq_true_eq, Bool.not_eq_true', decide_eq_false_iff_not, Bool.not_true, Bool.not_false, ite_not, at0, at1, at2, at3, at4, ix0, ix1, fl_int, fl_str, fl_bl, fl_non, al_nil, al_cons, lenNil, len1, len2, len3, len4, sc_ii, sc_ss, sc_ns, sc_sn, sc_nn, sc_in, sc_si, sc_is, sc_bb, st_go])
local macro_rules | `(tactic| walk_at "len") => `(tactic| (refine le_line ?_; simp only [List.length_cons, List.length_nil, List.length_append, List.length_map, List.map_nil, List.map_cons] <;> omega))
theorem rp_th {H : Hp} {v : V} {t : Th} (r : Rp H v (thD t)) : ∃ p l, v = .ref p ∧ H p = some (.tup (.str (thK t) :: .str (thN t) :: l)) := by
  cases t with
  | var n i =>
    obtain ⟨p, x, y, z, rfl, h, r1, r2, r3⟩ := Rp.t3 r
    cases r1.str_inv
    cases r2.str_inv
    exact ⟨p, _, rfl, h⟩
  | lock n =>
    obtain ⟨p, x, y, rfl, h, r1, r2⟩ := Rp.t2 r
    cases r1.str_inv
    cases r2.str_inv
    exact ⟨p, _, rfl, h⟩
  | cond n l =>
    obtain ⟨p, x, y, z, rfl, h, r1, r2, r3⟩ := Rp.t3 r
    cases r1.str_inv
    cases r2.str_inv
    exact ⟨p, _, rfl, h⟩
  | queue n k =>
    obtain ⟨p, x, y, z, rfl, h, r1, r2, r3⟩ := Rp.t3 r
    cases r1.str_inv
    cases r2.str_inv
    exact ⟨p, _, rfl, h⟩
def ofKind (ths : List Th) (k : Str) : List Str := (ths.filter fun t => decide (thK t = k)).map thN
def spOfKind : Sp := fun vs H Q _ => ∃ (p : Addr) (ws : List V) (ths : List Th) (k : Str), vs = [.ref p, .str k] ∧ H p = some (.lst ws) ∧ Rps H ws (ths.map thD) ∧ ws.length ≤ 100 ∧ NwL ((ofKind ths k).map V.str) H Q
theorem ok_law_of_kind (F : Df K mg "_law_of_kind" s_law_of_kind ["_law_shared_here", "_law_kind"]) (T : Tx w K mg Ax) : Cl P w K mg base L2.CX0 1 "_law_of_kind" spOfKind := by
  refine F.cl sc_law_of_kind (fun vs H Q E h => ?_) (fun f cdv A outer s H vs Q E hr h => ?_)
  · obtain ⟨_, _, _, _, rfl, _⟩ := h
    rfl
  · obtain ⟨p, ws, ths, k, rfl, hp, rs, hl, q⟩ := h
    refine ⟨_, (pss_one (ps_ret (pe_lc (own := [("_law_thing", 2)]) (g := gName 2) rfl sc_law_of_kind.nd (pi_l (pv 0)) (blkOk_by (own := [("_law_thing", 2)]) (N := N_law_of_kind) (sc := defScope s_law_of_kind) (by decide +kernel)) (fun _ _ _ _ _ => pg_name (i := 2) sc_law_of_kind.nd rfl (Or.inl rfl)) (fun _ _ _ _ _ => pts_mo (pts_one (pt_cmpR op_eq (pe_ix ix_t (pv 2) pe_int (fun _ _ => rfl)) (pv 1) (nomark _)))) (fun _ _ _ _ _ => pe_mo (pe_ix ix_t (pv 2) pe_int (fun _ _ => rfl)))))), ?_⟩
    rw [show L2.start N_law_of_kind [V.ref p, V.str k] = [some (.ref p), some (.str k), none] from rfl]
    walk_at "wp"
    refine ⟨⟨_, hp⟩, lc_pure (ds := ths) (fun t => decide (thK t = k)) (fun t => V.str (thN t)) hp (by have := rs.1; rw [List.length_map] at this; exact this) (by omega) (fun x => rfl) (fun i x d H' hi hd s K1 K0 h1 h0 => ?_) (fun D H' n s h => q D H' n (by rw [h]; unfold ofKind; rw [List.map_map]; rfl) s)⟩
    obtain ⟨a, l, rfl, ha⟩ := rp_th ((rs.2 i x _ hi (by rw [List.getElem?_map, hd]; rfl)).tk (.of s))
    rw [show (wipe [some (V.ref p), some (V.str k), none] (List.map (fun x => x.2) [(Str.ofString "_law_thing", 2)])).set 2 (some (V.ref a)) = [some (V.ref p), some (V.str k), some (.ref a)] from rfl]
    walk_at "wp"
    simp only [ha, Option.some.injEq, HO.tup.injEq, exists_eq_left', at0, at1, sc_ss, V.str.injEq, true_and]
    exact ite2 (fun c => h1 (decide_eq_true c) H' (Same.refl _)) (fun c => h0 (decide_eq_false c) H' (Same.refl _))
end
end K10
set_option linter.all false
set_option maxRecDepth 100000
set_option maxHeartbeats 4000000
namespace K10
open PySem PySem.Spec PyProof.Rows L2
/-! ### tokens: kind and text -/
abbrev Tok := Str × Str
abbrev Ln := List Tok
def tokD (t : Tok) : D := .tup [.str t.1, .str t.2]
abbrev digS : Str := "0123456789"
abbrev letS : Str := "abcdefghijklmnopqrstuvwxyz"
abbrev sgnS : Str := "+-*=<()"
/-- numbers of one or two digits -/
def nums : List Str := (List.range 100).map fun n => Str.ofString (toString n)
/-- what a text is, where a space or the end follows it -/
inductive Wk : Str → Str → Prop where
  | num {w : Str} (h : w ∈ nums) : Wk "number" w
  | badn {w : Str} (h : w.cps.toList ≠ []) (hd : w.cps.toList.all digC = true) (hl : 2 < w.cps.toList.length) : Wk "bad" w
  | word {w : Str} {c : Nat} {r : List Nat} (h : w.cps.toList = c :: r) (hc : lowC c = true) (hr : r.all anC = true) (hl : w.cps.toList.length ≤ 8) : Wk "word" w
  | sign {w : Str} {c : Nat} (h : w = ⟨#[c]⟩) (hc : c ∈ sgnS.cps.toList) : Wk "sign" w
  | bads {w : Str} {c : Nat} (h : w = ⟨#[c]⟩) (h1 : digC c = false) (h2 : lowC c = false) (h3 : c ∉ sgnS.cps.toList) (h4 : c ≠ 32) (h5 : c < 128) : Wk "bad" w
def TOk (t : Tok) : Prop := Wk t.1 t.2
theorem mem_dig (c : Nat) : c ∈ digS.cps.toList ↔ digC c = true := by
  have e : digS.cps.toList = [48, 49, 50, 51, 52, 53, 54, 55, 56, 57] := by decide +kernel
  rw [e]
  simp only [List.mem_cons, List.not_mem_nil, or_false, digC, Bool.and_eq_true, decide_eq_true_eq]
  omega
theorem mem_let (c : Nat) : c ∈ letS.cps.toList ↔ lowC c = true := by
  have e : letS.cps.toList = [97, 98, 99, 100, 101, 102, 103, 104, 105, 106, 107, 108, 109, 110, 111, 112, 113, 114, 115, 116, 117, 118, 119, 120, 121, 122] := by decide +kernel
  rw [e]
  simp only [List.mem_cons, List.not_mem_nil, or_false, lowC, Bool.and_eq_true, decide_eq_true_eq]
  omega
/-- words one behind the other, a space between -/
def jn : List Str → List Nat
  | [] => []
  | [w] => w.cps.toList
  | w :: v :: r => w.cps.toList ++ 32 :: jn (v :: r)
def lnS (l : Ln) : Str := Txt.join " " (l.map (·.2))
theorem Wk.ne {k w : Str} (h : Wk k w) : w.cps.toList ≠ [] := by
  cases h with
  | num h =>
    have all : ∀ z ∈ nums, z.cps.toList ≠ [] := by decide +kernel
    exact all w h
  | badn h hd hl => exact h
  | word h hc hr hl => rw [h]; simp
  | sign h hc => subst h; simp
  | bads h _ _ _ _ _ => subst h; simp
/-- no space within -/
theorem Wk.nosp {k w : Str} (h : Wk k w) : 32 ∉ w.cps.toList := by
  cases h with
  | num h =>
    have all : ∀ z ∈ nums, 32 ∉ z.cps.toList := by decide +kernel
    exact all w h
  | badn h hd hl => exact fun m => absurd (List.all_eq_true.mp hd 32 m) (by decide)
  | word h hc hr hl =>
    rw [h]
    intro m
    rcases List.mem_cons.mp m with rfl | m
    · exact absurd hc (by decide)
    · exact absurd (List.all_eq_true.mp hr 32 m) (by decide)
  | sign h hc =>
    subst h
    intro m
    have e := List.mem_singleton.mp m
    subst e
    exact absurd hc (by decide +kernel)
  | bads h _ _ _ h4 _ =>
    subst h
    intro m
    exact h4 (List.mem_singleton.mp m).symm
/-! ### the reader of lines -/
def tx (l : Ln) (i : Nat) : Str := (l.map (·.2)).getD i ""
def numI (s : Str) : Int := (PySem.intText? s).getD 0
def fitT (t : Tok) (f : Str) : Bool := if f = "WORD" then decide (t.1 = "word") else if f = "NUMBER" then decide (t.1 = "number") else if f = "REGISTER" then decide (t.1 = "word") && decide (t.2 ∈ regS) else decide (t.2 = f)
def fitsT (l : Ln) (f : List Str) : Bool := decide (l.length = f.length) && (l.zip f).all fun p => fitT p.1 p.2
def sharedT (l : Ln) : Option Th :=
  if fitsT l ["var", "WORD", "=", "NUMBER"] then some (.var (tx l 1) (numI (tx l 3)))
  else if fitsT l ["var", "WORD", "=", "-", "NUMBER"] then some (.var (tx l 1) (-(numI (tx l 4))))
  else if fitsT l ["lock", "WORD"] then some (.lock (tx l 1))
  else if fitsT l ["cond", "WORD", "of", "WORD"] then some (.cond (tx l 1) (tx l 3))
  else if fitsT l ["queue", "WORD", "NUMBER"] then some (.queue (tx l 1) (numI (tx l 2)))
  else none
/-- what a fault may hang on in an instruction -/
inductive IA where
  | nm (k x : Str)
  | go (n : Int)
  | ot (k : Str)
def simpleT (l : Ln) : Option IA :=
  if fitsT l ["get", "REGISTER", "WORD"] then some (.nm "get" (tx l 2))
  else if fitsT l ["take", "REGISTER", "WORD"] then some (.nm "take" (tx l 2))
  else if fitsT l ["lock", "WORD"] then some (.nm "lock" (tx l 1))
  else if fitsT l ["unlock", "WORD"] then some (.nm "unlock" (tx l 1))
  else if fitsT l ["wait", "WORD"] then some (.nm "wait" (tx l 1))
  else if fitsT l ["notify", "WORD"] then some (.nm "notify" (tx l 1))
  else if fitsT l ["notify", "all", "WORD"] then some (.nm "notifyall" (tx l 2))
  else if fitsT l ["go", "NUMBER"] then some (.go (numI (tx l 1)))
  else if fitsT l ["begin"] then some (.ot "begin")
  else if fitsT l ["end"] then some (.ot "end")
  else if fitsT l ["stop"] then some (.ot "stop")
  else none
def W (s : Str) : Tok := ("word", s)
def G (s : Str) : Tok := ("sign", s)
def Nn (n : Int) : Tok := ("number", (toString n : Str))
def trT : Tr → Ln
  | .reg s => [W s]
  | .num n => [Nn n]
  | .neg s => [G "-", W s]
  | .nt s => [W "not", W s]
  | .op g s t => [W s, (if g = "and" ∨ g = "or" then W g else G g), W t]
/-- the token lists that are read as expressions here, with a tree | without -/
def goodE : List Ln := regS.map (fun s => trT (.reg s)) ++ numS.map (fun n => trT (.num n)) ++ regS.map (fun s => trT (.neg s)) ++ regS.map (fun s => trT (.nt s)) ++ sgS.flatMap fun g => regS.flatMap fun s => regS.map fun t => trT (.op g s t)
def badE : List Ln := [[], [Nn 1, G "+"]]
def EOk (l : Ln) : Prop := l ∈ goodE ∨ l ∈ badE
def expT (l : Ln) (ia : IA) : Option IA := if l ∈ goodE then some ia else none
def insT (l : Ln) : Option IA :=
  match simpleT l with
  | some i => some i
  | none =>
    if fitsT (l.take 3) ["let", "REGISTER", "="] then expT (l.drop 3) (.ot "let")
    else if fitsT (l.take 3) ["go", "NUMBER", "if"] then expT (l.drop 3) (.go (numI (tx l 1)))
    else if tx l 0 = "check" then expT (l.drop 1) (.ot "check")
    else if fitsT (l.take 2) ["put", "WORD"] then expT (l.drop 2) (.nm "put" (tx l 1))
    else if fitsT (l.take 2) ["add", "WORD"] then expT (l.drop 2) (.nm "add" (tx l 1))
    else if fitsT (l.take 2) ["send", "WORD"] then expT (l.drop 2) (.nm "send" (tx l 1))
    else none
/-- where _instruction reads an expression, it is one of ours -/
structure InsPre (l : Ln) : Prop where
  ne : l ≠ []
  e1 : simpleT l = none → fitsT (l.take 3) ["let", "REGISTER", "="] = true → EOk (l.drop 3)
  e2 : simpleT l = none → fitsT (l.take 3) ["let", "REGISTER", "="] = false → fitsT (l.take 3) ["go", "NUMBER", "if"] = true → EOk (l.drop 3)
  e3 : simpleT l = none → fitsT (l.take 3) ["let", "REGISTER", "="] = false → fitsT (l.take 3) ["go", "NUMBER", "if"] = false → tx l 0 = "check" → EOk (l.drop 1)
  e4 : simpleT l = none → ∀ w ∈ (["put", "add", "send"] : List Str), fitsT (l.take 2) [w, "WORD"] = true → EOk (l.drop 2)
/-- the draft: things, instructions of each thread, in a block, unclosed -/
structure DS where
  sh : List Th
  th : List Nat
  ins : Bool
  unc : Bool
def kindOf (sh : List Th) (x : Str) : Option Str := (sh.find? fun t => decide (thN t = x)).map thK
def isNm (s : Str) : Bool := !(decide (s ∈ resS) || decide (s ∈ regS))
def thr : Ln := [W "thread"]
def cBad (sh : List Th) : Th → Bool
  | .cond _ l => decide (kindOf sh l ≠ some ("lock" : Str))
  | _ => false
def qBad : Th → Bool
  | .queue _ k => decide (k < 1 ∨ 3 < k)
  | _ => false
def addSh (st : DS) (t : Th) : Except Str DS :=
  if isNm (thN t) = false ∨ kindOf st.sh (thN t) ≠ none then .error "name"
  else if cBad st.sh t = true then .error "name"
  else if qBad t = true then .error "number"
  else if st.sh.length = 6 then .error "many"
  else .ok { st with sh := st.sh ++ [t] }
def addThr (st : DS) : Except Str DS := if st.th.length = 4 then .error "many" else .ok { st with th := st.th ++ [0], ins := false, unc := st.unc || st.ins }
/-- nonempty lines ahead of the next thread line -/
def cnt (ls : List Ln) : Nat := ((ls.takeWhile fun l => decide (l ≠ thr)).filter fun l => decide (l ≠ [])).length
def kindK (k : Str) : Option Str := (kinds.find? fun p => decide (Str.ofString p.1 = k)).map fun p => Str.ofString p.2
def nBad (sh : List Th) : IA → Bool
  | .nm k x => decide (kindOf sh x ≠ kindK k)
  | _ => false
def gBad (n : Nat) : IA → Bool
  | .go m => decide ((n : Int) < m)
  | _ => false
def bBad (b : Bool) : IA → Bool
  | .ot k => (decide (k = "begin") && b) || (decide (k = "end") && !b)
  | _ => false
def insN (b : Bool) : IA → Bool
  | .ot k => if k = "begin" ∨ k = "end" then decide (k = "begin") else b
  | _ => b
/-- n: the size of the thread -/
def addIns (n : Nat) (st : DS) (i : IA) : Except Str DS :=
  if nBad st.sh i = true then .error "name"
  else if gBad n i = true then .error "number"
  else if st.th.getLast? = some 12 then .error "many"
  else if bBad st.ins i = true then .error "block"
  else .ok { st with th := st.th.dropLast ++ [st.th.getLast?.getD 0 + 1], ins := insN st.ins i }
/-- one line; n: the size of its thread -/
def step (n : Nat) (st : DS) (l : Ln) : Except Str DS :=
  if l.any fun t => decide (t.1 = "bad") then .error "tokens"
  else if l = thr then addThr st
  else if st.th = [] then (match sharedT l with | none => .error "form" | some t => addSh st t)
  else match insT l with | none => .error "form" | some i => addIns n st i
def endW (st : DS) : Str := if st.unc = true ∨ st.ins = true then "block" else if st.th = [] then "threads" else if 0 ∈ st.th then "empty" else "ok"
/-- the first fault of the lines ls, behind `at_` others; n: the size of the running thread -/
def run : Nat → Nat → DS → List Ln → Nat × Str
  | k, _, st, [] => (k, endW st)
  | k, n, st, l :: ls =>
    if l = [] then run (k + 1) n st ls
    else match step (if l = thr then 0 else n) st l with
      | .error w => (k, w)
      | .ok st' => run (k + 1) (if l = thr then cnt ls else n) st' ls
def st0 : DS := ⟨[], [], false, false⟩
end K10
set_option linter.all false
namespace K10
open PySem PySem.Spec PyProof.Rows L2
theorem iteN {c A B : Prop} [Decidable c] (h : ¬c) (b : B) : if c then A else B := by rw [if_neg h]; exact b
theorem iteP {c A B : Prop} [Decidable c] (h : c) (a : A) : if c then A else B := by rw [if_pos h]; exact a
theorem sneV {a b : Str} (h : ¬a = b) : ¬V.str a = V.str b := fun z => h (V.str.inj z)
end K10
set_option linter.all false
set_option maxRecDepth 100000
set_option maxHeartbeats 4000000
namespace K10
open PySem PySem.Spec PyProof.Rows L2
/-! ### for x, y in zip(a list, a tuple) -/
def ItzM (K : PySem.W.Frag) (a b : Addr) : It where
  go i H := ∃ (xs ys : List V) (x y : V), SqL K H a xs ∧ SqT K H b ys ∧ xs[i]? = some x ∧ ys[i]? = some y
  yld i H v H' := ∃ (p : Addr) (x y : V), v = .ref p ∧ New p (.tup [x, y]) H H' ∧ (∀ xs, SqL K H a xs → xs[i]? = some x) ∧ ∀ ys, SqT K H b ys → ys[i]? = some y
  stop i H := ∃ xs ys : List V, SqL K H a xs ∧ SqT K H b ys ∧ xs.length = i ∧ ys.length = i
def zSt (z TI TO i1 i2 a b : Addr) (i : Nat) (h : Heap) : Prop := IsZip h z TI TO .none ∧ IsTupOf2 h TI (.ref i1) (.ref i2) ∧ (∃ x y, IsTupOf2 h TO x y) ∧ h.IsListIter i1 a i ∧ h.IsTupleIter i2 b i
theorem zSt.five {z TI TO i1 i2 a b c : Addr} {i : Nat} {h : Heap} (st : zSt z TI TO i1 i2 a b i h) (hc : c ∈ [z, TI, TO, i1, i2]) : ∃ o, h.get? c = some o ∧ ∀ v, o.data ≠ .cell v := by
  obtain ⟨q1, q2, ⟨x, y, q3⟩, ⟨o1, e1, _, d1⟩, ⟨o2, e2, _, d2⟩⟩ := st
  simp only [List.mem_cons, List.not_mem_nil, or_false] at hc
  rcases hc with rfl | rfl | rfl | rfl | rfl
  · exact ⟨_, q1, fun v q => nomatch q⟩
  · exact ⟨_, q2, fun v q => nomatch q⟩
  · exact ⟨_, q3, fun v q => nomatch q⟩
  · exact ⟨o1, e1, fun v q => by rw [d1] at q; exact nomatch q⟩
  · exact ⟨o2, e2, fun v q => by rw [d2] at q; exact nomatch q⟩
theorem turn_zM {P : Program} {w : World} {K : PySem.W.Frag} {elts : List Expr} {kk : Nat} {tpos : Pos} {a b z TI TO i1 i2 : Addr} (S : ZipSep2 z TI TO i1 i2 [i1, a] [i2, b]) :
    Turn P w K (.Tuple elts kk tpos) (ItzM K a b) [z, TI, TO, i1, i2] z (zSt z TI TO i1 i2 a b) := by
  have ai : a ≠ i1 ∧ b ≠ i2 ∨ True := .inr trivial
  refine ⟨List.mem_cons_self .., fun i h st c hc => st.five hc, fun i h h' st k => ?_, ?_, ?_, fun A i s Q E st h => wpAny_pyIter_zip st.1 h⟩
  · obtain ⟨q1, q2, ⟨x, y, q3⟩, q4, q5⟩ := st
    have kk : ∀ c ∈ [z, TI, TO, i1, i2], ∀ o, h.get? c = some o → h'.get? c = some o := k
    simp only [List.forall_mem_cons] at kk
    obtain ⟨k1, k2, k3, k4, k5, _⟩ := kk
    exact ⟨k1 _ q1, k2 _ q2, ⟨x, y, k3 _ q3⟩, q4.at k4, q5.at k5⟩
  · intro X hP hw hK hc i pins s σ H E I hf st hg
    subst hP hw hK
    obtain ⟨xs, ys, x, y, hqx, hqy, hx, hy⟩ := hg
    obtain ⟨us, rv, p, _⟩ := I.list hqx
    obtain ⟨us2, rv2, p2, _⟩ := I.tuple hqy
    obtain ⟨u, hu, ru⟩ := rv.get hx
    obtain ⟨u2, hu2, ru2⟩ := rv2.get hy
    have hd : X.A.in1.handled = none := I.ok.hd hc
    have ne1 : a ≠ i1 := fun q => by
      have h0 := (hf i1 (by simp)).1
      obtain ⟨o1, e1, c1, _⟩ := st.2.2.2.1
      obtain ⟨o2, e2, c2, _⟩ := p.isList
      rw [q, e1] at e2
      cases e2
      rw [c1] at c2
      exact absurd c2 (by decide)
    have ne2 : b ≠ i2 := fun q => by
      obtain ⟨o1, e1, c1, _⟩ := st.2.2.2.2
      obtain ⟨o2, e2, c2, _⟩ := (show s.heap.IsTuple b us2.toArray from p2)
      rw [q, e1] at e2
      cases e2
      rw [c1] at c2
      exact absurd c2 (by decide)
    have il : i < us.toArray.size := by
      rw [List.size_toArray]
      exact (List.getElem?_eq_some_iff.mp hu).1
    have il2 : i < us2.toArray.size := by
      rw [List.size_toArray]
      exact (List.getElem?_eq_some_iff.mp hu2).1
    have W := GoesN.zip2 (elts := elts) (x1 := kk) (pos := tpos) S (Draws.list (prog := X.prog) (w := X.w) hd i1 a ne1 us.toArray) (Draws.tuple (prog := X.prog) (w := X.w) hd i2 b ne2 us2.toArray)
    refine W.goes i s _ E (by omega) ⟨st.1, st.2.1, st.2.2.1, ⟨st.2.2.2.1, p.isList⟩, ⟨st.2.2.2.2, p2⟩⟩ fun v h' tk hY st' hk htk => ?_
    obtain ⟨T, v1, v2, rfl, hT, e1, e2, hTT⟩ := hY
    have e1' : v1 = u := by
      rw [List.getElem?_toArray, hu] at e1
      exact (Option.some.inj e1).symm
    have e2' : v2 = u2 := by
      rw [List.getElem?_toArray, hu2] at e2
      exact (Option.some.inj e2).symm
    subst e1' e2'
    have new : ObjOk X.prog X.w (upd H T (.tup [x, y])) h' T (.tup [x, y]) := ⟨by show 2 ≤ sizeLine; decide, _, .cons ru (.cons ru2 .nil), hTT⟩
    have hch : ∀ c ∈ [z, TO, i1, i2], FpOk X pins H c := fun c hcm => hf c (by
      simp only [List.mem_cons, List.not_mem_nil, or_false] at hcm ⊢
      rcases hcm with q | q | q | q <;> simp [q])
    have I1 := I.turnedNew (t' := tk) (ch := [z, TO, i1, i2]) (T := T) hk hch hT new
    have nT := I.hok.fresh hT
    refine ⟨.ref T, _, I1, rfl, ⟨T, x, y, rfl, .of nT, fun l hl => by rw [I.list_inj hl hqx]; exact hx, fun l hl => by rw [I.tuple_inj hl hqy]; exact hy⟩, ⟨st'.1, st'.2.1, st'.2.2.1, st'.2.2.2.1.1, st'.2.2.2.2.1⟩, fun c hcm => ?_⟩
    obtain ⟨o, ho, _⟩ := zSt.five st hcm
    rw [upd_ne (Nat.ne_of_lt (Nat.lt_of_lt_of_le (Heap.lt_size ho) hT))]
    exact (hf c hcm).1
  · intro X hP hw hK hc i pins s σ H E I hf st hg
    subst hP hw hK
    obtain ⟨xs, ys, hqx, hqy, l1, l2⟩ := hg
    obtain ⟨us, rv, p, _⟩ := I.list hqx
    obtain ⟨us2, rv2, p2, _⟩ := I.tuple hqy
    have hd : X.A.in1.handled = none := I.ok.hd hc
    have ne1 : a ≠ i1 := fun q => by
      obtain ⟨o1, e1, c1, _⟩ := st.2.2.2.1
      obtain ⟨o2, e2, c2, _⟩ := p.isList
      rw [q, e1] at e2
      cases e2
      rw [c1] at c2
      exact absurd c2 (by decide)
    have ne2 : b ≠ i2 := fun q => by
      obtain ⟨o1, e1, c1, _⟩ := st.2.2.2.2
      obtain ⟨o2, e2, c2, _⟩ := (show s.heap.IsTuple b us2.toArray from p2)
      rw [q, e1] at e2
      cases e2
      rw [c1] at c2
      exact absurd c2 (by decide)
    have z1 := rv.length
    have z2 := rv2.length
    have ie : i = min us.toArray.size us2.toArray.size := by
      rw [List.size_toArray, List.size_toArray]
      omega
    have W := GoesN.zip2 (elts := elts) (x1 := kk) (pos := tpos) S (Draws.list (prog := X.prog) (w := X.w) hd i1 a ne1 us.toArray) (Draws.tuple (prog := X.prog) (w := X.w) hd i2 b ne2 us2.toArray)
    refine W.stops s _ E (by rw [← ie]; exact ⟨st.1, st.2.1, st.2.2.1, ⟨st.2.2.2.1, p.isList⟩, ⟨st.2.2.2.2, p2⟩⟩) fun h' tk hk htk => I.turnedL (t' := tk) (ch := [z, TO, i1, i2]) hk fun c hcm => hf c (by
      simp only [List.mem_cons, List.not_mem_nil, or_false] at hcm ⊢
      rcases hcm with q | q | q | q <;> simp [q])
def xiZ (K : PySem.W.Frag) (ta : TA) : TI := fun σ H R => ta σ H fun vs H1 => ∃ a b, vs = [.ref a, .ref b] ∧ (∃ xs, H1 a = some (.lst xs)) ∧ (∃ ys, H1 b = some (.tup ys)) ∧ R (ItzM K a b) H1
theorem pi_zipLT {X : Cx} {e e2 : Expr} {ta : TA} {p pos tpos : Pos} {elts : List Expr} {kk : Nat} (hg : Gl X "zip") (hm : X.mg "zip" = none) (ha : PA X [e, e2] ta)
    (hs : starEach [e, e2] X.env = (false, eval e X.env) :: starEach [e2] X.env := by rfl) (hpl : (backTo pos (starEach [e2] X.env)).any (·.1) = false := by rfl) :
    PI X (.Tuple elts kk tpos) (.Call (.Name "zip" p) [e, e2] [] pos) (xiZ X.K ta) := by
  refine ⟨fun pins s σ H R I h => Call_ (ld_blt I hg hm PyProof.Rows.boot_zip (PyProof.Rows.callWith_type1 (thn ((pa_mo ha).run pos pins s σ H _ I ⟨_, h, fun _ _ q => q⟩) fun us s1 ⟨vs, H1, I1, r1, a, b, ev, ⟨xs, hx⟩, ⟨ys, hy⟩, q⟩ => ?_) hs hpl))⟩
  subst ev
  cases r1 with
  | cons r rr =>
  cases rr with
  | cons r' rr =>
  cases rr
  cases r
  cases r'
  obtain ⟨us, rv, p1, _⟩ := I1.list (SqL.of hx)
  obtain ⟨us2, rv2, p2, _⟩ := I1.tuple (SqT.of hy)
  refine zip_begins2 (begins_list a us.toArray) (begins_tuple b us2.toArray) p1.isList p2 fun h' z1 z2 z3 z4 z5 _ hk => wpAny_pyIter_zip z1 ?_
  have I2 : Inv X pins σ H1 { s1 with heap := h' } := I1.kept (t' := s1.toks) hk
  have la := Heap.lt_size p1.isList.choose_spec.1
  obtain ⟨ob, hob, _⟩ := (show s1.heap.IsTuple b us2.toArray from p2)
  have lb := Heap.lt_size hob
  refine ⟨_, _, _, _, H1, rfl, I2, turn_zM (zip_sep2 (N := s1.heap.objs.size) (fp1 := [a]) (fp2 := [b]) (by simpa using la) (by simpa using lb)), ⟨z1, z2, ⟨_, _, z3⟩, ⟨_, z4, rfl, rfl⟩, ⟨_, z5, rfl, rfl⟩⟩, fun c hc => ?_, q⟩
  have hle : s1.heap.objs.size ≤ c := by
    simp only [List.mem_cons, List.not_mem_nil, or_false] at hc
    rcases hc with q | q | q | q | q <;> (rw [q]; first | exact Nat.le_refl _ | exact Nat.le_add_right _ _)
  exact I1.fpOk hle (I1.hok.fresh hle)
/-- the loop over zip, folded -/
theorem zip_any {K : PySem.W.Frag} {a b : Addr} {xs ys : List V} {g : TG} {tb : TS} {D : Ends} {σ : L2.St} {H : Hp} (hl : xs.length = ys.length) (Pv : Nat → L2.St → Hp → Prop) (h0 : Pv 0 σ H) (hq : ∀ i σ H, Pv i σ H → H a = some (.lst xs) ∧ H b = some (.tup ys))
    (hs : ∀ (i : Nat) (x y : V) (p : Addr) (σ : L2.St) (H H1 : Hp), xs[i]? = some x → ys[i]? = some y → Pv i σ H → New p (.tup [x, y]) H H1 → g (.ref p) σ H1 fun σ2 H2 => tb { D with nx := Pv (i + 1), ct := Pv (i + 1), bk := D.nx } σ2 H2) (hd : ∀ σ H, Pv xs.length σ H → D.nx σ H) :
    ∃ W : Nat → Nat → L2.St → Hp → Prop, (∃ m, W 0 m σ H) ∧ ∀ i m σ H, W i m σ H → ((ItzM K a b).stop i H ∧ D.nx σ H) ∨ ((ItzM K a b).go i H ∧ ∃ N : L2.St → Hp → Prop, (∀ σ' H', N σ' H' → ∃ m', m' < m ∧ W (i + 1) m' σ' H') ∧ ∀ v H', (ItzM K a b).yld i H v H' → g v σ H' fun σ2 H2 => tb { D with nx := N, ct := N, bk := D.nx } σ2 H2) := by
  refine ⟨fun i m σ H => m + i = xs.length ∧ Pv i σ H, ⟨_, rfl, h0⟩, ?_⟩
  rintro i m σ H ⟨hm, p⟩
  obtain ⟨qx, qy⟩ := hq i σ H p
  cases m with
  | zero =>
    obtain rfl : i = xs.length := by omega
    exact .inl ⟨⟨xs, ys, SqL.of qx, SqT.of qy, rfl, hl.symm⟩, hd σ H p⟩
  | succ m =>
    have h1 : i < xs.length := by omega
    have h2 : i < ys.length := by omega
    refine .inr ⟨⟨xs, ys, _, _, SqL.of qx, SqT.of qy, List.getElem?_eq_getElem h1, List.getElem?_eq_getElem h2⟩, Pv (i + 1), fun σ' H' p' => ⟨m, by omega, by omega, p'⟩, fun v H' y => ?_⟩
    obtain ⟨T, x', y', rfl, n, f1, f2⟩ := y
    exact hs i x' y' T σ H _ (f1 xs (SqL.of qx)) (f2 ys (SqT.of qy)) p n
end K10
set_option linter.all false
set_option maxRecDepth 100000
set_option maxHeartbeats 4000000
namespace K10
open PySem PySem.Spec PyProof.Rows L2
section
variable {P : Program} {w : World} {K : PySem.W.Frag} {mg : Str → Option Value} {base : Heap} {Ax : Ad}
local macro_rules | `(tactic| walk_at "wp") => `(tactic| simp only [tVar, tC, tOp, rI0, rI, rU, tUn, rEq, rNe, tTest, tB, tAnd, tOr, tNot, tAndV, tOrV, tNotV, tIf, tSeq, tNext, tAsg, gName, gSub, tDrop, tRet, tRetN, tIfS, tBreak, tCont, tAug, ipI, tCB, tCons, tNil,
  xTup, xLst, xIxL, xIxT, xIxS, xIxK, xLenL, xLenT, xLenS, xLenK, xSlL, xSlT, xSlS, xInL, xInT, xInK, xCat, xRep, xCatT, xTupL, xSetL, xIntS, xIntI, xIntB, xApp, xJoin, xSplit, xFld, xSetF, xAugF, tSl, tPart, tNoPart, xCall, xMeth, xMeth0, xMake, xRaise, xgT, xgL, gCons, gNil, xInD, xIxD, C8.tCut, xIsi, for_r1, for_r2, for_l, for_t, for_e, lc_xl, lc_xt, lc_xr, tM0, S,
  exists_eq_left, exists_eq_left', exists_and_left, V.int.injEq, V.ref.injEq, V.str.injEq, V.bl.injEq, consV, Option.some.injEq, HO.lst.injEq, HO.tup.injEq, HO.ins.injEq, and_true, true_and, List.getElem?_cons_zero, List.getElem?_cons_succ, List.set_cons_zero, List.set_cons_succ,
  if_true, if_false, Bool.false_eq_true, and_assoc, V.ty.injEq, isbI, isbS, kb1, kb2, kb3, kb4, kb5, kb6, kb7, kb8, kb9, reduceCtorEq, decide_false, decide_true, decide_eq_true_eq, Bool.not_eq_true', decide_eq_false_iff_not, Bool.not_true, Bool.not_false, ite_not, at0, at1, at2, at3, at4, ix0, ix1, fl_int, fl_str, fl_bl, fl_non, al_nil, al_cons, lenNil, len1, len2, len3, len4, sc_ii, sc_ss, sc_ns, sc_sn, sc_nn, sc_in, sc_si, sc_is, sc_bb, st_go])
local macro_rules | `(tactic| walk_at "wf") => `(tactic| simp only [*,
  exists_eq_left, exists_eq_left', exists_and_left, V.int.injEq, V.ref.injEq, V.str.injEq, V.bl.injEq, consV, Option.some.injEq, HO.lst.injEq, HO.tup.injEq, HO.ins.injEq, and_true, true_and, List.getElem?_cons_zero, List.getElem?_cons_succ, List.set_cons_zero, List.set_cons_succ,
  if_true, if_false, Bool.false_eq_true, and_assoc, V.ty.injEq, isbI, isbS, kb1, kb2, kb3, kb4, kb5, kb6, kb7, kb8, kb9, reduceCtorEq, decide_false, decide_true, decide_eq_true_eq, Bool.not_eq_true', decide_eq_false_iff_not, Bool.not_true, Bool.not_false, ite_not, at0, at1, at2, at3, at4, ix0, ix1, fl_int, fl_str, fl_bl, fl_non, al_nil, al_cons, lenNil, len1, len2, len3, len4, sc_ii, sc_ss, sc_ns, sc_sn, sc_nn, sc_in, sc_si, sc_is, sc_bb, st_go])
local macro_rules | `(tactic| walk_at "len") => `(tactic| (refine le_line ?_; simp only [List.length_cons, List.length_nil, List.length_append, List.length_map, List.map_nil, List.map_cons] <;> omega))
/-! ### _run_end -/
theorem tw_at {p : Nat → Bool} : ∀ {l : List Nat} {j : Nat}, j ≤ (l.takeWhile p).length → ∀ {x : Nat}, l[j]? = some x → (p x = true → j < (l.takeWhile p).length) ∧ (p x = false → j = (l.takeWhile p).length)
  | [], j, _, x, h => by cases h
  | a :: l, 0, hj, x, h => by
    cases Option.some.inj h
    rw [List.takeWhile_cons]
    constructor
    · intro q
      rw [q]
      simp
    · intro q
      rw [q]
      simp
  | a :: l, j + 1, hj, x, h => by
    rw [List.takeWhile_cons] at hj ⊢
    cases q : p a with
    | false => rw [q] at hj; simp at hj
    | true =>
      rw [q] at hj
      simp only [if_true, List.length_cons] at hj ⊢
      have ih := tw_at (p := p) (l := l) (j := j) (by omega) (x := x) (by simpa using h)
      exact ⟨fun z => by have := ih.1 z; omega, fun z => by have := ih.2 z; omega⟩
theorem tw_le {p : Nat → Bool} (l : List Nat) : (l.takeWhile p).length ≤ l.length := (List.takeWhile_sublist p).length_le
def runL (z : Str) (a : Nat) (cs : Str) : Nat := ((z.cps.toList.drop a).takeWhile fun c => decide (c ∈ cs.cps.toList)).length
def spRunEnd : Sp := fun vs H Q _ => ∃ (z : Str) (a : Nat) (cs : Str), vs = [.str z, .int a, .str cs] ∧ a ≤ z.cps.toList.length ∧ z.length ≤ 1000000 ∧ Q (.int (a + runL z a cs : Nat)) H
theorem ok_run_end (F : Df K mg "_run_end" s_run_end ["line", "at", "chars"]) (T : Tx w K mg Ax) : Cl P w K mg base L2.CX0 1 "_run_end" spRunEnd := by
  refine F.cl sc_run_end (fun vs H Q E h => ?_) (fun f cdv A outer s H vs Q E hr h => ?_)
  · obtain ⟨_, _, _, rfl, _⟩ := h
    rfl
  · obtain ⟨z, a, cs, rfl, ha, hz, q⟩ := h
    refine ⟨_, (pss_cons (ps_set (i := 3) sc_run_end.nd rfl (Or.inl rfl) (pv 1))
  (pss_cons (ps_while PassesOwn.never (PW.pt (pw_and (pt_cmpR op_lt (pv 3) (pe_callB len_s (by rfl) T.b_len PySem.boot_len (pa_cons (pv 0) pa_nil)) (nomark _)) (pw_and1 (pt_cmpR op_in_sign (pe_ix ix_s (pv 0) (pv 3) (fun _ _ => rfl)) (pv 2) rfl))))
    (pss_one (ps_aug (i := 3) sc_run_end.nd rfl (Or.inl rfl) pe_int ip_add)))
  (pss_one (ps_ret (pv 3))))), ?_⟩
    rw [show L2.start N_run_end [V.str z, V.int a, V.str cs] = [some (.str z), some (.int a), some (.str cs), none] from rfl]
    walk_at "wp"
    have len : z.length = z.cps.toList.length := TL.len_tl z
    refine ⟨fun m σ H' => ∃ e : Nat, σ = [some (.str z), some (.int a), some (.str cs), some (.int (a + e : Nat))] ∧ H' = H ∧ e ≤ runL z a cs ∧ m + (a + e) = z.cps.toList.length, ⟨_, 0, rfl, rfl, Nat.zero_le _, Nat.sub_add_cancel ha⟩, ?_⟩
    rintro m σ H' ⟨e, rfl, rfl, he, hm⟩
    walk_at "wp"
    refine ⟨le_line hz, ite2 (fun c => ?_) (fun c => ?_)⟩
    · have hi : a + e < z.cps.toList.length := by
        rw [len] at c
        omega
      refine ⟨le_line hz, z.cps.toList[a + e], atI_nat (List.getElem?_eq_getElem hi), _, rfl, ?_⟩
      have hx : (z.cps.toList.drop a)[e]? = some z.cps.toList[a + e] := by rw [List.getElem?_drop, List.getElem?_eq_getElem hi]
      obtain ⟨t1, t2⟩ := tw_at (p := fun c => decide (c ∈ cs.cps.toList)) he hx
      refine ite2 (fun q1 => ⟨fun σ' H1 => ∃ m', m' < m ∧ ∃ e : Nat, σ' = [some (V.str z), some (V.int a), some (V.str cs), some (V.int (a + e : Nat))] ∧ H1 = H' ∧ e ≤ runL z a cs ∧ m' + (a + e) = z.cps.toList.length, fun σ' H1 h => h, m - 1, by omega, e + 1, ?_, rfl, t1 (decide_eq_true q1), by omega⟩) (fun q1 => ?_)
      · rw [show ((a + (e + 1) : Nat) : Int) = ((a + e : Nat) : Int) + 1 by omega]
      · rw [show e = runL z a cs from t2 (decide_eq_false q1)]
        exact q
    · have he' : e = runL z a cs := by
        have h1 : runL z a cs ≤ (z.cps.toList.drop a).length := tw_le _
        rw [List.length_drop] at h1
        rw [len] at c
        omega
      rw [he']
      exact q
end
end K10
set_option linter.all false
set_option maxRecDepth 100000
set_option maxHeartbeats 4000000
namespace K10
open PySem PySem.Spec PyProof.Rows L2
section
variable {P : Program} {w : World} {K : PySem.W.Frag} {mg : Str → Option Value} {base : Heap} {Ax : Ad}
local macro_rules | `(tactic| walk_at "wp") => `(tactic| simp only [tVar, tC, tOp, rI0, rI, rU, tUn, rEq, rNe, tTest, tB, tAnd, tOr, tNot, tAndV, tOrV, tNotV, tIf, tSeq, tNext, tAsg, gName, gSub, tDrop, tRet, tRetN, tIfS, tBreak, tCont, tAug, ipI, tCB, tCons, tNil,
  xTup, xLst, xIxL, xIxT, xIxS, xIxK, xLenL, xLenT, xLenS, xLenK, xSlL, xSlT, xSlS, xInL, xInT, xInK, xCat, xRep, xCatT, xTupL, xSetL, xIntS, xIntI, xIntB, xApp, xJoin, xSplit, xFld, xSetF, xAugF, tSl, tPart, tNoPart, xCall, xMeth, xMeth0, xMake, xRaise, xgT, xgL, gCons, gNil, xInD, xIxD, C8.tCut, xIsi, for_r1, for_r2, for_l, for_t, for_e, lc_xl, lc_xt, lc_xr, tM0, S,
  exists_eq_left, exists_eq_left', exists_and_left, V.int.injEq, V.ref.injEq, V.str.injEq, V.bl.injEq, consV, Option.some.injEq, HO.lst.injEq, HO.tup.injEq, HO.ins.injEq, and_true, true_and, List.getElem?_cons_zero, List.getElem?_cons_succ, List.set_cons_zero, List.set_cons_succ,
  if_true, if_false, Bool.false_eq_true, and_assoc, V.ty.injEq, isbI, isbS, kb1, kb2, kb3, kb4, kb5, kb6, kb7, kb8, kb9, reduceCtorEq, decide_false, decide_true, decide_eq_true_eq, Bool.not_eq_true', decide_eq_false_iff_not, Bool.not_true, Bool.not_false, ite_not, at0, at1, at2, at3, at4, ix0, ix1, fl_int, fl_str, fl_bl, fl_non, al_nil, al_cons, lenNil, len1, len2, len3, len4, sc_ii, sc_ss, sc_ns, sc_sn, sc_nn, sc_in, sc_si, sc_is, sc_bb, st_go])
local macro_rules | `(tactic| walk_at "wf") => `(tactic| simp only [*,
  exists_eq_left, exists_eq_left', exists_and_left, V.int.injEq, V.ref.injEq, V.str.injEq, V.bl.injEq, consV, Option.some.injEq, HO.lst.injEq, HO.tup.injEq, HO.ins.injEq, and_true, true_and, List.getElem?_cons_zero, List.getElem?_cons_succ, List.set_cons_zero, List.set_cons_succ,
  if_true, if_false, Bool.false_eq_true, and_assoc, V.ty.injEq, isbI, isbS, kb1, kb2, kb3, kb4, kb5, kb6, kb7, kb8, kb9, reduceCtorEq, decide_false, decide_true, decide_eq_true_eq, Bool.not_eq_true', decide_eq_false_iff_not, Bool.not_true, Bool.not_false, ite_not, at0, at1, at2, at3, at4, ix0, ix1, fl_int, fl_str, fl_bl, fl_non, al_nil, al_cons, lenNil, len1, len2, len3, len4, sc_ii, sc_ss, sc_ns, sc_sn, sc_nn, sc_in, sc_si, sc_is, sc_bb, st_go])
local macro_rules | `(tactic| walk_at "len") => `(tactic| (refine le_line ?_; simp only [List.length_cons, List.length_nil, List.length_append, List.length_map, List.map_nil, List.map_cons] <;> omega))
/-! ### _token -/
/-- at place a of z stands w, a space or the end behind it -/
def AtW (z : Str) (a : Nat) (w : Str) : Prop := ∃ rest, z.cps.toList.drop a = w.cps.toList ++ rest ∧ (rest = [] ∨ rest.head? = some 32)
theorem tw_app {p : Nat → Bool} {l rest : List Nat} (h : ∀ c ∈ l, p c = true) (hr : rest = [] ∨ ∃ c, rest.head? = some c ∧ p c = false) : (l ++ rest).takeWhile p = l := by
  induction l with
  | nil =>
    rcases hr with rfl | ⟨c, hc, hp⟩
    · rfl
    · cases rest with
      | nil => rfl
      | cons d r =>
        cases hc
        show List.takeWhile p (_ :: r) = []
        rw [List.takeWhile_cons, hp]
        rfl
  | cons x l ih =>
    rw [List.cons_append, List.takeWhile_cons, h x (List.mem_cons_self ..), if_pos rfl, ih fun c hc => h c (List.mem_cons_of_mem _ hc)]
theorem AtW.run {z w cs : Str} {a : Nat} (h : AtW z a w) (hw : ∀ c ∈ w.cps.toList, c ∈ cs.cps.toList) (hs : 32 ∉ cs.cps.toList) : runL z a cs = w.cps.toList.length := by
  obtain ⟨rest, e, hr⟩ := h
  unfold runL
  rw [e, tw_app (fun c hc => decide_eq_true (hw c hc)) (hr.imp id fun q => ⟨32, q, decide_eq_false hs⟩)]
theorem cut_at {z w : Str} {a b : Nat} (h : AtW z a w) (hb : b = a + w.cps.toList.length) : cutS z (some (a : Int)) (some (b : Int)) = w := by
  obtain ⟨rest, e, _⟩ := h
  have hl := congrArg List.length e
  rw [List.length_drop, List.length_append] at hl
  have len : z.length = z.cps.toList.length := TL.len_tl z
  refine tl_inj ?_
  show ((z.cps.toList.drop (HT.sIx z.length 0 (some (a : Int)))).take (HT.sIx z.length z.length (some (b : Int)) - HT.sIx z.length 0 (some (a : Int)))) = w.cps.toList
  rw [HT.sIx_nat, HT.sIx_nat, len]
  by_cases hw : w.cps.toList = []
  · rw [hw] at hb ⊢
    have : min b z.cps.toList.length - min a z.cps.toList.length = 0 := by simp at hb; omega
    rw [this, List.take_zero]
  · have hp : 0 < w.cps.toList.length := List.length_pos_iff.mpr hw
    have e1 : min a z.cps.toList.length = a := by omega
    have e2 : min b z.cps.toList.length = b := by omega
    rw [e1, e2, e, hb, Nat.add_sub_cancel_left, List.take_left]
theorem AtW.first {z w : Str} {a c : Nat} {r : List Nat} (h : AtW z a w) (hw : w.cps.toList = c :: r) : atI z.cps.toList (a : Int) = some c ∧ a < z.cps.toList.length := by
  obtain ⟨rest, e, _⟩ := h
  rw [hw, List.cons_append] at e
  have h0 : (z.cps.toList.drop a)[0]? = some c := by rw [e]; rfl
  rw [List.getElem?_drop, Nat.add_zero] at h0
  exact ⟨atI_nat h0, (List.getElem?_eq_some_iff.mp h0).1⟩
theorem mem_both (c : Nat) : c ∈ (Str.ofString "abcdefghijklmnopqrstuvwxyz" ++ Str.ofString "0123456789").cps.toList ↔ anC c = true := by
  rw [show (Str.ofString "abcdefghijklmnopqrstuvwxyz" ++ Str.ofString "0123456789").cps.toList = letS.cps.toList ++ digS.cps.toList from TL.tl_append letS digS, List.mem_append, mem_dig, mem_let]
  unfold anC
  rw [Bool.or_eq_true]
theorem nums_ok : ∀ w ∈ nums, w.cps.toList.all digC = true ∧ w.cps.toList.length ≤ 2 ∧ w.length ≤ 2 ∧ (w.length = 2 → ∃ c, atI w.cps.toList 0 = some c ∧ c ≠ 48) := by
  have all : ∀ w ∈ nums, w.cps.toList.all digC = true ∧ w.cps.toList.length ≤ 2 ∧ w.length ≤ 2 ∧ (w.length = 2 → (w.cps.toList[0]?).isSome = true ∧ w.cps.toList[0]? ≠ some 48) := by decide +kernel
  intro w hw
  obtain ⟨h1, h2, h3, h4⟩ := all w hw
  refine ⟨h1, h2, h3, fun q => ?_⟩
  obtain ⟨h5, h6⟩ := h4 q
  obtain ⟨c, hc⟩ := Option.isSome_iff_exists.mp h5
  exact ⟨c, atI_nat hc, fun z => h6 (by rw [hc, z])⟩
def spToken : Sp := fun vs H Q _ => ∃ (z : Str) (a : Nat) (k v : Str), vs = [.str z, .int a] ∧ Wk k v ∧ AtW z a v ∧ z.length ≤ 1000000 ∧ nw (.tup [.str k, .str v]) H Q
theorem one_inj {c d : Nat} : ((⟨#[c]⟩ : Str) = (⟨#[d]⟩ : Str)) ↔ c = d := ⟨fun h => by cases h; rfl, fun h => by rw [h]⟩
theorem ok_token (F : Df K mg "_token" s_token ["line", "at"]) (T : Tx w K mg Ax) (G_run_end : Cl P w K mg base L2.CX0 1 "_run_end" spRunEnd) : Cl P w K mg base L2.CX0 2 "_token" spToken := by
  refine F.cl sc_token (fun vs H Q E h => ?_) (fun f cdv A outer s H vs Q E hr h => ?_)
  · obtain ⟨_, _, _, _, rfl, _⟩ := h
    rfl
  · obtain ⟨z, a, k, v, rfl, hk, hat, hz, q⟩ := h
    refine ⟨_, (pss_cons (ps_set (i := 2) sc_token.nd rfl (Or.inl rfl) (pe_ix ix_s (pv 0) (pv 1) (fun _ _ => rfl)))
  (pss_cons (ps_if (pt_cmpR op_in_sign (pv 2) (C8.pe_gc (by rfl) T.v_DIGITS) rfl) (pss_cons (ps_set (i := 3) sc_token.nd rfl (Or.inl rfl) (pe_slice sl_s (pv 0) (po_some (pv 1)) (po_some (px_c G_run_end hr (by omega) (by rfl) (pa_cons (pv 0) (pa_cons (pv 1) (pa_cons (C8.pe_gc (by rfl) T.v_DIGITS) pa_nil)))))))
  (pss_cons (ps_if (PW.pt (pw_or (pt_cmpR op_gt (pe_callB len_s (by rfl) T.b_len PySem.boot_len (pa_cons (pv 3) pa_nil)) pe_int (nomark _)) (pw_or1 (PW.pt (pw_and (pt_cmpR op_eq (pe_callB len_s (by rfl) T.b_len PySem.boot_len (pa_cons (pv 3) pa_nil)) pe_int (nomark _)) (pw_and1 (pt_cmpR op_eq (pe_ix ix_s (pv 3) pe_int (fun _ _ => rfl)) pe_str (nomark _)))))))) (pss_one (ps_ret (px_tup (pa_cons pe_str (pa_cons (pv 3) pa_nil))))) pss_nil)
  (pss_one (ps_ret (px_tup (pa_cons pe_str (pa_cons (pv 3) pa_nil))))))) pss_nil)
  (pss_cons (ps_if (pt_cmpR op_in_sign (pv 2) (C8.pe_gc (by rfl) T.v_LETTERS) rfl) (pss_cons (ps_set (i := 3) sc_token.nd rfl (Or.inl rfl) (pe_slice sl_s (pv 0) (po_some (pv 1)) (po_some (px_c G_run_end hr (by omega) (by rfl) (pa_cons (pv 0) (pa_cons (pv 1) (pa_cons (pe_op op_add_str (C8.pe_gc (by rfl) T.v_LETTERS) (C8.pe_gc (by rfl) T.v_DIGITS)) pa_nil)))))))
  (pss_cons (ps_if (pt_cmpR op_gt (pe_callB len_s (by rfl) T.b_len PySem.boot_len (pa_cons (pv 3) pa_nil)) (C8.pe_gc (by rfl) T.v_WORD_LENGTH) (nomark _)) (pss_one (ps_ret (px_tup (pa_cons pe_str (pa_cons (pv 3) pa_nil))))) pss_nil)
  (pss_one (ps_ret (px_tup (pa_cons pe_str (pa_cons (pv 3) pa_nil))))))) pss_nil)
  (pss_cons (ps_if (pt_cmpR op_in_sign (pv 2) (C8.pe_gc (by rfl) T.v_SIGNS) rfl) (pss_one (ps_ret (px_tup (pa_cons pe_str (pa_cons (pv 2) pa_nil))))) pss_nil)
  (pss_one (ps_ret (px_tup (pa_cons pe_str (pa_cons (pv 2) pa_nil))))))))), ?_⟩
    rw [show L2.start N_token [V.str z, V.int a] = [some (.str z), some (.int a), none, none] from rfl]
    walk_at "wp"
    obtain ⟨c, r, hv⟩ : ∃ c r, v.cps.toList = c :: r := by
      cases e : v.cps.toList with
      | nil => exact absurd e hk.ne
      | cons c r => exact ⟨c, r, rfl⟩
    obtain ⟨hc, hlt⟩ := hat.first hv
    have dg : (c ∈ (Str.ofString "0123456789").cps.toList) = (digC c = true) := propext (mem_dig c)
    have lt : (c ∈ (Str.ofString "abcdefghijklmnopqrstuvwxyz").cps.toList) = (lowC c = true) := propext (mem_let c)
    have lv : v.length = v.cps.toList.length := TL.len_tl v
    have lz : z.length = z.cps.toList.length := TL.len_tl z
    have hvz : v.length ≤ z.length := by
      obtain ⟨rest, e, _⟩ := hat
      have hl := congrArg List.length e
      rw [List.length_drop, List.length_append] at hl
      omega
    refine ⟨le_line hz, c, hc, c, rfl, ?_⟩
    have rn : ∀ {cs : Str} {R : VK} {E : XK}, (∀ c ∈ v.cps.toList, c ∈ cs.cps.toList) → 32 ∉ cs.cps.toList → R (.int (a + v.cps.toList.length : Nat)) H → spRunEnd [V.str z, V.int a, V.str cs] H R E := fun {cs R E} h1 h2 h3 =>
      ⟨z, a, cs, rfl, Nat.le_of_lt hlt, hz, by rw [hat.run h1 h2]; exact h3⟩
    have hcut : cutS z (some (a : Int)) (some ((a + v.cps.toList.length : Nat) : Int)) = v := cut_at hat rfl
    have lzv : v.length ≤ sizeLine := le_line (by omega)
    cases hk with
    | num h =>
      obtain ⟨n1, n2, n3, n4⟩ := nums_ok v h
      have al : ∀ c ∈ v.cps.toList, c ∈ digS.cps.toList := fun c hc => (mem_dig c).mpr (List.all_eq_true.mp n1 c hc)
      rw [if_pos (al c (by rw [hv]; exact List.mem_cons_self ..))]
      refine rn al (by decide +kernel) ⟨_, rfl, le_line hz, ?_⟩
      rw [hcut]
      refine ⟨lzv, ?_⟩
      rw [if_neg (by omega)]
      refine ⟨lzv, ite2 (fun q2 => ⟨lzv, ?_⟩) (fun _ => q)⟩
      obtain ⟨d, hd, hd8⟩ := n4 (by omega)
      refine ⟨d, hd, ?_⟩
      rw [if_neg (fun z => hd8 (one_inj.mp (z.trans (by decide +kernel : Str.ofString "0" = ⟨#[48]⟩))))]
      exact q
    | badn h hd hl =>
      have al : ∀ c ∈ v.cps.toList, c ∈ digS.cps.toList := fun c hc => (mem_dig c).mpr (List.all_eq_true.mp hd c hc)
      rw [if_pos (al c (by rw [hv]; exact List.mem_cons_self ..))]
      refine rn al (by decide +kernel) ⟨_, rfl, le_line hz, ?_⟩
      rw [hcut]
      refine ⟨lzv, ?_⟩
      rw [if_pos (by omega)]
      exact q
    | @word _ c' r' h hc' hr' hl =>
      have e1 : c' = c := by
        rw [h] at hv
        exact (List.cons.inj hv).1
      subst e1
      have all : ∀ c ∈ v.cps.toList, anC c = true := by
        rw [h]
        intro d hd
        rcases List.mem_cons.mp hd with rfl | hd
        · unfold anC
          rw [hc']
          rfl
        · exact List.all_eq_true.mp hr' d hd
      have al : ∀ c ∈ v.cps.toList, c ∈ (Str.ofString "abcdefghijklmnopqrstuvwxyz" ++ Str.ofString "0123456789").cps.toList := fun c hc => (mem_both c).mpr (all c hc)
      rw [if_neg (fun q => by
        have q1 := (mem_dig c').mp q
        simp only [digC, lowC, Bool.and_eq_true, decide_eq_true_eq] at q1 hc'
        omega)]
      refine ⟨c', rfl, ?_⟩
      rw [if_pos ((mem_let c').mpr hc')]
      refine ⟨le_line (by decide +kernel), rn al (by decide +kernel) ⟨_, rfl, le_line hz, ?_⟩⟩
      rw [hcut]
      refine ⟨lzv, ?_⟩
      rw [if_neg (by omega)]
      exact q
    | @sign _ c' h hc' =>
      have e1 : c' = c := by
        rw [h] at hv
        exact (List.cons.inj hv).1
      subst e1 h
      have no : ∀ c ∈ sgnS.cps.toList, c ∉ digS.cps.toList ∧ c ∉ letS.cps.toList := by decide +kernel
      rw [if_neg (no c' hc').1]
      refine ⟨c', rfl, ?_⟩
      rw [if_neg (no c' hc').2]
      refine ⟨c', rfl, ?_⟩
      rw [if_pos hc']
      exact q
    | @bads _ c' h h1 h2 h3 h4 h5 =>
      have e1 : c' = c := by
        rw [h] at hv
        exact (List.cons.inj hv).1
      subst e1 h
      rw [if_neg (fun z => by rw [(mem_dig c').mp z] at h1; cases h1)]
      refine ⟨c', rfl, ?_⟩
      rw [if_neg (fun z => by rw [(mem_let c').mp z] at h2; cases h2)]
      refine ⟨c', rfl, ?_⟩
      rw [if_neg h3]
      exact q
end
end K10
set_option linter.all false
set_option maxRecDepth 100000
set_option maxHeartbeats 4000000
namespace K10
open PySem PySem.Spec PyProof.Rows L2
section
variable {P : Program} {w : World} {K : PySem.W.Frag} {mg : Str → Option Value} {base : Heap} {Ax : Ad}
local macro_rules | `(tactic| walk_at "wp") => `(tactic| simp only [tVar, tC, tOp, rI0, rI, rU, tUn, rEq, rNe, tTest, tB, tAnd, tOr, tNot, tAndV, tOrV, tNotV, tIf, tSeq, tNext, tAsg, gName, gSub, tDrop, tRet, tRetN, tIfS, tBreak, tCont, tAug, ipI, tCB, tCons, tNil,
  xTup, xLst, xIxL, xIxT, xIxS, xIxK, xLenL, xLenT, xLenS, xLenK, xSlL, xSlT, xSlS, xInL, xInT, xInK, xCat, xRep, xCatT, xTupL, xSetL, xIntS, xIntI, xIntB, xApp, xJoin, xSplit, xFld, xSetF, xAugF, tSl, tPart, tNoPart, xCall, xMeth, xMeth0, xMake, xRaise, xgT, xgL, gCons, gNil, xInD, xIxD, C8.tCut, xIsi, for_r1, for_r2, for_l, for_t, for_e, lc_xl, lc_xt, lc_xr, tM0, S,
  exists_eq_left, exists_eq_left', exists_and_left, V.int.injEq, V.ref.injEq, V.str.injEq, V.bl.injEq, consV, Option.some.injEq, HO.lst.injEq, HO.tup.injEq, HO.ins.injEq, and_true, true_and, List.getElem?_cons_zero, List.getElem?_cons_succ, List.set_cons_zero, List.set_cons_succ,
  if_true, if_false, Bool.false_eq_true, and_assoc, V.ty.injEq, isbI, isbS, kb1, kb2, kb3, kb4, kb5, kb6, kb7, kb8, kb9, reduceCtorEq, decide_false, decide_true, decide_eq_true_eq, Bool.not_eq_true', decide_eq_false_iff_not, Bool.not_true, Bool.not_false, ite_not, at0, at1, at2, at3, at4, ix0, ix1, fl_int, fl_str, fl_bl, fl_non, al_nil, al_cons, lenNil, len1, len2, len3, len4, sc_ii, sc_ss, sc_ns, sc_sn, sc_nn, sc_in, sc_si, sc_is, sc_bb, st_go])
local macro_rules | `(tactic| walk_at "wf") => `(tactic| simp only [*,
  exists_eq_left, exists_eq_left', exists_and_left, V.int.injEq, V.ref.injEq, V.str.injEq, V.bl.injEq, consV, Option.some.injEq, HO.lst.injEq, HO.tup.injEq, HO.ins.injEq, and_true, true_and, List.getElem?_cons_zero, List.getElem?_cons_succ, List.set_cons_zero, List.set_cons_succ,
  if_true, if_false, Bool.false_eq_true, and_assoc, V.ty.injEq, isbI, isbS, kb1, kb2, kb3, kb4, kb5, kb6, kb7, kb8, kb9, reduceCtorEq, decide_false, decide_true, decide_eq_true_eq, Bool.not_eq_true', decide_eq_false_iff_not, Bool.not_true, Bool.not_false, ite_not, at0, at1, at2, at3, at4, ix0, ix1, fl_int, fl_str, fl_bl, fl_non, al_nil, al_cons, lenNil, len1, len2, len3, len4, sc_ii, sc_ss, sc_ns, sc_sn, sc_nn, sc_in, sc_si, sc_is, sc_bb, st_go])
local macro_rules | `(tactic| walk_at "len") => `(tactic| (refine le_line ?_; simp only [List.length_cons, List.length_nil, List.length_append, List.length_map, List.map_nil, List.map_cons] <;> omega))
/-- a new list that stands for ds -/
def NwR (ds : List D) (H : Hp) (Q : VK) : Prop := ∀ (p : Addr) (H' : Hp) (ws : List V), H p = none → H' p = some (.lst ws) → Rps H' ws ds → Same H H' → Q (.ref p) H'
theorem jn_cons (t : Tok) (r : Ln) : jn ((t :: r).map (·.2)) = t.2.cps.toList ++ (if r = [] then [] else 32 :: jn (r.map (·.2))) := by
  cases r with
  | nil => simp [jn]
  | cons u r => simp [jn]
theorem drop_app {l a b : List Nat} {n : Nat} (h : l.drop n = a ++ b) : l.drop (n + a.length) = b := by
  rw [← List.drop_drop, h, List.drop_left]
def spTokens : Sp := fun vs H Q _ => ∃ (z : Str) (l : Ln), vs = [.str z] ∧ (∀ t ∈ l, TOk t) ∧ z.cps.toList = jn (l.map (·.2)) ∧ z.length ≤ 100000 ∧ l.length ≤ 1000 ∧ NwR (l.map tokD) H Q
theorem Rps.len {H : Hp} {ws : List V} {ds : List D} (r : Rps H ws ds) : ws.length = ds.length := r.1
def TkI (z : Str) (l : Ln) (p : Addr) (H : Hp) (m : Nat) (σ : L2.St) (H' : Hp) : Prop := ∃ (a : Nat) (d r : Ln) (v3 : Option V) (ws : List V), σ = [some (.str z), some (.ref p), some (.int a), v3] ∧ l = d ++ r ∧ Same H H' ∧ H' p = some (.lst ws) ∧ Rps H' ws (d.map tokD) ∧
  (z.cps.toList.drop a = jn (r.map (·.2)) ∨ (r ≠ [] ∧ z.cps.toList.drop a = 32 :: jn (r.map (·.2)))) ∧ m + a = z.cps.toList.length
theorem ok_tokens (F : Df K mg "tokens" s_tokens ["line"]) (T : Tx w K mg Ax) (G_token : Cl P w K mg base L2.CX0 2 "_token" spToken) : Cl P w K mg base L2.CX0 3 "tokens" spTokens := by
  refine F.cl sc_tokens (fun vs H Q E h => ?_) (fun f cdv A outer s H vs Q E hr h => ?_)
  · obtain ⟨_, _, rfl, _⟩ := h
    rfl
  · obtain ⟨z, l, rfl, hok, hz, hzl, hll, q⟩ := h
    refine ⟨_, (pss_cons (ps_set (i := 1) sc_tokens.nd rfl (Or.inl rfl) (px_lst pa_nil))
  (pss_cons (ps_set (i := 2) sc_tokens.nd rfl (Or.inl rfl) pe_int)
  (pss_cons (ps_while PassesOwn.never (pt_cmpR op_lt (pv 2) (pe_callB len_s (by rfl) T.b_len PySem.boot_len (pa_cons (pv 0) pa_nil)) (nomark _))
    (pss_one (ps_if (pt_cmpR op_eq (pe_ix ix_s (pv 0) (pv 2) (fun _ _ => rfl)) pe_str (nomark _)) (pss_one (ps_aug (i := 2) sc_tokens.nd rfl (Or.inl rfl) pe_int ip_add)) (pss_cons (ps_set (i := 3) sc_tokens.nd rfl (Or.inl rfl) (px_c G_token hr (by omega) (by rfl) (pa_cons (pv 0) (pa_cons (pv 2) pa_nil))))
  (pss_cons (ps_expr (px_app (pv 1) (pv 3)))
  (pss_one (ps_aug (i := 2) sc_tokens.nd rfl (Or.inl rfl) (pe_callB len_s (by rfl) T.b_len PySem.boot_len (pa_cons (pe_ix ix_t (pv 3) pe_int (fun _ _ => rfl)) pa_nil)) ip_add)))))))
  (pss_one (ps_ret (pv 1)))))), ?_⟩
    rw [show L2.start N_tokens [V.str z] = [some (.str z), none, none, none] from rfl]
    walk_at "wp"
    intro p H1 n1
    have lz : z.length = z.cps.toList.length := TL.len_tl z
    have szl : z.length ≤ sizeLine := le_line (by omega)
    refine ⟨TkI z l p H, ⟨_, 0, [], l, none, [], rfl, rfl, n1.kp, n1.at_, .nil, .inl hz, rfl⟩, ?_⟩
    rintro m σ H2 ⟨a, d, r, v3, ws, rfl, hl, s2, hp, rp, ph, hm⟩
    walk_at "wp"
    refine ⟨szl, ite2 (fun c => ?_) (fun c => ?_)⟩
    · have hi : a < z.cps.toList.length := by
        rw [lz] at c
        omega
      have h0 : (z.cps.toList.drop a)[0]? = some z.cps.toList[a] := by rw [List.getElem?_drop, Nat.add_zero, List.getElem?_eq_getElem hi]
      refine ⟨fun σ' H' => ∃ m', m' < m ∧ TkI z l p H m' σ' H', fun _ _ h => h, szl, z.cps.toList[a], atI_nat (List.getElem?_eq_getElem hi), ?_⟩
      rcases ph with ph | ⟨hr0, ph⟩
      · cases r with
        | nil =>
          rw [ph] at h0
          cases h0
        | cons t r =>
          rw [jn_cons] at ph
          have ht : TOk t := hok t (by rw [hl]; exact List.mem_append_right _ (List.mem_cons_self ..))
          have hne : z.cps.toList[a] ≠ 32 := by
            intro e
            obtain ⟨x, y, hxy⟩ : ∃ x y, t.2.cps.toList = x :: y := by
              cases e : t.2.cps.toList with
              | nil => exact absurd e ht.ne
              | cons c r => exact ⟨c, r, rfl⟩
            rw [ph, hxy] at h0
            have e2 : x = z.cps.toList[a] := Option.some.inj h0
            exact ht.nosp (by rw [hxy, e2, e]; exact List.mem_cons_self ..)
          rw [if_neg (fun q => hne (one_inj.mp (q.trans (by decide +kernel : Str.ofString " " = ⟨#[32]⟩))))]
          refine ⟨z, a, t.1, t.2, rfl, ht, ⟨_, ph, ?_⟩, by omega, fun pt H3 n3 => ?_⟩
          · by_cases e : r = []
            · exact .inl (if_pos e)
            · exact .inr (by rw [if_neg e]; rfl)
          have hp3 := n3.kp _ _ hp
          have lw : ws.length = d.length := by rw [rp.len, List.length_map]
          refine ⟨⟨ws, hp3⟩, ws, hp3, lt_line (by have := congrArg List.length hl; rw [List.length_append] at this; omega), fun H4 g4 => ?_⟩
          have npt : pt ≠ p := fun e => by
            have h := n3.fr
            rw [e, hp] at h
            cases h
          have h4 := g4.kp pt _ npt n3.at_
          walk_at "wf"
          have lt2 : t.2.length = t.2.cps.toList.length := TL.len_tl t.2
          have hdl := congrArg List.length ph
          rw [List.length_drop, List.length_append] at hdl
          refine ⟨le_line (by omega), m - t.2.cps.toList.length, ?_, a + t.2.cps.toList.length, d ++ [t], r, some (.ref pt), ws ++ [.ref pt], ?_, by simp, ?_, g4.at_, ?_, ?_, by omega⟩
          · have := List.length_pos_iff.mpr ht.ne
            omega
          · rw [lt2]
            rfl
          · exact Chg.same g4 n1.fr (s2.trans n3.kp)
          · have tk : Tk H2 H4 := fun b vs e => g4.kp b _ (ne_of e hp (by intro z; cases z)) (n3.kp b _ e)
            rw [List.map_append]
            exact Rps.snoc (rp.tk tk) (Rp.m2 h4 (.str _) (.str _))
          · have hd := drop_app ph
            by_cases e : r = []
            · left
              rw [hd, if_pos e, e]
              rfl
            · right
              rw [hd, if_neg e]
              exact ⟨e, rfl⟩
      · have e : z.cps.toList[a] = 32 := by
          rw [ph] at h0
          exact (Option.some.inj h0).symm
        rw [e, if_pos (by decide +kernel)]
        refine ⟨m - 1, by omega, a + 1, d, r, v3, ws, ?_, hl, s2, hp, rp, .inl ?_, by omega⟩
        · rw [show ((a + 1 : Nat) : Int) = (a : Int) + 1 by omega]
        · exact drop_app (a := [32]) ph
    · have e0 : z.cps.toList.drop a = [] := List.drop_eq_nil_of_le (by rw [lz] at c; omega)
      have er : r = [] := by
        rw [e0] at ph
        rcases ph with ph | ⟨_, ph⟩
        · cases r with
          | nil => rfl
          | cons t r =>
            rw [jn_cons] at ph
            have ht : TOk t := hok t (by rw [hl]; exact List.mem_append_right _ (List.mem_cons_self ..))
            exact absurd (List.append_eq_nil_iff.mp ph.symm).1 ht.ne
        · cases ph
      subst er
      rw [List.append_nil] at hl
      subst hl
      exact q p H2 ws n1.fr hp rp s2
end
end K10
set_option linter.all false
set_option maxRecDepth 100000
set_option maxHeartbeats 4000000
namespace K10
open PySem PySem.Spec PyProof.Rows L2
/-! ### token lists as data -/
structure LOk (l : Ln) : Prop where
  tk : ∀ t ∈ l, TOk t
  sz : l.length ≤ 100
def Pt (H : Hp) (p : Addr) (l : Ln) : Prop := ∃ ws, H p = some (.lst ws) ∧ Rps H ws (l.map tokD)
theorem Pt.same {H H' : Hp} {p : Addr} {l : Ln} (h : Pt H p l) (s : Same H H') : Pt H' p l := by
  obtain ⟨ws, a, b⟩ := h
  exact ⟨ws, s _ _ a, b.tk (.of s)⟩
def tkP (t : Tok) : PyData := .tuple [.str t.1, .str t.2]
def lnP (l : Ln) : PyData := .list (l.map tkP)
theorem eqv_ln : ∀ l m : Ln, PyData.eqvAll (l.map tkP) (m.map tkP) = decide (l = m)
  | [], [] => by simp [PyData.eqvAll]
  | [], _ :: _ => by simp [PyData.eqvAll]
  | _ :: _, [] => by simp [PyData.eqvAll]
  | (a, b) :: l, (c, d) :: m => by
    have ih := eqv_ln l m
    simp only [List.map_cons, PyData.eqvAll, tkP, PyData.eqv, Bool.and_true] at ih ⊢
    rw [ih, str_beq, str_beq]
    by_cases h1 : a = c <;> by_cases h2 : b = d <;> by_cases h3 : l = m <;> simp [h1, h2, h3]
theorem Wk.kind {k w : Str} (h : Wk k w) : PyData.strOk k = true := by
  cases h <;> decide +kernel
theorem strOk_of {w : Str} (h : ∀ c ∈ w.cps.toList, c < 128) : PyData.strOk w = true := by
  unfold PyData.strOk
  rw [← Array.all_toList, List.all_eq_true]
  intro c hc
  exact decide_eq_true (by have := h c hc; omega)
theorem Wk.text {k w : Str} (h : Wk k w) : PyData.strOk w = true := by
  cases h with
  | num h =>
    have all : ∀ z ∈ nums, PyData.strOk z = true := by decide +kernel
    exact all w h
  | badn h hd hl =>
    refine strOk_of fun c hc => ?_
    have q := List.all_eq_true.mp hd c hc
    simp only [digC, Bool.and_eq_true, decide_eq_true_eq] at q
    omega
  | word h hc hr hl =>
    refine strOk_of fun c hc2 => ?_
    rw [h] at hc2
    rcases List.mem_cons.mp hc2 with rfl | q
    · simp only [lowC, Bool.and_eq_true, decide_eq_true_eq] at hc
      omega
    · have q := List.all_eq_true.mp hr c q
      simp only [anC, lowC, digC, Bool.or_eq_true, Bool.and_eq_true, decide_eq_true_eq] at q
      omega
  | sign h hc =>
    subst h
    have all : ∀ c ∈ sgnS.cps.toList, c < 128 := by decide +kernel
    refine strOk_of fun c hc2 => ?_
    rw [List.mem_singleton.mp hc2]
    exact all _ hc
  | bads h _ _ _ _ h5 =>
    subst h
    refine strOk_of fun c hc2 => ?_
    rw [List.mem_singleton.mp hc2]
    exact h5
theorem lay_ln : ∀ {l : Ln}, (∀ t ∈ l, TOk t) → PyData.canLayAll0 (l.map tkP) = true ∧ PyData.depthAll (l.map tkP) ≤ 3
  | [], _ => ⟨rfl, by decide⟩
  | t :: l, h1 => by
    obtain ⟨a, b⟩ := lay_ln (l := l) (fun u hu => h1 u (List.mem_cons_of_mem _ hu))
    have s1 : PyData.strOk t.1 = true := (h1 t (List.mem_cons_self ..)).kind
    have s2 : PyData.strOk t.2 = true := (h1 t (List.mem_cons_self ..)).text
    constructor
    · simp only [List.map_cons, PyData.canLayAll0, tkP, PyData.canLay0, s1, s2, a, Bool.and_true]
    · simp only [List.map_cons, PyData.depthAll, tkP, PyData.depth]
      omega
theorem shaped_ln {l : Ln} (h : LOk l) : SeqAt.shaped (lnP l) = true := by
  obtain ⟨a, b⟩ := lay_ln h.tk
  unfold SeqAt.shaped lnP
  rw [PyData.canLay0, a, Bool.true_and, decide_eq_true_eq, PyData.depth]
  omega
theorem dpAll_of {K : PySem.W.Frag} {H : Hp} : ∀ {l : Ln} {ws : List V}, Rps H ws (l.map tokD) → DpAll K H ws (l.map tkP)
  | [], ws, r => by
    rw [Rps.inv_nil r]
    exact .nil
  | t :: l, ws, r => by
    obtain ⟨v, ws, rfl, r1, r2⟩ := Rps.inv_cons r
    obtain ⟨p, x, y, rfl, hp, e1, e2⟩ := Rp.t2 r1
    cases e1.str_inv
    cases e2.str_inv
    exact .cons (.tup (SqT.of hp) (.cons (.str _) (.cons (.str _) .nil))) (dpAll_of r2)
theorem Pt.dp {K : PySem.W.Frag} {H : Hp} {p : Addr} {l : Ln} (h : Pt H p l) : Dp K H (.ref p) (lnP l) := by
  obtain ⟨ws, a, b⟩ := h
  exact .lst (SqL.of a) (dpAll_of b)
theorem eq_ln {K : PySem.W.Frag} {H : Hp} {p q : Addr} {l m : Ln} {Q : VK} (h1 : Pt H p l) (h2 : Pt H q m) (l1 : LOk l) (l2 : LOk m) (k : Q (.bl (decide (l = m))) H) : rEqD K (.ref p) (.ref q) H Q :=
  ⟨_, _, h1.dp, h2.dp, shaped_ln l1, shaped_ln l2, by
    rw [show PyData.eqv (lnP l) (lnP m) = decide (l = m) by rw [← eqv_ln]; rw [lnP, lnP, PyData.eqv]]
    exact k⟩
theorem ne_ln {K : PySem.W.Frag} {H : Hp} {p q : Addr} {l m : Ln} {Q : VK} (h1 : Pt H p l) (h2 : Pt H q m) (l1 : LOk l) (l2 : LOk m) (k : Q (.bl (!decide (l = m))) H) : rNeD K (.ref p) (.ref q) H Q :=
  ⟨_, _, h1.dp, h2.dp, shaped_ln l1, shaped_ln l2, by
    rw [show PyData.eqv (lnP l) (lnP m) = decide (l = m) by rw [← eqv_ln]; rw [lnP, lnP, PyData.eqv]]
    exact k⟩
end K10
set_option linter.all false
set_option maxRecDepth 100000
set_option maxHeartbeats 4000000
namespace K10
open PySem PySem.Spec PyProof.Rows L2
section
variable {P : Program} {w : World} {K : PySem.W.Frag} {mg : Str → Option Value} {base : Heap} {Ax : Ad}
local macro_rules | `(tactic| walk_at "wp") => `(tactic| simp only [tVar, tC, tOp, rI0, rI, rU, tUn, rEq, rNe, tTest, tB, tAnd, tOr, tNot, tAndV, tOrV, tNotV, tIf, tSeq, tNext, tAsg, gName, gSub, tDrop, tRet, tRetN, tIfS, tBreak, tCont, tAug, ipI, tCB, tCons, tNil,
  xTup, xLst, xIxL, xIxT, xIxS, xIxK, xLenL, xLenT, xLenS, xLenK, xSlL, xSlT, xSlS, xInL, xInT, xInK, xCat, xRep, xCatT, xTupL, xSetL, xIntS, xIntI, xIntB, xApp, xJoin, xSplit, xFld, xSetF, xAugF, tSl, tPart, tNoPart, xCall, xMeth, xMeth0, xMake, xRaise, xgT, xgL, gCons, gNil, xInD, xIxD, C8.tCut, xIsi, for_r1, for_r2, for_l, for_t, for_e, lc_xl, lc_xt, lc_xr, tM0, S,
  exists_eq_left, exists_eq_left', exists_and_left, V.int.injEq, V.ref.injEq, V.str.injEq, V.bl.injEq, consV, Option.some.injEq, HO.lst.injEq, HO.tup.injEq, HO.ins.injEq, and_true, true_and, List.getElem?_cons_zero, List.getElem?_cons_succ, List.set_cons_zero, List.set_cons_succ,
  if_true, if_false, Bool.false_eq_true, and_assoc, V.ty.injEq, isbI, isbS, kb1, kb2, kb3, kb4, kb5, kb6, kb7, kb8, kb9, reduceCtorEq, decide_false, decide_true, decide_eq_true_eq, Bool.not_eq_true', decide_eq_false_iff_not, Bool.not_true, Bool.not_false, ite_not, at0, at1, at2, at3, at4, ix0, ix1, fl_int, fl_str, fl_bl, fl_non, al_nil, al_cons, lenNil, len1, len2, len3, len4, sc_ii, sc_ss, sc_ns, sc_sn, sc_nn, sc_in, sc_si, sc_is, sc_bb, st_go])
local macro_rules | `(tactic| walk_at "wf") => `(tactic| simp only [*,
  exists_eq_left, exists_eq_left', exists_and_left, V.int.injEq, V.ref.injEq, V.str.injEq, V.bl.injEq, consV, Option.some.injEq, HO.lst.injEq, HO.tup.injEq, HO.ins.injEq, and_true, true_and, List.getElem?_cons_zero, List.getElem?_cons_succ, List.set_cons_zero, List.set_cons_succ,
  if_true, if_false, Bool.false_eq_true, and_assoc, V.ty.injEq, isbI, isbS, kb1, kb2, kb3, kb4, kb5, kb6, kb7, kb8, kb9, reduceCtorEq, decide_false, decide_true, decide_eq_true_eq, Bool.not_eq_true', decide_eq_false_iff_not, Bool.not_true, Bool.not_false, ite_not, at0, at1, at2, at3, at4, ix0, ix1, fl_int, fl_str, fl_bl, fl_non, al_nil, al_cons, lenNil, len1, len2, len3, len4, sc_ii, sc_ss, sc_ns, sc_sn, sc_nn, sc_in, sc_si, sc_is, sc_bb, st_go])
local macro_rules | `(tactic| walk_at "len") => `(tactic| (refine le_line ?_; simp only [List.length_cons, List.length_nil, List.length_append, List.length_map, List.map_nil, List.map_cons] <;> omega))
/-! ### is_name -/
def spIsName : Sp := fun vs H Q _ => ∃ s : Str, vs = [.str s] ∧ Wk "word" s ∧ ∀ H', Same H H' → Q (.bl (isNm s)) H'
theorem word_len {s : Str} (h : Wk "word" s) : s.length ≤ 8 ∧ 32 ∉ s.cps.toList := by
  refine ⟨?_, h.nosp⟩
  rw [TL.len_tl]
  generalize hk : ("word" : Str) = k at h
  cases h with
  | word h hc hr hl => exact hl
  | num h => exact absurd hk (by decide +kernel)
  | badn h hd hl => exact absurd hk (by decide +kernel)
  | sign h hc => exact absurd hk (by decide +kernel)
  | bads h _ _ _ _ _ => exact absurd hk (by decide +kernel)
theorem lok1 {t : Tok} (h : TOk t) : LOk [t] := ⟨fun u hu => by rw [List.mem_singleton.mp hu]; exact h, by simp⟩
theorem ok_is_name (F : Df K mg "is_name" s_is_name ["text"]) (T : Tx w K mg Ax) (G_tokens : Cl P w K mg base L2.CX0 3 "tokens" spTokens) : Cl P w K mg base L2.CX0 4 "is_name" spIsName := by
  refine F.cl sc_is_name (fun vs H Q E h => ?_) (fun f cdv A outer s H vs Q E hr h => ?_)
  · obtain ⟨_, rfl, _⟩ := h
    rfl
  · obtain ⟨z, rfl, hz, q⟩ := h
    refine ⟨_, (pss_cons (ps_if (PW.pt (pw_or (pt_cmpR in_k (pv 0) (pe_glob (v := .ref _) rfl T.g_RESERVED rfl) rfl) (pw_or (pt_cmpR in_k (pv 0) (pe_glob (v := .ref _) rfl T.g_REGISTERS rfl) rfl) (pw_or1 (pt_cmpR op_in_sign pe_str (pv 0) rfl))))) (pss_one (ps_ret pe_bl)) pss_nil)
  (pss_one (ps_ret (pe_cmpR (op_eqD (hu64 hr)) (px_c G_tokens hr (by omega) (by rfl) (pa_cons (pv 0) pa_nil)) (px_lst (pa_cons (px_tup (pa_cons pe_str (pa_cons (pv 0) pa_nil))) pa_nil)) (nomark _))))), ?_⟩
    rw [show L2.start N_is_name [V.str z] = [some (.str z)] from rfl]
    obtain ⟨hl, hsp⟩ := word_len hz
    walk_at "wp"
    have e1 : resV = resS.map V.str := rfl
    have e2 : regV = regS.map V.str := rfl
    have s0 := q H (Same.refl _)
    refine ⟨resS.map V.str, T.res H, all_str _, ?_⟩
    rw [inV_str]
    simp only [decide_eq_true_eq]
    refine ite2 (fun c => ?_) (fun c1 => ⟨regS.map V.str, T.reg H, all_str _, ?_⟩)
    · rw [show isNm z = false by simp [isNm, c]] at s0
      exact s0
    rw [inV_str]
    simp only [decide_eq_true_eq]
    refine ite2 (fun c => ?_) (fun c2 => ⟨32, by decide +kernel, ?_⟩)
    · rw [show isNm z = false by simp [isNm, c]] at s0
      exact s0
    rw [if_neg hsp]
    have hw : TOk ("word", z) := hz
    refine ⟨z, [("word", z)], rfl, (lok1 hw).tk, by simp [jn], by omega, by simp, fun p H1 ws hp h1 r1 s1 p2 H2 n2 p3 H3 n3 => ?_⟩
    have pt1 : Pt H3 p [("word", z)] := ((show Pt H1 p [("word", z)] from ⟨ws, h1, r1⟩).same n2.kp).same n3.kp
    have pt3 : Pt H3 p3 [("word", z)] := ⟨_, n3.at_, .cons (Rp.m2 (n3.kp _ _ n2.at_) (.str _) (.str _)) .nil⟩
    refine eq_ln pt1 pt3 (lok1 hw) (lok1 hw) ?_
    have h := q H3 ((s1.trans n2.kp).trans n3.kp)
    rw [show isNm z = true by simp [isNm, c1, c2]] at h
    simpa using h
/-! ### _fits -/
theorem for_z {ta : TA} {g : TG} {tb : TS} {D : Ends} {σ : L2.St} {H : Hp} : tFor (xiZ K ta) g tb D σ H = ta σ H fun vs H1 => ∃ a b, vs = [.ref a, .ref b] ∧ (∃ xs, H1 a = some (.lst xs)) ∧ (∃ ys, H1 b = some (.tup ys)) ∧ Lp (ItzM K a b) g tb D σ H1 := rfl
theorem lp_z {a b : Addr} {xs ys : List V} {g : TG} {tb : TS} {D : Ends} {σ : L2.St} {H : Hp} (hl : xs.length = ys.length) (Pv : Nat → L2.St → Hp → Prop) (h0 : Pv 0 σ H) (hq : ∀ i σ H, Pv i σ H → H a = some (.lst xs) ∧ H b = some (.tup ys))
    (hs : ∀ (i : Nat) (x y : V) (p : Addr) (σ : L2.St) (H H1 : Hp), xs[i]? = some x → ys[i]? = some y → Pv i σ H → New p (.tup [x, y]) H H1 → g (.ref p) σ H1 fun σ2 H2 => tb { D with nx := Pv (i + 1), ct := Pv (i + 1), bk := D.nx } σ2 H2) (hd : ∀ σ H, Pv xs.length σ H → D.nx σ H) : Lp (ItzM K a b) g tb D σ H := zip_any hl Pv h0 hq hs hd
theorem all_fail {α : Type} {p : α → Bool} {l : List α} {i : Nat} {x : α} (h : l[i]? = some x) (hp : p x = false) : l.all p = false := by
  rw [List.all_eq_false]
  exact ⟨x, List.mem_of_getElem? h, by rw [hp]; exact Bool.false_ne_true⟩
def spFits : Sp := fun vs H Q _ => ∃ (p q : Addr) (l : Ln) (f : List Str), vs = [.ref p, .ref q] ∧ Pt H p l ∧ H q = some (.tup (f.map V.str)) ∧ l.length ≤ 100 ∧ (∀ x ∈ f, x.length ≤ 100) ∧ ∀ H', Same H H' → Q (.bl (fitsT l f)) H'
theorem ok_fits (F : Df K mg "_fits" s_fits ["parts", "form"]) (T : Tx w K mg Ax) : Cl P w K mg base L2.CX0 1 "_fits" spFits := by
  refine F.cl sc_fits (fun vs H Q E h => ?_) (fun f cdv A outer s H vs Q E hr h => ?_)
  · obtain ⟨_, _, _, _, rfl, _⟩ := h
    rfl
  · obtain ⟨p, q, l, f, rfl, ⟨ws, hp, rp⟩, hq, hl, hf, k⟩ := h
    refine ⟨_, (pss_cons (ps_if (pt_cmpR op_ne (pe_callB len_l (by rfl) T.b_len PySem.boot_len (pa_cons (pv 0) pa_nil)) (pe_callB len_t (by rfl) T.b_len PySem.boot_len (pa_cons (pv 1) pa_nil)) (nomark _)) (pss_one (ps_ret pe_bl)) pss_nil)
  (pss_cons (ps_for PassesOwn.never rfl (pi_zipLT (by rfl) T.b_zip (pa_cons (pv 0) (pa_cons (pv 1) pa_nil))) (pg_t rfl (pgs_cons (pg_name (i := 2) sc_fits.nd rfl (Or.inl rfl)) (pgs_cons (pg_name (i := 3) sc_fits.nd rfl (Or.inl rfl)) pgs_nil)))
    (pss_one (ps_if (pt_cmpR in_t (pv 3) (px_tup (pa_cons pe_str (pa_cons pe_str pa_nil))) rfl) (pss_one (ps_if (pt_cmpR op_ne (pe_ix ix_t (pv 2) pe_int (fun _ _ => rfl)) (pe_lower (pv 3)) (nomark _)) (pss_one (ps_ret pe_bl)) pss_nil)) (pss_one (ps_if (pt_cmpR op_eq (pv 3) pe_str (nomark _)) (pss_one (ps_if (PW.pt (pw_or (pt_cmpR op_ne (pe_ix ix_t (pv 2) pe_int (fun _ _ => rfl)) pe_str (nomark _)) (pw_or1 (pt_cmpR ni_k (pe_ix ix_t (pv 2) pe_int (fun _ _ => rfl)) (pe_glob (v := .ref _) rfl T.g_REGISTERS rfl) rfl)))) (pss_one (ps_ret pe_bl)) pss_nil)) (pss_one (ps_if (pt_cmpR op_ne (pe_ix ix_t (pv 2) pe_int (fun _ _ => rfl)) (pv 3) (nomark _)) (pss_one (ps_ret pe_bl)) pss_nil)))))))
  (pss_one (ps_ret pe_bl)))), ?_⟩
    rw [show L2.start N_fits [V.ref p, V.ref q] = [some (.ref p), some (.ref q), none, none] from rfl]
    walk_at "wp"
    simp only [hp, hq, Option.some.injEq, HO.lst.injEq, HO.tup.injEq, exists_eq_left']
    have lw : ws.length = l.length := by rw [rp.len, List.length_map]
    have lf : (f.map V.str).length = f.length := List.length_map ..
    refine ite2 (fun c => ?_) (fun c => ?_)
    · have hlen : l.length = f.length := by omega
      rw [for_z]
      walk_at "wp"
      refine ⟨⟨ws, hp⟩, ⟨_, hq⟩, lp_z (xs := ws) (ys := f.map V.str) (by omega) (fun i σ H' => (∃ v2 v3, σ = [some (.ref p), some (.ref q), v2, v3]) ∧ Same H H' ∧ ∀ j t w, j < i → l[j]? = some t → f[j]? = some w → fitT t w = true) ⟨⟨_, _, rfl⟩, Same.refl _, fun j t w h => absurd h (Nat.not_lt_zero j)⟩
        (fun i σ H' h => ⟨h.2.1 _ _ hp, h.2.1 _ _ hq⟩) ?_ ?_⟩
      · rintro i x y tp σ H1 H2 hx hy ⟨⟨v2, v3, rfl⟩, s1, hall⟩ nT
        rw [List.getElem?_map] at hy
        obtain ⟨w, hw, rfl⟩ := Option.map_eq_some_iff.mp hy
        obtain ⟨d, hd, rd⟩ := rp.at_ hx
        rw [List.getElem?_map] at hd
        obtain ⟨t, ht, rfl⟩ := Option.map_eq_some_iff.mp hd
        have s2 := s1.trans nT.kp
        obtain ⟨a, x1, x2, rfl, ha, r1, r2⟩ := Rp.t2 (rd.tk (.of s2))
        cases r1.str_inv
        cases r2.str_inv
        have hT := nT.at_
        have hzip : (l.zip f)[i]? = some (t, w) := by rw [List.getElem?_zip_eq_some]; exact ⟨ht, hw⟩
        have no : ∀ {H3}, Same H2 H3 → fitT t w = false → Q (.bl false) H3 := fun {H3} s3 h => by
          have e : fitsT l f = false := by
            unfold fitsT
            rw [all_fail hzip h, Bool.and_false]
          have h2 := k H3 (s2.trans s3)
          rw [e] at h2
          exact h2
        have yes : fitT t w = true → ∀ j t' w', j < i + 1 → l[j]? = some t' → f[j]? = some w' → fitT t' w' = true := fun h j t' w' hj h1 h2 => by
          by_cases e : j = i
          · subst e
            rw [ht] at h1
            rw [hw] at h2
            cases h1
            cases h2
            exact h
          · exact hall j t' w' (by omega) h1 h2
        have hwl : w.length ≤ 100 := hf w (List.mem_of_getElem? hw)
        walk_at "wp"
        refine ⟨_, hT, rfl, _, _, rfl, _, _, rfl, rfl, fun p1 H3 n3 => ⟨p1, rfl, _, n3.at_, rfl, rfl, ?_⟩⟩
        have s3 := n3.kp
        have ha3 := s3 _ _ ha
        have nx : ∀ {v2 v3 : Option V}, fitT t w = true → (∃ v2' v3', [some (V.ref p), some (V.ref q), v2, v3] = [some (V.ref p), some (V.ref q), v2', v3']) ∧ Same H H3 ∧ ∀ j t' w', j < i + 1 → l[j]? = some t' → f[j]? = some w' → fitT t' w' = true := fun {v2 v3} h =>
          ⟨⟨v2, v3, rfl⟩, s2.trans s3, yes h⟩
        rw [show inV (V.str w) [V.str (Str.ofString "WORD"), V.str (Str.ofString "NUMBER")] = decide (w ∈ ([Str.ofString "WORD", Str.ofString "NUMBER"] : List Str)) from inV_str w [Str.ofString "WORD", Str.ofString "NUMBER"]]
        have fin : ∀ {k : Str} {v2 v3 : Option V}, (fitT t w = decide (t.1 = k)) → (if V.str t.1 = V.str k then (∃ v2' v3', [some (V.ref p), some (V.ref q), v2, v3] = [some (V.ref p), some (V.ref q), v2', v3']) ∧ Same H H3 ∧ ∀ j t' w', j < i + 1 → l[j]? = some t' → f[j]? = some w' → fitT t' w' = true else Q (.bl false) H3) := fun {k v2 v3} h =>
          ite2 (fun c => nx (by rw [h]; exact decide_eq_true (V.str.inj c))) (fun c => no s3 (by rw [h]; exact decide_eq_false fun z => c (by rw [z])))
        by_cases w1 : w = "WORD"
        · subst w1
          rw [if_pos (by decide +kernel)]
          refine ⟨_, rfl, _, ha3, _, at0, ⟨_, rfl⟩, _, rfl, by decide +kernel, rfl, fin ?_⟩
          rw [show Txt.lower (Str.ofString "WORD") = Str.ofString "word" by decide +kernel]
          unfold fitT
          rw [if_pos rfl]
        by_cases w2 : w = "NUMBER"
        · subst w2
          rw [if_pos (by decide +kernel)]
          refine ⟨_, rfl, _, ha3, _, at0, ⟨_, rfl⟩, _, rfl, by decide +kernel, rfl, fin ?_⟩
          rw [show Txt.lower (Str.ofString "NUMBER") = Str.ofString "number" by decide +kernel]
          unfold fitT
          rw [if_neg w1, if_pos rfl]
        rw [if_neg (by simp only [List.mem_cons, List.not_mem_nil, or_false, decide_eq_true_eq]; exact fun z => z.elim w1 w2)]
        refine ⟨rfl, ?_⟩
        by_cases w3 : w = "REGISTER"
        · subst w3
          have e : fitT t "REGISTER" = (decide (t.1 = "word") && decide (t.2 ∈ regS)) := by
            unfold fitT
            rw [if_neg w1, if_neg w2, if_pos rfl]
          rw [if_pos rfl]
          refine ⟨_, rfl, _, ha3, _, at0, rfl, ite2 (fun c1 => ?_) (fun c1 => no s3 ?_)⟩
          · have c1' := V.str.inj c1
            refine ⟨_, rfl, _, ha3, _, at1, regS.map V.str, T.reg H3, rfl, all_str _, ?_⟩
            rw [inV_str]
            by_cases c2 : t.2 ∈ regS
            · have h := nx (v2 := some (V.ref a)) (v3 := some (V.str "REGISTER")) (by rw [e, decide_eq_true c1', decide_eq_true c2]; rfl)
              simpa [c2] using h
            · have h := no s3 (by rw [e, decide_eq_false c2, Bool.and_false])
              simpa [c2] using h
          · rw [e, decide_eq_false (fun z => c1 (by rw [z])), Bool.false_and]
        · rw [if_neg (fun z => w3 (V.str.inj z))]
          refine ⟨_, rfl, _, ha3, _, at1, rfl, ?_⟩
          have e : fitT t w = decide (t.2 = w) := by
            unfold fitT
            rw [if_neg w1, if_neg w2, if_neg w3]
          refine ite2 (fun c => nx ?_) (fun c => no s3 ?_)
          · rw [e]
            exact decide_eq_true (V.str.inj c)
          · rw [e]
            exact decide_eq_false fun z => c (by rw [z])
      · rintro σ H1 ⟨⟨v2, v3, rfl⟩, s1, hall⟩
        walk_at "wp"
        have e : fitsT l f = true := by
          unfold fitsT
          rw [hlen, decide_eq_true rfl, Bool.true_and, List.all_eq_true]
          rintro ⟨t, w⟩ hm
          obtain ⟨j, hj⟩ := List.mem_iff_getElem?.mp hm
          rw [List.getElem?_zip_eq_some] at hj
          have hjl : j < l.length := (List.getElem?_eq_some_iff.mp hj.1).1
          exact hall j t w (by omega) hj.1 hj.2
        have h2 := k H1 s1
        rw [e] at h2
        exact h2
    · have e : fitsT l f = false := by
        unfold fitsT
        rw [decide_eq_false (by omega), Bool.false_and]
      have h2 := k H (Same.refl _)
      rw [e] at h2
      exact h2
end
end K10
set_option linter.all false
set_option maxRecDepth 100000
set_option maxHeartbeats 4000000
namespace K10
open PySem PySem.Spec PyProof.Rows L2
section
variable {P : Program} {w : World} {K : PySem.W.Frag} {mg : Str → Option Value} {base : Heap} {Ax : Ad}
local macro_rules | `(tactic| walk_at "wp") => `(tactic| simp only [tVar, tC, tOp, rI0, rI, rU, tUn, rEq, rNe, tTest, tB, tAnd, tOr, tNot, tAndV, tOrV, tNotV, tIf, tSeq, tNext, tAsg, gName, gSub, tDrop, tRet, tRetN, tIfS, tBreak, tCont, tAug, ipI, tCB, tCons, tNil,
  xTup, xLst, xIxL, xIxT, xIxS, xIxK, xLenL, xLenT, xLenS, xLenK, xSlL, xSlT, xSlS, xInL, xInT, xInK, xCat, xRep, xCatT, xTupL, xSetL, xIntS, xIntI, xIntB, xApp, xJoin, xSplit, xFld, xSetF, xAugF, tSl, tPart, tNoPart, xCall, xMeth, xMeth0, xMake, xRaise, xgT, xgL, gCons, gNil, xInD, xIxD, C8.tCut, xIsi, for_r1, for_r2, for_l, for_t, for_e, lc_xl, lc_xt, lc_xr, tM0, S,
  exists_eq_left, exists_eq_left', exists_and_left, V.int.injEq, V.ref.injEq, V.str.injEq, V.bl.injEq, consV, Option.some.injEq, HO.lst.injEq, HO.tup.injEq, HO.ins.injEq, and_true, true_and, List.getElem?_cons_zero, List.getElem?_cons_succ, List.set_cons_zero, List.set_cons_succ,
  if_true, if_false, Bool.false_eq_true, and_assoc, V.ty.injEq, isbI, isbS, kb1, kb2, kb3, kb4, kb5, kb6, kb7, kb8, kb9, reduceCtorEq, decide_false, decide_true, decide_eq_true_eq, Bool.not_eq_true', decide_eq_false_iff_not, Bool.not_true, Bool.not_false, ite_not, at0, at1, at2, at3, at4, ix0, ix1, fl_int, fl_str, fl_bl, fl_non, al_nil, al_cons, lenNil, len1, len2, len3, len4, sc_ii, sc_ss, sc_ns, sc_sn, sc_nn, sc_in, sc_si, sc_is, sc_bb, st_go])
local macro_rules | `(tactic| walk_at "wf") => `(tactic| simp only [*,
  exists_eq_left, exists_eq_left', exists_and_left, V.int.injEq, V.ref.injEq, V.str.injEq, V.bl.injEq, consV, Option.some.injEq, HO.lst.injEq, HO.tup.injEq, HO.ins.injEq, and_true, true_and, List.getElem?_cons_zero, List.getElem?_cons_succ, List.set_cons_zero, List.set_cons_succ,
  if_true, if_false, Bool.false_eq_true, and_assoc, V.ty.injEq, isbI, isbS, kb1, kb2, kb3, kb4, kb5, kb6, kb7, kb8, kb9, reduceCtorEq, decide_false, decide_true, decide_eq_true_eq, Bool.not_eq_true', decide_eq_false_iff_not, Bool.not_true, Bool.not_false, ite_not, at0, at1, at2, at3, at4, ix0, ix1, fl_int, fl_str, fl_bl, fl_non, al_nil, al_cons, lenNil, len1, len2, len3, len4, sc_ii, sc_ss, sc_ns, sc_sn, sc_nn, sc_in, sc_si, sc_is, sc_bb, st_go])
local macro_rules | `(tactic| walk_at "len") => `(tactic| (refine le_line ?_; simp only [List.length_cons, List.length_nil, List.length_append, List.length_map, List.map_nil, List.map_cons] <;> omega))
theorem fits_at {l : Ln} {f : List Str} (h : fitsT l f = true) : l.length = f.length ∧ ∀ (i : Nat) (t : Tok) (w : Str), l[i]? = some t → f[i]? = some w → fitT t w = true := by
  unfold fitsT at h
  rw [Bool.and_eq_true, decide_eq_true_eq, List.all_eq_true] at h
  refine ⟨h.1, fun i t w h1 h2 => h.2 (t, w) (List.mem_of_getElem? (i := i) (by rw [List.getElem?_zip_eq_some]; exact ⟨h1, h2⟩))⟩
theorem tx_at {l : Ln} {i : Nat} {t : Tok} (h : l[i]? = some t) : tx l i = t.2 := by
  unfold tx
  rw [List.getD_eq_getElem?_getD, List.getElem?_map, h]
  rfl
theorem atx {l : Ln} {i : Nat} (h : i < l.length) : atI ((l.map (·.2)).map V.str) (i : Int) = some (.str (tx l i)) := by
  refine atI_nat ?_
  rw [List.getElem?_map, List.getElem?_map, List.getElem?_eq_getElem h, tx_at (List.getElem?_eq_getElem h)]
  rfl
theorem nums_int : ∀ w ∈ nums, ∃ n : Int, PySem.intText? w = some n ∧ w.length ≤ 640 := by
  have all : ∀ w ∈ nums, (PySem.intText? w).isSome = true ∧ w.length ≤ 640 := by decide +kernel
  intro w hw
  obtain ⟨h1, h2⟩ := all w hw
  obtain ⟨n, hn⟩ := Option.isSome_iff_exists.mp h1
  exact ⟨n, hn, h2⟩
theorem Wk.numb {w : Str} (h : Wk "number" w) : w ∈ nums := by
  generalize hk : ("number" : Str) = k at h
  cases h with
  | num h => exact h
  | word h hc hr hl => exact absurd hk (by decide +kernel)
  | badn h hd hl => exact absurd hk (by decide +kernel)
  | sign h hc => exact absurd hk (by decide +kernel)
  | bads h _ _ _ _ _ => exact absurd hk (by decide +kernel)
theorem num_at {l : Ln} {f : List Str} {i : Nat} (ok : ∀ t ∈ l, TOk t) (h : fitsT l f = true) (hi : f[i]? = some "NUMBER") : PySem.intText? (tx l i) = some (numI (tx l i)) ∧ (tx l i).length ≤ 640 := by
  obtain ⟨h1, h2⟩ := fits_at h
  have hl : i < l.length := by rw [h1]; exact (List.getElem?_eq_some_iff.mp hi).1
  have e := List.getElem?_eq_getElem hl
  have q := h2 i _ _ e hi
  have q1 : (l[i]).1 = "number" := by
    unfold fitT at q
    rw [if_neg (by decide +kernel), if_pos rfl] at q
    exact of_decide_eq_true q
  have wk : Wk "number" (l[i]).2 := by
    rw [← q1]
    exact ok _ (List.getElem_mem hl)
  obtain ⟨n, hn, hz⟩ := nums_int _ wk.numb
  rw [tx_at e]
  unfold numI
  rw [hn]
  exact ⟨rfl, hz⟩
theorem word_at {l : Ln} {f : List Str} {i : Nat} (ok : ∀ t ∈ l, TOk t) (h : fitsT l f = true) (hi : f[i]? = some "WORD") : Wk "word" (tx l i) := by
  obtain ⟨h1, h2⟩ := fits_at h
  have hl : i < l.length := by rw [h1]; exact (List.getElem?_eq_some_iff.mp hi).1
  have e := List.getElem?_eq_getElem hl
  have q := h2 i _ _ e hi
  have q1 : (l[i]).1 = "word" := by
    unfold fitT at q
    rw [if_pos rfl] at q
    exact of_decide_eq_true q
  rw [tx_at e, ← q1]
  exact ok _ (List.getElem_mem hl)
theorem fit_ {H : Hp} {p : Addr} {l : Ln} {f : List Str} {R : VK} {E : XK} (hp : Pt H p l) (hl : l.length ≤ 100) (hf : f.all (fun x => decide (x.length ≤ 100)) = true) (k : ∀ H', Same H H' → R (.bl (fitsT l f)) H') :
    nw (.tup (f.map V.str)) H fun v H1 => spFits [.ref p, v] H1 R E := fun q H1 n => ⟨p, q, l, f, rfl, hp.same n.kp, n.at_, hl, fun x hx => of_decide_eq_true (List.all_eq_true.mp hf x hx), fun H' s => k H' (n.kp.trans s)⟩
/-- [part[1] for part in parts] -/
theorem lc_texts {p : Addr} {l : Ln} {j : Nat} {vs : List Nat} {σ : L2.St} {H : Hp} {Q : VK} (hp : Pt H p l) (hl : l.length ≤ 100) (hw : ∀ x, wipe ((wipe σ vs).set j (some x)) vs = wipe σ vs) (hj : ∀ x, ((wipe σ vs).set j (some x))[j]? = some (some x))
    (k : ∀ D H', H D = none → Same H H' → H' D = some (.lst ((l.map (·.2)).map V.str)) → Q (.ref D) H') : (∃ xs, H p = some (.lst xs)) ∧ Lc (Itl K p) (gName j) (moT tYes) (mo (tOp xIxT (tVar j) (tC (V.int 1)))) vs σ H Q := by
  obtain ⟨ws, hp, rp⟩ := hp
  have lw : ws.length = l.length := by rw [rp.len, List.length_map]
  refine ⟨⟨_, hp⟩, lc_pure (ds := l) (fun _ => true) (fun t => V.str t.2) hp lw (by omega) hw (fun i x d H' hi hd s K1 K0 h1 h0 => ?_) (fun D H' n s h => k D H' n s ?_)⟩
  · obtain ⟨a, x1, x2, rfl, ha, r1, r2⟩ := Rp.t2 ((rp.2 i x _ hi (by rw [List.getElem?_map, hd]; rfl)).tk (.of s))
    cases r1.str_inv
    cases r2.str_inv
    simp only [tYes, if_true]
    exact ⟨_, hj _, _, _, rfl, rfl, _, ha, _, at1, h1 rfl H' (Same.refl _)⟩
  · rw [h, List.map_map, List.filter_eq_self.mpr (fun _ _ => rfl)]
    rfl
/-! ### _shared -/
def spShared : Sp := fun vs H Q _ => ∃ (p : Addr) (l : Ln), vs = [.ref p] ∧ Pt H p l ∧ LOk l ∧ (sharedT l = none → ∀ H', Same H H' → Q .non H') ∧ ∀ t, sharedT l = some t → ∀ v H', Same H H' → Rp H' v (thD t) → Q v H'
theorem ok_shared (F : Df K mg "_shared" s_shared ["parts"]) (T : Tx w K mg Ax) (G_fits : Cl P w K mg base L2.CX0 1 "_fits" spFits) : Cl P w K mg base L2.CX0 2 "_shared" spShared := by
  refine F.cl sc_shared (fun vs H Q E h => ?_) (fun f cdv A outer s H vs Q E hr h => ?_)
  · obtain ⟨_, _, rfl, _⟩ := h
    rfl
  · obtain ⟨p, l, rfl, hp, ok, k0, k1⟩ := h
    refine ⟨_, (pss_cons (ps_setLc (i := 1) (own := [("part", 2)]) (g := gName 2) rfl sc_shared.nd rfl rfl (sw_true rfl rfl rfl (by decide +kernel)) (pi_l (pv 0)) (blkOk_by (own := [("part", 2)]) (N := N_shared) (sc := defScope s_shared) (by decide +kernel)) (fun _ _ _ _ _ => pg_name (i := 2) sc_shared.nd rfl (Or.inl rfl)) (fun _ _ _ _ _ => pts_mo pts_nil) (fun _ _ _ _ _ => pe_mo (pe_ix ix_t (pv 2) pe_int (fun _ _ => rfl))))
  (pss_cons (ps_if (pt_val (px_c G_fits hr (by omega) (by rfl) (pa_cons (pv 0) (pa_cons (px_tup (pa_cons pe_str (pa_cons pe_str (pa_cons pe_str (pa_cons pe_str pa_nil))))) pa_nil)))) (pss_one (ps_ret (px_tup (pa_cons pe_str (pa_cons (pe_ix ix_l (pv 1) pe_int (fun _ _ => rfl)) (pa_cons (pe_callTy int_s (by rfl) T.b_int (by decide +kernel) (pa_cons (pe_ix ix_l (pv 1) pe_int (fun _ _ => rfl)) pa_nil)) pa_nil)))))) pss_nil)
  (pss_cons (ps_if (pt_val (px_c G_fits hr (by omega) (by rfl) (pa_cons (pv 0) (pa_cons (px_tup (pa_cons pe_str (pa_cons pe_str (pa_cons pe_str (pa_cons pe_str (pa_cons pe_str pa_nil)))))) pa_nil)))) (pss_one (ps_ret (px_tup (pa_cons pe_str (pa_cons (pe_ix ix_l (pv 1) pe_int (fun _ _ => rfl)) (pa_cons (pe_un un_neg (pe_callTy int_s (by rfl) T.b_int (by decide +kernel) (pa_cons (pe_ix ix_l (pv 1) pe_int (fun _ _ => rfl)) pa_nil))) pa_nil)))))) pss_nil)
  (pss_cons (ps_if (pt_val (px_c G_fits hr (by omega) (by rfl) (pa_cons (pv 0) (pa_cons (px_tup (pa_cons pe_str (pa_cons pe_str pa_nil))) pa_nil)))) (pss_one (ps_ret (px_tup (pa_cons pe_str (pa_cons (pe_ix ix_l (pv 1) pe_int (fun _ _ => rfl)) pa_nil))))) pss_nil)
  (pss_cons (ps_if (pt_val (px_c G_fits hr (by omega) (by rfl) (pa_cons (pv 0) (pa_cons (px_tup (pa_cons pe_str (pa_cons pe_str (pa_cons pe_str (pa_cons pe_str pa_nil))))) pa_nil)))) (pss_one (ps_ret (px_tup (pa_cons pe_str (pa_cons (pe_ix ix_l (pv 1) pe_int (fun _ _ => rfl)) (pa_cons (pe_ix ix_l (pv 1) pe_int (fun _ _ => rfl)) pa_nil)))))) pss_nil)
  (pss_cons (ps_if (pt_val (px_c G_fits hr (by omega) (by rfl) (pa_cons (pv 0) (pa_cons (px_tup (pa_cons pe_str (pa_cons pe_str (pa_cons pe_str pa_nil)))) pa_nil)))) (pss_one (ps_ret (px_tup (pa_cons pe_str (pa_cons (pe_ix ix_l (pv 1) pe_int (fun _ _ => rfl)) (pa_cons (pe_callTy int_s (by rfl) T.b_int (by decide +kernel) (pa_cons (pe_ix ix_l (pv 1) pe_int (fun _ _ => rfl)) pa_nil)) pa_nil)))))) pss_nil)
  (pss_one (ps_ret pe_non)))))))), ?_⟩
    rw [show L2.start N_shared [V.ref p] = [some (.ref p), none, none] from rfl]
    walk_at "wp"
    refine lc_texts hp (by have := ok.sz; omega) (fun x => rfl) (fun x => rfl) fun D H1 nD s1 hD => ?_
    have hl := ok.sz
    have hp1 := hp.same s1
    have fin : ∀ {H2 : Hp} {t : Th} {v : V}, sharedT l = some t → Same H1 H2 → Rp H2 v (thD t) → Q v H2 := fun h s2 r => k1 _ h _ _ (s1.trans s2) r
    refine fit_ (f := ["var", "WORD", "=", "NUMBER"]) hp1 hl (by decide +kernel) fun H2 s2 => ⟨_, rfl, ite2 (fun c1 => ?_) (fun c1 => ⟨by decide, ?_⟩)⟩
    · obtain ⟨q1, q2⟩ := num_at (i := 3) ok.tk c1 rfl
      have h4 : l.length = 4 := (fits_at c1).1
      refine ⟨D, rfl, _, s2 _ _ hD, _, atx (i := 1) (by omega), D, rfl, _, s2 _ _ hD, _, atx (i := 3) (by omega), _, rfl, _, q1, q2, fun p3 H3 n3 => fin (t := .var (tx l 1) (numI (tx l 3))) ?_ (s2.trans n3.kp) (Rp.m3 n3.at_ (.str _) (.str _) (.int _))⟩
      simp only [sharedT, c1, if_true]
    refine fit_ (f := ["var", "WORD", "=", "-", "NUMBER"]) (hp1.same s2) hl (by decide +kernel) fun H3 s3 => ⟨_, rfl, ite2 (fun c2 => ?_) (fun c2 => ?_)⟩
    · obtain ⟨q1, q2⟩ := num_at (i := 4) ok.tk c2 rfl
      have h4 : l.length = 5 := (fits_at c2).1
      have s3' := s2.trans s3
      refine ⟨D, rfl, _, s3' _ _ hD, _, atx (i := 1) (by omega), D, rfl, _, s3' _ _ hD, _, atx (i := 4) (by omega), _, rfl, _, q1, q2, fun p3 H4 n4 => fin (t := .var (tx l 1) (-(numI (tx l 4)))) ?_ (s3'.trans n4.kp) (Rp.m3 n4.at_ (.str _) (.str _) (.int _))⟩
      simp only [sharedT, c1, c2, if_true, if_false, Bool.false_eq_true]
    have s3' := s2.trans s3
    refine fit_ (f := ["lock", "WORD"]) (hp1.same s3') hl (by decide +kernel) fun H4 s4 => ⟨_, rfl, ite2 (fun c3 => ?_) (fun c3 => ?_)⟩
    · have h4 : l.length = 2 := (fits_at c3).1
      have s4' := s3'.trans s4
      refine ⟨D, rfl, _, s4' _ _ hD, _, atx (i := 1) (by omega), fun p3 H5 n5 => fin (t := .lock (tx l 1)) ?_ (s4'.trans n5.kp) (Rp.m2 n5.at_ (.str _) (.str _))⟩
      simp only [sharedT, c1, c2, c3, if_true, if_false, Bool.false_eq_true]
    have s4' := s3'.trans s4
    refine fit_ (f := ["cond", "WORD", "of", "WORD"]) (hp1.same s4') hl (by decide +kernel) fun H5 s5 => ⟨_, rfl, ite2 (fun c4 => ?_) (fun c4 => ?_)⟩
    · have h4 : l.length = 4 := (fits_at c4).1
      have s5' := s4'.trans s5
      refine ⟨D, rfl, _, s5' _ _ hD, _, atx (i := 1) (by omega), D, rfl, _, s5' _ _ hD, _, atx (i := 3) (by omega), fun p3 H6 n6 => fin (t := .cond (tx l 1) (tx l 3)) ?_ (s5'.trans n6.kp) (Rp.m3 n6.at_ (.str _) (.str _) (.str _))⟩
      simp only [sharedT, c1, c2, c3, c4, if_true, if_false, Bool.false_eq_true]
    have s5' := s4'.trans s5
    refine fit_ (f := ["queue", "WORD", "NUMBER"]) (hp1.same s5') hl (by decide +kernel) fun H6 s6 => ⟨_, rfl, ite2 (fun c5 => ?_) (fun c5 => ?_)⟩
    · obtain ⟨q1, q2⟩ := num_at (i := 2) ok.tk c5 rfl
      have h4 : l.length = 3 := (fits_at c5).1
      have s6' := s5'.trans s6
      refine ⟨D, rfl, _, s6' _ _ hD, _, atx (i := 1) (by omega), D, rfl, _, s6' _ _ hD, _, atx (i := 2) (by omega), _, rfl, _, q1, q2, fun p3 H7 n7 => fin (t := .queue (tx l 1) (numI (tx l 2))) ?_ (s6'.trans n7.kp) (Rp.m3 n7.at_ (.str _) (.str _) (.int _))⟩
      simp only [sharedT, c1, c2, c3, c4, c5, if_true, if_false, Bool.false_eq_true]
    exact k0 (by simp only [sharedT, c1, c2, c3, c4, c5, if_false, Bool.false_eq_true]) H6 ((s1.trans s5').trans s6)
end
end K10
set_option linter.all false
set_option maxRecDepth 100000
set_option maxHeartbeats 4000000
namespace K10
open PySem PySem.Spec PyProof.Rows L2
def getK : List Str := ["get", "take"]
def othK : List Str := ["put", "add", "lock", "unlock", "wait", "notify", "notifyall", "send"]
def otK : List Str := ["let", "check", "begin", "end", "stop"]
def IAv (vs : List V) : IA → Prop
  | .nm k x => (k ∈ getK ∧ ∃ y, vs = [.str k, y, .str x]) ∨ (k ∈ othK ∧ ∃ r, vs = .str k :: .str x :: r)
  | .go n => ∃ r, vs = .str "go" :: .int n :: r
  | .ot k => k ∈ otK ∧ ∃ r, vs = .str k :: r
def IAr (H : Hp) (v : V) (i : IA) : Prop := ∃ p vs, v = .ref p ∧ H p = some (.tup vs) ∧ IAv vs i
section
variable {P : Program} {w : World} {K : PySem.W.Frag} {mg : Str → Option Value} {base : Heap} {Ax : Ad}
local macro_rules | `(tactic| walk_at "wp") => `(tactic| simp only [tVar, tC, tOp, rI0, rI, rU, tUn, rEq, rNe, tTest, tB, tAnd, tOr, tNot, tAndV, tOrV, tNotV, tIf, tSeq, tNext, tAsg, gName, gSub, tDrop, tRet, tRetN, tIfS, tBreak, tCont, tAug, ipI, tCB, tCons, tNil,
  xTup, xLst, xIxL, xIxT, xIxS, xIxK, xLenL, xLenT, xLenS, xLenK, xSlL, xSlT, xSlS, xInL, xInT, xInK, xCat, xRep, xCatT, xTupL, xSetL, xIntS, xIntI, xIntB, xApp, xJoin, xSplit, xFld, xSetF, xAugF, tSl, tPart, tNoPart, xCall, xMeth, xMeth0, xMake, xRaise, xgT, xgL, gCons, gNil, xInD, xIxD, C8.tCut, xIsi, for_r1, for_r2, for_l, for_t, for_e, lc_xl, lc_xt, lc_xr, tM0, S,
  exists_eq_left, exists_eq_left', exists_and_left, V.int.injEq, V.ref.injEq, V.str.injEq, V.bl.injEq, consV, Option.some.injEq, HO.lst.injEq, HO.tup.injEq, HO.ins.injEq, and_true, true_and, List.getElem?_cons_zero, List.getElem?_cons_succ, List.set_cons_zero, List.set_cons_succ,
  if_true, if_false, Bool.false_eq_true, and_assoc, V.ty.injEq, isbI, isbS, kb1, kb2, kb3, kb4, kb5, kb6, kb7, kb8, kb9, reduceCtorEq, decide_false, decide_true, decide_eq_true_eq, Bool.not_eq_true', decide_eq_false_iff_not, Bool.not_true, Bool.not_false, ite_not, at0, at1, at2, at3, at4, ix0, ix1, fl_int, fl_str, fl_bl, fl_non, al_nil, al_cons, lenNil, len1, len2, len3, len4, sc_ii, sc_ss, sc_ns, sc_sn, sc_nn, sc_in, sc_si, sc_is, sc_bb, st_go])
local macro_rules | `(tactic| walk_at "wf") => `(tactic| simp only [*,
  exists_eq_left, exists_eq_left', exists_and_left, V.int.injEq, V.ref.injEq, V.str.injEq, V.bl.injEq, consV, Option.some.injEq, HO.lst.injEq, HO.tup.injEq, HO.ins.injEq, and_true, true_and, List.getElem?_cons_zero, List.getElem?_cons_succ, List.set_cons_zero, List.set_cons_succ,
  if_true, if_false, Bool.false_eq_true, and_assoc, V.ty.injEq, isbI, isbS, kb1, kb2, kb3, kb4, kb5, kb6, kb7, kb8, kb9, reduceCtorEq, decide_false, decide_true, decide_eq_true_eq, Bool.not_eq_true', decide_eq_false_iff_not, Bool.not_true, Bool.not_false, ite_not, at0, at1, at2, at3, at4, ix0, ix1, fl_int, fl_str, fl_bl, fl_non, al_nil, al_cons, lenNil, len1, len2, len3, len4, sc_ii, sc_ss, sc_ns, sc_sn, sc_nn, sc_in, sc_si, sc_is, sc_bb, st_go])
local macro_rules | `(tactic| walk_at "len") => `(tactic| (refine le_line ?_; simp only [List.length_cons, List.length_nil, List.length_append, List.length_map, List.map_nil, List.map_cons] <;> omega))
theorem fits3 {l : Ln} {a b c : Str} (h : fitsT l [a, b, c] = true) : ∃ t0 t1 t2, l = [t0, t1, t2] ∧ fitT t0 a = true := by
  obtain ⟨h1, h2⟩ := fits_at h
  match l, h1 with
  | [t0, t1, t2], _ => exact ⟨t0, t1, t2, rfl, h2 0 t0 a rfl rfl⟩
theorem fits2 {l : Ln} {a b : Str} (h : fitsT l [a, b] = true) : ∃ t0 t1, l = [t0, t1] ∧ fitT t0 a = true := by
  obtain ⟨h1, h2⟩ := fits_at h
  match l, h1 with
  | [t0, t1], _ => exact ⟨t0, t1, rfl, h2 0 t0 a rfl rfl⟩
theorem fit_lit {t : Tok} {a : Str} (h : fitT t a = true) (h1 : a ≠ "WORD") (h2 : a ≠ "NUMBER") (h3 : a ≠ "REGISTER") : t.2 = a := by
  unfold fitT at h
  rw [if_neg h1, if_neg h2, if_neg h3] at h
  exact of_decide_eq_true h
def spSimple : Sp := fun vs H Q _ => ∃ (p : Addr) (l : Ln), vs = [.ref p] ∧ Pt H p l ∧ LOk l ∧ (simpleT l = none → ∀ H', Same H H' → Q .non H') ∧ ∀ i, simpleT l = some i → ∀ v H', Same H H' → IAr H' v i → Q v H'
theorem ok_simple (F : Df K mg "_simple" s_simple ["parts"]) (T : Tx w K mg Ax) (G_fits : Cl P w K mg base L2.CX0 1 "_fits" spFits) : Cl P w K mg base L2.CX0 2 "_simple" spSimple := by
  refine F.cl sc_simple (fun vs H Q E h => ?_) (fun f cdv A outer s H vs Q E hr h => ?_)
  · obtain ⟨_, _, rfl, _⟩ := h
    rfl
  · obtain ⟨p, l, rfl, hp, ok, k0, k1⟩ := h
    refine ⟨_, (pss_cons (ps_setLc (i := 1) (own := [("part", 2)]) (g := gName 2) rfl sc_simple.nd rfl rfl (sw_true rfl rfl rfl (by decide +kernel)) (pi_l (pv 0)) (blkOk_by (own := [("part", 2)]) (N := N_simple) (sc := defScope s_simple) (by decide +kernel)) (fun _ _ _ _ _ => pg_name (i := 2) sc_simple.nd rfl (Or.inl rfl)) (fun _ _ _ _ _ => pts_mo pts_nil) (fun _ _ _ _ _ => pe_mo (pe_ix ix_t (pv 2) pe_int (fun _ _ => rfl))))
  (pss_cons (ps_if (PW.pt (pw_or (pt_val (px_c G_fits hr (by omega) (by rfl) (pa_cons (pv 0) (pa_cons (px_tup (pa_cons pe_str (pa_cons pe_str (pa_cons pe_str pa_nil)))) pa_nil)))) (pw_or1 (pt_val (px_c G_fits hr (by omega) (by rfl) (pa_cons (pv 0) (pa_cons (px_tup (pa_cons pe_str (pa_cons pe_str (pa_cons pe_str pa_nil)))) pa_nil))))))) (pss_one (ps_ret (pe_callTy tup_l (by rfl) T.b_tuple (by decide +kernel) (pa_cons (pv 1) pa_nil)))) pss_nil)
  (pss_cons (ps_for PassesOwn.never rfl (pi_t (px_tup (pa_cons pe_str (pa_cons pe_str (pa_cons pe_str (pa_cons pe_str pa_nil)))))) (pg_name (i := 3) sc_simple.nd rfl (Or.inl rfl))
    (pss_one (ps_if (pt_val (px_c G_fits hr (by omega) (by rfl) (pa_cons (pv 0) (pa_cons (px_tup (pa_cons (pv 3) (pa_cons pe_str pa_nil))) pa_nil)))) (pss_one (ps_ret (pe_callTy tup_l (by rfl) T.b_tuple (by decide +kernel) (pa_cons (pv 1) pa_nil)))) pss_nil)))
  (pss_cons (ps_if (pt_val (px_c G_fits hr (by omega) (by rfl) (pa_cons (pv 0) (pa_cons (px_tup (pa_cons pe_str (pa_cons pe_str (pa_cons pe_str pa_nil)))) pa_nil)))) (pss_one (ps_ret (px_tup (pa_cons pe_str (pa_cons (pe_ix ix_l (pv 1) pe_int (fun _ _ => rfl)) pa_nil))))) pss_nil)
  (pss_cons (ps_if (pt_val (px_c G_fits hr (by omega) (by rfl) (pa_cons (pv 0) (pa_cons (px_tup (pa_cons pe_str (pa_cons pe_str pa_nil))) pa_nil)))) (pss_one (ps_ret (px_tup (pa_cons pe_str (pa_cons (pe_callTy int_s (by rfl) T.b_int (by decide +kernel) (pa_cons (pe_ix ix_l (pv 1) pe_int (fun _ _ => rfl)) pa_nil)) (pa_cons pe_non pa_nil)))))) pss_nil)
  (pss_cons (ps_for PassesOwn.never rfl (pi_t (px_tup (pa_cons pe_str (pa_cons pe_str (pa_cons pe_str pa_nil))))) (pg_name (i := 3) sc_simple.nd rfl (Or.inl rfl))
    (pss_one (ps_if (pt_val (px_c G_fits hr (by omega) (by rfl) (pa_cons (pv 0) (pa_cons (px_tup (pa_cons (pv 3) pa_nil)) pa_nil)))) (pss_one (ps_ret (px_tup (pa_cons (pv 3) pa_nil)))) pss_nil)))
  (pss_one (ps_ret pe_non)))))))), ?_⟩
    rw [show L2.start N_simple [V.ref p] = [some (.ref p), none, none, none] from rfl]
    walk_at "wp"
    have hl := ok.sz
    refine lc_texts hp (by omega) (fun x => rfl) (fun x => rfl) fun D H1 nD s1 hD => ?_
    have hp1 := hp.same s1
    have fin : ∀ {H2 : Hp} {i : IA} {v : V}, simpleT l = some i → Same H1 H2 → IAr H2 v i → Q v H2 := fun h s2 r => k1 _ h _ _ (s1.trans s2) r
    refine fit_ (f := ["get", "REGISTER", "WORD"]) hp1 hl (by decide +kernel) fun H2 s2 => ⟨_, rfl, ite2 (fun c1 => ?_) (fun c1 => ?_)⟩
    · obtain ⟨t0, t1, t2, rfl, e0⟩ := fits3 c1
      have e0' := fit_lit e0 (by decide +kernel) (by decide +kernel) (by decide +kernel)
      refine ⟨D, rfl, _, s2 _ _ hD, fun p3 H3 n3 => fin (i := .nm "get" t2.2) ?_ (s2.trans n3.kp) ⟨p3, _, rfl, n3.at_, .inl ⟨by decide +kernel, .str t1.2, by rw [← e0']; rfl⟩⟩⟩
      simp only [simpleT, c1, if_true]
      rfl
    refine fit_ (f := ["take", "REGISTER", "WORD"]) (hp1.same s2) hl (by decide +kernel) fun H3 s3 => ⟨_, rfl, ite2 (fun c2 => ?_) (fun c2 => ?_)⟩
    · obtain ⟨t0, t1, t2, rfl, e0⟩ := fits3 c2
      have e0' := fit_lit e0 (by decide +kernel) (by decide +kernel) (by decide +kernel)
      refine ⟨D, rfl, _, (s2.trans s3) _ _ hD, fun p3 H4 n4 => fin (i := .nm "take" t2.2) ?_ ((s2.trans s3).trans n4.kp) ⟨p3, _, rfl, n4.at_, .inl ⟨by decide +kernel, .str t1.2, by rw [← e0']; rfl⟩⟩⟩
      simp only [simpleT, c1, c2, if_true, if_false, Bool.false_eq_true]
      rfl
    have s3' := s2.trans s3
    intro pw H4 n4
    have hw4 : H4 pw = some (.tup ((["lock", "unlock", "wait", "notify"] : List Str).map V.str)) := n4.at_
    refine ⟨pw, rfl, ⟨_, hw4⟩, lp_t (xs := (["lock", "unlock", "wait", "notify"] : List Str).map V.str) (fun i σ H' => (∃ v3, σ = [some (.ref p), some (.ref D), none, v3]) ∧ Same H4 H' ∧ ∀ (j : Nat) (w : Str), j < i → (["lock", "unlock", "wait", "notify"] : List Str)[j]? = some w → fitsT l [w, "WORD"] = false)
      ⟨⟨_, rfl⟩, Same.refl _, fun j w h => absurd h (Nat.not_lt_zero j)⟩ (fun i σ H' h => h.2.1 _ _ hw4) ?_ ?_⟩
    · rintro i x σ H5 hx ⟨⟨v3, rfl⟩, s5, hall⟩
      rw [List.getElem?_map] at hx
      obtain ⟨w, hw, rfl⟩ := Option.map_eq_some_iff.mp hx
      have s5' := (s3'.trans n4.kp).trans s5
      walk_at "wp"
      refine fit_ (f := [w, "WORD"]) (hp1.same s5') hl ?_ fun H6 s6 => ⟨_, rfl, ite2 (fun c3 => ?_) (fun c3 => ⟨⟨_, rfl⟩, s5.trans s6, fun j w' hj hw' => ?_⟩)⟩
      · have all : ∀ w ∈ (["lock", "unlock", "wait", "notify"] : List Str), ([w, "WORD"] : List Str).all (fun x => decide (x.length ≤ 100)) = true := by decide +kernel
        exact all w (List.mem_of_getElem? hw)
      · obtain ⟨t0, t1, rfl, e0⟩ := fits2 c3
        have lits : ∀ w ∈ (["lock", "unlock", "wait", "notify"] : List Str), w ≠ "WORD" ∧ w ≠ "NUMBER" ∧ w ≠ "REGISTER" ∧ w ∈ othK := by decide +kernel
        obtain ⟨z1, z2, z3, z4⟩ := lits w (List.mem_of_getElem? hw)
        have e0' := fit_lit e0 z1 z2 z3
        refine ⟨_, (s5'.trans s6) _ _ hD, fun p7 H7 n7 => fin (i := .nm w t1.2) ?_ ((s5'.trans s6).trans n7.kp) ⟨p7, _, rfl, n7.at_, .inr ⟨z4, [], by rw [← e0']; rfl⟩⟩⟩
        match i, hw, hall with
        | 0, hw, hall =>
          cases Option.some.inj hw
          simp only [simpleT, c1, c2, c3, if_true, if_false, Bool.false_eq_true]
          rfl
        | 1, hw, hall =>
          cases Option.some.inj hw
          have h0 := hall 0 _ (by decide) rfl
          simp only [simpleT, c1, c2, c3, h0, if_true, if_false, Bool.false_eq_true]
          rfl
        | 2, hw, hall =>
          cases Option.some.inj hw
          have h0 := hall 0 _ (by decide) rfl
          have h1 := hall 1 _ (by decide) rfl
          simp only [simpleT, c1, c2, c3, h0, h1, if_true, if_false, Bool.false_eq_true]
          rfl
        | 3, hw, hall =>
          cases Option.some.inj hw
          have h0 := hall 0 _ (by decide) rfl
          have h1 := hall 1 _ (by decide) rfl
          have h2 := hall 2 _ (by decide) rfl
          simp only [simpleT, c1, c2, c3, h0, h1, h2, if_true, if_false, Bool.false_eq_true]
          rfl
        | i + 4, hw, hall => cases hw
      · by_cases e : j = i
        · subst e
          rw [hw] at hw'
          cases hw'
          exact Bool.eq_false_iff.mpr c3
        · exact hall j w' (by omega) hw'
    · rintro σ H5 ⟨⟨v3, rfl⟩, s5, hall⟩
      have f1 := hall 0 _ (by decide) rfl
      have f2 := hall 1 _ (by decide) rfl
      have f3 := hall 2 _ (by decide) rfl
      have f4 := hall 3 _ (by decide) rfl
      have s5' := (s3'.trans n4.kp).trans s5
      walk_at "wp"
      refine fit_ (f := ["notify", "all", "WORD"]) (hp1.same s5') hl (by decide +kernel) fun H6 s6 => ⟨_, rfl, ite2 (fun c4 => ?_) (fun c4 => ?_)⟩
      · have h4 : l.length = 3 := (fits_at c4).1
        refine ⟨_, (s5'.trans s6) _ _ hD, _, atx (i := 2) (by omega), fun p7 H7 n7 => fin (i := .nm "notifyall" (tx l 2)) ?_ ((s5'.trans s6).trans n7.kp) ⟨p7, _, rfl, n7.at_, .inr ⟨by decide +kernel, [], rfl⟩⟩⟩
        simp only [simpleT, c1, c2, f1, f2, f3, f4, c4, if_true, if_false, Bool.false_eq_true]
      have s6' := s5'.trans s6
      refine fit_ (f := ["go", "NUMBER"]) (hp1.same s6') hl (by decide +kernel) fun H7 s7 => ⟨_, rfl, ite2 (fun c5 => ?_) (fun c5 => ?_)⟩
      · obtain ⟨q1, q2⟩ := num_at (i := 1) ok.tk c5 rfl
        have h4 : l.length = 2 := (fits_at c5).1
        refine ⟨_, (s6'.trans s7) _ _ hD, _, atx (i := 1) (by omega), _, rfl, _, q1, q2, fun p8 H8 n8 => fin (i := .go (numI (tx l 1))) ?_ ((s6'.trans s7).trans n8.kp) ⟨p8, _, rfl, n8.at_, _, rfl⟩⟩
        simp only [simpleT, c1, c2, f1, f2, f3, f4, c4, c5, if_true, if_false, Bool.false_eq_true]
      have s7' := s6'.trans s7
      intro pv H8 n8
      have hv8 : H8 pv = some (.tup ((["begin", "end", "stop"] : List Str).map V.str)) := n8.at_
      refine ⟨pv, rfl, ⟨_, hv8⟩, lp_t (xs := (["begin", "end", "stop"] : List Str).map V.str) (fun i σ H' => (∃ v3, σ = [some (.ref p), some (.ref D), none, v3]) ∧ Same H8 H' ∧ ∀ (j : Nat) (w : Str), j < i → (["begin", "end", "stop"] : List Str)[j]? = some w → fitsT l [w] = false)
        ⟨⟨_, rfl⟩, Same.refl _, fun j w h => absurd h (Nat.not_lt_zero j)⟩ (fun i σ H' h => h.2.1 _ _ hv8) ?_ ?_⟩
      · rintro i x σ H9 hx ⟨⟨v3, rfl⟩, s9, hall⟩
        rw [List.getElem?_map] at hx
        obtain ⟨w, hw, rfl⟩ := Option.map_eq_some_iff.mp hx
        have s9' := (s7'.trans n8.kp).trans s9
        walk_at "wp"
        refine fit_ (f := [w]) (hp1.same s9') hl ?_ fun H10 s10 => ⟨_, rfl, ite2 (fun c6 => ?_) (fun c6 => ⟨⟨_, rfl⟩, s9.trans s10, fun j w' hj hw' => ?_⟩)⟩
        · have all : ∀ w ∈ (["begin", "end", "stop"] : List Str), ([w] : List Str).all (fun x => decide (x.length ≤ 100)) = true := by decide +kernel
          exact all w (List.mem_of_getElem? hw)
        · refine fun p11 H11 n11 => fin (i := .ot w) ?_ ((s9'.trans s10).trans n11.kp) ⟨p11, _, rfl, n11.at_, ?_, [], rfl⟩
          · match i, hw, hall with
            | 0, hw, hall =>
              cases Option.some.inj hw
              simp only [simpleT, c1, c2, f1, f2, f3, f4, c4, c5, c6, if_true, if_false, Bool.false_eq_true]
            | 1, hw, hall =>
              cases Option.some.inj hw
              have h0 := hall 0 _ (by decide) rfl
              simp only [simpleT, c1, c2, f1, f2, f3, f4, c4, c5, c6, h0, if_true, if_false, Bool.false_eq_true]
            | 2, hw, hall =>
              cases Option.some.inj hw
              have h0 := hall 0 _ (by decide) rfl
              have h1 := hall 1 _ (by decide) rfl
              simp only [simpleT, c1, c2, f1, f2, f3, f4, c4, c5, c6, h0, h1, if_true, if_false, Bool.false_eq_true]
            | i + 3, hw, hall => cases hw
          · have all : ∀ w ∈ (["begin", "end", "stop"] : List Str), w ∈ otK := by decide +kernel
            exact all w (List.mem_of_getElem? hw)
        · by_cases e : j = i
          · subst e
            rw [hw] at hw'
            cases hw'
            exact Bool.eq_false_iff.mpr c6
          · exact hall j w' (by omega) hw'
      · rintro σ H9 ⟨⟨v3, rfl⟩, s9, hall⟩
        have g1 := hall 0 _ (by decide) rfl
        have g2 := hall 1 _ (by decide) rfl
        have g3 := hall 2 _ (by decide) rfl
        walk_at "wp"
        exact k0 (by simp only [simpleT, c1, c2, f1, f2, f3, f4, c4, c5, g1, g2, g3, if_false, Bool.false_eq_true]) H9 (s1.trans ((s7'.trans n8.kp).trans s9))
end
end K10
set_option linter.all false
set_option maxRecDepth 100000
set_option maxHeartbeats 4000000
namespace K10
open PySem PySem.Spec PyProof.Rows L2
/-! ### methods and classes of the text -/
structure Dm (K : PySem.W.Frag) (C : Addr) (m q : Str) (st : Stmt) (ps : List Str) : Prop where
  ex : ∃ (f : Addr) (fd : FuncData), Cls K C ∧ Meth K C m f ∧ L2.Fun K m q st f fd ∧ L2.Binds K fd ps []
structure Dk (K : PySem.W.Frag) (mg : Str → Option Value) (x : Str) (C : Addr) (q : Str) (st : Stmt) (ps : List Str) : Prop where
  ex : ∃ (f : Addr) (fd : FuncData), Mk K C f ∧ L2.Fun K "__init__" q st f fd ∧ mg x = some (.ref C) ∧ L2.Binds K fd ps []
section
variable {P : Program} {w : World} {K : PySem.W.Frag} {mg : Str → Option Value} {base : Heap} {C : Addr} {x m q : Str} {st : Stmt} {ps N : List Str} {k : Nat} {sp : Sp}
theorem Dm.me (F : Dm K C m q st ps) (S : FnScope N ps (defScope st)) (len : ∀ vs H Q E, sp vs H Q E → vs.length = ps.length)
    (hbody : ∀ (f : Addr) (cdv : Value) (A : Around) (outer : List Env) (s : Shared) (H : Hp) (vs : List V) (Q : VK) (E : XK), Room k (A.deeper (envOfC q (defScope st) s.heap.objs.size f cdv)) → sp vs H Q E →
      ∃ t, PSs (cxOf L2.CX0 P w K mg base N q (defScope st) f cdv A outer s H E).nox (defBody st) t ∧ t { nx := fun _ H' => Q .non H', rt := Q } (L2.start N vs) H) : Me P w K mg base L2.CX0 (k + 1) C m sp := by
  obtain ⟨f, fd, c, hm, F, b⟩ := F.ex
  exact ⟨f, fd, ps, c, hm, F.ok S len (hbody f), b⟩
theorem Dm.meX (F : Dm K C m q st ps) (S : FnScope N ps (defScope st)) (len : ∀ vs H Q E, sp vs H Q E → vs.length = ps.length)
    (hbody : ∀ (f : Addr) (cdv : Value) (A : Around) (outer : List Env) (s : Shared) (H : Hp) (vs : List V) (Q : VK) (E : XK), Room k (A.deeper (envOfC q (defScope st) s.heap.objs.size f cdv)) → sp vs H Q E →
      ∃ t, PSs (cxOf (L2.CX P w) P w K mg base N q (defScope st) f cdv A outer s H E) (defBody st) t ∧ t { nx := fun _ H' => Q .non H', rt := Q } (L2.start N vs) H) : Me P w K mg base (L2.CX P w) (k + 1) C m sp := by
  obtain ⟨f, fd, c, hm, F, b⟩ := F.ex
  exact ⟨f, fd, ps, c, hm, F.okX S len (hbody f), b⟩
theorem Dm.no (F : Dm K C m q st ps) {CX : CXT} : Me P w K mg base CX k C m spNo := by
  obtain ⟨f, fd, c, hm, F, b⟩ := F.ex
  exact ⟨f, fd, ps, c, hm, ⟨fun _ _ _ _ h => h.elim, fun _ _ _ _ _ _ _ _ _ _ _ _ _ h => h.elim⟩, b⟩
theorem Dk.mq (F : Dk K mg x C q st ps) (S : FnScope N ps (defScope st)) (len : ∀ vs H Q E, sp vs H Q E → vs.length = ps.length)
    (hbody : ∀ (f : Addr) (cdv : Value) (A : Around) (outer : List Env) (s : Shared) (H : Hp) (vs : List V) (Q : VK) (E : XK), Room k (A.deeper (envOfC q (defScope st) s.heap.objs.size f cdv)) → sp vs H Q E →
      ∃ t, PSs (cxOf L2.CX0 P w K mg base N q (defScope st) f cdv A outer s H E).nox (defBody st) t ∧ t { nx := fun _ H' => Q .non H', rt := Q } (L2.start N vs) H) : Mq P w K mg base (k + 1) x C sp := by
  obtain ⟨f, fd, M, F, hm, b⟩ := F.ex
  exact ⟨f, fd, ps, M, F.ok S len (hbody f), hm, b⟩
theorem cxK {CX : CXT} {N : List Str} {sc : Scope} {f : Addr} {cdv : Value} {A : Around} {outer : List Env} {s : Shared} {H : Hp} {E : XK} : (cxOf CX P w K mg base N q sc f cdv A outer s H E).K = K := rfl
theorem cxKn {CX : CXT} {N : List Str} {sc : Scope} {f : Addr} {cdv : Value} {A : Around} {outer : List Env} {s : Shared} {H : Hp} {E : XK} : (cxOf CX P w K mg base N q sc f cdv A outer s H E).nox.K = K := rfl
end
theorem Me.mono {P : Program} {w : World} {K : PySem.W.Frag} {mg : Str → Option Value} {base : Heap} {CX : CXT} {j k : Nat} {C : Addr} {x : Str} {sp : Sp} (c : Me P w K mg base CX j C x sp) (h : j ≤ k) : Me P w K mg base CX k C x sp := by
  obtain ⟨f, fd, ps, a, b, F, d⟩ := c.ex
  exact ⟨f, fd, ps, a, b, F.mono h, d⟩
/-- all but a is kept -/
def KpA (a : Addr) (H H' : Hp) : Prop := ∀ b o, b ≠ a → H b = some o → H' b = some o
theorem KpA.refl {a : Addr} {H : Hp} : KpA a H H := fun _ _ _ h => h
theorem KpA.trans {a : Addr} {H H1 H2 : Hp} (x : KpA a H H1) (y : KpA a H1 H2) : KpA a H H2 := fun b o n h => y b o n (x b o n h)
theorem KpA.of {a : Addr} {H H1 : Hp} (s : Same H H1) : KpA a H H1 := fun b o _ h => s b o h
theorem Chg.kpA {a : Addr} {o : HO} {H H1 : Hp} (g : Chg a o H H1) : KpA a H H1 := g.kp
theorem KpA.tk {a C dx : Addr} {fs : List (Str × V)} {H H1 : Hp} (x : KpA a H H1) (h : H a = some (.ins C dx fs)) : Tk H H1 := fun b vs e => x b _ (ne_of e h (by intro z; cases z)) e
theorem Pt.kpA {a C dx p : Addr} {fs : List (Str × V)} {H H1 : Hp} {l : Ln} (t : Pt H p l) (x : KpA a H H1) (h : H a = some (.ins C dx fs)) : Pt H1 p l := by
  obtain ⟨ws, e, r⟩ := t
  exact ⟨ws, x p _ (ne_of e h (by intro z; cases z)) e, r.tk (x.tk h)⟩
/-! ### the expression reader over tokens -/
def isUn (t : Tok) : Bool := (decide (t.1 = "sign") && decide (t.2 = "-")) || (decide (t.1 = "word") && decide (t.2 = "not"))
def isPr (t : Tok) : Bool := decide (t.1 = "number") || (decide (t.1 = "word") && decide (t.2 ∈ regS))
def facW (l : Ln) : Nat → Nat → Nat × Bool
  | 0, a => match l[a]? with
    | none => (a, true)
    | some t => if isUn t then (a + 1, true) else if isPr t then (a + 1, false) else (a + 1, true)
  | n + 1, a => match l[a]? with
    | none => (a, true)
    | some t => if isUn t then facW l n (a + 1) else if isPr t then (a + 1, false) else (a + 1, true)
/-- not more than n unary signs in a row -/
def unOk (l : Ln) : Nat → Nat → Bool
  | 0, a => match l[a]? with | none => true | some t => !isUn t
  | n + 1, a => match l[a]? with | none => true | some t => !isUn t || unOk l n (a + 1)
def lvS : Nat → List Str
  | 0 => ["or"]
  | 1 => ["and"]
  | 2 => ["=", "<"]
  | 3 => ["+", "-"]
  | _ => ["*"]
def seesW (l : Ln) (a : Nat) (ys : List Str) : Bool := decide (a < l.length) && decide (tx l a ∈ ys)
/-- n: levels below -/
def levW (l : Ln) : Nat → Nat → Nat × Bool
  | 0, a => facW l 1 a
  | n + 1, a => if (levW l n a).2 = false ∧ seesW l (levW l n a).1 (lvS (4 - n)) = true then levW l n ((levW l n a).1 + 1) else levW l n a
/-- each level stops behind its second operand -/
def stopW (l : Ln) (n a : Nat) : Bool := !(!(levW l n a).2 && seesW l (levW l n a).1 (lvS (4 - n))) || !(!(levW l n ((levW l n a).1 + 1)).2 && seesW l (levW l n ((levW l n a).1 + 1)).1 (lvS (4 - n)))
structure GoodL (l : Ln) : Prop where
  ok : LOk l
  par : ∀ t ∈ l, t.2 ≠ "("
  un : ∀ a, unOk l 1 a = true
  st : ∀ n a, n < 5 → stopW l n a = true
def rdF (p : Addr) (a : Nat) (fl : Bool) : List (Str × V) := [("parts", .ref p), ("at", .int a), ("depth", .int 0), ("failed", .bl fl)]
theorem le100 {n : Nat} (h : Nat.ble n 100 = true) : n ≤ 100 := Nat.le_of_ble_eq_true h
/-- a field is read | set -/
theorem fld_ {K : PySem.W.Frag} {H : Hp} {a C dx : Addr} {fs : List (Str × V)} {f : Str} {v : V} {R : V → Prop} (ha : H a = some (.ins C dx fs)) (c : Cls K C) (n : NoAttr K C f) (l : fs.lookup f = some v) (k : R v) :
    ∃ C dx fs, H a = some (.ins C dx fs) ∧ Cls K C ∧ NoAttr K C f ∧ ∃ v, fs.lookup f = some v ∧ R v := ⟨_, _, _, ha, c, n, v, l, k⟩
theorem setf_ {K : PySem.W.Frag} {H : Hp} {a C dx : Addr} {fs : List (Str × V)} {f : Str} {y : V} {R : Hp → Prop} (ha : H a = some (.ins C dx fs)) (c : Cls K C) (n : NoAttr K C f) (l : Nat.ble fs.length 100 = true) (k : ∀ H', Chg a (.ins C dx (putF f y fs)) H H' → R H') :
    ∃ C dx fs, H a = some (.ins C dx fs) ∧ Cls K C ∧ NoAttr K C f ∧ fs.length ≤ 100 ∧ cg a (.ins C dx (putF f y fs)) H R := ⟨_, _, _, ha, c, n, le100 l, k⟩
/-- the reader's class -/
structure RdT (K : PySem.W.Frag) (C : Addr) : Prop where
  c : Cls K C
  n : ∀ f ∈ (["parts", "at", "depth", "failed"] : List Str), NoAttr K C f
section
variable {P : Program} {w : World} {K : PySem.W.Frag} {mg : Str → Option Value} {base : Heap} {Ax : Ad}
local macro_rules | `(tactic| walk_at "wp") => `(tactic| simp only [tVar, tC, tOp, rI0, rI, rU, tUn, rEq, rNe, tTest, tB, tAnd, tOr, tNot, tAndV, tOrV, tNotV, tIf, tSeq, tNext, tAsg, gName, gSub, tDrop, tRet, tRetN, tIfS, tBreak, tCont, tAug, ipI, tCB, tCons, tNil,
  xTup, xLst, xIxL, xIxT, xIxS, xIxK, xLenL, xLenT, xLenS, xLenK, xSlL, xSlT, xSlS, xInL, xInT, xInK, xCat, xRep, xCatT, xTupL, xSetL, xIntS, xIntI, xIntB, xApp, xJoin, xSplit, xFld, xSetF, xAugF, tSl, tPart, tNoPart, xCall, xMeth, xMeth0, xMake, xRaise, xgT, xgL, gCons, gNil, xInD, xIxD, C8.tCut, xIsi, for_r1, for_r2, for_l, for_t, for_e, lc_xl, lc_xt, lc_xr, tM0, S,
  exists_eq_left, exists_eq_left', exists_and_left, V.int.injEq, V.ref.injEq, V.str.injEq, V.bl.injEq, consV, Option.some.injEq, HO.lst.injEq, HO.tup.injEq, HO.ins.injEq, and_true, true_and, List.getElem?_cons_zero, List.getElem?_cons_succ, List.set_cons_zero, List.set_cons_succ,
  if_true, if_false, Bool.false_eq_true, and_assoc, V.ty.injEq, isbI, isbS, kb1, kb2, kb3, kb4, kb5, kb6, kb7, kb8, kb9, reduceCtorEq, decide_false, decide_true, decide_eq_true_eq, Bool.not_eq_true', decide_eq_false_iff_not, Bool.not_true, Bool.not_false, ite_not, at0, at1, at2, at3, at4, ix0, ix1, fl_int, fl_str, fl_bl, fl_non, al_nil, al_cons, lenNil, len1, len2, len3, len4, sc_ii, sc_ss, sc_ns, sc_sn, sc_nn, sc_in, sc_si, sc_is, sc_bb, st_go])
local macro_rules | `(tactic| walk_at "wf") => `(tactic| simp only [*,
  exists_eq_left, exists_eq_left', exists_and_left, V.int.injEq, V.ref.injEq, V.str.injEq, V.bl.injEq, consV, Option.some.injEq, HO.lst.injEq, HO.tup.injEq, HO.ins.injEq, and_true, true_and, List.getElem?_cons_zero, List.getElem?_cons_succ, List.set_cons_zero, List.set_cons_succ,
  if_true, if_false, Bool.false_eq_true, and_assoc, V.ty.injEq, isbI, isbS, kb1, kb2, kb3, kb4, kb5, kb6, kb7, kb8, kb9, reduceCtorEq, decide_false, decide_true, decide_eq_true_eq, Bool.not_eq_true', decide_eq_false_iff_not, Bool.not_true, Bool.not_false, ite_not, at0, at1, at2, at3, at4, ix0, ix1, fl_int, fl_str, fl_bl, fl_non, al_nil, al_cons, lenNil, len1, len2, len3, len4, sc_ii, sc_ss, sc_ns, sc_sn, sc_nn, sc_in, sc_si, sc_is, sc_bb, st_go])
local macro_rules | `(tactic| walk_at "len") => `(tactic| (refine le_line ?_; simp only [List.length_cons, List.length_nil, List.length_append, List.length_map, List.map_nil, List.map_cons] <;> omega))
def spRdInit (C : Addr) : Sp := fun vs H Q _ => ∃ a p dx, vs = [.ref a, .ref p] ∧ H a = some (.ins C dx []) ∧ ∀ H', KpA a H H' → H' a = some (.ins C dx (rdF p 0 false)) → Q .non H'
theorem ok_rd_init (F : Dk K mg "Reader" Ax.rd "Reader.__init__" s_Reader___init__ ["self", "parts"]) (T : Tx w K mg Ax) (R : RdT K Ax.rd) : Mq P w K mg base 1 "Reader" Ax.rd (spRdInit Ax.rd) := by
  refine F.mq sc_Reader___init__ (fun vs H Q E h => ?_) (fun f cdv A outer s H vs Q E hr h => ?_)
  · obtain ⟨_, _, _, rfl, _⟩ := h
    rfl
  · obtain ⟨a, p, dx, rfl, ha, q⟩ := h
    refine ⟨_, (pss_cons (px_setf (pv 0) (pv 1) rfl)
  (pss_cons (px_setf (pv 0) pe_int rfl)
  (pss_cons (px_setf (pv 0) pe_int rfl)
  (pss_one (px_setf (pv 0) pe_bl rfl))))), ?_⟩
    rw [show L2.start N_Reader___init__ [V.ref a, V.ref p] = [some (.ref a), some (.ref p)] from rfl]
    walk_at "wp"
    exact setf_ ha R.c (R.n _ (by decide +kernel)) rfl fun H1 g1 => setf_ g1.at_ R.c (R.n _ (by decide +kernel)) rfl fun H2 g2 => setf_ g2.at_ R.c (R.n _ (by decide +kernel)) rfl fun H3 g3 => setf_ g3.at_ R.c (R.n _ (by decide +kernel)) rfl fun H4 g4 =>
      q H4 (((g1.kpA.trans g2.kpA).trans g3.kpA).trans g4.kpA) g4.at_
/-! ### sees, take -/
def spSees (C : Addr) (K : PySem.W.Frag) : Sp := fun vs H Q _ => ∃ (a t dx p : Addr) (i : Nat) (fl : Bool) (l : Ln) (ys : List Str), vs = [.ref a, .ref t] ∧ H a = some (.ins C dx (rdF p i fl)) ∧ Pt H p l ∧ SqT K H t (ys.map V.str) ∧ Q (.bl (seesW l i ys)) H
theorem ok_rd_sees (F : Dm K Ax.rd "sees" "Reader.sees" s_Reader_sees ["self", "texts"]) (T : Tx w K mg Ax) (R : RdT K Ax.rd) : Me P w K mg base L2.CX0 1 Ax.rd "sees" (spSees Ax.rd K) := by
  refine F.me sc_Reader_sees (fun vs H Q E h => ?_) (fun f cdv A outer s H vs Q E hr h => ?_)
  · obtain ⟨_, _, _, _, _, _, _, _, rfl, _⟩ := h
    rfl
  · obtain ⟨a, t, dx, p, i, fl, l, ys, rfl, ha, ⟨ws, hp, rp⟩, ht, q⟩ := h
    refine ⟨_, (pss_one (ps_ret (pe_and (pe_cmpR op_lt (px_fld (pv 0) rfl) (pe_callB len_l (by rfl) T.b_len PySem.boot_len (pa_cons (px_fld (pv 0) rfl) pa_nil)) (nomark _)) (pe_one (pe_cmpR in_k (pe_ix ix_t (pe_ix ix_l (px_fld (pv 0) rfl) (px_fld (pv 0) rfl) (fun _ _ => rfl)) pe_int (fun _ _ => rfl)) (pv 1) rfl))))), ?_⟩
    rw [show L2.start N_Reader_sees [V.ref a, V.ref t] = [some (.ref a), some (.ref t)] from rfl]
    walk_at "wp"
    have lw : ws.length = l.length := by rw [rp.len, List.length_map]
    refine fld_ ha R.c (R.n _ (by decide +kernel)) rfl (fld_ ha R.c (R.n _ (by decide +kernel)) rfl ⟨_, rfl, _, hp, _, rfl, ite2 (fun c => ?_) (fun c => ?_)⟩)
    · have hi : i < ws.length := by omega
      obtain ⟨d, hd, rd⟩ := rp.at_ (List.getElem?_eq_getElem hi)
      rw [List.getElem?_map] at hd
      obtain ⟨t0, ht0, rfl⟩ := Option.map_eq_some_iff.mp hd
      obtain ⟨a', x1, x2, hv, ha', r1, r2⟩ := Rp.t2 rd
      cases r1.str_inv
      cases r2.str_inv
      refine fld_ ha R.c (R.n _ (by decide +kernel)) rfl (fld_ ha R.c (R.n _ (by decide +kernel)) rfl ⟨_, rfl, _, rfl, _, hp, _, atI_nat (List.getElem?_eq_getElem hi), _, hv, _, ha', _, at1, _, ht, rfl, all_str _, ?_⟩)
      rw [inV_str]
      rw [show seesW l i ys = decide (t0.2 ∈ ys) by unfold seesW; rw [decide_eq_true (by omega), Bool.true_and, tx_at ht0]] at q
      exact q
    · rw [show seesW l i ys = false by unfold seesW; rw [decide_eq_false (by omega), Bool.false_and]] at q
      exact q
/-- a fresh tuple -/
def spTake (C : Addr) : Sp := fun vs H Q _ => ∃ (a dx p : Addr) (i : Nat) (fl : Bool) (l : Ln), vs = [.ref a] ∧ H a = some (.ins C dx (rdF p i fl)) ∧ Pt H p l ∧
  (l[i]? = none → ∀ q H', KpA a H H' → H' a = some (.ins C dx (rdF p i true)) → H' q = some (.tup [.str "end", .str ""]) → Q (.ref q) H') ∧
  ∀ t, l[i]? = some t → ∀ q H', KpA a H H' → H' a = some (.ins C dx (rdF p (i + 1) fl)) → H' q = some (.tup [.str t.1, .str t.2]) → Q (.ref q) H'
theorem ok_rd_take (F : Dm K Ax.rd "take" "Reader.take" s_Reader_take ["self"]) (T : Tx w K mg Ax) (R : RdT K Ax.rd) : Me P w K mg base L2.CX0 1 Ax.rd "take" (spTake Ax.rd) := by
  refine F.me sc_Reader_take (fun vs H Q E h => ?_) (fun f cdv A outer s H vs Q E hr h => ?_)
  · obtain ⟨_, _, _, _, _, _, rfl, _⟩ := h
    rfl
  · obtain ⟨a, dx, p, i, fl, l, rfl, ha, ⟨ws, hp, rp⟩, k0, k1⟩ := h
    refine ⟨_, (pss_cons (ps_if (pt_cmpR op_ge (px_fld (pv 0) rfl) (pe_callB len_l (by rfl) T.b_len PySem.boot_len (pa_cons (px_fld (pv 0) rfl) pa_nil)) (nomark _)) (pss_cons (px_setf (pv 0) pe_bl rfl)
  (pss_one (ps_ret (px_tup (pa_cons pe_str (pa_cons pe_str pa_nil)))))) pss_nil)
  (pss_cons (ps_set (i := 1) sc_Reader_take.nd rfl (Or.inl rfl) (pe_ix ix_l (px_fld (pv 0) rfl) (px_fld (pv 0) rfl) (fun _ _ => rfl)))
  (pss_cons (px_augf in_add (pv 0) pe_int)
  (pss_one (ps_ret (pv 1)))))), ?_⟩
    rw [show L2.start N_Reader_take [V.ref a] = [some (.ref a), none] from rfl]
    walk_at "wp"
    have lw : ws.length = l.length := by rw [rp.len, List.length_map]
    refine fld_ ha R.c (R.n _ (by decide +kernel)) rfl (fld_ ha R.c (R.n _ (by decide +kernel)) rfl ⟨_, rfl, _, hp, _, rfl, ite2 (fun c => ?_) (fun c => ?_)⟩)
    · exact setf_ ha R.c (R.n _ (by decide +kernel)) rfl fun H1 g1 q H2 n2 => k0 (List.getElem?_eq_none (by omega)) q H2 (g1.kpA.trans (.of n2.kp)) (n2.kp _ _ g1.at_) n2.at_
    · have hi : i < ws.length := by omega
      obtain ⟨d, hd, rd⟩ := rp.at_ (List.getElem?_eq_getElem hi)
      rw [List.getElem?_map] at hd
      obtain ⟨t0, ht0, rfl⟩ := Option.map_eq_some_iff.mp hd
      obtain ⟨a', x1, x2, hv, ha', r1, r2⟩ := Rp.t2 rd
      cases r1.str_inv
      cases r2.str_inv
      refine fld_ ha R.c (R.n _ (by decide +kernel)) rfl (fld_ ha R.c (R.n _ (by decide +kernel)) rfl ⟨_, rfl, _, rfl, _, hp, _, atI_nat (List.getElem?_eq_getElem hi), _, _, _, ha, R.c, R.n _ (by decide +kernel), le100 rfl, _, rfl, fun H3 g3 => ?_⟩)
      rw [hv]
      exact k1 t0 ht0 a' H3 g3.kpA g3.at_ (g3.kp a' _ (ne_of ha' ha (by intro z; cases z)) ha')
/-! ### factor -/
def spFactor (C : Addr) (n : Nat) : Sp := fun vs H Q _ => ∃ (a dx p : Addr) (i : Nat) (l : Ln), vs = [.ref a] ∧ H a = some (.ins C dx (rdF p i false)) ∧ Pt H p l ∧ LOk l ∧ (∀ t ∈ l, t.2 ≠ "(") ∧ unOk l n i = true ∧
  ∀ q H', KpA a H H' → H' a = some (.ins C dx (rdF p (facW l n i).1 (facW l n i).2)) → Q (.ref q) H'
def spFacSub (C : Addr) : Nat → Sp
  | 0 => spNo
  | n + 1 => spFactor C n
theorem Wk.kinds {k w : Str} (h : Wk k w) : (k = "number" ∧ w ∈ nums) ∨ k = "bad" ∨ k = "word" ∨ k = "sign" := by
  cases h with
  | num h => exact .inl ⟨rfl, h⟩
  | word h hc hr hl => exact .inr (.inr (.inl rfl))
  | badn h hd hl => exact .inr (.inl rfl)
  | sign h hc => exact .inr (.inr (.inr rfl))
  | bads h _ _ _ _ _ => exact .inr (.inl rfl)
theorem fac_some {l : Ln} {n i : Nat} {t : Tok} (h : l[i]? = some t) (hu : isUn t = false) : facW l n i = (i + 1, !isPr t) := by
  cases n with
  | zero => unfold facW; rw [h]; simp only [hu, Bool.false_eq_true, if_false]; cases isPr t <;> rfl
  | succ n => unfold facW; rw [h]; simp only [hu, Bool.false_eq_true, if_false]; cases isPr t <;> rfl
theorem fac_none {l : Ln} {n i : Nat} (h : l[i]? = none) : facW l n i = (i, true) := by
  cases n with
  | zero => unfold facW; rw [h]
  | succ n => unfold facW; rw [h]
theorem fac_un {l : Ln} {n i : Nat} {t : Tok} (h : l[i]? = some t) (hu : isUn t = true) (ok : unOk l n i = true) : ∃ m, n = m + 1 ∧ facW l n i = facW l m (i + 1) ∧ unOk l m (i + 1) = true := by
  cases n with
  | zero =>
    unfold unOk at ok
    rw [h] at ok
    simp [hu] at ok
  | succ m =>
    refine ⟨m, rfl, ?_, ?_⟩
    · rw [facW, h]
      simp only [hu, if_true]
    · unfold unOk at ok
      rw [h] at ok
      simpa [hu] using ok
theorem ok_rd_factor (n : Nat) (F : Dm K Ax.rd "factor" "Reader.factor" s_Reader_factor ["self"]) (T : Tx w K mg Ax) (R : RdT K Ax.rd) (G_take : Me P w K mg base L2.CX0 1 Ax.rd "take" (spTake Ax.rd)) (G_group : Me P w K mg base L2.CX0 0 Ax.rd "group" spNo)
    (G_factor : Me P w K mg base L2.CX0 (n + 1) Ax.rd "factor" (spFacSub Ax.rd n)) : Me P w K mg base L2.CX0 (n + 2) Ax.rd "factor" (spFactor Ax.rd n) := by
  refine F.me sc_Reader_factor (fun vs H Q E h => ?_) (fun f cdv A outer s H vs Q E hr h => ?_)
  · obtain ⟨_, _, _, _, _, rfl, _⟩ := h
    rfl
  · obtain ⟨a, dx, p, i, l, rfl, ha, hp, ok, par, un, k⟩ := h
    refine ⟨_, (pss_cons (ps_if (pt_val (px_fld (pv 0) rfl)) (pss_one (ps_ret (px_tup (pa_cons pe_str (pa_cons pe_int pa_nil))))) pss_nil)
  (pss_cons (ps_asg (px_m0 G_take hr (by omega) (pv 0)) (pg_t rfl (pgs_cons (pg_name (i := 1) sc_Reader_factor.nd rfl (Or.inl rfl)) (pgs_cons (pg_name (i := 2) sc_Reader_factor.nd rfl (Or.inl rfl)) pgs_nil))))
  (pss_cons (ps_if (PW.pt (pw_and (pt_cmpR op_eq (pv 1) pe_str (nomark _)) (pw_and1 (pt_cmpR op_eq (pv 2) pe_str (nomark _))))) (pss_one (ps_ret (px_tup (pa_cons pe_str (pa_cons (px_m0 G_factor hr (by omega) (pv 0)) pa_nil))))) pss_nil)
  (pss_cons (ps_if (PW.pt (pw_and (pt_cmpR op_eq (pv 1) pe_str (nomark _)) (pw_and1 (pt_cmpR op_eq (pv 2) pe_str (nomark _))))) (pss_one (ps_ret (px_tup (pa_cons pe_str (pa_cons (px_m0 G_factor hr (by omega) (pv 0)) pa_nil))))) pss_nil)
  (pss_cons (ps_if (pt_cmpR op_eq (pv 1) pe_str (nomark _)) (pss_one (ps_ret (px_tup (pa_cons pe_str (pa_cons (pe_callTy int_s (by rfl) T.b_int (by decide +kernel) (pa_cons (pv 2) pa_nil)) pa_nil))))) pss_nil)
  (pss_cons (ps_if (PW.pt (pw_and (pt_cmpR op_eq (pv 1) pe_str (nomark _)) (pw_and1 (pt_cmpR in_k (pv 2) (pe_glob (v := .ref _) rfl T.g_REGISTERS rfl) rfl)))) (pss_one (ps_ret (px_tup (pa_cons pe_str (pa_cons (pv 2) pa_nil))))) pss_nil)
  (pss_cons (ps_if (PW.pt (pw_and (pt_cmpR op_eq (pv 1) pe_str (nomark _)) (pw_and1 (pt_cmpR op_eq (pv 2) pe_str (nomark _))))) (pss_one (ps_ret (px_m0 G_group hr (by omega) (pv 0)))) pss_nil)
  (pss_cons (px_setf (pv 0) pe_bl rfl)
  (pss_one (ps_ret (px_tup (pa_cons pe_str (pa_cons pe_int pa_nil))))))))))))), ?_⟩
    rw [show L2.start N_Reader_factor [V.ref a] = [some (.ref a), none, none] from rfl]
    walk_at "wp"
    refine fld_ ha R.c (R.n _ (by decide +kernel)) rfl ⟨_, rfl, ?_⟩
    rw [if_neg Bool.false_ne_true]
    have go : ∀ {H1 : Hp} {t : Tok} {R : VK} {E : XK}, l[i]? = some t → isUn t = true → KpA a H H1 → H1 a = some (.ins Ax.rd dx (rdF p (i + 1) false)) → (∀ q H', KpA a H H' → H' a = some (.ins Ax.rd dx (rdF p (facW l n i).1 (facW l n i).2)) → R (.ref q) H') →
        ∃ dx fs, H1 a = some (.ins Ax.rd dx fs) ∧ List.lookup ("factor" : Str) fs = none ∧ spFacSub Ax.rd n [V.ref a] H1 R E := fun {H1 t R E} ht hu kp h1 k2 => by
      obtain ⟨m, rfl, e, u⟩ := fac_un ht hu un
      refine ⟨_, _, h1, rfl, a, dx, p, i + 1, l, rfl, h1, hp.kpA kp ha, ok, par, u, fun q H' kp' h' => ?_⟩
      rw [← e] at h'
      exact k2 q H' (kp.trans kp') h'
    have fail : ∀ {H1 : Hp} {j : Nat} {fl : Bool}, KpA a H H1 → H1 a = some (.ins Ax.rd dx (rdF p j fl)) → facW l n i = (j, true) → ∃ C dx fs, H1 a = some (.ins C dx fs) ∧ Cls K C ∧ NoAttr K C "failed" ∧ fs.length ≤ 100 ∧ cg a (.ins C dx (putF "failed" (.bl true) fs)) H1 fun H2 => nw (.tup [V.str "num", V.int 0]) H2 Q := fun {H1 j fl} kp h1 e => by
      refine setf_ h1 R.c (R.n _ (by decide +kernel)) rfl fun H2 g2 q H3 n3 => k q H3 ((kp.trans g2.kpA).trans (.of n3.kp)) ?_
      rw [e]
      exact n3.kp _ _ g2.at_
    refine ⟨_, _, ha, rfl, a, dx, p, i, false, l, rfl, ha, hp, fun hl q H1 kp h1 hq => ?_, fun t hl q H1 kp h1 hq => ?_⟩
    · refine ⟨q, rfl, _, hq, rfl, _, _, rfl, _, _, rfl, rfl, rfl, ?_⟩
      rw [if_neg (by decide +kernel)]
      refine ⟨rfl, ?_⟩
      rw [if_neg (by decide +kernel)]
      refine ⟨rfl, ?_⟩
      rw [if_neg (by decide +kernel)]
      refine ⟨rfl, ?_⟩
      rw [if_neg (by decide +kernel)]
      refine ⟨rfl, ?_⟩
      rw [if_neg (by decide +kernel)]
      exact fail kp h1 (fac_none hl)
    · obtain ⟨kd, x⟩ := t
      refine ⟨q, rfl, _, hq, rfl, _, _, rfl, _, _, rfl, rfl, rfl, ?_⟩
      dsimp only
      have wk : Wk kd x := ok.tk (kd, x) (List.mem_of_getElem? hl)
      rcases wk.kinds with ⟨e, hx⟩ | e | e | e
      · have e' : kd = "number" := e
        subst e'
        rw [if_neg (by decide +kernel)]
        refine ⟨rfl, ?_⟩
        rw [if_neg (by decide +kernel)]
        refine ⟨rfl, ?_⟩
        rw [if_pos rfl]
        obtain ⟨m, hm, hz⟩ := nums_int x hx
        refine ⟨_, rfl, m, hm, hz, fun q2 H2 n2 => k q2 H2 (kp.trans (.of n2.kp)) ?_⟩
        rw [fac_some hl (by simp only [isUn]; rw [decide_eq_false (by decide +kernel), Bool.false_and, decide_eq_false (by decide +kernel), Bool.false_and]; rfl), show isPr ("number", x) = true by simp [isPr]]
        exact n2.kp _ _ h1
      · subst e
        rw [if_neg (by decide +kernel)]
        refine ⟨rfl, ?_⟩
        rw [if_neg (by decide +kernel)]
        refine ⟨rfl, ?_⟩
        rw [if_neg (by decide +kernel)]
        refine ⟨rfl, ?_⟩
        rw [if_neg (by decide +kernel)]
        refine ⟨rfl, ?_⟩
        rw [if_neg (by decide +kernel)]
        refine fail kp h1 ?_
        rw [fac_some hl (by simp only [isUn]; rw [decide_eq_false (by decide +kernel), Bool.false_and, decide_eq_false (by decide +kernel), Bool.false_and]; rfl), show isPr ("bad", x) = false by simp only [isPr]; rw [decide_eq_false (by decide +kernel), Bool.false_or, decide_eq_false (by decide +kernel), Bool.false_and]]
        rfl
      · subst e
        rw [if_neg (by decide +kernel)]
        refine ⟨rfl, ?_⟩
        rw [if_pos rfl]
        refine ⟨rfl, ite2 (fun c => ?_) (fun c => ?_)⟩
        · have c' := V.str.inj c
          refine go hl (by simp only [isUn]; rw [decide_eq_true c']; simp) kp h1 fun q2 H2 kp2 h2 q3 H3 n3 => k q3 H3 (kp2.trans (.of n3.kp)) (n3.kp _ _ h2)
        · have c' : ¬ x = "not" := fun z => c (by rw [z])
          have hu : isUn ("word", x) = false := by
            simp only [isUn]
            rw [decide_eq_false (by decide +kernel), Bool.false_and, decide_eq_false c', Bool.and_false]
            rfl
          refine ⟨rfl, ?_⟩
          rw [if_neg (by decide +kernel)]
          refine ⟨rfl, ?_⟩
          rw [if_pos rfl]
          refine ⟨_, T.reg H1, rfl, all_str regS, ?_⟩
          rw [show inV (V.str x) regV = decide (x ∈ regS) from inV_str x regS]
          by_cases hr2 : x ∈ regS
          · rw [if_pos (decide_eq_true hr2)]
            refine fun q2 H2 n2 => k q2 H2 (kp.trans (.of n2.kp)) ?_
            rw [fac_some hl hu, show isPr ("word", x) = true by simp only [isPr]; rw [decide_eq_true hr2]; simp]
            exact n2.kp _ _ h1
          · rw [if_neg (by simp [hr2])]
            refine ⟨rfl, ?_⟩
            rw [if_neg (by decide +kernel)]
            refine fail kp h1 ?_
            rw [fac_some hl hu, show isPr ("word", x) = false by simp only [isPr]; rw [decide_eq_false hr2, decide_eq_false (by decide +kernel)]; simp]
            rfl
      · subst e
        rw [if_pos rfl]
        refine ⟨rfl, ite2 (fun c => ?_) (fun c => ?_)⟩
        · have c' := V.str.inj c
          refine go hl (by simp only [isUn]; rw [decide_eq_true c']; simp) kp h1 fun q2 H2 kp2 h2 q3 H3 n3 => k q3 H3 (kp2.trans (.of n3.kp)) (n3.kp _ _ h2)
        · have c' : ¬ x = "-" := fun z => c (by rw [z])
          have hu : isUn ("sign", x) = false := by
            simp only [isUn]
            rw [decide_eq_false c', Bool.and_false, decide_eq_false (by decide +kernel), Bool.false_and]
            rfl
          refine ⟨rfl, ?_⟩
          rw [if_neg (by decide +kernel)]
          refine ⟨rfl, ?_⟩
          rw [if_neg (by decide +kernel)]
          refine ⟨rfl, ?_⟩
          rw [if_neg (by decide +kernel)]
          refine ⟨rfl, ?_⟩
          rw [if_pos rfl]
          refine ⟨rfl, ?_⟩
          rw [if_neg (fun z => par _ (List.mem_of_getElem? hl) (V.str.inj z))]
          refine fail kp h1 ?_
          rw [fac_some hl hu, show isPr ("sign", x) = false by simp only [isPr]; rw [decide_eq_false (by decide +kernel), Bool.false_or, decide_eq_false (by decide +kernel), Bool.false_and]]
          rfl
end
end K10
set_option linter.all false
set_option maxRecDepth 100000
set_option maxHeartbeats 4000000
namespace K10
open PySem PySem.Spec PyProof.Rows L2
section
variable {P : Program} {w : World} {K : PySem.W.Frag} {mg : Str → Option Value} {base : Heap} {Ax : Ad}
local macro_rules | `(tactic| walk_at "wp") => `(tactic| simp only [tVar, tC, tOp, rI0, rI, rU, tUn, rEq, rNe, tTest, tB, tAnd, tOr, tNot, tAndV, tOrV, tNotV, tIf, tSeq, tNext, tAsg, gName, gSub, tDrop, tRet, tRetN, tIfS, tBreak, tCont, tAug, ipI, tCB, tCons, tNil,
  xTup, xLst, xIxL, xIxT, xIxS, xIxK, xLenL, xLenT, xLenS, xLenK, xSlL, xSlT, xSlS, xInL, xInT, xInK, xCat, xRep, xCatT, xTupL, xSetL, xIntS, xIntI, xIntB, xApp, xJoin, xSplit, xFld, xSetF, xAugF, tSl, tPart, tNoPart, xCall, xMeth, xMeth0, xMake, xRaise, xgT, xgL, gCons, gNil, xInD, xIxD, C8.tCut, xIsi, for_r1, for_r2, for_l, for_t, for_e, lc_xl, lc_xt, lc_xr, tM0, S,
  exists_eq_left, exists_eq_left', exists_and_left, V.int.injEq, V.ref.injEq, V.str.injEq, V.bl.injEq, consV, Option.some.injEq, HO.lst.injEq, HO.tup.injEq, HO.ins.injEq, and_true, true_and, List.getElem?_cons_zero, List.getElem?_cons_succ, List.set_cons_zero, List.set_cons_succ,
  if_true, if_false, Bool.false_eq_true, and_assoc, V.ty.injEq, isbI, isbS, kb1, kb2, kb3, kb4, kb5, kb6, kb7, kb8, kb9, reduceCtorEq, decide_false, decide_true, decide_eq_true_eq, Bool.not_eq_true', decide_eq_false_iff_not, Bool.not_true, Bool.not_false, ite_not, at0, at1, at2, at3, at4, ix0, ix1, fl_int, fl_str, fl_bl, fl_non, al_nil, al_cons, lenNil, len1, len2, len3, len4, sc_ii, sc_ss, sc_ns, sc_sn, sc_nn, sc_in, sc_si, sc_is, sc_bb, st_go])
local macro_rules | `(tactic| walk_at "wf") => `(tactic| simp only [*,
  exists_eq_left, exists_eq_left', exists_and_left, V.int.injEq, V.ref.injEq, V.str.injEq, V.bl.injEq, consV, Option.some.injEq, HO.lst.injEq, HO.tup.injEq, HO.ins.injEq, and_true, true_and, List.getElem?_cons_zero, List.getElem?_cons_succ, List.set_cons_zero, List.set_cons_succ,
  if_true, if_false, Bool.false_eq_true, and_assoc, V.ty.injEq, isbI, isbS, kb1, kb2, kb3, kb4, kb5, kb6, kb7, kb8, kb9, reduceCtorEq, decide_false, decide_true, decide_eq_true_eq, Bool.not_eq_true', decide_eq_false_iff_not, Bool.not_true, Bool.not_false, ite_not, at0, at1, at2, at3, at4, ix0, ix1, fl_int, fl_str, fl_bl, fl_non, al_nil, al_cons, lenNil, len1, len2, len3, len4, sc_ii, sc_ss, sc_ns, sc_sn, sc_nn, sc_in, sc_si, sc_is, sc_bb, st_go])
local macro_rules | `(tactic| walk_at "len") => `(tactic| (refine le_line ?_; simp only [List.length_cons, List.length_nil, List.length_append, List.length_map, List.map_nil, List.map_cons] <;> omega))
def spLvl (C : Addr) (n : Nat) : Sp := fun vs H Q _ => ∃ (a dx p : Addr) (i : Nat) (l : Ln), vs = [.ref a, .int (5 - (n : Int))] ∧ H a = some (.ins C dx (rdF p i false)) ∧ Pt H p l ∧ GoodL l ∧
  ∀ q H', KpA a H H' → H' a = some (.ins C dx (rdF p (levW l n i).1 (levW l n i).2)) → Q (.ref q) H'
def spLevSub (C : Addr) : Nat → Sp
  | 0 => spNo
  | n + 1 => spLvl C n
def LvI (C a dx p : Addr) (l : Ln) (n i : Nat) (q : Addr) (H H1 : Hp) (m : Nat) (σ : L2.St) (H' : Hp) : Prop := (m = 1 ∧ σ = [some (.ref a), some (.int (5 - ((n + 1 : Nat) : Int))), some (.ref q), some (.bl true), none] ∧ H' = H1) ∨
  (m = 0 ∧ ∃ (q2 : Addr) (mr : Bool) (x : Str), σ = [some (.ref a), some (.int (5 - ((n + 1 : Nat) : Int))), some (.ref q2), some (.bl mr), some (.str x)] ∧ KpA a H H' ∧ H' a = some (.ins C dx (rdF p (levW l (n + 1) i).1 (levW l (n + 1) i).2)) ∧ ((levW l (n + 1) i).2 = false → seesW l (levW l (n + 1) i).1 (lvS (4 - n)) = false))
theorem lv_at {d : Nat} (hd : d < 5) : atI [V.ref (Ax.lv 0), V.ref (Ax.lv 1), V.ref (Ax.lv 2), V.ref (Ax.lv 3), V.ref (Ax.lv 4)] (d : Int) = some (.ref (Ax.lv d)) := by
  match d, hd with
  | 0, _ => exact atI_nat rfl
  | 1, _ => exact atI_nat rfl
  | 2, _ => exact atI_nat rfl
  | 3, _ => exact atI_nat rfl
  | 4, _ => exact atI_nat rfl
theorem lvV_eq (d : Nat) : lvV d = (lvS d).map V.str := by
  match d with
  | 0 => rfl
  | 1 => rfl
  | 2 => rfl
  | 3 => rfl
  | d + 4 => rfl
theorem ok_rd_level (n : Nat) (hn : n ≤ 5) (F : Dm K Ax.rd "level" "Reader.level" s_Reader_level ["self", "depth"]) (T : Tx w K mg Ax) (R : RdT K Ax.rd) (G_take : Me P w K mg base L2.CX0 1 Ax.rd "take" (spTake Ax.rd)) (G_sees : Me P w K mg base L2.CX0 1 Ax.rd "sees" (spSees Ax.rd K))
    (G_factor : Me P w K mg base L2.CX0 3 Ax.rd "factor" (spFactor Ax.rd 1)) (G_level : Me P w K mg base L2.CX0 (n + 3) Ax.rd "level" (spLevSub Ax.rd n)) : Me P w K mg base L2.CX0 (n + 4) Ax.rd "level" (spLvl Ax.rd n) := by
  refine F.me sc_Reader_level (fun vs H Q E h => ?_) (fun f cdv A outer s H vs Q E hr h => ?_)
  · obtain ⟨_, _, _, _, _, rfl, _⟩ := h
    rfl
  · obtain ⟨a, dx, p, i, l, rfl, ha, hp, gd, k⟩ := h
    refine ⟨_, (pss_cons (ps_if (pt_cmpR op_eq (pv 1) (pe_callB len_k (by rfl) T.b_len PySem.boot_len (pa_cons (pe_glob (v := .ref _) rfl T.g_LEVELS rfl) pa_nil)) (nomark _)) (pss_one (ps_ret (px_m0 G_factor hr (by omega) (pv 0)))) pss_nil)
  (pss_cons (ps_set (i := 2) sc_Reader_level.nd rfl (Or.inl rfl) (px_m G_level hr (by omega) (pv 0) (pa_cons (pe_op op_add (pv 1) pe_int) pa_nil)))
  (pss_cons (ps_set (i := 3) sc_Reader_level.nd rfl (Or.inl rfl) pe_bl)
  (pss_cons (ps_while PassesOwn.never (PW.pt (pw_and (pt_val (pv 3)) (pw_and (pt_not (pt_val (px_fld (pv 0) rfl))) (pw_and1 (pt_val (px_m G_sees hr (by omega) (pv 0) (pa_cons (pe_ix ix_k (pe_glob (v := .ref _) rfl T.g_LEVELS rfl) (pv 1) (fun _ _ => rfl)) pa_nil)))))))
    (pss_cons (ps_set (i := 4) sc_Reader_level.nd rfl (Or.inl rfl) (pe_ix ix_t (px_m0 G_take hr (by omega) (pv 0)) pe_int (fun _ _ => rfl)))
  (pss_cons (ps_set (i := 2) sc_Reader_level.nd rfl (Or.inl rfl) (px_tup (pa_cons pe_str (pa_cons (pv 4) (pa_cons (pv 2) (pa_cons (px_m G_level hr (by omega) (pv 0) (pa_cons (pe_op op_add (pv 1) pe_int) pa_nil)) pa_nil))))))
  (pss_one (ps_set (i := 3) sc_Reader_level.nd rfl (Or.inl rfl) (pe_cmpR op_ne (pv 1) (C8.pe_gc (by rfl) T.v_CLAIM) (nomark _)))))))
  (pss_one (ps_ret (pv 2))))))), ?_⟩
    rw [show L2.start N_Reader_level [V.ref a, V.int (5 - (n : Int))] = [some (.ref a), some (.int (5 - (n : Int))), none, none, none] from rfl]
    walk_at "wp"
    refine ⟨_, T.lev H, ite2 (fun c => ?_) (fun c => ?_)⟩
    · obtain rfl : n = 0 := by
        have : (5 : Int) - n = 5 := c
        omega
      exact ⟨_, _, ha, rfl, a, dx, p, i, l, rfl, ha, hp, gd.ok, gd.par, gd.un i, k⟩
    · cases n with
      | zero => exact absurd (show (5 : Int) - (0 : Nat) = 5 by omega) c
      | succ n =>
        have n4 : n ≤ 4 := by omega
        have ed : (5 : Int) - ((n + 1 : Nat) : Int) = ((4 - n : Nat) : Int) := by omega
        have arg : [V.ref a, V.int (5 - ((n + 1 : Nat) : Int) + 1)] = [V.ref a, V.int (5 - (n : Int))] := by rw [show (5 : Int) - ((n + 1 : Nat) : Int) + 1 = 5 - (n : Int) by omega]
        refine ⟨_, _, ha, rfl, a, dx, p, i, l, arg, ha, hp, gd, fun q H1 kp1 h1 => ?_⟩
        have hp1 := hp.kpA kp1 ha
        have stp := gd.st n i (by omega)
        unfold stopW at stp
        generalize hr1 : levW l n i = r at h1 stp
        have lev1 : (r.2 = false ∧ seesW l r.1 (lvS (4 - n)) = true) → levW l (n + 1) i = levW l n (r.1 + 1) := fun z => by
          rw [levW, hr1, if_pos z]
        have lev0 : ¬(r.2 = false ∧ seesW l r.1 (lvS (4 - n)) = true) → levW l (n + 1) i = r := fun z => by
          rw [levW, hr1, if_neg z]
        refine ⟨LvI Ax.rd a dx p l n i q H H1, ⟨1, .inl ⟨rfl, rfl, rfl⟩⟩, ?_⟩
        rintro m σ H' (⟨rfl, rfl, rfl⟩ | ⟨rfl, q2, mr, x, rfl, kp2, h2, hs2⟩)
        · walk_at "wp"
          refine fld_ h1 R.c (R.n _ (by decide +kernel)) rfl ⟨_, rfl, ?_⟩
          by_cases c2 : r.2 = true
          · simp only [c2, Bool.not_true, Bool.false_eq_true, if_false, if_true]
            have e := lev0 (fun z => by rw [c2] at z; exact Bool.noConfusion z.1)
            exact k q H' kp1 (by rw [e]; exact h1)
          · have c2' : r.2 = false := by simpa using c2
            simp only [c2', Bool.not_false, if_true, Bool.false_eq_true, if_false]
            have sees : ∀ {H2 : Hp} {j : Nat} {fl : Bool} {R : VK} {E : XK}, KpA a H H2 → H2 a = some (.ins Ax.rd dx (rdF p j fl)) → R (.bl (seesW l j (lvS (4 - n)))) H2 → ∃ dx fs, H2 a = some (.ins Ax.rd dx fs) ∧ List.lookup ("sees" : Str) fs = none ∧
                ∃ xs, SqT K H2 Ax.lev xs ∧ ∃ v, atI xs (5 - ((n + 1 : Nat) : Int)) = some v ∧ spSees Ax.rd K [.ref a, v] H2 R E := fun {H2 j fl R E} kp h2 hR => by
              refine ⟨_, _, h2, rfl, _, T.lev H2, .ref (Ax.lv (4 - n)), ?_, a, Ax.lv (4 - n), dx, p, j, fl, l, lvS (4 - n), rfl, h2, hp.kpA kp ha, ?_, hR⟩
              · rw [ed]
                exact lv_at (by omega)
              · have h := T.lv H2 (4 - n) (by omega)
                rw [lvV_eq] at h
                exact h
            refine sees kp1 h1 ⟨_, rfl, ?_⟩
            by_cases c3 : seesW l r.1 (lvS (4 - n)) = true
            · rw [if_pos c3]
              have e := lev1 ⟨c2', c3⟩
              have hlt : r.1 < l.length := by
                unfold seesW at c3
                rw [Bool.and_eq_true, decide_eq_true_eq] at c3
                exact c3.1
              refine ⟨fun σ' H'' => ∃ m', m' < 1 ∧ LvI Ax.rd a dx p l n i q H H' m' σ' H'', fun _ _ h => h, _, _, h1, rfl, a, dx, p, r.1, r.2, l, rfl, h1, hp1, fun z => ?_, fun t ht q3 H2 kp2 h2 hq3 => ?_⟩
              · rw [List.getElem?_eq_getElem hlt] at z
                cases z
              · rw [c2'] at h2
                refine ⟨q3, rfl, _, hq3, _, at1, _, _, h2, rfl, a, dx, p, r.1 + 1, l, arg, h2, (hp1.kpA kp2 h1), gd, fun q4 H3 kp3 h3 q5 H4 n4' => ?_⟩
                refine ⟨0, by decide, .inr ⟨rfl, q5, _, t.2, rfl, ((kp1.trans kp2).trans kp3).trans (.of n4'.kp), by rw [e]; exact n4'.kp _ _ h3, fun z => ?_⟩⟩
                rw [e] at z ⊢
                simpa [c2', c3, z] using stp
            · rw [if_neg c3]
              have e := lev0 (fun z => c3 z.2)
              exact k q H' kp1 (by rw [e]; exact h1)
        · walk_at "wp"
          cases mr with
          | false => exact k q2 H' kp2 h2
          | true =>
            rw [if_pos rfl]
            refine fld_ h2 R.c (R.n _ (by decide +kernel)) rfl ⟨_, rfl, ?_⟩
            generalize levW l (n + 1) i = r2 at h2 hs2 k
            cases c2 : r2.2 with
            | true =>
              rw [c2] at h2
              rw [if_neg (by decide)]
              exact k q2 H' kp2 (by rw [c2]; exact h2)
            | false =>
              rw [if_pos rfl]
              refine ⟨_, _, h2, rfl, _, T.lev H', .ref (Ax.lv (4 - n)), ?_, a, Ax.lv (4 - n), dx, p, r2.1, r2.2, l, lvS (4 - n), rfl, h2, hp.kpA kp2 ha, ?_, _, rfl, ?_⟩
              · rw [ed]
                exact lv_at (by omega)
              · have h := T.lv H' (4 - n) (by omega)
                rw [lvV_eq] at h
                exact h
              · rw [hs2 c2, if_neg Bool.false_ne_true]
                exact k q2 H' kp2 h2
end
end K10
set_option linter.all false
set_option maxRecDepth 100000
set_option maxHeartbeats 4000000
namespace K10
open PySem PySem.Spec PyProof.Rows L2
/-! ### tokens that are written out -/
def wordB (w : Str) : Bool := match w.cps.toList with
  | [] => false
  | c :: r => lowC c && r.all anC && decide (w.cps.toList.length ≤ 8)
def signB (w : Str) : Bool := match w.cps.toList with
  | [c] => decide (c ∈ sgnS.cps.toList)
  | _ => false
def badB (w : Str) : Bool := (match w.cps.toList with
  | [c] => !digC c && !lowC c && !decide (c ∈ sgnS.cps.toList) && !decide (c = 32) && decide (c < 128)
  | _ => false) || (w.cps.toList.all digC && decide (2 < w.cps.toList.length))
def tokB (t : Tok) : Bool := (decide (t.1 = "number") && decide (t.2 ∈ nums)) || (decide (t.1 = "word") && wordB t.2) || (decide (t.1 = "sign") && signB t.2) || (decide (t.1 = "bad") && badB t.2)
theorem wordB_ok {w : Str} (h : wordB w = true) : Wk "word" w := by
  unfold wordB at h
  split at h
  · cases h
  · rename_i c r e
    simp only [Bool.and_eq_true, decide_eq_true_eq] at h
    exact .word e h.1.1 h.1.2 h.2
theorem one_of {w : Str} {c : Nat} (h : w.cps.toList = [c]) : w = ⟨#[c]⟩ := tl_inj h
theorem tokB_ok {t : Tok} (h : tokB t = true) : TOk t := by
  obtain ⟨k, w⟩ := t
  unfold TOk
  simp only [tokB, Bool.or_eq_true, Bool.and_eq_true, decide_eq_true_eq] at h
  rcases h with ((⟨rfl, h⟩ | ⟨rfl, h⟩) | ⟨rfl, h⟩) | ⟨rfl, h⟩
  · exact .num h
  · exact wordB_ok h
  · unfold signB at h
    split at h
    · rename_i c e
      exact .sign (one_of e) (of_decide_eq_true h)
    · cases h
  · unfold badB at h
    rw [Bool.or_eq_true] at h
    rcases h with h | h
    · split at h
      · rename_i c e
        simp only [Bool.and_eq_true, Bool.not_eq_true', decide_eq_true_eq, decide_eq_false_iff_not] at h
        exact .bads (one_of e) h.1.1.1.1 h.1.1.1.2 h.1.1.2 h.1.2 h.2
      · cases h
    · rw [Bool.and_eq_true, decide_eq_true_eq] at h
      exact .badn (fun z => by rw [z] at h; exact absurd h.2 (by decide)) h.1 h.2
theorem lev_out {l : Ln} : ∀ (n a : Nat), l.length ≤ a → levW l n a = (a, true)
  | 0, a, h => fac_none (List.getElem?_eq_none h)
  | n + 1, a, h => by
    rw [levW, lev_out n a h, if_neg (fun z => Bool.noConfusion z.1)]
def chkL (l : Ln) : Bool := l.all tokB && l.all (fun t => !decide (t.2 = "(")) && decide (l.length ≤ 4) && (List.range 4).all fun a => unOk l 1 a && (List.range 5).all fun n => stopW l n a
theorem goodL_of {l : Ln} (h : chkL l = true) : GoodL l := by
  simp only [chkL, Bool.and_eq_true, List.all_eq_true, Bool.not_eq_true', decide_eq_false_iff_not, decide_eq_true_eq, List.mem_range] at h
  obtain ⟨⟨⟨h1, h2⟩, h3⟩, h4⟩ := h
  refine ⟨⟨fun t ht => tokB_ok (h1 t ht), by omega⟩, h2, fun a => ?_, fun n a hn => ?_⟩
  · by_cases ha : a < 4
    · exact (h4 a ha).1
    · have e : l[a]? = none := List.getElem?_eq_none (by omega)
      unfold unOk
      rw [e]
  · by_cases ha : a < 4
    · exact (h4 a ha).2 n hn
    · unfold stopW
      rw [lev_out n a (by omega)]
      rfl
theorem exprs_ok : (goodE ++ badE).all chkL = true := by decide +kernel
theorem goodE_ok : goodE.all (fun l => decide (levW l 5 0 = (l.length, false))) = true := by decide +kernel
theorem badE_ok : badE.all (fun l => (levW l 5 0).2 || decide ((levW l 5 0).1 < l.length)) = true := by decide +kernel
theorem apart_E : badE.all (fun l => !decide (l ∈ goodE)) = true := by decide +kernel
end K10
set_option linter.all false
set_option maxRecDepth 100000
set_option maxHeartbeats 4000000
namespace K10
open PySem PySem.Spec PyProof.Rows L2
section
variable {P : Program} {w : World} {K : PySem.W.Frag} {mg : Str → Option Value} {base : Heap} {Ax : Ad}
local macro_rules | `(tactic| walk_at "wp") => `(tactic| simp only [tVar, tC, tOp, rI0, rI, rU, tUn, rEq, rNe, tTest, tB, tAnd, tOr, tNot, tAndV, tOrV, tNotV, tIf, tSeq, tNext, tAsg, gName, gSub, tDrop, tRet, tRetN, tIfS, tBreak, tCont, tAug, ipI, tCB, tCons, tNil,
  xTup, xLst, xIxL, xIxT, xIxS, xIxK, xLenL, xLenT, xLenS, xLenK, xSlL, xSlT, xSlS, xInL, xInT, xInK, xCat, xRep, xCatT, xTupL, xSetL, xIntS, xIntI, xIntB, xApp, xJoin, xSplit, xFld, xSetF, xAugF, tSl, tPart, tNoPart, xCall, xMeth, xMeth0, xMake, xRaise, xgT, xgL, gCons, gNil, xInD, xIxD, C8.tCut, xIsi, for_r1, for_r2, for_l, for_t, for_e, lc_xl, lc_xt, lc_xr, tM0, S,
  exists_eq_left, exists_eq_left', exists_and_left, V.int.injEq, V.ref.injEq, V.str.injEq, V.bl.injEq, consV, Option.some.injEq, HO.lst.injEq, HO.tup.injEq, HO.ins.injEq, and_true, true_and, List.getElem?_cons_zero, List.getElem?_cons_succ, List.set_cons_zero, List.set_cons_succ,
  if_true, if_false, Bool.false_eq_true, and_assoc, V.ty.injEq, isbI, isbS, kb1, kb2, kb3, kb4, kb5, kb6, kb7, kb8, kb9, reduceCtorEq, decide_false, decide_true, decide_eq_true_eq, Bool.not_eq_true', decide_eq_false_iff_not, Bool.not_true, Bool.not_false, ite_not, at0, at1, at2, at3, at4, ix0, ix1, fl_int, fl_str, fl_bl, fl_non, al_nil, al_cons, lenNil, len1, len2, len3, len4, sc_ii, sc_ss, sc_ns, sc_sn, sc_nn, sc_in, sc_si, sc_is, sc_bb, st_go])
local macro_rules | `(tactic| walk_at "wf") => `(tactic| simp only [*,
  exists_eq_left, exists_eq_left', exists_and_left, V.int.injEq, V.ref.injEq, V.str.injEq, V.bl.injEq, consV, Option.some.injEq, HO.lst.injEq, HO.tup.injEq, HO.ins.injEq, and_true, true_and, List.getElem?_cons_zero, List.getElem?_cons_succ, List.set_cons_zero, List.set_cons_succ,
  if_true, if_false, Bool.false_eq_true, and_assoc, V.ty.injEq, isbI, isbS, kb1, kb2, kb3, kb4, kb5, kb6, kb7, kb8, kb9, reduceCtorEq, decide_false, decide_true, decide_eq_true_eq, Bool.not_eq_true', decide_eq_false_iff_not, Bool.not_true, Bool.not_false, ite_not, at0, at1, at2, at3, at4, ix0, ix1, fl_int, fl_str, fl_bl, fl_non, al_nil, al_cons, lenNil, len1, len2, len3, len4, sc_ii, sc_ss, sc_ns, sc_sn, sc_nn, sc_in, sc_si, sc_is, sc_bb, st_go])
local macro_rules | `(tactic| walk_at "len") => `(tactic| (refine le_line ?_; simp only [List.length_cons, List.length_nil, List.length_append, List.length_map, List.map_nil, List.map_cons] <;> omega))
theorem EOk.good {l : Ln} (h : EOk l) : GoodL l := goodL_of (List.all_eq_true.mp exprs_ok l (List.mem_append.mpr h))
theorem EOk.short {l : Ln} (h : EOk l) : l.length ≤ 4 := by
  have q := List.all_eq_true.mp exprs_ok l (List.mem_append.mpr h)
  simp only [chkL, Bool.and_eq_true, decide_eq_true_eq] at q
  exact q.1.2
def spRE : Sp := fun vs H Q _ => ∃ (p : Addr) (l : Ln), vs = [.ref p] ∧ Pt H p l ∧ EOk l ∧ (l ∈ goodE → ∀ q H', Same H H' → Q (.ref q) H') ∧ (l ∈ badE → ∀ H', Same H H' → Q .non H')
theorem ok_read_expression (F : Df K mg "read_expression" s_read_expression ["parts"]) (T : Tx w K mg Ax) (R : RdT K Ax.rd) (M_Reader : Mq P w K mg base 1 "Reader" Ax.rd (spRdInit Ax.rd)) (G_level : Me P w K mg base L2.CX0 9 Ax.rd "level" (spLvl Ax.rd 5)) : Cl P w K mg base L2.CX0 10 "read_expression" spRE := by
  refine F.cl sc_read_expression (fun vs H Q E h => ?_) (fun f cdv A outer s H vs Q E hr h => ?_)
  · obtain ⟨_, _, rfl, _⟩ := h
    rfl
  · obtain ⟨p, l, rfl, hp, ok, k1, k0⟩ := h
    refine ⟨_, (pss_cons (ps_if (pt_cmpR op_gt (pe_callB len_l (by rfl) T.b_len PySem.boot_len (pa_cons (pv 0) pa_nil)) (C8.pe_gc (by rfl) T.v_MOST_TOKENS) (nomark _)) (pss_one (ps_ret pe_non)) pss_nil)
  (pss_cons (ps_set (i := 1) sc_read_expression.nd rfl (Or.inl rfl) (px_mk M_Reader hr (by omega) (by rfl) (pa_cons (pv 0) pa_nil)))
  (pss_cons (ps_set (i := 2) sc_read_expression.nd rfl (Or.inl rfl) (px_m G_level hr (by omega) (pv 1) (pa_cons pe_int pa_nil)))
  (pss_cons (ps_if (PW.pt (pw_or (pt_val (px_fld (pv 1) rfl)) (pw_or1 (pt_cmpR op_lt (px_fld (pv 1) rfl) (pe_callB len_l (by rfl) T.b_len PySem.boot_len (pa_cons (pv 0) pa_nil)) (nomark _))))) (pss_one (ps_ret pe_non)) pss_nil)
  (pss_one (ps_ret (pv 2))))))), ?_⟩
    rw [show L2.start N_read_expression [V.ref p] = [some (.ref p), none, none] from rfl]
    walk_at "wp"
    have sh := ok.short
    obtain ⟨ws, hws, rp⟩ := id hp
    have lw : ws.length = l.length := by rw [rp.len, List.length_map]
    refine ⟨_, hws, ?_⟩
    rw [if_neg (by omega)]
    intro x dx H1 nx nd
    have hp1 := hp.same nx.kp
    refine ⟨x, p, dx, rfl, nx.at_, fun H2 kp2 h2 => ⟨rfl, ?_⟩⟩
    have s2 : Same H H2 := fun b o e => kp2 b o (ne_of_none e nx.fr) (nx.kp b o e)
    refine ⟨_, _, h2, rfl, x, dx, p, 0, l, rfl, h2, hp.same s2, ok.good, fun q H3 kp3 h3 => ?_⟩
    have s3 : Same H H3 := fun b o e => kp3 b o (ne_of_none e nx.fr) (s2 b o e)
    have hws3 := s3 _ _ hws
    rcases ok with g | b
    · have e := of_decide_eq_true (List.all_eq_true.mp goodE_ok l g)
      rw [e] at h3
      refine fld_ h3 R.c (R.n _ (by decide +kernel)) rfl ⟨_, rfl, ?_⟩
      rw [if_neg (fun z => Bool.noConfusion z)]
      refine fld_ h3 R.c (R.n _ (by decide +kernel)) rfl ⟨_, hws3, _, rfl, ?_⟩
      rw [if_neg (by dsimp only; omega)]
      exact k1 g q H3 s3
    · have e := List.all_eq_true.mp badE_ok l b
      rw [Bool.or_eq_true, decide_eq_true_eq] at e
      refine fld_ h3 R.c (R.n _ (by decide +kernel)) rfl ⟨_, rfl, ite2 (fun _ => k0 b H3 s3) (fun c => ?_)⟩
      refine fld_ h3 R.c (R.n _ (by decide +kernel)) rfl ⟨_, hws3, _, rfl, ?_⟩
      have e2 : (levW l 5 0).1 < l.length := e.resolve_left c
      rw [if_pos (by omega)]
      exact k0 b H3 s3
/-! ### _with_tree -/
def spWT : Sp := fun vs H Q _ => ∃ (h p : Addr) (l : Ln) (hs : List V), vs = [.ref h, .ref p] ∧ H h = some (.tup hs) ∧ hs ≠ [] ∧ hs.length ≤ 10 ∧ Pt H p l ∧ EOk l ∧ (l ∈ goodE → ∀ q u H', Same H H' → H' q = some (.tup (hs ++ [.ref u])) → Q (.ref q) H') ∧ (l ∈ badE → ∀ H', Same H H' → Q .non H')
theorem ok_with_tree (F : Df K mg "_with_tree" s_with_tree ["head", "parts"]) (T : Tx w K mg Ax) (G_read_expression : Cl P w K mg base L2.CX0 10 "read_expression" spRE) : Cl P w K mg base L2.CX0 11 "_with_tree" spWT := by
  refine F.cl sc_with_tree (fun vs H Q E h => ?_) (fun f cdv A outer s H vs Q E hr h => ?_)
  · obtain ⟨_, _, _, _, rfl, _⟩ := h
    rfl
  · obtain ⟨h, p, l, hs, rfl, hh, hne, hlen, hp, ok, k1, k0⟩ := h
    refine ⟨_, (pss_cons (ps_set (i := 2) sc_with_tree.nd rfl (Or.inl rfl) (px_c G_read_expression hr (by omega) (by rfl) (pa_cons (pv 1) pa_nil)))
  (pss_cons (ps_if (pt_cmpR op_isN (pv 2) pe_non (nomark _)) (pss_one (ps_ret pe_non)) pss_nil)
  (pss_one (ps_ret (pe_op cat_t (pv 0) (px_tup (pa_cons (pv 2) pa_nil))))))), ?_⟩
    rw [show L2.start N_with_tree [V.ref h, V.ref p] = [some (.ref h), some (.ref p), none] from rfl]
    walk_at "wp"
    refine ⟨p, l, rfl, hp, ok, fun g q H1 s1 q2 H2 n2 => ⟨_, rfl, _, n2.kp _ _ (s1 _ _ hh), _, n2.at_, hne, by simp, le_line ?_, fun q3 H3 n3 => k1 g q3 q H3 ((s1.trans n2.kp).trans n3.kp) n3.at_⟩, fun b H1 s1 => k0 b H1 s1⟩
    rw [List.length_singleton]
    omega
/-! ### slices of token lists -/
theorem cutV_pre (xs : List V) (k : Nat) : cutV xs none (some (k : Int)) = xs.take k := by
  unfold cutV
  rw [HT.sIx_nat, HT.sIx_none, List.drop_zero, Nat.sub_zero]
  by_cases h : k ≤ xs.length
  · rw [Nat.min_eq_left h]
  · rw [Nat.min_eq_right (by omega), List.take_length, List.take_of_length_le (by omega)]
theorem cutV_suf (xs : List V) (k : Nat) : cutV xs (some (k : Int)) none = xs.drop k := by
  unfold cutV
  rw [HT.sIx_nat, HT.sIx_none]
  by_cases h : k ≤ xs.length
  · rw [Nat.min_eq_left h, List.take_of_length_le (by rw [List.length_drop]; exact Nat.le_refl _)]
  · rw [Nat.min_eq_right (by omega), List.drop_length, List.drop_of_length_le (by omega), List.take_nil]
theorem Rps.take {H : Hp} {vs : List V} {ds : List D} (r : Rps H vs ds) (k : Nat) : Rps H (vs.take k) (ds.take k) := by
  refine ⟨by rw [List.length_take, List.length_take, r.1], fun i v d h1 h2 => ?_⟩
  rw [List.getElem?_take] at h1 h2
  by_cases q : i < k
  · rw [if_pos q] at h1 h2
    exact r.2 i v d h1 h2
  · rw [if_neg q] at h1
    cases h1
theorem Rps.drop {H : Hp} {vs : List V} {ds : List D} (r : Rps H vs ds) (k : Nat) : Rps H (vs.drop k) (ds.drop k) := by
  refine ⟨by rw [List.length_drop, List.length_drop, r.1], fun i v d h1 h2 => ?_⟩
  rw [List.getElem?_drop] at h1 h2
  exact r.2 _ v d h1 h2
theorem pre_ {H : Hp} {p : Addr} {l : Ln} {k : Nat} {R : VK} (hp : Pt H p l) (c : ∀ q H', Same H H' → Pt H' q (l.take k) → R (.ref q) H') : ∃ xs, H p = some (.lst xs) ∧ nw (.lst (cutV xs none (some (k : Int)))) H R := by
  obtain ⟨ws, h, r⟩ := hp
  refine ⟨ws, h, fun q H1 n => c q H1 n.kp ⟨_, n.at_, ?_⟩⟩
  rw [cutV_pre, List.map_take]
  exact (r.tk (.of n.kp)).take k
theorem suf_ {H : Hp} {p : Addr} {l : Ln} {k : Nat} {R : VK} (hp : Pt H p l) (c : ∀ q H', Same H H' → Pt H' q (l.drop k) → R (.ref q) H') : ∃ xs, H p = some (.lst xs) ∧ nw (.lst (cutV xs (some (k : Int)) none)) H R := by
  obtain ⟨ws, h, r⟩ := hp
  refine ⟨ws, h, fun q H1 n => c q H1 n.kp ⟨_, n.at_, ?_⟩⟩
  rw [cutV_suf, List.map_drop]
  exact (r.tk (.of n.kp)).drop k
theorem wt_ {H : Hp} {p : Addr} {l : Ln} {k : Nat} {hs : List V} {R : VK} {E : XK} (hp : Pt H p l) (h1 : hs ≠ []) (h2 : hs.length ≤ 10) (ok : EOk (l.drop k)) (c1 : l.drop k ∈ goodE → ∀ q u H', Same H H' → H' q = some (.tup (hs ++ [.ref u])) → R (.ref q) H') (c0 : l.drop k ∉ goodE → ∀ H', Same H H' → R .non H') :
    nw (.tup hs) H fun x H1 => ∃ xs, H1 p = some (.lst xs) ∧ nw (.lst (cutV xs (some (k : Int)) none)) H1 fun y H2 => spWT [x, y] H2 R E := fun q H1 n =>
  suf_ (hp.same n.kp) fun q2 H2 s2 hp2 => ⟨q, q2, l.drop k, hs, rfl, s2 _ _ n.at_, h1, h2, hp2, ok, fun g q3 u H3 s3 h3 => c1 g q3 u H3 ((n.kp.trans s2).trans s3) h3, fun b H3 s3 => c0 (of_decide_eq_false (by
    have h := List.all_eq_true.mp apart_E _ b
    simpa using h)) H3 ((n.kp.trans s2).trans s3)⟩
/-! ### _instruction -/
def spInstr : Sp := fun vs H Q _ => ∃ (p : Addr) (l : Ln), vs = [.ref p] ∧ Pt H p l ∧ LOk l ∧ InsPre l ∧ (insT l = none → ∀ H', Same H H' → Q .non H') ∧ ∀ i, insT l = some i → ∀ v H', Same H H' → IAr H' v i → Q v H'
theorem ok_instruction (F : Df K mg "_instruction" s_instruction ["parts"]) (T : Tx w K mg Ax) (G_fits : Cl P w K mg base L2.CX0 1 "_fits" spFits) (G_simple : Cl P w K mg base L2.CX0 2 "_simple" spSimple) (G_with_tree : Cl P w K mg base L2.CX0 11 "_with_tree" spWT) : Cl P w K mg base L2.CX0 12 "_instruction" spInstr := by
  refine F.cl sc_instruction (fun vs H Q E h => ?_) (fun f cdv A outer s H vs Q E hr h => ?_)
  · obtain ⟨_, _, rfl, _⟩ := h
    rfl
  · obtain ⟨p, l, rfl, hp, ok, ip, k0, k1⟩ := h
    refine ⟨_, (pss_cons (ps_setLc (i := 1) (own := [("part", 2)]) (g := gName 2) rfl sc_instruction.nd rfl rfl (sw_true rfl rfl rfl (by decide +kernel)) (pi_l (pv 0)) (blkOk_by (own := [("part", 2)]) (N := N_instruction) (sc := defScope s_instruction) (by decide +kernel)) (fun _ _ _ _ _ => pg_name (i := 2) sc_instruction.nd rfl (Or.inl rfl)) (fun _ _ _ _ _ => pts_mo pts_nil) (fun _ _ _ _ _ => pe_mo (pe_ix ix_t (pv 2) pe_int (fun _ _ => rfl))))
  (pss_cons (ps_set (i := 3) sc_instruction.nd rfl (Or.inl rfl) (px_c G_simple hr (by omega) (by rfl) (pa_cons (pv 0) pa_nil)))
  (pss_cons (ps_if (pt_cmpR op_notN (pv 3) pe_non (nomark _)) (pss_one (ps_ret (pv 3))) pss_nil)
  (pss_cons (ps_if (pt_val (px_c G_fits hr (by omega) (by rfl) (pa_cons (pe_slice sl_l (pv 0) po_none (po_some pe_int)) (pa_cons (px_tup (pa_cons pe_str (pa_cons pe_str (pa_cons pe_str pa_nil)))) pa_nil)))) (pss_one (ps_ret (px_c G_with_tree hr (by omega) (by rfl) (pa_cons (px_tup (pa_cons pe_str (pa_cons (pe_ix ix_l (pv 1) pe_int (fun _ _ => rfl)) pa_nil))) (pa_cons (pe_slice sl_l (pv 0) (po_some pe_int) po_none) pa_nil))))) pss_nil)
  (pss_cons (ps_if (pt_val (px_c G_fits hr (by omega) (by rfl) (pa_cons (pe_slice sl_l (pv 0) po_none (po_some pe_int)) (pa_cons (px_tup (pa_cons pe_str (pa_cons pe_str (pa_cons pe_str pa_nil)))) pa_nil)))) (pss_one (ps_ret (px_c G_with_tree hr (by omega) (by rfl) (pa_cons (px_tup (pa_cons pe_str (pa_cons (pe_callTy int_s (by rfl) T.b_int (by decide +kernel) (pa_cons (pe_ix ix_l (pv 1) pe_int (fun _ _ => rfl)) pa_nil)) pa_nil))) (pa_cons (pe_slice sl_l (pv 0) (po_some pe_int) po_none) pa_nil))))) pss_nil)
  (pss_cons (ps_if (pt_cmpR op_eq (pe_ix ix_l (pv 1) pe_int (fun _ _ => rfl)) pe_str (nomark _)) (pss_one (ps_ret (px_c G_with_tree hr (by omega) (by rfl) (pa_cons (px_tup (pa_cons pe_str pa_nil)) (pa_cons (pe_slice sl_l (pv 0) (po_some pe_int) po_none) pa_nil))))) pss_nil)
  (pss_cons (ps_for PassesOwn.never rfl (pi_t (px_tup (pa_cons pe_str (pa_cons pe_str (pa_cons pe_str pa_nil))))) (pg_name (i := 4) sc_instruction.nd rfl (Or.inl rfl))
    (pss_one (ps_if (pt_val (px_c G_fits hr (by omega) (by rfl) (pa_cons (pe_slice sl_l (pv 0) po_none (po_some pe_int)) (pa_cons (px_tup (pa_cons (pv 4) (pa_cons pe_str pa_nil))) pa_nil)))) (pss_one (ps_ret (px_c G_with_tree hr (by omega) (by rfl) (pa_cons (px_tup (pa_cons (pv 4) (pa_cons (pe_ix ix_l (pv 1) pe_int (fun _ _ => rfl)) pa_nil))) (pa_cons (pe_slice sl_l (pv 0) (po_some pe_int) po_none) pa_nil))))) pss_nil)))
  (pss_one (ps_ret pe_non))))))))), ?_⟩
    rw [show L2.start N_instruction [V.ref p] = [some (.ref p), none, none, none, none] from rfl]
    walk_at "wp"
    have hl := ok.sz
    refine lc_texts hp (by omega) (fun x => rfl) (fun x => rfl) fun D H1 nD s1 hD => ?_
    have hp1 := hp.same s1
    have fin : ∀ {H2 : Hp} {i : IA} {v : V}, insT l = some i → Same H1 H2 → IAr H2 v i → Q v H2 := fun h s2 r => k1 _ h _ _ (s1.trans s2) r
    refine ⟨p, l, rfl, hp1, ok, fun e0 H2 s2 => ?_, fun i e0 v H2 s2 hv => ?_⟩
    · have x0 : ∀ {o : Option IA}, (simpleT l = none → insT l = o) → insT l = o := fun h => h e0
      have hp2 := hp1.same s2
      refine pre_ (k := 3) hp2 fun q3 H3 s3 hq3 => ?_
      have s3' := s2.trans s3
      have l3 : (l.take 3).length ≤ 100 := by
        rw [List.length_take]
        omega
      have l2 : (l.take 2).length ≤ 100 := by
        rw [List.length_take]
        omega
      refine fit_ (f := ["let", "REGISTER", "="]) hq3 l3 (by decide +kernel) fun H4 s4 => ⟨_, rfl, ite2 (fun c1 => ?_) (fun c1 => ?_)⟩
      · have s4' := s3'.trans s4
        have h4 : (l.take 3).length = 3 := (fits_at c1).1
        rw [List.length_take] at h4
        have ei : insT l = expT (l.drop 3) (.ot "let") := by simp only [insT, e0, c1, if_true]
        refine ⟨D, rfl, _, s4' _ _ hD, _, atx (i := 1) (by omega), wt_ (k := 3) (hp1.same s4') (by simp) (by simp) (ip.e1 e0 c1) (fun g q u H5 s5 h5 => fin (i := .ot "let") (by rw [ei, expT, if_pos g]) (s4'.trans s5) ⟨q, _, rfl, h5, by decide +kernel, _, rfl⟩) (fun g H5 s5 => k0 (by rw [ei, expT, if_neg g]) H5 (s1.trans (s4'.trans s5)))⟩
      have s4' := s3'.trans s4
      have c1' := Bool.eq_false_iff.mpr c1
      refine pre_ (k := 3) (hp1.same s4') fun q5 H5 s5 hq5 => ?_
      have s5' := s4'.trans s5
      refine fit_ (f := ["go", "NUMBER", "if"]) hq5 l3 (by decide +kernel) fun H6 s6 => ⟨_, rfl, ite2 (fun c2 => ?_) (fun c2 => ?_)⟩
      · have s6' := s5'.trans s6
        have h4 : (l.take 3).length = 3 := (fits_at c2).1
        rw [List.length_take] at h4
        have ei : insT l = expT (l.drop 3) (.go (numI (tx l 1))) := by simp only [insT, e0, c1, c2, if_true, if_false, Bool.false_eq_true]
        obtain ⟨n1, n2⟩ := num_at (i := 1) (fun t ht => ok.tk t (List.mem_of_mem_take ht)) c2 rfl
        have et : tx (l.take 3) 1 = tx l 1 := by
          unfold tx
          rw [List.map_take, List.getD_eq_getElem?_getD, List.getD_eq_getElem?_getD, List.getElem?_take]
          rfl
        rw [et] at n1 n2
        refine ⟨D, rfl, _, s6' _ _ hD, _, atx (i := 1) (by omega), _, rfl, _, n1, n2, wt_ (k := 3) (hp1.same s6') (by simp) (by simp) (ip.e2 e0 c1' c2) (fun g q u H7 s7 h7 => fin (i := .go (numI (tx l 1))) (by rw [ei, expT, if_pos g]) (s6'.trans s7) ⟨q, _, rfl, h7, _, rfl⟩) (fun g H7 s7 => k0 (by rw [ei, expT, if_neg g]) H7 (s1.trans (s6'.trans s7)))⟩
      have s6' := s5'.trans s6
      have c2' := Bool.eq_false_iff.mpr c2
      have hpos : 0 < l.length := List.length_pos_iff.mpr ip.ne
      refine ⟨D, rfl, _, s6' _ _ hD, _, atx (i := 0) hpos, rfl, ite2 (fun c3 => ?_) (fun c3 => ?_)⟩
      · have c3' : tx l 0 = "check" := V.str.inj c3
        have ei : insT l = expT (l.drop 1) (.ot "check") := by simp only [insT, e0, c1, c2, c3', if_true, if_false, Bool.false_eq_true]
        exact wt_ (k := 1) (hp1.same s6') (by simp) (by simp) (ip.e3 e0 c1' c2' c3') (fun g q u H7 s7 h7 => fin (i := .ot "check") (by rw [ei, expT, if_pos g]) (s6'.trans s7) ⟨q, _, rfl, h7, by decide +kernel, _, rfl⟩) (fun g H7 s7 => k0 (by rw [ei, expT, if_neg g]) H7 (s1.trans (s6'.trans s7)))
      have c3' : ¬ tx l 0 = "check" := fun z => c3 (by rw [z])
      intro pw H7 n7
      have s7' := s6'.trans n7.kp
      have hw7 : H7 pw = some (.tup ((["put", "add", "send"] : List Str).map V.str)) := n7.at_
      refine ⟨pw, rfl, ⟨_, hw7⟩, lp_t (xs := (["put", "add", "send"] : List Str).map V.str) (fun i σ H' => (∃ v4, σ = [some (.ref p), some (.ref D), none, some .non, v4]) ∧ Same H7 H' ∧ ∀ (j : Nat) (w : Str), j < i → (["put", "add", "send"] : List Str)[j]? = some w → fitsT (l.take 2) [w, "WORD"] = false)
        ⟨⟨_, rfl⟩, Same.refl _, fun j w h => absurd h (Nat.not_lt_zero j)⟩ (fun i σ H' h => h.2.1 _ _ hw7) ?_ ?_⟩
      · rintro i x σ H8 hx ⟨⟨v4, rfl⟩, s8, hall⟩
        rw [List.getElem?_map] at hx
        obtain ⟨w, hw, rfl⟩ := Option.map_eq_some_iff.mp hx
        have s8' := s7'.trans s8
        walk_at "wp"
        refine pre_ (k := 2) (hp1.same s8') fun q9 H9 s9 hq9 => ?_
        have s9' := s8'.trans s9
        refine fit_ (f := [w, "WORD"]) hq9 l2 ?_ fun H10 s10 => ⟨_, rfl, ite2 (fun c4 => ?_) (fun c4 => ⟨⟨_, rfl⟩, (s8.trans s9).trans s10, fun j w' hj hw' => ?_⟩)⟩
        · have all : ∀ w ∈ (["put", "add", "send"] : List Str), ([w, "WORD"] : List Str).all (fun x => decide (x.length ≤ 100)) = true := by decide +kernel
          exact all w (List.mem_of_getElem? hw)
        · have s10' := s9'.trans s10
          have h4 : (l.take 2).length = 2 := (fits_at c4).1
          rw [List.length_take] at h4
          have lits : ∀ w ∈ (["put", "add", "send"] : List Str), w ∈ othK := by decide +kernel
          have ei : insT l = expT (l.drop 2) (.nm w (tx l 1)) := by
            match i, hw, hall with
            | 0, hw, hall =>
              cases Option.some.inj hw
              simp only [insT, e0, c1, c2, c3', c4, if_true, if_false, Bool.false_eq_true]
            | 1, hw, hall =>
              cases Option.some.inj hw
              have h0 := hall 0 _ (by decide) rfl
              simp only [insT, e0, c1, c2, c3', c4, h0, if_true, if_false, Bool.false_eq_true]
            | 2, hw, hall =>
              cases Option.some.inj hw
              have h0 := hall 0 _ (by decide) rfl
              have h1 := hall 1 _ (by decide) rfl
              simp only [insT, e0, c1, c2, c3', c4, h0, h1, if_true, if_false, Bool.false_eq_true]
            | i + 3, hw, hall => cases hw
          exact ⟨_, s10' _ _ hD, _, atx (i := 1) (by omega), wt_ (k := 2) (hp1.same s10') (by simp) (by simp) (ip.e4 e0 w (List.mem_of_getElem? hw) c4) (fun g q u H11 s11 h11 => fin (i := .nm w (tx l 1)) (by rw [ei, expT, if_pos g]) (s10'.trans s11) ⟨q, _, rfl, h11, .inr ⟨lits w (List.mem_of_getElem? hw), _, rfl⟩⟩)
            (fun g H11 s11 => k0 (by rw [ei, expT, if_neg g]) H11 (s1.trans (s10'.trans s11)))⟩
        · by_cases e : j = i
          · subst e
            rw [hw] at hw'
            cases hw'
            exact Bool.eq_false_iff.mpr c4
          · exact hall j w' (by omega) hw'
      · rintro σ H8 ⟨⟨v4, rfl⟩, s8, hall⟩
        have g1 := hall 0 _ (by decide) rfl
        have g2 := hall 1 _ (by decide) rfl
        have g3 := hall 2 _ (by decide) rfl
        walk_at "wp"
        exact k0 (by simp only [insT, e0, c1, c2, c3', g1, g2, g3, if_false, Bool.false_eq_true]) H8 (s1.trans (s7'.trans s8))
    · obtain ⟨q, vs, rfl, hq, hi⟩ := hv
      rw [if_neg (fun z => by cases z)]
      refine fin (i := i) ?_ s2 ⟨q, vs, rfl, hq, hi⟩
      unfold insT
      rw [e0]
end
end K10
set_option linter.all false
set_option maxRecDepth 100000
set_option maxHeartbeats 4000000
namespace K10
open PySem PySem.Spec PyProof.Rows L2
/-! ### the draft -/
def drF (L S Th : Addr) (i u : Bool) : List (Str × V) := [("lines", .ref L), ("shared", .ref S), ("threads", .ref Th), ("inside", .bl i), ("unclosed", .bl u)]
structure DrT (K : PySem.W.Frag) (C : Addr) : Prop where
  c : Cls K C
  n : ∀ f ∈ (["lines", "shared", "threads", "inside", "unclosed"] : List Str), NoAttr K C f
/-- the threads' lists -/
structure TsO (H0 H : Hp) (S Th : Addr) (ts : List V) (ns : List Nat) : Prop where
  len : ts.length = ns.length
  nd : ts.Nodup
  at_ : ∀ (i : Nat) (v : V) (n : Nat), ts[i]? = some v → ns[i]? = some n → ∃ q xs, v = .ref q ∧ H q = some (.lst xs) ∧ xs.length = n ∧ H0 q = none ∧ q ≠ S ∧ q ≠ Th
/-- the draft at a; H0: the heap ahead of it -/
structure DrO (C : Addr) (H0 H : Hp) (a dx L S Th : Addr) (st : DS) : Prop where
  sm : Same H0 H
  na : H0 a = none
  nS : H0 S = none
  nT : H0 Th = none
  st' : S ≠ Th
  ob : H a = some (.ins C dx (drF L S Th st.ins st.unc))
  sh : ∃ ws, H S = some (.lst ws) ∧ Rps H ws (st.sh.map thD)
  th : ∃ ts, H Th = some (.lst ts) ∧ TsO H0 H S Th ts st.th
  l1 : st.sh.length ≤ 6
  l2 : st.th.length ≤ 4
  l3 : ∀ n ∈ st.th, n ≤ 12
theorem DrO.same {C : Addr} {H0 H H' : Hp} {a dx L S Th : Addr} {st : DS} (d : DrO C H0 H a dx L S Th st) (s : Same H H') : DrO C H0 H' a dx L S Th st := by
  obtain ⟨ws, h1, h2⟩ := d.sh
  obtain ⟨ts, h3, h4⟩ := d.th
  refine ⟨d.sm.trans s, d.na, d.nS, d.nT, d.st', s _ _ d.ob, ⟨ws, s _ _ h1, h2.tk (.of s)⟩, ⟨ts, s _ _ h3, h4.len, h4.nd, fun i v n e1 e2 => ?_⟩, d.l1, d.l2, d.l3⟩
  obtain ⟨q, xs, rfl, h, r⟩ := h4.at_ i v n e1 e2
  exact ⟨q, xs, rfl, s _ _ h, r⟩
/-- lines of tokens -/
def LnsO (H : Hp) (L : Addr) (ls : List Ln) : Prop := ∃ vs, H L = some (.lst vs) ∧ vs.length = ls.length ∧ ∀ (i : Nat) (v : V) (l : Ln), vs[i]? = some v → ls[i]? = some l → ∃ p, v = .ref p ∧ Pt H p l
theorem LnsO.same {H H' : Hp} {L : Addr} {ls : List Ln} (h : LnsO H L ls) (s : Same H H') : LnsO H' L ls := by
  obtain ⟨vs, h1, h2, h3⟩ := h
  refine ⟨vs, s _ _ h1, h2, fun i v l e1 e2 => ?_⟩
  obtain ⟨p, e, t⟩ := h3 i v l e1 e2
  exact ⟨p, e, t.same s⟩
theorem LnsO.at_ {H : Hp} {L : Addr} {ls : List Ln} (h : LnsO H L ls) {i : Nat} {l : Ln} (e : ls[i]? = some l) : ∃ vs p, H L = some (.lst vs) ∧ vs[i]? = some (.ref p) ∧ Pt H p l := by
  obtain ⟨vs, h1, h2, h3⟩ := h
  have hi : i < vs.length := by rw [h2]; exact (List.getElem?_eq_some_iff.mp e).1
  obtain ⟨p, hp, t⟩ := h3 i _ l (List.getElem?_eq_getElem hi) e
  exact ⟨vs, p, h1, by rw [List.getElem?_eq_getElem hi, hp], t⟩
theorem find_go {α : Type} {p : α → Bool} : ∀ {l : List α} {i : Nat} {x : α}, l[i]? = some x → p x = true → (∀ (j : Nat) (y : α), j < i → l[j]? = some y → p y = false) → l.find? p = some x
  | [], i, x, h, _, _ => by cases h
  | a :: l, 0, x, h, hp, _ => by
    cases Option.some.inj h
    rw [List.find?_cons, hp]
  | a :: l, i + 1, x, h, hp, hn => by
    rw [List.find?_cons, hn 0 a (Nat.succ_pos i) rfl]
    exact find_go (l := l) (i := i) h hp fun j y hj hy => hn (j + 1) y (by omega) hy
theorem thr_ok : LOk thr := ⟨fun t ht => by rw [List.mem_singleton.mp ht]; exact tokB_ok (by decide +kernel), by decide⟩
section
variable {P : Program} {w : World} {K : PySem.W.Frag} {mg : Str → Option Value} {base : Heap} {Ax : Ad}
local macro_rules | `(tactic| walk_at "wp") => `(tactic| simp only [tVar, tC, tOp, rI0, rI, rU, tUn, rEq, rNe, tTest, tB, tAnd, tOr, tNot, tAndV, tOrV, tNotV, tIf, tSeq, tNext, tAsg, gName, gSub, tDrop, tRet, tRetN, tIfS, tBreak, tCont, tAug, ipI, tCB, tCons, tNil,
  xTup, xLst, xIxL, xIxT, xIxS, xIxK, xLenL, xLenT, xLenS, xLenK, xSlL, xSlT, xSlS, xInL, xInT, xInK, xCat, xRep, xCatT, xTupL, xSetL, xIntS, xIntI, xIntB, xApp, xJoin, xSplit, xFld, xSetF, xAugF, tSl, tPart, tNoPart, xCall, xMeth, xMeth0, xMake, xRaise, xgT, xgL, gCons, gNil, xInD, xIxD, C8.tCut, xIsi, for_r1, for_r2, for_l, for_t, for_e, lc_xl, lc_xt, lc_xr, tM0, S,
  exists_eq_left, exists_eq_left', exists_and_left, V.int.injEq, V.ref.injEq, V.str.injEq, V.bl.injEq, consV, Option.some.injEq, HO.lst.injEq, HO.tup.injEq, HO.ins.injEq, and_true, true_and, List.getElem?_cons_zero, List.getElem?_cons_succ, List.set_cons_zero, List.set_cons_succ,
  if_true, if_false, Bool.false_eq_true, and_assoc, V.ty.injEq, isbI, isbS, kb1, kb2, kb3, kb4, kb5, kb6, kb7, kb8, kb9, reduceCtorEq, decide_false, decide_true, decide_eq_true_eq, Bool.not_eq_true', decide_eq_false_iff_not, Bool.not_true, Bool.not_false, ite_not, at0, at1, at2, at3, at4, ix0, ix1, fl_int, fl_str, fl_bl, fl_non, al_nil, al_cons, lenNil, len1, len2, len3, len4, sc_ii, sc_ss, sc_ns, sc_sn, sc_nn, sc_in, sc_si, sc_is, sc_bb, st_go])
local macro_rules | `(tactic| walk_at "wf") => `(tactic| simp only [*,
  exists_eq_left, exists_eq_left', exists_and_left, V.int.injEq, V.ref.injEq, V.str.injEq, V.bl.injEq, consV, Option.some.injEq, HO.lst.injEq, HO.tup.injEq, HO.ins.injEq, and_true, true_and, List.getElem?_cons_zero, List.getElem?_cons_succ, List.set_cons_zero, List.set_cons_succ,
  if_true, if_false, Bool.false_eq_true, and_assoc, V.ty.injEq, isbI, isbS, kb1, kb2, kb3, kb4, kb5, kb6, kb7, kb8, kb9, reduceCtorEq, decide_false, decide_true, decide_eq_true_eq, Bool.not_eq_true', decide_eq_false_iff_not, Bool.not_true, Bool.not_false, ite_not, at0, at1, at2, at3, at4, ix0, ix1, fl_int, fl_str, fl_bl, fl_non, al_nil, al_cons, lenNil, len1, len2, len3, len4, sc_ii, sc_ss, sc_ns, sc_sn, sc_nn, sc_in, sc_si, sc_is, sc_bb, st_go])
local macro_rules | `(tactic| walk_at "len") => `(tactic| (refine le_line ?_; simp only [List.length_cons, List.length_nil, List.length_append, List.length_map, List.map_nil, List.map_cons] <;> omega))
/-- [("word", "thread")] -/
theorem thr_ {H : Hp} {R : VK} (k : ∀ q H', Same H H' → Pt H' q thr → R (.ref q) H') : nw (.tup [V.str "word", V.str "thread"]) H fun v H1 => nw (.lst [v]) H1 R :=
  fun p H1 n1 q H2 n2 => k q H2 (n1.kp.trans n2.kp) ⟨_, n2.at_, .cons (Rp.m2 (n2.kp _ _ n1.at_) (.str _) (.str _)) .nil⟩
def spDrInit (C : Addr) : Sp := fun vs H Q _ => ∃ a L dx, vs = [.ref a, .ref L] ∧ H a = some (.ins C dx []) ∧ ∀ H' S Th, KpA a H H' → H' a = some (.ins C dx (drF L S Th false false)) → H S = none → H Th = none → S ≠ Th → H' S = some (.lst []) → H' Th = some (.lst []) → Q .non H'
theorem ok_dr_init (F : Dk K mg "Draft" Ax.dr "Draft.__init__" s_Draft___init__ ["self", "lines"]) (T : Tx w K mg Ax) (R : DrT K Ax.dr) : Mq P w K mg base 1 "Draft" Ax.dr (spDrInit Ax.dr) := by
  refine F.mq sc_Draft___init__ (fun vs H Q E h => ?_) (fun f cdv A outer s H vs Q E hr h => ?_)
  · obtain ⟨_, _, _, rfl, _⟩ := h
    rfl
  · obtain ⟨a, L, dx, rfl, ha, q⟩ := h
    refine ⟨_, (pss_cons (px_setf (pv 0) (pv 1) rfl)
  (pss_cons (px_setf (pv 0) (px_lst pa_nil) rfl)
  (pss_cons (px_setf (pv 0) (px_lst pa_nil) rfl)
  (pss_cons (px_setf (pv 0) pe_bl rfl)
  (pss_one (px_setf (pv 0) pe_bl rfl)))))), ?_⟩
    rw [show L2.start N_Draft___init__ [V.ref a, V.ref L] = [some (.ref a), some (.ref L)] from rfl]
    walk_at "wp"
    refine setf_ ha R.c (R.n _ (by decide +kernel)) rfl fun H1 g1 S H2 n2 => ?_
    have aS : S ≠ a := fun e => by
      have h := n2.fr
      rw [e, g1.at_] at h
      cases h
    refine setf_ (n2.kp _ _ g1.at_) R.c (R.n _ (by decide +kernel)) rfl fun H3 g3 Th H4 n4 => ?_
    have h3S : H3 S = some (.lst []) := g3.kp S _ aS n2.at_
    have aT : Th ≠ a := fun e => by
      have h := n4.fr
      rw [e, g3.at_] at h
      cases h
    have TS : S ≠ Th := fun e => by
      have h := n4.fr
      rw [← e, h3S] at h
      cases h
    refine setf_ (n4.kp _ _ g3.at_) R.c (R.n _ (by decide +kernel)) rfl fun H5 g5 => setf_ g5.at_ R.c (R.n _ (by decide +kernel)) rfl fun H6 g6 => setf_ g6.at_ R.c (R.n _ (by decide +kernel)) rfl fun H7 g7 => ?_
    have k0 : KpA a H H2 := g1.kpA.trans (.of n2.kp)
    have k1 : KpA a H H4 := (k0.trans g3.kpA).trans (.of n4.kp)
    have k2 : KpA a H4 H7 := (g5.kpA.trans g6.kpA).trans g7.kpA
    have fr : ∀ {b : Addr} {H1 H2 : Hp}, b ≠ a → KpA a H1 H2 → H2 b = none → H1 b = none := fun {b H1 H2} hb hk hn => by
      cases e : H1 b with
      | none => rfl
      | some o => rw [hk b o hb e] at hn; cases hn
    exact q H7 S Th (k1.trans k2) g7.at_ (fr aS g1.kpA n2.fr) (fr aT (k0.trans g3.kpA) n4.fr) TS (k2 S _ aS (n4.kp _ _ h3S)) (k2 Th _ aT n4.at_)
/-! ### kind -/
def kindV (sh : List Th) (x : Str) : V := match kindOf sh x with | none => .non | some k => .str k
def spKind (C : Addr) : Sp := fun vs H Q _ => ∃ (a dx S : Addr) (fs : List (Str × V)) (sh : List Th) (x : Str) (ws : List V), vs = [.ref a, .str x] ∧ H a = some (.ins C dx fs) ∧ List.lookup ("shared" : Str) fs = some (.ref S) ∧ H S = some (.lst ws) ∧ Rps H ws (sh.map thD) ∧ Q (kindV sh x) H
theorem ok_dr_kind (F : Dm K Ax.dr "kind" "Draft.kind" s_Draft_kind ["self", "name"]) (T : Tx w K mg Ax) (R : DrT K Ax.dr) : Me P w K mg base L2.CX0 1 Ax.dr "kind" (spKind Ax.dr) := by
  refine F.me sc_Draft_kind (fun vs H Q E h => ?_) (fun f cdv A outer s H vs Q E hr h => ?_)
  · obtain ⟨_, _, _, _, _, _, _, rfl, _⟩ := h
    rfl
  · obtain ⟨a, dx, S, fs, sh, x, ws, rfl, ha, hS, hws, rp, q⟩ := h
    refine ⟨_, (pss_cons (ps_for PassesOwn.never rfl (pi_l (px_fld (pv 0) rfl)) (pg_name (i := 2) sc_Draft_kind.nd rfl (Or.inl rfl))
    (pss_one (ps_if (pt_cmpR op_eq (pe_ix ix_t (pv 2) pe_int (fun _ _ => rfl)) (pv 1) (nomark _)) (pss_one (ps_ret (pe_ix ix_t (pv 2) pe_int (fun _ _ => rfl)))) pss_nil)))
  (pss_one (ps_ret pe_non))), ?_⟩
    rw [show L2.start N_Draft_kind [V.ref a, V.str x] = [some (.ref a), some (.str x), none] from rfl]
    walk_at "wp"
    have lw : ws.length = sh.length := by rw [rp.len, List.length_map]
    refine fld_ ha R.c (R.n _ (by decide +kernel)) hS ⟨S, rfl, ⟨_, hws⟩, lp_l (xs := ws) (fun i σ H' => (∃ v2, σ = [some (.ref a), some (.str x), v2]) ∧ H' = H ∧ ∀ (j : Nat) (t : Th), j < i → sh[j]? = some t → decide (thN t = x) = false)
      ⟨⟨_, rfl⟩, rfl, fun j t h => absurd h (Nat.not_lt_zero j)⟩ (fun i σ H' h => by rw [h.2.1]; exact hws) ?_ ?_⟩
    · rintro i v σ H' hv ⟨⟨v2, rfl⟩, rfl, hall⟩
      obtain ⟨d, hd, rd⟩ := rp.at_ hv
      rw [List.getElem?_map] at hd
      obtain ⟨t, ht, rfl⟩ := Option.map_eq_some_iff.mp hd
      obtain ⟨p, l, rfl, hp⟩ := rp_th rd
      walk_at "wp"
      refine ⟨_, hp, _, at1, rfl, ite2 (fun c => ⟨_, hp, _, at0, ?_⟩) (fun c => ⟨⟨_, rfl⟩, fun j t' hj ht' => ?_⟩)⟩
      · have e : kindV sh x = .str (thK t) := by
          unfold kindV kindOf
          rw [find_go ht (decide_eq_true (V.str.inj c)) hall]
          rfl
        rw [e] at q
        exact q
      · by_cases e : j = i
        · subst e
          rw [ht] at ht'
          cases ht'
          exact fun z => c (by rw [z])
        · exact of_decide_eq_false (hall j t' (by omega) ht')
    · rintro σ H' ⟨⟨v2, rfl⟩, rfl, hall⟩
      walk_at "wp"
      have e : kindV sh x = .non := by
        unfold kindV kindOf
        rw [List.find?_eq_none.mpr (fun t ht => by
          obtain ⟨j, hj⟩ := List.mem_iff_getElem?.mp ht
          have := hall j t (by rw [lw]; exact (List.getElem?_eq_some_iff.mp hj).1) hj
          rw [this]
          exact Bool.false_ne_true)]
        rfl
      rw [e] at q
      exact q
end
end K10
set_option linter.all false
set_option maxRecDepth 100000
set_option maxHeartbeats 4000000
namespace K10
open PySem PySem.Spec PyProof.Rows L2
theorem tw_take {α : Type} {p : α → Bool} : ∀ {l : List α} {i : Nat}, (∀ (j : Nat) (x : α), j < i → l[j]? = some x → p x = true) → (∀ x, l[i]? = some x → p x = false) → l.takeWhile p = l.take i
  | [], i, _, _ => by simp
  | a :: l, 0, _, h0 => by
    rw [List.takeWhile_cons, h0 a rfl]
    rfl
  | a :: l, i + 1, h, h0 => by
    rw [List.takeWhile_cons, h 0 a (Nat.succ_pos i) rfl, if_pos rfl, List.take_succ_cons, tw_take (l := l) (i := i) (fun j x hj hx => h (j + 1) x (by omega) hx) (fun x hx => h0 x hx)]
section
variable {P : Program} {w : World} {K : PySem.W.Frag} {mg : Str → Option Value} {base : Heap} {Ax : Ad}
local macro_rules | `(tactic| walk_at "wp") => `(tactic| simp only [tVar, tC, tOp, rI0, rI, rU, tUn, rEq, rNe, tTest, tB, tAnd, tOr, tNot, tAndV, tOrV, tNotV, tIf, tSeq, tNext, tAsg, gName, gSub, tDrop, tRet, tRetN, tIfS, tBreak, tCont, tAug, ipI, tCB, tCons, tNil,
  xTup, xLst, xIxL, xIxT, xIxS, xIxK, xLenL, xLenT, xLenS, xLenK, xSlL, xSlT, xSlS, xInL, xInT, xInK, xCat, xRep, xCatT, xTupL, xSetL, xIntS, xIntI, xIntB, xApp, xJoin, xSplit, xFld, xSetF, xAugF, tSl, tPart, tNoPart, xCall, xMeth, xMeth0, xMake, xRaise, xgT, xgL, gCons, gNil, xInD, xIxD, C8.tCut, xIsi, for_r1, for_r2, for_l, for_t, for_e, lc_xl, lc_xt, lc_xr, tM0, S,
  exists_eq_left, exists_eq_left', exists_and_left, V.int.injEq, V.ref.injEq, V.str.injEq, V.bl.injEq, consV, Option.some.injEq, HO.lst.injEq, HO.tup.injEq, HO.ins.injEq, and_true, true_and, List.getElem?_cons_zero, List.getElem?_cons_succ, List.set_cons_zero, List.set_cons_succ,
  if_true, if_false, Bool.false_eq_true, and_assoc, V.ty.injEq, isbI, isbS, kb1, kb2, kb3, kb4, kb5, kb6, kb7, kb8, kb9, reduceCtorEq, decide_false, decide_true, decide_eq_true_eq, Bool.not_eq_true', decide_eq_false_iff_not, Bool.not_true, Bool.not_false, ite_not, at0, at1, at2, at3, at4, ix0, ix1, fl_int, fl_str, fl_bl, fl_non, al_nil, al_cons, lenNil, len1, len2, len3, len4, sc_ii, sc_ss, sc_ns, sc_sn, sc_nn, sc_in, sc_si, sc_is, sc_bb, st_go])
local macro_rules | `(tactic| walk_at "wf") => `(tactic| simp only [*,
  exists_eq_left, exists_eq_left', exists_and_left, V.int.injEq, V.ref.injEq, V.str.injEq, V.bl.injEq, consV, Option.some.injEq, HO.lst.injEq, HO.tup.injEq, HO.ins.injEq, and_true, true_and, List.getElem?_cons_zero, List.getElem?_cons_succ, List.set_cons_zero, List.set_cons_succ,
  if_true, if_false, Bool.false_eq_true, and_assoc, V.ty.injEq, isbI, isbS, kb1, kb2, kb3, kb4, kb5, kb6, kb7, kb8, kb9, reduceCtorEq, decide_false, decide_true, decide_eq_true_eq, Bool.not_eq_true', decide_eq_false_iff_not, Bool.not_true, Bool.not_false, ite_not, at0, at1, at2, at3, at4, ix0, ix1, fl_int, fl_str, fl_bl, fl_non, al_nil, al_cons, lenNil, len1, len2, len3, len4, sc_ii, sc_ss, sc_ns, sc_sn, sc_nn, sc_in, sc_si, sc_is, sc_bb, st_go])
local macro_rules | `(tactic| walk_at "len") => `(tactic| (refine le_line ?_; simp only [List.length_cons, List.length_nil, List.length_append, List.length_map, List.map_nil, List.map_cons] <;> omega))
def SzI (a n f : Nat) (H : Hp) (m : Nat) (σ : L2.St) (H' : Hp) : Prop := ∃ g : Nat, σ = [some (.ref a), some (.int n), some (.int g), none, none] ∧ Same H H' ∧ f ≤ g ∧ g ≤ n ∧ m = g - f
def spSize (C : Addr) : Sp := fun vs H Q _ => ∃ (a dx L : Addr) (fs : List (Str × V)) (ls : List Ln) (n f : Nat), vs = [.ref a, .int n] ∧ H a = some (.ins C dx fs) ∧ List.lookup ("lines" : Str) fs = some (.ref L) ∧ LnsO H L ls ∧ (∀ l ∈ ls, LOk l) ∧ f ≤ n ∧ ls[f]? = some thr ∧
  (∀ j, f < j → j ≤ n → ls[j]? ≠ some thr) ∧ n < ls.length ∧ ls.length ≤ 1000 ∧ ∀ H', Same H H' → Q (.int (cnt (ls.drop (f + 1)) : Nat)) H'
theorem ok_dr_size (F : Dm K Ax.dr "size" "Draft.size" s_Draft_size ["self", "at"]) (T : Tx w K mg Ax) (R : DrT K Ax.dr) : Me P w K mg base L2.CX0 1 Ax.dr "size" (spSize Ax.dr) := by
  refine F.me sc_Draft_size (fun vs H Q E h => ?_) (fun f cdv A outer s H vs Q E hr h => ?_)
  · obtain ⟨_, _, _, _, _, _, _, rfl, _⟩ := h
    rfl
  · obtain ⟨a, dx, L, fs, ls, n, f, rfl, ha, hL, hls, hok, hf, hthr, hno, hn, hll, k⟩ := h
    refine ⟨_, (pss_cons (ps_set (i := 2) sc_Draft_size.nd rfl (Or.inl rfl) (pv 1))
  (pss_cons (ps_while PassesOwn.never (pt_cmpR (op_neD (hu64 hr)) (pe_ix ix_l (px_fld (pv 0) rfl) (pv 2) (fun _ _ => rfl)) (px_lst (pa_cons (px_tup (pa_cons pe_str (pa_cons pe_str pa_nil))) pa_nil)) (nomark _))
    (pss_one (ps_aug (i := 2) sc_Draft_size.nd rfl (Or.inl rfl) pe_int ip_sub)))
  (pss_cons (ps_set (i := 3) sc_Draft_size.nd rfl (Or.inl rfl) pe_int)
  (pss_cons (ps_for PassesOwn.never rfl (pi_l (pe_slice sl_l (px_fld (pv 0) rfl) (po_some (pe_op op_add (pv 2) pe_int)) po_none)) (pg_name (i := 4) sc_Draft_size.nd rfl (Or.inl rfl))
    (pss_cons (ps_if (pt_cmpR (op_eqD (hu64 hr)) (pv 4) (px_lst (pa_cons (px_tup (pa_cons pe_str (pa_cons pe_str pa_nil))) pa_nil)) (nomark _)) (pss_one ps_break) pss_nil)
  (pss_one (ps_aug (i := 3) sc_Draft_size.nd rfl (Or.inl rfl) (pe_callTy int_b (by rfl) T.b_int (by decide +kernel) (pa_cons (pe_cmpR op_gt (pe_callB len_l (by rfl) T.b_len PySem.boot_len (pa_cons (pv 4) pa_nil)) pe_int (nomark _)) pa_nil)) ip_add))))
  (pss_one (ps_ret (pv 3))))))), ?_⟩
    rw [show L2.start N_Draft_size [V.ref a, V.int n] = [some (.ref a), some (.int n), none, none, none] from rfl]
    walk_at "wp"
    refine ⟨SzI a n f H, ⟨_, n, rfl, Same.refl _, hf, Nat.le_refl _, rfl⟩, ?_⟩
    rintro m σ H1 ⟨g, rfl, s1, hfg, hgn, rfl⟩
    walk_at "wp"
    have lt : g < ls.length := by omega
    have ha1 := s1 _ _ ha
    have hg : ls[g]? = some ls[g] := List.getElem?_eq_getElem lt
    obtain ⟨vs, p, hvs, hp, pt⟩ := (hls.same s1).at_ hg
    refine fld_ ha1 R.c (R.n _ (by decide +kernel)) hL ⟨_, rfl, _, hvs, _, atI_nat hp, thr_ fun q H2 s2 hq => ne_ln (pt.same s2) hq (hok _ (List.getElem_mem lt)) thr_ok ⟨_, rfl, ?_⟩⟩
    have s2' := s1.trans s2
    by_cases c : ls[g] = thr
    · have e : g = f := by
        by_cases e : g = f
        · exact e
        · exact absurd (by rw [hg, c]) (hno g (by omega) hgn)
      subst e
      rw [decide_eq_true c, Bool.not_true, if_neg (fun z => Bool.noConfusion z)]
      obtain ⟨vs2, hvs2, hlen, hat⟩ := hls.same s2'
      have ec : ((g : Nat) : Int) + 1 = ((g + 1 : Nat) : Int) := by omega
      refine fld_ (s2' _ _ ha) R.c (R.n _ (by decide +kernel)) hL ⟨_, rfl, _, hvs2, ?_⟩
      rw [ec, cutV_suf]
      intro z H3 n3
      have s3' := s2'.trans n3.kp
      have lz : H3 z = some (.lst (vs2.drop (g + 1))) := n3.at_
      have litem : ∀ (i : Nat) (v : V) (H' : Hp), Same H3 H' → (vs2.drop (g + 1))[i]? = some v → ∃ (l : Ln) (p : Addr), (ls.drop (g + 1))[i]? = some l ∧ v = .ref p ∧ Pt H' p l ∧ LOk l := fun i v H' s hv => by
        rw [List.getElem?_drop] at hv
        have hi : g + 1 + i < ls.length := by rw [← hlen]; exact (List.getElem?_eq_some_iff.mp hv).1
        obtain ⟨p, hp, t⟩ := hat _ _ _ hv (List.getElem?_eq_getElem hi)
        exact ⟨_, p, by rw [List.getElem?_drop]; exact List.getElem?_eq_getElem hi, hp, (t.same n3.kp).same s, hok _ (List.getElem_mem hi)⟩
      have llen : (vs2.drop (g + 1)).length = (ls.drop (g + 1)).length := by rw [List.length_drop, List.length_drop, hlen]
      refine ⟨z, rfl, ⟨_, lz⟩, lp_l (xs := vs2.drop (g + 1)) (fun i σ H' => (∃ v4, σ = [some (.ref a), some (.int n), some (.int g), some (.int ((((ls.drop (g + 1)).take i).filter fun l => decide (l ≠ [])).length : Nat)), v4]) ∧ Same H3 H' ∧ ∀ (j : Nat) (l : Ln), j < i → (ls.drop (g + 1))[j]? = some l → decide (l ≠ thr) = true)
        ⟨⟨_, rfl⟩, Same.refl _, fun j l h => absurd h (Nat.not_lt_zero j)⟩ (fun i σ H' h => h.2.1 _ _ lz) ?_ ?_⟩
      · rintro i v σ H4 hv ⟨⟨v4, rfl⟩, s4, hall⟩
        obtain ⟨l, p4, hl4, rfl, pt4, ok4⟩ := litem i v H4 s4 hv
        walk_at "wp"
        refine thr_ fun q5 H5 s5 hq5 => eq_ln (pt4.same s5) hq5 ok4 thr_ok ⟨_, rfl, ?_⟩
        by_cases c2 : l = thr
        · rw [decide_eq_true c2, if_pos rfl]
          have e : cnt (ls.drop (g + 1)) = (((ls.drop (g + 1)).take i).filter fun l => decide (l ≠ [])).length := by
            unfold cnt
            rw [tw_take hall (fun x hx => by
              rw [hl4] at hx
              cases hx
              exact decide_eq_false fun z => z c2)]
          have h := k H5 ((s3'.trans s4).trans s5)
          rw [e] at h
          exact h
        · rw [decide_eq_false c2, if_neg (fun z => Bool.noConfusion z)]
          obtain ⟨ws5, h5, r5⟩ := pt4.same s5
          refine ⟨_, h5, ⟨some (.ref p4), ?_⟩, s4.trans s5, fun j l' hj hl' => ?_⟩
          · have lw : ws5.length = l.length := by rw [r5.len, List.length_map]
            have et : (ls.drop (g + 1)).take (i + 1) = (ls.drop (g + 1)).take i ++ [l] := by rw [List.take_add_one, hl4]; rfl
            rw [et, List.filter_append, List.length_append]
            have e1 : (if 0 < (ws5.length : Int) then (1 : Int) else 0) = (([l].filter fun l => decide (l ≠ [])).length : Nat) := by
              cases l with
              | nil => rw [lw]; rfl
              | cons t l => rw [lw, if_pos (by simp)]; rfl
            rw [e1, Int.natCast_add]
          · by_cases e : j = i
            · subst e
              rw [hl4] at hl'
              cases hl'
              exact c2
            · exact of_decide_eq_true (hall j l' (by omega) hl')
      · rintro σ H4 ⟨⟨v4, rfl⟩, s4, hall⟩
        walk_at "wp"
        have e : cnt (ls.drop (g + 1)) = (((ls.drop (g + 1)).take (vs2.drop (g + 1)).length).filter fun l => decide (l ≠ [])).length := by
          unfold cnt
          rw [tw_take hall (fun x hx => by
            rw [List.getElem?_eq_none (by omega)] at hx
            cases hx)]
        have h := k H4 (s3'.trans s4)
        rw [e] at h
        exact h
    · rw [decide_eq_false c, Bool.not_false, if_pos rfl]
      have ne : g ≠ f := fun e => c (by
        subst e
        rw [hg] at hthr
        exact Option.some.inj hthr)
      refine ⟨fun σ' H' => ∃ m', m' < g - f ∧ SzI a n f H m' σ' H', fun _ _ h => h, g - 1 - f, by omega, g - 1, ?_, s2', by omega, by omega, rfl⟩
      rw [show ((g - 1 : Nat) : Int) = (g : Int) - 1 by omega]
end
end K10
set_option linter.all false
set_option maxRecDepth 100000
set_option maxHeartbeats 4000000
namespace K10
open PySem PySem.Spec PyProof.Rows L2
section
variable {P : Program} {w : World} {K : PySem.W.Frag} {mg : Str → Option Value} {base : Heap} {Ax : Ad}
local macro_rules | `(tactic| walk_at "wp") => `(tactic| simp only [tVar, tC, tOp, rI0, rI, rU, tUn, rEq, rNe, tTest, tB, tAnd, tOr, tNot, tAndV, tOrV, tNotV, tIf, tSeq, tNext, tAsg, gName, gSub, tDrop, tRet, tRetN, tIfS, tBreak, tCont, tAug, ipI, tCB, tCons, tNil,
  xTup, xLst, xIxL, xIxT, xIxS, xIxK, xLenL, xLenT, xLenS, xLenK, xSlL, xSlT, xSlS, xInL, xInT, xInK, xCat, xRep, xCatT, xTupL, xSetL, xIntS, xIntI, xIntB, xApp, xJoin, xSplit, xFld, xSetF, xAugF, tSl, tPart, tNoPart, xCall, xMeth, xMeth0, xMake, xRaise, xgT, xgL, gCons, gNil, xInD, xIxD, C8.tCut, xIsi, for_r1, for_r2, for_l, for_t, for_e, lc_xl, lc_xt, lc_xr, tM0, S,
  exists_eq_left, exists_eq_left', exists_and_left, V.int.injEq, V.ref.injEq, V.str.injEq, V.bl.injEq, consV, Option.some.injEq, HO.lst.injEq, HO.tup.injEq, HO.ins.injEq, and_true, true_and, List.getElem?_cons_zero, List.getElem?_cons_succ, List.set_cons_zero, List.set_cons_succ,
  if_true, if_false, Bool.false_eq_true, and_assoc, V.ty.injEq, isbI, isbS, kb1, kb2, kb3, kb4, kb5, kb6, kb7, kb8, kb9, reduceCtorEq, decide_false, decide_true, decide_eq_true_eq, Bool.not_eq_true', decide_eq_false_iff_not, Bool.not_true, Bool.not_false, ite_not, at0, at1, at2, at3, at4, ix0, ix1, fl_int, fl_str, fl_bl, fl_non, al_nil, al_cons, lenNil, len1, len2, len3, len4, sc_ii, sc_ss, sc_ns, sc_sn, sc_nn, sc_in, sc_si, sc_is, sc_bb, st_go])
local macro_rules | `(tactic| walk_at "wf") => `(tactic| simp only [*,
  exists_eq_left, exists_eq_left', exists_and_left, V.int.injEq, V.ref.injEq, V.str.injEq, V.bl.injEq, consV, Option.some.injEq, HO.lst.injEq, HO.tup.injEq, HO.ins.injEq, and_true, true_and, List.getElem?_cons_zero, List.getElem?_cons_succ, List.set_cons_zero, List.set_cons_succ,
  if_true, if_false, Bool.false_eq_true, and_assoc, V.ty.injEq, isbI, isbS, kb1, kb2, kb3, kb4, kb5, kb6, kb7, kb8, kb9, reduceCtorEq, decide_false, decide_true, decide_eq_true_eq, Bool.not_eq_true', decide_eq_false_iff_not, Bool.not_true, Bool.not_false, ite_not, at0, at1, at2, at3, at4, ix0, ix1, fl_int, fl_str, fl_bl, fl_non, al_nil, al_cons, lenNil, len1, len2, len3, len4, sc_ii, sc_ss, sc_ns, sc_sn, sc_nn, sc_in, sc_si, sc_is, sc_bb, st_go])
local macro_rules | `(tactic| walk_at "len") => `(tactic| (refine le_line ?_; simp only [List.length_cons, List.length_nil, List.length_append, List.length_map, List.map_nil, List.map_cons] <;> omega))
/-- a fault at line n -/
def Fl (pf : Addr) (H0 : Hp) (n : Nat) (w : Str) (E : XK) : Prop := ∀ d H', H' d = some (.xd (pfF n w)) → Same H0 H' → E (.ref pf) (some d) H'
theorem Fl.rs {pf : Addr} {H0 H1 : Hp} {n : Nat} {w : Str} {E : XK} (f : Fl pf H0 n w E) (hn : n < 1000) (hw : w.length ≤ 100) (s : Same H0 H1) :
    (0 : Int) ≤ (n : Int) ∧ (n : Int) < 1000 ∧ w.length ≤ 100 ∧ ∀ d H2, H2 d = some (.xd (pfF (n : Int) w)) → Same H1 H2 → E (.ref pf) (some d) H2 := ⟨by omega, by omega, hw, fun d H2 h s' => f d H2 h (s.trans s')⟩
theorem DrO.addS {C : Addr} {H0 H H' : Hp} {a dx L S Tt : Addr} {st : DS} {ws : List V} {v : V} {t : Th} (d : DrO C H0 H a dx L S Tt st) (hS : H S = some (.lst ws)) (g : Chg S (.lst (ws ++ [v])) H H') (r : Rp H v (thD t)) (hl : st.sh.length ≠ 6) :
    DrO C H0 H' a dx L S Tt { st with sh := st.sh ++ [t] } := by
  obtain ⟨ws', h1, h2⟩ := d.sh
  obtain ⟨ts, h3, h4⟩ := d.th
  rw [hS] at h1
  cases h1
  have tk : Tk H H' := Chg.tk g hS
  refine ⟨Chg.same g d.nS d.sm, d.na, d.nS, d.nT, d.st', g.kp a _ (ne_of d.ob hS (by intro z; cases z)) d.ob, ⟨_, g.at_, ?_⟩, ⟨ts, g.kp Tt _ (Ne.symm d.st') h3, h4.len, h4.nd, fun i u n e1 e2 => ?_⟩, ?_, d.l2, d.l3⟩
  · rw [List.map_append]
    exact Rps.snoc (h2.tk tk) (r.tk tk)
  · obtain ⟨q, xs, e, h, hn, z1, z2, z3⟩ := h4.at_ i u n e1 e2
    exact ⟨q, xs, e, g.kp q _ z2 h, hn, z1, z2, z3⟩
  · have := d.l1
    show (st.sh ++ [t]).length ≤ 6
    rw [List.length_append, List.length_singleton]
    omega
def spAddSh (C pf : Addr) : Sp := fun vs H Q E => ∃ (H0 : Hp) (a dx L S Tt : Addr) (st : DS) (n : Nat) (t : Th) (v : V), vs = [.ref a, .int n, v] ∧ DrO C H0 H a dx L S Tt st ∧ n < 1000 ∧ Rp H v (thD t) ∧ Wk "word" (thN t) ∧
  (∀ w, addSh st t = .error w → Fl pf H0 n w E) ∧ ∀ st', addSh st t = .ok st' → ∀ H', DrO C H0 H' a dx L S Tt st' → Q .non H'
theorem DrO.kind {C : Addr} {H0 H : Hp} {a dx L S Th : Addr} {st : DS} {x : Str} {Q : VK} {E : XK} (d : DrO C H0 H a dx L S Th st) (k : Q (kindV st.sh x) H) : ∃ dx fs, H a = some (.ins C dx fs) ∧ List.lookup ("kind" : Str) fs = none ∧ spKind C [.ref a, .str x] H Q E := by
  obtain ⟨ws, h1, h2⟩ := d.sh
  exact ⟨_, _, d.ob, rfl, a, dx, S, _, st.sh, x, ws, rfl, d.ob, rfl, h1, h2, k⟩
theorem ok_dr_add_shared (F : Dm K Ax.dr "add_shared" "Draft.add_shared" s_Draft_add_shared ["self", "at", "thing"]) (T : Tx w K mg Ax) (R : DrT K Ax.dr) (G_PF : PF P w K mg base Ax.pf) (G_is_name : Cl P w K mg base L2.CX0 4 "is_name" spIsName) (G_kind : Me P w K mg base L2.CX0 1 Ax.dr "kind" (spKind Ax.dr)) :
    Me P w K mg base (L2.CX P w) 5 Ax.dr "add_shared" (spAddSh Ax.dr Ax.pf) := by
  refine F.meX sc_Draft_add_shared (fun vs H Q E h => ?_) (fun f cdv A outer s H vs Q E hr h => ?_)
  · obtain ⟨_, _, _, _, _, _, _, _, _, _, rfl, _⟩ := h
    rfl
  · obtain ⟨H0, a, dx, L, S, Tt, st, n, t, v, rfl, d, hn, rt, wk, k0, k1⟩ := h
    refine ⟨_, (pss_cons (ps_if (PW.pt (pw_or (pt_not (pt_val (px_c G_is_name hr (by omega) (by rfl) (pa_cons (pe_ix ix_t (pv 2) pe_int (fun _ _ => rfl)) pa_nil)))) (pw_or1 (pt_cmpR op_notN (px_m G_kind hr (by omega) (pv 0) (pa_cons (pe_ix ix_t (pv 2) pe_int (fun _ _ => rfl)) pa_nil)) pe_non (nomark _))))) (pss_one (px_raise rfl G_PF hr (by omega) (takes_of rfl rfl rfl rfl) (by rfl) (pa_cons (pv 1) (pa_cons pe_str pa_nil)))) pss_nil)
  (pss_cons (ps_if (PW.pt (pw_and (pt_cmpR op_eq (pe_ix ix_t (pv 2) pe_int (fun _ _ => rfl)) pe_str (nomark _)) (pw_and1 (pt_cmpR op_ne (px_m G_kind hr (by omega) (pv 0) (pa_cons (pe_ix ix_t (pv 2) pe_int (fun _ _ => rfl)) pa_nil)) pe_str (nomark _))))) (pss_one (px_raise rfl G_PF hr (by omega) (takes_of rfl rfl rfl rfl) (by rfl) (pa_cons (pv 1) (pa_cons pe_str pa_nil)))) pss_nil)
  (pss_cons (ps_if (PW.pt (pw_and (pt_cmpR op_eq (pe_ix ix_t (pv 2) pe_int (fun _ _ => rfl)) pe_str (nomark _)) (pw_and1 (PW.pt (pw_or (pt_cmpR op_lt (pe_ix ix_t (pv 2) pe_int (fun _ _ => rfl)) pe_int (nomark _)) (pw_or1 (pt_cmpR op_gt (pe_ix ix_t (pv 2) pe_int (fun _ _ => rfl)) pe_int (nomark _)))))))) (pss_one (px_raise rfl G_PF hr (by omega) (takes_of rfl rfl rfl rfl) (by rfl) (pa_cons (pv 1) (pa_cons pe_str pa_nil)))) pss_nil)
  (pss_cons (ps_if (pt_cmpR op_eq (pe_callB len_l (by rfl) T.b_len PySem.boot_len (pa_cons (px_fld (pv 0) rfl) pa_nil)) (C8.pe_gc (by rfl) T.v_MOST_SHARED) (nomark _)) (pss_one (px_raise rfl G_PF hr (by omega) (takes_of rfl rfl rfl rfl) (by rfl) (pa_cons (pv 1) (pa_cons pe_str pa_nil)))) pss_nil)
  (pss_one (ps_expr (px_app (px_fld (pv 0) rfl) (pv 2)))))))), ?_⟩
    obtain ⟨p, l, rfl, hp⟩ := rp_th rt
    rw [show L2.start N_Draft_add_shared [V.ref a, V.int n, V.ref p] = [some (.ref a), some (.int n), some (.ref p)] from rfl]
    walk_at "wp"
    obtain ⟨ws, hS, rS⟩ := d.sh
    have lw : ws.length = st.sh.length := by rw [rS.len, List.length_map]
    refine ⟨_, hp, _, at1, thN t, rfl, wk, fun H1 s1 => ⟨_, rfl, ?_⟩⟩
    have d1 := d.same s1
    have hp1 := s1 _ _ hp
    have hS1 := s1 _ _ hS
    have rS1 := rS.tk (.of s1)
    have rt1 := rt.tk (.of s1)
    have kd : ∀ {x : Str} {R : VK} {E : XK}, R (kindV st.sh x) H1 → spKind Ax.dr [.ref a, .str x] H1 R E := fun {x R E} k => ⟨a, dx, S, _, st.sh, x, ws, rfl, d1.ob, rfl, hS1, rS1, k⟩
    cases c1 : isNm (thN t) with
    | false =>
      rw [if_pos rfl]
      exact (k0 "name" (by unfold addSh; rw [if_pos (.inl c1)])).rs hn (by decide +kernel) d1.sm
    | true =>
      rw [if_neg (fun z => Bool.noConfusion z)]
      refine ⟨_, _, d1.ob, rfl, _, hp1, _, at1, kd ?_⟩
      by_cases c2 : kindOf st.sh (thN t) = none
      · rw [show kindV st.sh (thN t) = .non by unfold kindV; rw [c2], if_pos rfl]
        have e1 : ¬(isNm (thN t) = false ∨ kindOf st.sh (thN t) ≠ none) := fun z => by
          rcases z with z | z
          · rw [c1] at z
            cases z
          · exact z c2
        refine ⟨_, hp1, _, at0, rfl, ?_⟩
        cases t with
        | var m i =>
          refine iteN (sneV (show ¬ (Str.ofString "var" = Str.ofString "cond") by decide +kernel)) ?_
          refine ⟨_, hp1, _, at0, rfl, ?_⟩
          refine iteN (sneV (show ¬ (Str.ofString "var" = Str.ofString "queue") by decide +kernel)) ?_
          have e : addSh st (.var m i) = if st.sh.length = 6 then .error "many" else .ok { st with sh := st.sh ++ [.var m i] } := by
            unfold addSh
            rw [if_neg e1]
            rfl
          refine fld_ d1.ob R.c (R.n _ (by decide +kernel)) rfl ⟨S, rfl, _, hS1, ite2 (fun c => (k0 "many" (by rw [e, if_pos (by omega)])).rs hn (by decide +kernel) d1.sm) (fun c => fld_ d1.ob R.c (R.n _ (by decide +kernel)) rfl
            ⟨S, rfl, ⟨_, hS1⟩, _, hS1, lt_line (by have := d.l1; omega), fun H2 g => k1 _ (by rw [e, if_neg (by omega)]) H2 (d1.addS hS1 g rt1 (by omega))⟩)⟩
        | lock m =>
          refine iteN (sneV (show ¬ (Str.ofString "lock" = Str.ofString "cond") by decide +kernel)) ?_
          refine ⟨_, hp1, _, at0, rfl, ?_⟩
          refine iteN (sneV (show ¬ (Str.ofString "lock" = Str.ofString "queue") by decide +kernel)) ?_
          have e : addSh st (.lock m) = if st.sh.length = 6 then .error "many" else .ok { st with sh := st.sh ++ [.lock m] } := by
            unfold addSh
            rw [if_neg e1]
            rfl
          refine fld_ d1.ob R.c (R.n _ (by decide +kernel)) rfl ⟨S, rfl, _, hS1, ite2 (fun c => (k0 "many" (by rw [e, if_pos (by omega)])).rs hn (by decide +kernel) d1.sm) (fun c => fld_ d1.ob R.c (R.n _ (by decide +kernel)) rfl
            ⟨S, rfl, ⟨_, hS1⟩, _, hS1, lt_line (by have := d.l1; omega), fun H2 g => k1 _ (by rw [e, if_neg (by omega)]) H2 (d1.addS hS1 g rt1 (by omega))⟩)⟩
        | cond m lk =>
          refine iteP rfl ?_
          obtain ⟨p', x, y, z, hpe, hp', r1, r2, r3⟩ := Rp.t3 rt1
          cases hpe
          cases r1.str_inv
          cases r2.str_inv
          cases r3.str_inv
          refine ⟨_, _, d1.ob, rfl, _, hp', _, at2, kd ?_⟩
          by_cases c3 : kindOf st.sh lk = some ("lock" : Str)
          · have ek : kindV st.sh lk = .str "lock" := by unfold kindV; rw [c3]
            rw [ek]
            refine ⟨rfl, ?_⟩
            rw [if_pos rfl]
            refine ⟨_, hp1, _, at0, rfl, ?_⟩
            refine iteN (sneV (show ¬ (Str.ofString "cond" = Str.ofString "queue") by decide +kernel)) ?_
            have e : addSh st (.cond m lk) = if st.sh.length = 6 then .error "many" else .ok { st with sh := st.sh ++ [.cond m lk] } := by
              unfold addSh
              rw [if_neg e1, if_neg (show ¬ cBad st.sh (.cond m lk) = true from fun z => of_decide_eq_true (p := kindOf st.sh lk ≠ some ("lock" : Str)) z c3), if_neg (by exact Bool.false_ne_true)]
            refine fld_ d1.ob R.c (R.n _ (by decide +kernel)) rfl ⟨S, rfl, _, hS1, ite2 (fun c => (k0 "many" (by rw [e, if_pos (by omega)])).rs hn (by decide +kernel) d1.sm) (fun c => fld_ d1.ob R.c (R.n _ (by decide +kernel)) rfl
              ⟨S, rfl, ⟨_, hS1⟩, _, hS1, lt_line (by have := d.l1; omega), fun H2 g => k1 _ (by rw [e, if_neg (by omega)]) H2 (d1.addS hS1 g rt1 (by omega))⟩)⟩
          · have fl := (k0 "name" (by unfold addSh; rw [if_neg e1, if_pos (by unfold cBad; exact decide_eq_true c3)])).rs hn (by decide +kernel) d1.sm
            unfold kindV
            cases e : kindOf st.sh lk with
            | none =>
              refine ⟨rfl, ?_⟩
              rw [if_neg (fun z => by cases z)]
              exact fl
            | some kk =>
              refine ⟨rfl, ?_⟩
              rw [if_neg (fun z => c3 (by rw [e, V.str.inj z]))]
              exact fl
        | queue m q =>
          refine iteN (sneV (show ¬ (Str.ofString "queue" = Str.ofString "cond") by decide +kernel)) ?_
          refine ⟨_, hp1, _, at0, rfl, ?_⟩
          refine iteP rfl ?_
          obtain ⟨p', x, y, z, hpe, hp', r1, r2, r3⟩ := Rp.t3 rt1
          cases hpe
          cases r1.str_inv
          cases r2.str_inv
          cases r3.int_inv
          have fl : (q < 1 ∨ 3 < q) → _ := fun z => (k0 "number" (by unfold addSh; rw [if_neg e1, if_neg (by exact Bool.false_ne_true), if_pos (by unfold qBad; exact decide_eq_true z)])).rs hn (by decide +kernel) d1.sm
          refine ⟨_, hp', _, at2, _, rfl, ite2 (fun c4 => fl (.inl c4)) (fun c4 => ⟨_, hp', _, at2, _, rfl, ite2 (fun c5 => fl (.inr c5)) (fun c5 => ?_)⟩)⟩
          have e : addSh st (.queue m q) = if st.sh.length = 6 then .error "many" else .ok { st with sh := st.sh ++ [.queue m q] } := by
            unfold addSh
            rw [if_neg e1, if_neg (by exact Bool.false_ne_true), if_neg (show ¬ qBad (.queue m q) = true from fun z => (of_decide_eq_true (p := q < 1 ∨ 3 < q) z).elim c4 c5)]
          refine fld_ d1.ob R.c (R.n _ (by decide +kernel)) rfl ⟨S, rfl, _, hS1, ite2 (fun c => (k0 "many" (by rw [e, if_pos (by omega)])).rs hn (by decide +kernel) d1.sm) (fun c => fld_ d1.ob R.c (R.n _ (by decide +kernel)) rfl
            ⟨S, rfl, ⟨_, hS1⟩, _, hS1, lt_line (by have := d.l1; omega), fun H2 g => k1 _ (by rw [e, if_neg (by omega)]) H2 (d1.addS hS1 g rt1 (by omega))⟩)⟩
      · rw [if_neg (by unfold kindV; cases e : kindOf st.sh (thN t) with | none => exact absurd e c2 | some k => exact fun z => by cases z)]
        exact (k0 "name" (by unfold addSh; rw [if_pos (.inr c2)])).rs hn (by decide +kernel) d1.sm
end
end K10
set_option linter.all false
set_option maxRecDepth 100000
set_option maxHeartbeats 4000000
namespace K10
open PySem PySem.Spec PyProof.Rows L2
section
variable {P : Program} {w : World} {K : PySem.W.Frag} {mg : Str → Option Value} {base : Heap} {Ax : Ad}
local macro_rules | `(tactic| walk_at "wp") => `(tactic| simp only [tVar, tC, tOp, rI0, rI, rU, tUn, rEq, rNe, tTest, tB, tAnd, tOr, tNot, tAndV, tOrV, tNotV, tIf, tSeq, tNext, tAsg, gName, gSub, tDrop, tRet, tRetN, tIfS, tBreak, tCont, tAug, ipI, tCB, tCons, tNil,
  xTup, xLst, xIxL, xIxT, xIxS, xIxK, xLenL, xLenT, xLenS, xLenK, xSlL, xSlT, xSlS, xInL, xInT, xInK, xCat, xRep, xCatT, xTupL, xSetL, xIntS, xIntI, xIntB, xApp, xJoin, xSplit, xFld, xSetF, xAugF, tSl, tPart, tNoPart, xCall, xMeth, xMeth0, xMake, xRaise, xgT, xgL, gCons, gNil, xInD, xIxD, C8.tCut, xIsi, for_r1, for_r2, for_l, for_t, for_e, lc_xl, lc_xt, lc_xr, tM0, S,
  exists_eq_left, exists_eq_left', exists_and_left, V.int.injEq, V.ref.injEq, V.str.injEq, V.bl.injEq, consV, Option.some.injEq, HO.lst.injEq, HO.tup.injEq, HO.ins.injEq, and_true, true_and, List.getElem?_cons_zero, List.getElem?_cons_succ, List.set_cons_zero, List.set_cons_succ,
  if_true, if_false, Bool.false_eq_true, and_assoc, V.ty.injEq, isbI, isbS, kb1, kb2, kb3, kb4, kb5, kb6, kb7, kb8, kb9, reduceCtorEq, decide_false, decide_true, decide_eq_true_eq, Bool.not_eq_true', decide_eq_false_iff_not, Bool.not_true, Bool.not_false, ite_not, at0, at1, at2, at3, at4, ix0, ix1, fl_int, fl_str, fl_bl, fl_non, al_nil, al_cons, lenNil, len1, len2, len3, len4, sc_ii, sc_ss, sc_ns, sc_sn, sc_nn, sc_in, sc_si, sc_is, sc_bb, st_go])
local macro_rules | `(tactic| walk_at "wf") => `(tactic| simp only [*,
  exists_eq_left, exists_eq_left', exists_and_left, V.int.injEq, V.ref.injEq, V.str.injEq, V.bl.injEq, consV, Option.some.injEq, HO.lst.injEq, HO.tup.injEq, HO.ins.injEq, and_true, true_and, List.getElem?_cons_zero, List.getElem?_cons_succ, List.set_cons_zero, List.set_cons_succ,
  if_true, if_false, Bool.false_eq_true, and_assoc, V.ty.injEq, isbI, isbS, kb1, kb2, kb3, kb4, kb5, kb6, kb7, kb8, kb9, reduceCtorEq, decide_false, decide_true, decide_eq_true_eq, Bool.not_eq_true', decide_eq_false_iff_not, Bool.not_true, Bool.not_false, ite_not, at0, at1, at2, at3, at4, ix0, ix1, fl_int, fl_str, fl_bl, fl_non, al_nil, al_cons, lenNil, len1, len2, len3, len4, sc_ii, sc_ss, sc_ns, sc_sn, sc_nn, sc_in, sc_si, sc_is, sc_bb, st_go])
local macro_rules | `(tactic| walk_at "len") => `(tactic| (refine le_line ?_; simp only [List.length_cons, List.length_nil, List.length_append, List.length_map, List.map_nil, List.map_cons] <;> omega))
/-- the draft's own fields have changed -/
theorem DrO.setF {C : Addr} {H0 H H' : Hp} {a dx L S Tt : Addr} {st : DS} {i u : Bool} (d : DrO C H0 H a dx L S Tt st) (g : Chg a (.ins C dx (drF L S Tt i u)) H H') : DrO C H0 H' a dx L S Tt { st with ins := i, unc := u } := by
  obtain ⟨ws, h1, h2⟩ := d.sh
  obtain ⟨ts, h3, h4⟩ := d.th
  have ne : ∀ {b : Addr} {xs : List V}, H b = some (.lst xs) → b ≠ a := fun {b xs} h => ne_of h d.ob (by intro z; cases z)
  have tk : Tk H H' := fun b vs e => g.kp b _ (ne_of e d.ob (by intro z; cases z)) e
  refine ⟨Chg.same g d.na d.sm, d.na, d.nS, d.nT, d.st', g.at_, ⟨ws, g.kp S _ (ne h1) h1, h2.tk tk⟩, ⟨ts, g.kp Tt _ (ne h3) h3, h4.len, h4.nd, fun j v n e1 e2 => ?_⟩, d.l1, d.l2, d.l3⟩
  obtain ⟨q, xs, e, h, hn, z⟩ := h4.at_ j v n e1 e2
  exact ⟨q, xs, e, g.kp q _ (ne h) h, hn, z⟩
theorem DrO.addT {C : Addr} {H0 H H1 H' : Hp} {a dx L S Tt q : Addr} {st : DS} {ts : List V} (d : DrO C H0 H a dx L S Tt st) (hT : H Tt = some (.lst ts)) (n : New q (.lst []) H H1) (g : Chg Tt (.lst (ts ++ [.ref q])) H1 H') (hl : st.th.length ≠ 4) :
    DrO C H0 H' a dx L S Tt { st with th := st.th ++ [0] } := by
  obtain ⟨ws, h1, h2⟩ := d.sh
  obtain ⟨ts', h3, h4⟩ := d.th
  rw [hT] at h3
  cases h3
  have hT1 := n.kp _ _ hT
  have tk : Tk H H' := fun b vs e => g.kp b _ (ne_of (n.kp _ _ e) hT1 (by intro z; cases z)) (n.kp _ _ e)
  have qT : q ≠ Tt := fun e => by
    have h := n.fr
    rw [e, hT] at h
    cases h
  have qS : q ≠ S := fun e => by
    have h := n.fr
    rw [e, h1] at h
    cases h
  have q0 : H0 q = none := d.sm.free n.fr
  refine ⟨Chg.same g d.nT (d.sm.trans n.kp), d.na, d.nS, d.nT, d.st', g.kp a _ (ne_of (n.kp _ _ d.ob) hT1 (by intro z; cases z)) (n.kp _ _ d.ob), ⟨ws, g.kp S _ d.st' (n.kp _ _ h1), h2.tk tk⟩, ⟨_, g.at_, ?_, ?_, fun j v m e1 e2 => ?_⟩, d.l1, ?_, ?_⟩
  · rw [List.length_append, List.length_append, h4.len]
    rfl
  · rw [List.nodup_append]
    refine ⟨h4.nd, by simp, fun v hv u hu e => ?_⟩
    rw [List.mem_singleton.mp hu] at e
    subst e
    obtain ⟨j, hj⟩ := List.mem_iff_getElem?.mp hv
    have hjl : j < st.th.length := by rw [← h4.len]; exact (List.getElem?_eq_some_iff.mp hj).1
    obtain ⟨q', xs, e, h, _⟩ := h4.at_ j _ _ hj (List.getElem?_eq_getElem hjl)
    cases e
    have h' := n.fr
    rw [h] at h'
    cases h'
  · by_cases hj : j < ts.length
    · rw [List.getElem?_append_left hj] at e1
      rw [List.getElem?_append_left (by rw [← h4.len]; exact hj)] at e2
      obtain ⟨q', xs, e, h, hn, z1, z2, z3⟩ := h4.at_ j v m e1 e2
      exact ⟨q', xs, e, g.kp q' _ z3 (n.kp _ _ h), hn, z1, z2, z3⟩
    · have hj' : j = ts.length := by
        have := (List.getElem?_eq_some_iff.mp e1).1
        rw [List.length_append, List.length_singleton] at this
        omega
      subst hj'
      rw [List.getElem?_append_right (Nat.le_refl _), Nat.sub_self] at e1
      rw [h4.len, List.getElem?_append_right (Nat.le_refl _), Nat.sub_self] at e2
      cases Option.some.inj e1
      cases Option.some.inj e2
      exact ⟨q, [], rfl, g.kp q _ qT n.at_, rfl, q0, qS, qT⟩
  · have := d.l2
    show (st.th ++ [0]).length ≤ 4
    rw [List.length_append, List.length_singleton]
    omega
  · intro m hm
    rcases List.mem_append.mp hm with h | h
    · exact d.l3 m h
    · rw [List.mem_singleton.mp h]
      omega
def spAddThr (C pf : Addr) : Sp := fun vs H Q E => ∃ (H0 : Hp) (a dx L S Tt : Addr) (st : DS) (n : Nat), vs = [.ref a, .int n] ∧ DrO C H0 H a dx L S Tt st ∧ n < 1000 ∧
  (∀ w, addThr st = .error w → Fl pf H0 n w E) ∧ ∀ st', addThr st = .ok st' → ∀ H', DrO C H0 H' a dx L S Tt st' → Q .non H'
theorem ok_dr_add_thread (F : Dm K Ax.dr "add_thread" "Draft.add_thread" s_Draft_add_thread ["self", "at"]) (T : Tx w K mg Ax) (R : DrT K Ax.dr) (G_PF : PF P w K mg base Ax.pf) : Me P w K mg base (L2.CX P w) 3 Ax.dr "add_thread" (spAddThr Ax.dr Ax.pf) := by
  refine F.meX sc_Draft_add_thread (fun vs H Q E h => ?_) (fun f cdv A outer s H vs Q E hr h => ?_)
  · obtain ⟨_, _, _, _, _, _, _, _, rfl, _⟩ := h
    rfl
  · obtain ⟨H0, a, dx, L, S, Tt, st, n, rfl, d, hn, k0, k1⟩ := h
    refine ⟨_, (pss_cons (ps_if (pt_cmpR op_eq (pe_callB len_l (by rfl) T.b_len PySem.boot_len (pa_cons (px_fld (pv 0) rfl) pa_nil)) (C8.pe_gc (by rfl) T.v_MOST_THREADS) (nomark _)) (pss_one (px_raise rfl G_PF hr (by omega) (takes_of rfl rfl rfl rfl) (by rfl) (pa_cons (pv 1) (pa_cons pe_str pa_nil)))) pss_nil)
  (pss_cons (px_setf (pv 0) (pe_or (px_fld (pv 0) rfl) (pe_one (px_fld (pv 0) rfl))) rfl)
  (pss_cons (px_setf (pv 0) pe_bl rfl)
  (pss_one (ps_expr (px_app (px_fld (pv 0) rfl) (px_lst pa_nil))))))), ?_⟩
    rw [show L2.start N_Draft_add_thread [V.ref a, V.int n] = [some (.ref a), some (.int n)] from rfl]
    walk_at "wp"
    obtain ⟨ts, hT, hts⟩ := d.th
    have lt := hts.len
    refine fld_ d.ob R.c (R.n _ (by decide +kernel)) rfl ⟨_, rfl, _, hT, ite2 (fun c => (k0 "many" (by unfold addThr; rw [if_pos (by omega)])).rs hn (by decide +kernel) d.sm) (fun c => ?_)⟩
    have fin : ∀ {H1 H2 H3 H4 : Hp} {q : Addr} {b : Bool}, b = (st.unc || st.ins) → Chg a (.ins Ax.dr dx (drF L S Tt st.ins b)) H H1 → Chg a (.ins Ax.dr dx (drF L S Tt false b)) H1 H2 → New q (.lst []) H2 H3 → Chg Tt (.lst (ts ++ [.ref q])) H3 H4 → Q .non H4 := fun {H1 H2 H3 H4 q b} hb g1 g2 n3 g4 => by
      have neT : Tt ≠ a := ne_of hT d.ob (by intro z; cases z)
      refine k1 { st with th := st.th ++ [0], ins := false, unc := b } (by unfold addThr; rw [if_neg (by omega), hb]) H4 ?_
      exact ((d.setF g1).setF g2).addT (g2.kp _ _ neT (g1.kp _ _ neT hT)) n3 g4 (by show st.th.length ≠ 4; omega)
    have hT2 : ∀ {H1 H2 : Hp} {o1 o2 : HO}, Chg a o1 H H1 → Chg a o2 H1 H2 → H2 Tt = some (.lst ts) := fun g1 g2 => by
      have neT : Tt ≠ a := ne_of hT d.ob (by intro z; cases z)
      exact g2.kp _ _ neT (g1.kp _ _ neT hT)
    have lt4 := d.l2
    refine fld_ d.ob R.c (R.n _ (by decide +kernel)) rfl ⟨_, rfl, ite2 (fun cu => setf_ d.ob R.c (R.n _ (by decide +kernel)) rfl fun H1 g1 => setf_ g1.at_ R.c (R.n _ (by decide +kernel)) rfl fun H2 g2 => fld_ g2.at_ R.c (R.n _ (by decide +kernel)) rfl
        ⟨_, rfl, ⟨_, hT2 g1 g2⟩, fun q H3 n3 => ⟨_, n3.kp _ _ (hT2 g1 g2), lt_line (by omega), fun H4 g4 => fin (b := true) (by rw [cu, Bool.true_or]) g1 g2 n3 g4⟩⟩)
      (fun cu => fld_ d.ob R.c (R.n _ (by decide +kernel)) rfl (setf_ d.ob R.c (R.n _ (by decide +kernel)) rfl fun H1 g1 => setf_ g1.at_ R.c (R.n _ (by decide +kernel)) rfl fun H2 g2 => fld_ g2.at_ R.c (R.n _ (by decide +kernel)) rfl
        ⟨_, rfl, ⟨_, hT2 g1 g2⟩, fun q H3 n3 => ⟨_, n3.kp _ _ (hT2 g1 g2), lt_line (by omega), fun H4 g4 => fin (b := st.ins) (by rw [Bool.eq_false_iff.mpr cu, Bool.false_or]) g1 g2 n3 g4⟩⟩))⟩
end
end K10
set_option linter.all false
set_option maxRecDepth 100000
set_option maxHeartbeats 4000000
namespace K10
open PySem PySem.Spec PyProof.Rows L2
section
variable {P : Program} {w : World} {K : PySem.W.Frag} {mg : Str → Option Value} {base : Heap} {Ax : Ad}
local macro_rules | `(tactic| walk_at "wp") => `(tactic| simp only [tVar, tC, tOp, rI0, rI, rU, tUn, rEq, rNe, tTest, tB, tAnd, tOr, tNot, tAndV, tOrV, tNotV, tIf, tSeq, tNext, tAsg, gName, gSub, tDrop, tRet, tRetN, tIfS, tBreak, tCont, tAug, ipI, tCB, tCons, tNil,
  xTup, xLst, xIxL, xIxT, xIxS, xIxK, xLenL, xLenT, xLenS, xLenK, xSlL, xSlT, xSlS, xInL, xInT, xInK, xCat, xRep, xCatT, xTupL, xSetL, xIntS, xIntI, xIntB, xApp, xJoin, xSplit, xFld, xSetF, xAugF, tSl, tPart, tNoPart, xCall, xMeth, xMeth0, xMake, xRaise, xgT, xgL, gCons, gNil, xInD, xIxD, C8.tCut, xIsi, for_r1, for_r2, for_l, for_t, for_e, lc_xl, lc_xt, lc_xr, tM0, S,
  exists_eq_left, exists_eq_left', exists_and_left, V.int.injEq, V.ref.injEq, V.str.injEq, V.bl.injEq, consV, Option.some.injEq, HO.lst.injEq, HO.tup.injEq, HO.ins.injEq, and_true, true_and, List.getElem?_cons_zero, List.getElem?_cons_succ, List.set_cons_zero, List.set_cons_succ,
  if_true, if_false, Bool.false_eq_true, and_assoc, V.ty.injEq, isbI, isbS, kb1, kb2, kb3, kb4, kb5, kb6, kb7, kb8, kb9, reduceCtorEq, decide_false, decide_true, decide_eq_true_eq, Bool.not_eq_true', decide_eq_false_iff_not, Bool.not_true, Bool.not_false, ite_not, at0, at1, at2, at3, at4, ix0, ix1, fl_int, fl_str, fl_bl, fl_non, al_nil, al_cons, lenNil, len1, len2, len3, len4, sc_ii, sc_ss, sc_ns, sc_sn, sc_nn, sc_in, sc_si, sc_is, sc_bb, st_go])
local macro_rules | `(tactic| walk_at "wf") => `(tactic| simp only [*,
  exists_eq_left, exists_eq_left', exists_and_left, V.int.injEq, V.ref.injEq, V.str.injEq, V.bl.injEq, consV, Option.some.injEq, HO.lst.injEq, HO.tup.injEq, HO.ins.injEq, and_true, true_and, List.getElem?_cons_zero, List.getElem?_cons_succ, List.set_cons_zero, List.set_cons_succ,
  if_true, if_false, Bool.false_eq_true, and_assoc, V.ty.injEq, isbI, isbS, kb1, kb2, kb3, kb4, kb5, kb6, kb7, kb8, kb9, reduceCtorEq, decide_false, decide_true, decide_eq_true_eq, Bool.not_eq_true', decide_eq_false_iff_not, Bool.not_true, Bool.not_false, ite_not, at0, at1, at2, at3, at4, ix0, ix1, fl_int, fl_str, fl_bl, fl_non, al_nil, al_cons, lenNil, len1, len2, len3, len4, sc_ii, sc_ss, sc_ns, sc_sn, sc_nn, sc_in, sc_si, sc_is, sc_bb, st_go])
local macro_rules | `(tactic| walk_at "len") => `(tactic| (refine le_line ?_; simp only [List.length_cons, List.length_nil, List.length_append, List.length_map, List.map_nil, List.map_cons] <;> omega))
theorem kin_of (T : Tx w K mg Ax) {k : Str} (h : k ∈ getK ∨ k ∈ othK) : ∃ y, kindK k = some y ∧ KAt K w Ax.kin k (some y) := by
  simp only [getK, othK, List.mem_cons, List.not_mem_nil, or_false] at h
  rcases h with (rfl | rfl) | rfl | rfl | rfl | rfl | rfl | rfl | rfl | rfl
  · exact ⟨"var", by decide +kernel, T.kin "get" "var" (by decide)⟩
  · exact ⟨"queue", by decide +kernel, T.kin "take" "queue" (by decide)⟩
  · exact ⟨"var", by decide +kernel, T.kin "put" "var" (by decide)⟩
  · exact ⟨"var", by decide +kernel, T.kin "add" "var" (by decide)⟩
  · exact ⟨"lock", by decide +kernel, T.kin "lock" "lock" (by decide)⟩
  · exact ⟨"lock", by decide +kernel, T.kin "unlock" "lock" (by decide)⟩
  · exact ⟨"cond", by decide +kernel, T.kin "wait" "cond" (by decide)⟩
  · exact ⟨"cond", by decide +kernel, T.kin "notify" "cond" (by decide)⟩
  · exact ⟨"cond", by decide +kernel, T.kin "notifyall" "cond" (by decide)⟩
  · exact ⟨"queue", by decide +kernel, T.kin "send" "queue" (by decide)⟩
theorem kno_of (T : Tx w K mg Ax) {k : Str} (h : k = "go" ∨ k ∈ otK) : KAt K w Ax.kin k none := by
  simp only [otK, List.mem_cons, List.not_mem_nil, or_false] at h
  rcases h with rfl | rfl | rfl | rfl | rfl | rfl
  · exact T.kno "go" (by decide)
  · exact T.kno "let" (by decide)
  · exact T.kno "check" (by decide)
  · exact T.kno "begin" (by decide)
  · exact T.kno "end" (by decide)
  · exact T.kno "stop" (by decide)
theorem at_last {l : List V} {x : V} (h : l.getLast? = some x) : atI l (-1) = some x := by
  obtain ⟨m, rfl⟩ : ∃ m, l = m ++ [x] := by
    obtain ⟨h1, h2⟩ := List.getLast?_eq_some_iff.mp h
    exact ⟨h1, h2⟩
  have e : ixN (m ++ [x]).length (-1) = some m.length := by
    unfold ixN
    rw [if_neg (by omega), if_pos (by rw [List.length_append, List.length_singleton]; omega), List.length_append, List.length_singleton]
    exact congrArg some (by omega)
  unfold atI
  rw [e]
  show (m ++ [x])[m.length]? = some x
  rw [List.getElem?_append_right (Nat.le_refl _), Nat.sub_self]
  rfl
theorem DrO.addI {C : Addr} {H0 H H' : Hp} {a dx L S Tt q : Addr} {st : DS} {ts xs : List V} {v : V} (d : DrO C H0 H a dx L S Tt st) (hT : H Tt = some (.lst ts)) (hl : ts.getLast? = some (.ref q)) (hq : H q = some (.lst xs)) (g : Chg q (.lst (xs ++ [v])) H H') (h12 : st.th.getLast? ≠ some 12) :
    DrO C H0 H' a dx L S Tt { st with th := st.th.dropLast ++ [st.th.getLast?.getD 0 + 1] } := by
  obtain ⟨ws, h1, h2⟩ := d.sh
  obtain ⟨ts', h3, h4⟩ := d.th
  rw [hT] at h3
  cases h3
  obtain ⟨tm, rfl⟩ := List.getLast?_eq_some_iff.mp hl
  have hlen := h4.len
  rw [List.length_append, List.length_singleton] at hlen
  obtain ⟨nm, c, hns⟩ : ∃ nm c, st.th = nm ++ [c] := by
    cases e : st.th.getLast? with
    | none =>
      rw [List.getLast?_eq_none_iff.mp e] at hlen
      simp at hlen
    | some c =>
      obtain ⟨nm, h⟩ := List.getLast?_eq_some_iff.mp e
      exact ⟨nm, c, h⟩
  have hnm : nm.length = tm.length := by
    rw [hns, List.length_append, List.length_singleton] at hlen
    omega
  have hn2 : st.th.dropLast ++ [st.th.getLast?.getD 0 + 1] = nm ++ [c + 1] := by
    rw [hns, List.dropLast_concat, List.getLast?_concat]
    rfl
  have hc12 : c ≠ 12 := fun z => h12 (by rw [hns, List.getLast?_concat, z])
  have tk : Tk H H' := Chg.tk g hq
  obtain ⟨q', xs', e', hq', hxl, q0, qS, qT⟩ := h4.at_ tm.length (.ref q) c (by rw [List.getElem?_append_right (Nat.le_refl _), Nat.sub_self]; rfl) (by rw [hns, ← hnm, List.getElem?_append_right (Nat.le_refl _), Nat.sub_self]; rfl)
  cases e'
  rw [hq] at hq'
  cases hq'
  refine ⟨Chg.same g q0 d.sm, d.na, d.nS, d.nT, d.st', g.kp a _ (ne_of d.ob hq (by intro z; cases z)) d.ob, ⟨ws, g.kp S _ (Ne.symm qS) h1, h2.tk tk⟩, ⟨_, g.kp Tt _ (Ne.symm qT) hT, ?_, h4.nd, fun j u n e1 e2 => ?_⟩, d.l1, ?_, ?_⟩
  · show _ = (st.th.dropLast ++ [st.th.getLast?.getD 0 + 1]).length
    rw [hn2, List.length_append, List.length_append, hnm]
    rfl
  · have e2' : (nm ++ [c + 1])[j]? = some n := by rw [← hn2]; exact e2
    by_cases hj : j < tm.length
    · rw [List.getElem?_append_left (by omega)] at e2'
      obtain ⟨q2, ys, eu, hy, hyl, z1, z2, z3⟩ := h4.at_ j u n e1 (by rw [hns, List.getElem?_append_left (by omega)]; exact e2')
      refine ⟨q2, ys, eu, g.kp q2 _ (fun e => ?_) hy, hyl, z1, z2, z3⟩
      rw [e] at eu
      rw [List.getElem?_append_left hj] at e1
      have nd := h4.nd
      rw [List.nodup_append] at nd
      exact nd.2.2 _ (List.mem_of_getElem? e1) (.ref q) (by simp) eu
    · have hj' : j = tm.length := by
        have := (List.getElem?_eq_some_iff.mp e1).1
        rw [List.length_append, List.length_singleton] at this
        omega
      subst hj'
      rw [List.getElem?_append_right (Nat.le_refl _), Nat.sub_self] at e1
      rw [← hnm, List.getElem?_append_right (Nat.le_refl _), Nat.sub_self] at e2'
      cases Option.some.inj e1
      cases Option.some.inj e2'
      exact ⟨q, _, rfl, g.at_, by rw [List.length_append, hxl]; rfl, q0, qS, qT⟩
  · show (st.th.dropLast ++ [st.th.getLast?.getD 0 + 1]).length ≤ 4
    have := d.l2
    rw [hns, List.length_append] at this
    rw [hn2, List.length_append]
    simpa using this
  · intro m hm
    have hm' : m ∈ nm ++ [c + 1] := by rw [← hn2]; exact hm
    rcases List.mem_append.mp hm' with h | h
    · exact d.l3 m (by rw [hns]; exact List.mem_append_left _ h)
    · rw [List.mem_singleton.mp h]
      have := d.l3 c (by rw [hns]; simp)
      omega
/-- where the line n lies: f its thread's line -/
structure InThr (H0 : Hp) (L : Addr) (ls : List Ln) (n f : Nat) : Prop where
  ln : LnsO H0 L ls
  ok : ∀ l ∈ ls, LOk l
  le : f ≤ n
  th : ls[f]? = some thr
  no : ∀ j, f < j → j ≤ n → ls[j]? ≠ some thr
  lt : n < ls.length
  ll : ls.length ≤ 900
def spAddIns (C pf : Addr) : Sp := fun vs H Q E => ∃ (H0 : Hp) (a dx L S Tt : Addr) (st : DS) (n f : Nat) (i : IA) (v : V) (ls : List Ln), vs = [.ref a, .int n, v] ∧ DrO C H0 H a dx L S Tt st ∧ IAr H v i ∧ InThr H0 L ls n f ∧ st.th ≠ [] ∧
  (∀ w, addIns (cnt (ls.drop (f + 1))) st i = .error w → Fl pf H0 n w E) ∧ ∀ st', addIns (cnt (ls.drop (f + 1))) st i = .ok st' → ∀ H', DrO C H0 H' a dx L S Tt st' → Q .non H'
theorem ok_dr_add_instruction (F : Dm K Ax.dr "add_instruction" "Draft.add_instruction" s_Draft_add_instruction ["self", "at", "instruction"]) (T : Tx w K mg Ax) (R : DrT K Ax.dr) (G_PF : PF P w K mg base Ax.pf) (G_kind : Me P w K mg base L2.CX0 1 Ax.dr "kind" (spKind Ax.dr))
    (G_size : Me P w K mg base L2.CX0 1 Ax.dr "size" (spSize Ax.dr)) : Me P w K mg base (L2.CX P w) 3 Ax.dr "add_instruction" (spAddIns Ax.dr Ax.pf) := by
  refine F.meX sc_Draft_add_instruction (fun vs H Q E h => ?_) (fun f cdv A outer s H vs Q E hr h => ?_)
  · obtain ⟨_, _, _, _, _, _, _, _, _, _, _, _, rfl, _⟩ := h
    rfl
  · obtain ⟨H0, a, dx, L, S, Tt, st, n, f, i, v, ls, rfl, d, ⟨p, vs, rfl, hp, hi⟩, it, hth, k0, k1⟩ := h
    refine ⟨_, (pss_cons (ps_set (i := 3) sc_Draft_add_instruction.nd rfl (Or.inl rfl) (pe_ix ix_t (pv 2) pe_int (fun _ _ => rfl)))
  (C8.pss_cut (ps_if (pt_cmpR in_d (pv 3) (pe_glob (v := .ref _) rfl T.g_KINDS rfl) rfl) (pss_cons (ps_set (i := 4) sc_Draft_add_instruction.nd rfl (Or.inl rfl) (pe_ix ix_t (pv 2) pe_int (fun _ _ => rfl)))
  (pss_cons (ps_if (pt_cmpR in_t (pv 3) (px_tup (pa_cons pe_str (pa_cons pe_str pa_nil))) rfl) (pss_one (ps_set (i := 4) sc_Draft_add_instruction.nd rfl (Or.inl rfl) (pe_ix ix_t (pv 2) pe_int (fun _ _ => rfl)))) pss_nil)
  (pss_one (ps_if (pt_cmpR op_ne (px_m G_kind hr (by omega) (pv 0) (pa_cons (pv 4) pa_nil)) (pe_ix ix_d (pe_glob (v := .ref _) rfl T.g_KINDS rfl) (pv 3) (fun _ _ => rfl)) (nomark _)) (pss_one (px_raise rfl G_PF hr (by omega) (takes_of rfl rfl rfl rfl) (by rfl) (pa_cons (pv 1) (pa_cons pe_str pa_nil)))) pss_nil)))) pss_nil)
  (C8.pss_cut (ps_if (PW.pt (pw_and (pt_cmpR op_eq (pv 3) pe_str (nomark _)) (pw_and1 (pt_cmpR op_gt (pe_ix ix_t (pv 2) pe_int (fun _ _ => rfl)) (px_m G_size hr (by omega) (pv 0) (pa_cons (pv 1) pa_nil)) (nomark _))))) (pss_one (px_raise rfl G_PF hr (by omega) (takes_of rfl rfl rfl rfl) (by rfl) (pa_cons (pv 1) (pa_cons pe_str pa_nil)))) pss_nil)
  (pss_cons (ps_if (pt_cmpR op_eq (pe_callB len_l (by rfl) T.b_len PySem.boot_len (pa_cons (pe_ix ix_l (px_fld (pv 0) rfl) (pe_un un_neg pe_int) (fun _ _ => rfl)) pa_nil)) (C8.pe_gc (by rfl) T.v_MOST_INSTRUCTIONS) (nomark _)) (pss_one (px_raise rfl G_PF hr (by omega) (takes_of rfl rfl rfl rfl) (by rfl) (pa_cons (pv 1) (pa_cons pe_str pa_nil)))) pss_nil)
  (pss_cons (ps_if (PW.pt (pw_or (PW.pt (pw_and (pt_cmpR op_eq (pv 3) pe_str (nomark _)) (pw_and1 (pt_val (px_fld (pv 0) rfl))))) (pw_or1 (PW.pt (pw_and (pt_cmpR op_eq (pv 3) pe_str (nomark _)) (pw_and1 (pt_not (pt_val (px_fld (pv 0) rfl))))))))) (pss_one (px_raise rfl G_PF hr (by omega) (takes_of rfl rfl rfl rfl) (by rfl) (pa_cons (pv 1) (pa_cons pe_str pa_nil)))) pss_nil)
  (C8.pss_cut (ps_if (pt_cmpR in_t (pv 3) (px_tup (pa_cons pe_str (pa_cons pe_str pa_nil))) rfl) (pss_one (px_setf (pv 0) (pe_cmpR op_eq (pv 3) pe_str (nomark _)) rfl)) pss_nil)
  (pss_one (ps_expr (px_app (pe_ix ix_l (px_fld (pv 0) rfl) (pe_un un_neg pe_int) (fun _ _ => rfl)) (pv 2)))))))))), ?_⟩
    rw [show L2.start N_Draft_add_instruction [V.ref a, V.int n, V.ref p] = [some (.ref a), some (.int n), some (.ref p), none, none] from rfl]
    generalize hN : cnt (ls.drop (f + 1)) = N at k0 k1
    have hn : n < 1000 := by
      have h1 := it.lt
      have h2 := it.ll
      omega
    walk_at "wp"
    obtain ⟨kd, hkd, hcl⟩ : ∃ kd, atI vs 0 = some (.str kd) ∧ (match i with | .nm k x => kd = k ∧ (k ∈ getK ∨ k ∈ othK) | .go m => kd = "go" ∧ atI vs 1 = some (.int m) | .ot k => kd = k ∧ k ∈ otK) := by
      cases i with
      | nm k x =>
        rcases hi with ⟨h, y, rfl⟩ | ⟨h, r, rfl⟩
        · exact ⟨k, at0, rfl, .inl h⟩
        · exact ⟨k, at0, rfl, .inr h⟩
      | go m =>
        obtain ⟨r, rfl⟩ := hi
        exact ⟨_, at0, rfl, at1⟩
      | ot k =>
        obtain ⟨h, r, rfl⟩ := hi
        exact ⟨k, at0, rfl, h⟩
    refine ⟨_, hp, _, hkd, ?_⟩
    refine ⟨fun σ H' => Same H H' ∧ (∃ v4, σ = [some (.ref a), some (.int n), some (.ref p), some (.str kd), v4]) ∧ nBad st.sh i = false, ?_, ?_⟩
    · cases i with
      | go m =>
        obtain ⟨rfl, _⟩ := hcl
        exact ⟨_, rfl, none, kno_of T (.inl rfl), iteN (fun z => Bool.noConfusion z) ⟨Same.refl _, ⟨_, rfl⟩, rfl⟩⟩
      | ot k =>
        obtain ⟨rfl, hk⟩ := hcl
        exact ⟨_, rfl, none, kno_of T (.inr hk), iteN (fun z => Bool.noConfusion z) ⟨Same.refl _, ⟨_, rfl⟩, rfl⟩⟩
      | nm k x =>
        obtain ⟨rfl, hk⟩ := hcl
        obtain ⟨y, hy, hky⟩ := kin_of T hk
        obtain ⟨ws, hS, rS⟩ := d.sh
        have fin : ∀ {H2 : Hp}, Same H H2 → ∀ (v4 : V), spKind Ax.dr [.ref a, .str x] H2 (fun x_1 H1 => ∃ x_2, V.str kd = V.str x_2 ∧ ∃ s_1, KAt K w Ax.kin x_2 (some s_1) ∧ scal x_1 (V.str s_1) = true ∧ if x_1 = V.str s_1 then Same H H1 ∧ (∃ v4', [some (V.ref a), some (V.int n), some (V.ref p), some (V.str kd), some v4] = [some (V.ref a), some (V.int n), some (V.ref p), some (V.str kd), v4']) ∧ nBad st.sh (.nm kd x) = false
            else (0 : Int) ≤ (n : Int) ∧ (n : Int) < 1000 ∧ (Str.ofString "name").length ≤ 100 ∧ ∀ (d : Addr) (H2 : Hp), H2 d = some (.xd (pfF (n : Int) (Str.ofString "name"))) → Same H1 H2 → E (.ref Ax.pf) (some d) H2) L2.E0 := fun {H2} s2 v4 => by
          refine ⟨a, dx, S, _, st.sh, x, ws, rfl, (d.same s2).ob, rfl, s2 _ _ hS, rS.tk (.of s2), kd, rfl, y, hky, ?_, ?_⟩
          · unfold kindV
            cases kindOf st.sh x <;> rfl
          · by_cases e : kindOf st.sh x = some y
            · refine iteP (by unfold kindV; rw [e]) ⟨s2, ⟨_, rfl⟩, ?_⟩
              exact decide_eq_false fun z => z (by rw [e, hy])
            · refine iteN (fun z => e ?_) ((k0 "name" ?_).rs hn (by decide +kernel) (d.same s2).sm)
              · unfold kindV at z
                cases e2 : kindOf st.sh x with
                | none => rw [e2] at z; cases z
                | some k2 => rw [e2] at z; rw [V.str.inj z]
              · unfold addIns
                rw [if_pos (show nBad st.sh (.nm kd x) = true from decide_eq_true fun z => e (by rw [z, hy]))]
        refine ⟨_, rfl, some y, hky, iteP rfl ?_⟩
        rcases hi with ⟨h, y', rfl⟩ | ⟨h, r, rfl⟩
        · refine ⟨_, hp, _, at1, fun q H2 n2 => ⟨_, rfl, _, n2.at_, rfl, rfl, iteP ?_ ⟨_, n2.kp _ _ hp, _, at2, _, _, n2.kp _ _ d.ob, rfl, fin n2.kp _⟩⟩⟩
          rw [show inV (V.str kd) [V.str (Str.ofString "get"), V.str (Str.ofString "take")] = decide (kd ∈ getK) from inV_str kd getK]
          exact decide_eq_true h
        · refine ⟨_, hp, _, at1, fun q H2 n2 => ⟨_, rfl, _, n2.at_, rfl, rfl, iteN ?_ ⟨_, _, n2.kp _ _ d.ob, rfl, fin n2.kp _⟩⟩⟩
          rw [show inV (V.str kd) [V.str (Str.ofString "get"), V.str (Str.ofString "take")] = decide (kd ∈ getK) from inV_str kd getK]
          have all : ∀ k ∈ othK, ¬ decide (k ∈ getK) = true := by decide +kernel
          exact all kd h
    · rintro σ H1 ⟨s1, ⟨v4, rfl⟩, hnb⟩
      refine ⟨fun σ H' => Same H H' ∧ (∃ v4, σ = [some (.ref a), some (.int n), some (.ref p), some (.str kd), v4]) ∧ gBad N i = false, ?_, ?_⟩
      · refine ⟨_, rfl, rfl, ?_⟩
        cases i with
        | nm k x =>
          obtain ⟨rfl, hk⟩ := hcl
          refine iteN (sneV ?_) ⟨s1, ⟨_, rfl⟩, rfl⟩
          have all : ∀ k ∈ getK ++ othK, ¬ k = "go" := by decide +kernel
          exact all kd (List.mem_append.mpr hk)
        | ot k =>
          obtain ⟨rfl, hk⟩ := hcl
          refine iteN (sneV ?_) ⟨s1, ⟨_, rfl⟩, rfl⟩
          have all : ∀ k ∈ otK, ¬ k = "go" := by decide +kernel
          exact all kd hk
        | go m =>
          obtain ⟨rfl, hm⟩ := hcl
          have d1 := d.same s1
          refine iteP rfl ⟨_, rfl, p, rfl, _, s1 _ _ hp, _, hm, _, rfl, a, rfl, _, _, d1.ob, rfl, _, rfl, a, dx, L, _, ls, n, f, rfl, d1.ob, rfl, it.ln.same d1.sm, it.ok, it.le, it.th, it.no, it.lt, by have := it.ll; omega, fun H2 s2 => ⟨m, rfl, _, rfl, ?_⟩⟩
          rw [hN]
          refine ite2 (fun c => ⟨_, rfl, n, rfl, (k0 "number" ?_).rs hn (by decide +kernel) (d1.same s2).sm⟩) (fun c => ⟨s1.trans s2, ⟨_, rfl⟩, decide_eq_false c⟩)
          unfold addIns
          rw [if_neg (by rw [hnb]; exact Bool.false_ne_true), if_pos (show gBad N (.go m) = true from decide_eq_true c)]
      · rintro σ H2 ⟨s2, ⟨v4, rfl⟩, hgb⟩
        have d2 := d.same s2
        obtain ⟨ts, hT, hts⟩ := d2.th
        have hb : bBad st.ins i = ((decide (kd = "begin") && st.ins) || (decide (kd = "end") && !st.ins)) := by
          cases i with
          | nm k x =>
            obtain ⟨rfl, hk⟩ := hcl
            have all : ∀ k ∈ getK ++ othK, ¬ k = "begin" ∧ ¬ k = "end" := by decide +kernel
            obtain ⟨z1, z2⟩ := all kd (List.mem_append.mpr hk)
            rw [decide_eq_false z1, decide_eq_false z2]
            rfl
          | go m =>
            obtain ⟨rfl, hk⟩ := hcl
            rw [decide_eq_false (by decide +kernel), decide_eq_false (by decide +kernel)]
            rfl
          | ot k =>
            obtain ⟨rfl, hk⟩ := hcl
            rfl
        have hin : insN st.ins i = if kd = "begin" ∨ kd = "end" then decide (kd = "begin") else st.ins := by
          cases i with
          | nm k x =>
            obtain ⟨rfl, hk⟩ := hcl
            have all : ∀ k ∈ getK ++ othK, ¬ (k = "begin" ∨ k = "end") := by decide +kernel
            rw [if_neg (all kd (List.mem_append.mpr hk))]
            rfl
          | go m =>
            obtain ⟨rfl, hk⟩ := hcl
            rw [if_neg (by decide +kernel)]
            rfl
          | ot k =>
            obtain ⟨rfl, hk⟩ := hcl
            rfl
        obtain ⟨c, hc⟩ : ∃ c, st.th.getLast? = some c := by
          cases e : st.th.getLast? with
          | none => exact absurd (List.getLast?_eq_none_iff.mp e) hth
          | some c => exact ⟨c, rfl⟩
        obtain ⟨nm', hnm⟩ := List.getLast?_eq_some_iff.mp hc
        obtain ⟨q, xs, hlast, hq, hxl⟩ : ∃ q xs, ts.getLast? = some (.ref q) ∧ H2 q = some (.lst xs) ∧ xs.length = c := by
          have hlen := hts.len
          rw [hnm, List.length_append, List.length_singleton] at hlen
          have hj : nm'.length < ts.length := by omega
          obtain ⟨q, xs, e, h1, h2, _⟩ := hts.at_ nm'.length ts[nm'.length] c (List.getElem?_eq_getElem hj) (by rw [hnm, List.getElem?_append_right (Nat.le_refl _), Nat.sub_self]; rfl)
          refine ⟨q, xs, ?_, h1, h2⟩
          rw [List.getLast?_eq_getElem?, hlen, Nat.add_sub_cancel, List.getElem?_eq_getElem hj, e]
        have neT : Tt ≠ a := ne_of hT d2.ob (by intro z; cases z)
        have neq : q ≠ a := ne_of hq d2.ob (by intro z; cases z)
        have c12 : c ≤ 12 := d2.l3 c (by rw [hnm]; simp)
        walk_at "wp"
        refine fld_ d2.ob R.c (R.n _ (by decide +kernel)) rfl ⟨_, rfl, _, hT, _, at_last hlast, q, rfl, _, hq, ite2 (fun c1 => ?_) (fun c1 => ?_)⟩
        · refine (k0 "many" ?_).rs hn (by decide +kernel) d2.sm
          unfold addIns
          rw [if_neg (by rw [hnb]; exact Bool.false_ne_true), if_neg (by rw [hgb]; exact Bool.false_ne_true), if_pos (by rw [hc]; congr 1; omega)]
        have hne12 : st.th.getLast? ≠ some 12 := by
          rw [hc]
          intro z
          have := Option.some.inj z
          omega
        have blk : bBad st.ins i = true → _ := fun z => (k0 "block" (by
          unfold addIns
          rw [if_neg (by rw [hnb]; exact Bool.false_ne_true), if_neg (by rw [hgb]; exact Bool.false_ne_true), if_neg hne12, if_pos z])).rs hn (by decide +kernel) d2.sm
        refine ite2 (fun cb => fld_ d2.ob R.c (R.n _ (by decide +kernel)) rfl ⟨_, rfl, ite2 (fun ci => blk ?_) (fun ci => iteN ?_ ?_)⟩) (fun cb => ite2 (fun ce => fld_ d2.ob R.c (R.n _ (by decide +kernel)) rfl ⟨_, rfl, ite2 (fun ci => blk ?_) (fun ci => ?_)⟩) (fun ce => ?_))
        · rw [hb, cb, ci, decide_eq_true rfl]
          rfl
        · rw [cb]
          decide +kernel
        · have hbb : bBad st.ins i = false := by
            rw [hb, cb, Bool.eq_false_iff.mpr ci, decide_eq_false (show ¬ (Str.ofString "begin" = Str.ofString "end") by decide +kernel)]
            simp
          refine ⟨fun σ H' => (∃ v4, σ = [some (.ref a), some (.int n), some (.ref p), some (.str kd), v4]) ∧ DrO Ax.dr H0 H' a dx L S Tt { st with ins := insN st.ins i } ∧ H' Tt = some (.lst ts) ∧ H' q = some (.lst xs), fun q5 H5 n5 => ⟨_, rfl, _, n5.at_, rfl, ?_⟩, ?_⟩
          · rw [show inV (V.str kd) [V.str (Str.ofString "begin"), V.str (Str.ofString "end")] = decide (kd ∈ ([Str.ofString "begin", Str.ofString "end"] : List Str)) from inV_str kd [Str.ofString "begin", Str.ofString "end"]]
            have d5 := d2.same n5.kp
            refine ite2 (fun cm => setf_ d5.ob R.c (R.n _ (by decide +kernel)) rfl fun H6 g6 => ⟨⟨_, rfl⟩, ?_, g6.kp Tt _ neT (n5.kp _ _ hT), g6.kp q _ neq (n5.kp _ _ hq)⟩) (fun cm => ⟨⟨_, rfl⟩, ?_, n5.kp _ _ hT, n5.kp _ _ hq⟩)
            · have e : insN st.ins i = decide (kd = Str.ofString "begin") := by
                rw [hin, if_pos (by simpa using cm)]
              rw [e]
              exact d5.setF g6
            · have e : insN st.ins i = st.ins := by
                rw [hin, if_neg (fun z => cm (by simpa using z))]
              rw [e]
              exact d5
          · rintro σ H7 ⟨⟨v4', rfl⟩, d7, hT7, hq7⟩
            walk_at "wp"
            refine fld_ d7.ob R.c (R.n _ (by decide +kernel)) rfl ⟨_, rfl, _, hT7, _, at_last hlast, q, rfl, ⟨_, hq7⟩, _, hq7, lt_line (by omega), fun H8 g8 => k1 _ ?_ H8 (d7.addI hT7 hlast hq7 g8 hne12)⟩
            unfold addIns
            rw [if_neg (by rw [hnb]; exact Bool.false_ne_true), if_neg (by rw [hgb]; exact Bool.false_ne_true), if_neg hne12, if_neg (by rw [hbb]; exact Bool.false_ne_true)]
        · rw [hb, ce, decide_eq_true (rfl : Str.ofString "end" = Str.ofString "end"), ci]
          simp
        · have hbb : bBad st.ins i = false := by
            rw [hb, decide_eq_false cb, show st.ins = true by simpa using ci]
            simp
          refine ⟨fun σ H' => (∃ v4, σ = [some (.ref a), some (.int n), some (.ref p), some (.str kd), v4]) ∧ DrO Ax.dr H0 H' a dx L S Tt { st with ins := insN st.ins i } ∧ H' Tt = some (.lst ts) ∧ H' q = some (.lst xs), fun q5 H5 n5 => ⟨_, rfl, _, n5.at_, rfl, ?_⟩, ?_⟩
          · rw [show inV (V.str kd) [V.str (Str.ofString "begin"), V.str (Str.ofString "end")] = decide (kd ∈ ([Str.ofString "begin", Str.ofString "end"] : List Str)) from inV_str kd [Str.ofString "begin", Str.ofString "end"]]
            have d5 := d2.same n5.kp
            refine ite2 (fun cm => setf_ d5.ob R.c (R.n _ (by decide +kernel)) rfl fun H6 g6 => ⟨⟨_, rfl⟩, ?_, g6.kp Tt _ neT (n5.kp _ _ hT), g6.kp q _ neq (n5.kp _ _ hq)⟩) (fun cm => ⟨⟨_, rfl⟩, ?_, n5.kp _ _ hT, n5.kp _ _ hq⟩)
            · have e : insN st.ins i = decide (kd = Str.ofString "begin") := by
                rw [hin, if_pos (by simpa using cm)]
              rw [e]
              exact d5.setF g6
            · have e : insN st.ins i = st.ins := by
                rw [hin, if_neg (fun z => cm (by simpa using z))]
              rw [e]
              exact d5
          · rintro σ H7 ⟨⟨v4', rfl⟩, d7, hT7, hq7⟩
            walk_at "wp"
            refine fld_ d7.ob R.c (R.n _ (by decide +kernel)) rfl ⟨_, rfl, _, hT7, _, at_last hlast, q, rfl, ⟨_, hq7⟩, _, hq7, lt_line (by omega), fun H8 g8 => k1 _ ?_ H8 (d7.addI hT7 hlast hq7 g8 hne12)⟩
            unfold addIns
            rw [if_neg (by rw [hnb]; exact Bool.false_ne_true), if_neg (by rw [hgb]; exact Bool.false_ne_true), if_neg hne12, if_neg (by rw [hbb]; exact Bool.false_ne_true)]
        · have hbb : bBad st.ins i = false := by
            rw [hb, decide_eq_false cb, decide_eq_false ce]
            rfl
          refine ⟨fun σ H' => (∃ v4, σ = [some (.ref a), some (.int n), some (.ref p), some (.str kd), v4]) ∧ DrO Ax.dr H0 H' a dx L S Tt { st with ins := insN st.ins i } ∧ H' Tt = some (.lst ts) ∧ H' q = some (.lst xs), fun q5 H5 n5 => ⟨_, rfl, _, n5.at_, rfl, ?_⟩, ?_⟩
          · rw [show inV (V.str kd) [V.str (Str.ofString "begin"), V.str (Str.ofString "end")] = decide (kd ∈ ([Str.ofString "begin", Str.ofString "end"] : List Str)) from inV_str kd [Str.ofString "begin", Str.ofString "end"]]
            have d5 := d2.same n5.kp
            refine ite2 (fun cm => setf_ d5.ob R.c (R.n _ (by decide +kernel)) rfl fun H6 g6 => ⟨⟨_, rfl⟩, ?_, g6.kp Tt _ neT (n5.kp _ _ hT), g6.kp q _ neq (n5.kp _ _ hq)⟩) (fun cm => ⟨⟨_, rfl⟩, ?_, n5.kp _ _ hT, n5.kp _ _ hq⟩)
            · have e : insN st.ins i = decide (kd = Str.ofString "begin") := by
                rw [hin, if_pos (by simpa using cm)]
              rw [e]
              exact d5.setF g6
            · have e : insN st.ins i = st.ins := by
                rw [hin, if_neg (fun z => cm (by simpa using z))]
              rw [e]
              exact d5
          · rintro σ H7 ⟨⟨v4', rfl⟩, d7, hT7, hq7⟩
            walk_at "wp"
            refine fld_ d7.ob R.c (R.n _ (by decide +kernel)) rfl ⟨_, rfl, _, hT7, _, at_last hlast, q, rfl, ⟨_, hq7⟩, _, hq7, lt_line (by omega), fun H8 g8 => k1 _ ?_ H8 (d7.addI hT7 hlast hq7 g8 hne12)⟩
            unfold addIns
            rw [if_neg (by rw [hnb]; exact Bool.false_ne_true), if_neg (by rw [hgb]; exact Bool.false_ne_true), if_neg hne12, if_neg (by rw [hbb]; exact Bool.false_ne_true)]
end
end K10
set_option linter.all false
set_option maxRecDepth 100000
set_option maxHeartbeats 4000000
namespace K10
open PySem PySem.Spec PyProof.Rows L2
section
variable {P : Program} {w : World} {K : PySem.W.Frag} {mg : Str → Option Value} {base : Heap} {Ax : Ad}
local macro_rules | `(tactic| walk_at "wp") => `(tactic| simp only [tVar, tC, tOp, rI0, rI, rU, tUn, rEq, rNe, tTest, tB, tAnd, tOr, tNot, tAndV, tOrV, tNotV, tIf, tSeq, tNext, tAsg, gName, gSub, tDrop, tRet, tRetN, tIfS, tBreak, tCont, tAug, ipI, tCB, tCons, tNil,
  xTup, xLst, xIxL, xIxT, xIxS, xIxK, xLenL, xLenT, xLenS, xLenK, xSlL, xSlT, xSlS, xInL, xInT, xInK, xCat, xRep, xCatT, xTupL, xSetL, xIntS, xIntI, xIntB, xApp, xJoin, xSplit, xFld, xSetF, xAugF, tSl, tPart, tNoPart, xCall, xMeth, xMeth0, xMake, xRaise, xgT, xgL, gCons, gNil, xInD, xIxD, C8.tCut, xIsi, for_r1, for_r2, for_l, for_t, for_e, lc_xl, lc_xt, lc_xr, tM0, S,
  exists_eq_left, exists_eq_left', exists_and_left, V.int.injEq, V.ref.injEq, V.str.injEq, V.bl.injEq, consV, Option.some.injEq, HO.lst.injEq, HO.tup.injEq, HO.ins.injEq, and_true, true_and, List.getElem?_cons_zero, List.getElem?_cons_succ, List.set_cons_zero, List.set_cons_succ,
  if_true, if_false, Bool.false_eq_true, and_assoc, V.ty.injEq, isbI, isbS, kb1, kb2, kb3, kb4, kb5, kb6, kb7, kb8, kb9, reduceCtorEq, decide_false, decide_true, decide_eq_true_eq, Bool.not_eq_true', decide_eq_false_iff_not, Bool.not_true, Bool.not_false, ite_not, at0, at1, at2, at3, at4, ix0, ix1, fl_int, fl_str, fl_bl, fl_non, al_nil, al_cons, lenNil, len1, len2, len3, len4, sc_ii, sc_ss, sc_ns, sc_sn, sc_nn, sc_in, sc_si, sc_is, sc_bb, st_go])
local macro_rules | `(tactic| walk_at "wf") => `(tactic| simp only [*,
  exists_eq_left, exists_eq_left', exists_and_left, V.int.injEq, V.ref.injEq, V.str.injEq, V.bl.injEq, consV, Option.some.injEq, HO.lst.injEq, HO.tup.injEq, HO.ins.injEq, and_true, true_and, List.getElem?_cons_zero, List.getElem?_cons_succ, List.set_cons_zero, List.set_cons_succ,
  if_true, if_false, Bool.false_eq_true, and_assoc, V.ty.injEq, isbI, isbS, kb1, kb2, kb3, kb4, kb5, kb6, kb7, kb8, kb9, reduceCtorEq, decide_false, decide_true, decide_eq_true_eq, Bool.not_eq_true', decide_eq_false_iff_not, Bool.not_true, Bool.not_false, ite_not, at0, at1, at2, at3, at4, ix0, ix1, fl_int, fl_str, fl_bl, fl_non, al_nil, al_cons, lenNil, len1, len2, len3, len4, sc_ii, sc_ss, sc_ns, sc_sn, sc_nn, sc_in, sc_si, sc_is, sc_bb, st_go])
local macro_rules | `(tactic| walk_at "len") => `(tactic| (refine le_line ?_; simp only [List.length_cons, List.length_nil, List.length_append, List.length_map, List.map_nil, List.map_cons] <;> omega))
/-- [part[0] for part in parts] -/
theorem lc_kinds {p : Addr} {l : Ln} {j : Nat} {vs : List Nat} {σ : L2.St} {H : Hp} {Q : VK} (hp : Pt H p l) (hl : l.length ≤ 100) (hw : ∀ x, wipe ((wipe σ vs).set j (some x)) vs = wipe σ vs) (hj : ∀ x, ((wipe σ vs).set j (some x))[j]? = some (some x))
    (k : ∀ D H', H D = none → Same H H' → H' D = some (.lst ((l.map (·.1)).map V.str)) → Q (.ref D) H') : (∃ xs, H p = some (.lst xs)) ∧ Lc (Itl K p) (gName j) (moT tYes) (mo (tOp xIxT (tVar j) (tC (V.int 0)))) vs σ H Q := by
  obtain ⟨ws, hp, rp⟩ := hp
  have lw : ws.length = l.length := by rw [rp.len, List.length_map]
  refine ⟨⟨_, hp⟩, lc_pure (ds := l) (fun _ => true) (fun t => V.str t.1) hp lw (by omega) hw (fun i x d H' hi hd s K1 K0 h1 h0 => ?_) (fun D H' n s h => k D H' n s ?_)⟩
  · obtain ⟨a, x1, x2, rfl, ha, r1, r2⟩ := Rp.t2 ((rp.2 i x _ hi (by rw [List.getElem?_map, hd]; rfl)).tk (.of s))
    cases r1.str_inv
    cases r2.str_inv
    simp only [tYes, if_true]
    exact ⟨_, hj _, _, _, rfl, rfl, _, ha, _, at0, h1 rfl H' (Same.refl _)⟩
  · rw [h, List.map_map, List.filter_eq_self.mpr (fun _ _ => rfl)]
    rfl
theorem shared_word {l : Ln} {t : Th} (ok : ∀ t ∈ l, TOk t) (h : sharedT l = some t) : Wk "word" (thN t) := by
  unfold sharedT at h
  split at h
  · rename_i c
    cases h
    exact word_at (i := 1) ok c rfl
  split at h
  · rename_i c
    cases h
    exact word_at (i := 1) ok c rfl
  split at h
  · rename_i c
    cases h
    exact word_at (i := 1) ok c rfl
  split at h
  · rename_i c
    cases h
    exact word_at (i := 1) ok c rfl
  split at h
  · rename_i c
    cases h
    exact word_at (i := 1) ok c rfl
  cases h
def isBad (l : Ln) : Bool := l.any fun t => decide (t.1 = "bad")
theorem any_bad (l : Ln) : inV (.str "bad") ((l.map (·.1)).map V.str) = isBad l := by
  rw [inV_str]
  unfold isBad
  induction l with
  | nil => rfl
  | cons t l ih =>
    rw [List.any_cons, ← ih, List.map_cons]
    by_cases h : t.1 = "bad"
    · simp [h]
    · have h' : ¬ ("bad" : Str) = t.1 := fun z => h z.symm
      simp [h, h', List.mem_cons]
def spAddLine (C pf : Addr) : Sp := fun vs H Q E => ∃ (H0 : Hp) (a dx L S Tt p : Addr) (st : DS) (n N : Nat) (l : Ln) (ls : List Ln), vs = [.ref a, .int n, .ref p] ∧ DrO C H0 H a dx L S Tt st ∧ Pt H p l ∧ LOk l ∧ n < 1000 ∧
  (isBad l = false → l ≠ thr → st.th ≠ [] → InsPre l ∧ ∃ f, InThr H0 L ls n f ∧ N = cnt (ls.drop (f + 1))) ∧
  (∀ w, step N st l = .error w → Fl pf H0 n w E) ∧ ∀ st', step N st l = .ok st' → ∀ H', DrO C H0 H' a dx L S Tt st' → Q .non H'
theorem ok_dr_add_line (F : Dm K Ax.dr "add_line" "Draft.add_line" s_Draft_add_line ["self", "at", "parts"]) (T : Tx w K mg Ax) (R : DrT K Ax.dr) (G_PF : PF P w K mg base Ax.pf) (G_shared : Cl P w K mg base L2.CX0 2 "_shared" spShared) (G_instruction : Cl P w K mg base L2.CX0 12 "_instruction" spInstr)
    (G_add_thread : Me P w K mg base (L2.CX P w) 3 Ax.dr "add_thread" (spAddThr Ax.dr Ax.pf)) (G_add_shared : Me P w K mg base (L2.CX P w) 5 Ax.dr "add_shared" (spAddSh Ax.dr Ax.pf)) (G_add_instruction : Me P w K mg base (L2.CX P w) 3 Ax.dr "add_instruction" (spAddIns Ax.dr Ax.pf)) :
    Me P w K mg base (L2.CX P w) 13 Ax.dr "add_line" (spAddLine Ax.dr Ax.pf) := by
  refine F.meX sc_Draft_add_line (fun vs H Q E h => ?_) (fun f cdv A outer s H vs Q E hr h => ?_)
  · obtain ⟨_, _, _, _, _, _, _, _, _, _, _, _, rfl, _⟩ := h
    rfl
  · obtain ⟨H0, a, dx, L, S, Tt, p, st, n, N, l, ls, rfl, d, hp, ok, hn, hin, k0, k1⟩ := h
    refine ⟨_, (pss_cons (ps_if (pt_cmpR in_l pe_str (pe_lc (own := [("part", 3)]) (g := gName 3) rfl sc_Draft_add_line.nd (pi_l (pv 2)) (blkOk_by (own := [("part", 3)]) (N := N_Draft_add_line) (sc := defScope s_Draft_add_line) (by decide +kernel)) (fun _ _ _ _ _ => pg_name (i := 3) sc_Draft_add_line.nd rfl (Or.inl rfl)) (fun _ _ _ _ _ => pts_mo pts_nil) (fun _ _ _ _ _ => pe_mo (pe_ix ix_t (pv 3) pe_int (fun _ _ => rfl)))) rfl) (pss_one (px_raise rfl G_PF hr (by omega) (takes_of rfl rfl rfl rfl) (by rfl) (pa_cons (pv 1) (pa_cons pe_str pa_nil)))) pss_nil)
  (pss_one (ps_if (pt_cmpR (op_eqD (hu64 hr)) (pv 2) (px_lst (pa_cons (px_tup (pa_cons pe_str (pa_cons pe_str pa_nil))) pa_nil)) (nomark _)) (pss_one (ps_expr (px_mE G_add_thread hr (by omega) (passes_call (takes_of rfl rfl rfl rfl) fun _ _ _ _ h => h) (pv 0) (pa_cons (pv 1) pa_nil)))) (pss_one (ps_if (pt_cmpR op_eq (pe_callB len_l (by rfl) T.b_len PySem.boot_len (pa_cons (px_fld (pv 0) rfl) pa_nil)) pe_int (nomark _)) (pss_cons (ps_set (i := 4) sc_Draft_add_line.nd rfl (Or.inl rfl) (px_c G_shared hr (by omega) (by rfl) (pa_cons (pv 2) pa_nil)))
  (pss_cons (ps_if (pt_cmpR op_isN (pv 4) pe_non (nomark _)) (pss_one (px_raise rfl G_PF hr (by omega) (takes_of rfl rfl rfl rfl) (by rfl) (pa_cons (pv 1) (pa_cons pe_str pa_nil)))) pss_nil)
  (pss_one (ps_expr (px_mE G_add_shared hr (by omega) (passes_call (takes_of rfl rfl rfl rfl) fun _ _ _ _ h => h) (pv 0) (pa_cons (pv 1) (pa_cons (pv 4) pa_nil))))))) (pss_cons (ps_set (i := 5) sc_Draft_add_line.nd rfl (Or.inl rfl) (px_c G_instruction hr (by omega) (by rfl) (pa_cons (pv 2) pa_nil)))
  (pss_cons (ps_if (pt_cmpR op_isN (pv 5) pe_non (nomark _)) (pss_one (px_raise rfl G_PF hr (by omega) (takes_of rfl rfl rfl rfl) (by rfl) (pa_cons (pv 1) (pa_cons pe_str pa_nil)))) pss_nil)
  (pss_one (ps_expr (px_mE G_add_instruction hr (by omega) (passes_call (takes_of rfl rfl rfl rfl) fun _ _ _ _ h => h) (pv 0) (pa_cons (pv 1) (pa_cons (pv 5) pa_nil)))))))))))), ?_⟩
    rw [show L2.start N_Draft_add_line [V.ref a, V.int n, V.ref p] = [some (.ref a), some (.int n), some (.ref p), none, none, none] from rfl]
    walk_at "wp"
    have hl := ok.sz
    refine lc_kinds hp (by omega) (fun x => rfl) (fun x => rfl) fun D H1 nD s1 hD => ?_
    have d1 := d.same s1
    refine ⟨D, rfl, _, hD, all_str _, ?_⟩
    rw [any_bad]
    refine ite2 (fun cb => (k0 "tokens" (by unfold step; rw [if_pos (show (l.any fun t => decide (t.1 = "bad")) = true from cb)])).rs hn (by decide +kernel) d1.sm) (fun cb => ?_)
    have cb' : isBad l = false := Bool.eq_false_iff.mpr cb
    have e0 : step N st l = if l = thr then addThr st else if st.th = [] then (match sharedT l with | none => .error "form" | some t => addSh st t) else match insT l with | none => .error "form" | some i => addIns N st i := by
      unfold step
      rw [if_neg (show ¬ (l.any fun t => decide (t.1 = "bad")) = true from cb)]
      all_goals rfl
    refine thr_ fun q H2 s2 hq => ?_
    have s2' := s1.trans s2
    have d2 := d.same s2'
    have hp2 := hp.same s2'
    refine eq_ln hp2 hq ok thr_ok ⟨_, rfl, ?_⟩
    by_cases ct : l = thr
    · refine iteP (decide_eq_true ct) ⟨_, _, d2.ob, rfl, H0, a, dx, L, S, Tt, st, n, rfl, d2, hn, fun w hw => k0 w ?_, fun st' hs H3 d3 => k1 st' ?_ H3 d3⟩
      · rw [e0, if_pos ct]
        exact hw
      · rw [e0, if_pos ct]
        exact hs
    · refine iteN (by rw [decide_eq_false ct]; exact Bool.false_ne_true) ?_
      obtain ⟨ts, hT, hts⟩ := d2.th
      have lt := hts.len
      refine fld_ d2.ob R.c (R.n _ (by decide +kernel)) rfl ⟨_, rfl, _, hT, ite2 (fun c0 => ?_) (fun c0 => ?_)⟩
      · have cth : st.th = [] := List.eq_nil_of_length_eq_zero (by omega)
        refine ⟨p, l, rfl, hp2, ok, fun en H3 s3 => ?_, fun t et v H3 s3 rt => ?_⟩
        · refine iteP rfl ((k0 "form" ?_).rs hn (by decide +kernel) (d2.same s3).sm)
          rw [e0, if_neg ct, if_pos cth, en]
        · have wk := shared_word ok.tk et
          obtain ⟨pv, lv, rfl, _⟩ := rp_th rt
          have d3 := d2.same s3
          refine iteN (fun z => by cases z) ⟨_, _, d3.ob, rfl, H0, a, dx, L, S, Tt, st, n, t, _, rfl, d3, hn, rt, wk, fun w hw => k0 w ?_, fun st' hs H4 d4 => k1 st' ?_ H4 d4⟩
          · rw [e0, if_neg ct, if_pos cth, et]
            exact hw
          · rw [e0, if_neg ct, if_pos cth, et]
            exact hs
      · have cth : st.th ≠ [] := fun z => c0 (by rw [z] at lt; rw [lt]; rfl)
        obtain ⟨ip, f, it, hN⟩ := hin cb' ct cth
        refine ⟨p, l, rfl, hp2, ok, ip, fun en H3 s3 => ?_, fun i ei v H3 s3 iv => ?_⟩
        · refine iteP rfl ((k0 "form" ?_).rs hn (by decide +kernel) (d2.same s3).sm)
          rw [e0, if_neg ct, if_neg cth, en]
        · obtain ⟨pv, vs, rfl, hpv, hiv⟩ := iv
          have d3 := d2.same s3
          refine iteN (fun z => by cases z) ⟨_, _, d3.ob, rfl, H0, a, dx, L, S, Tt, st, n, f, i, _, ls, rfl, d3, ⟨pv, vs, rfl, hpv, hiv⟩, it, cth, fun w hw => k0 w ?_, fun st' hs H4 d4 => k1 st' ?_ H4 d4⟩
          · rw [e0, if_neg ct, if_neg cth, ei, hN]
            exact hw
          · rw [e0, if_neg ct, if_neg cth, ei, hN]
            exact hs
end
end K10
set_option linter.all false
set_option maxRecDepth 100000
set_option maxHeartbeats 4000000
namespace K10
open PySem PySem.Spec PyProof.Rows L2
section
variable {P : Program} {w : World} {K : PySem.W.Frag} {mg : Str → Option Value} {base : Heap} {Ax : Ad}
local macro_rules | `(tactic| walk_at "wp") => `(tactic| simp only [tVar, tC, tOp, rI0, rI, rU, tUn, rEq, rNe, tTest, tB, tAnd, tOr, tNot, tAndV, tOrV, tNotV, tIf, tSeq, tNext, tAsg, gName, gSub, tDrop, tRet, tRetN, tIfS, tBreak, tCont, tAug, ipI, tCB, tCons, tNil,
  xTup, xLst, xIxL, xIxT, xIxS, xIxK, xLenL, xLenT, xLenS, xLenK, xSlL, xSlT, xSlS, xInL, xInT, xInK, xCat, xRep, xCatT, xTupL, xSetL, xIntS, xIntI, xIntB, xApp, xJoin, xSplit, xFld, xSetF, xAugF, tSl, tPart, tNoPart, xCall, xMeth, xMeth0, xMake, xRaise, xgT, xgL, gCons, gNil, xInD, xIxD, C8.tCut, xIsi, for_r1, for_r2, for_l, for_t, for_e, lc_xl, lc_xt, lc_xr, tM0, S,
  exists_eq_left, exists_eq_left', exists_and_left, V.int.injEq, V.ref.injEq, V.str.injEq, V.bl.injEq, consV, Option.some.injEq, HO.lst.injEq, HO.tup.injEq, HO.ins.injEq, and_true, true_and, List.getElem?_cons_zero, List.getElem?_cons_succ, List.set_cons_zero, List.set_cons_succ,
  if_true, if_false, Bool.false_eq_true, and_assoc, V.ty.injEq, isbI, isbS, kb1, kb2, kb3, kb4, kb5, kb6, kb7, kb8, kb9, reduceCtorEq, decide_false, decide_true, decide_eq_true_eq, Bool.not_eq_true', decide_eq_false_iff_not, Bool.not_true, Bool.not_false, ite_not, at0, at1, at2, at3, at4, ix0, ix1, fl_int, fl_str, fl_bl, fl_non, al_nil, al_cons, lenNil, len1, len2, len3, len4, sc_ii, sc_ss, sc_ns, sc_sn, sc_nn, sc_in, sc_si, sc_is, sc_bb, st_go])
local macro_rules | `(tactic| walk_at "wf") => `(tactic| simp only [*,
  exists_eq_left, exists_eq_left', exists_and_left, V.int.injEq, V.ref.injEq, V.str.injEq, V.bl.injEq, consV, Option.some.injEq, HO.lst.injEq, HO.tup.injEq, HO.ins.injEq, and_true, true_and, List.getElem?_cons_zero, List.getElem?_cons_succ, List.set_cons_zero, List.set_cons_succ,
  if_true, if_false, Bool.false_eq_true, and_assoc, V.ty.injEq, isbI, isbS, kb1, kb2, kb3, kb4, kb5, kb6, kb7, kb8, kb9, reduceCtorEq, decide_false, decide_true, decide_eq_true_eq, Bool.not_eq_true', decide_eq_false_iff_not, Bool.not_true, Bool.not_false, ite_not, at0, at1, at2, at3, at4, ix0, ix1, fl_int, fl_str, fl_bl, fl_non, al_nil, al_cons, lenNil, len1, len2, len3, len4, sc_ii, sc_ss, sc_ns, sc_sn, sc_nn, sc_in, sc_si, sc_is, sc_bb, st_go])
local macro_rules | `(tactic| walk_at "len") => `(tactic| (refine le_line ?_; simp only [List.length_cons, List.length_nil, List.length_append, List.length_map, List.map_nil, List.map_cons] <;> omega))
/-- what read_program is asked -/
structure RPre (text : Str) (LS : List Ln) (nf : Nat) (w : Str) : Prop where
  sp : Txt.split text (Str.ofString "\n") = LS.map lnS
  ok : ∀ l ∈ LS, LOk l
  jn : ∀ l ∈ LS, (lnS l).cps.toList = jn (l.map (·.2)) ∧ (lnS l).length ≤ 100000
  ip : ∀ l ∈ LS, l ≠ [] → isBad l = false → l ≠ thr → InsPre l
  ll : LS.length ≤ 900
  lt : text.length ≤ 100000
  run : run 0 0 st0 LS = (nf, w)
  nok : w ≠ "ok"
/-- the lines so far: D their list, laid behind H -/
structure LnI (LS : List Ln) (H : Hp) (D : Addr) (i : Nat) (acc : List V) (H' : Hp) : Prop where
  fr : H D = none
  sm : Same H H'
  ln : acc.length = i
  at_ : ∀ (j : Nat) (v : V) (l : Ln), acc[j]? = some v → LS[j]? = some l → ∃ p, v = .ref p ∧ p ≠ D ∧ Pt H' p l
theorem LnI.lns {LS : List Ln} {H H' : Hp} {D : Addr} {acc : List V} (h : LnI LS H D LS.length acc H') (hD : H' D = some (.lst acc)) : LnsO H' D LS := ⟨acc, hD, h.ln, fun i v l h1 h2 => by
  obtain ⟨p, e, _, t⟩ := h.at_ i v l h1 h2
  exact ⟨p, e, t⟩⟩
/-- the loop of read_program, ahead of line i -/
structure RdI (C : Addr) (LS : List Ln) (nf : Nat) (wd : Str) (H0 : Hp) (a dx L S Tt : Addr) (i : Nat) (H' : Hp) : Prop where
  ex : ∃ (st : DS) (n : Nat), DrO C H0 H' a dx L S Tt st ∧ run i n st (LS.drop i) = (nf, wd) ∧ (st.th ≠ [] → ∃ f, f < i ∧ LS[f]? = some thr ∧ (∀ j, f < j → j < i → LS[j]? ≠ some thr) ∧ n = cnt (LS.drop (f + 1)))
theorem Pt.chg {H H' : Hp} {p D : Addr} {l : Ln} {xs : List V} {o : HO} (t : Pt H p l) (n : p ≠ D) (hD : H D = some (.lst xs)) (g : Chg D o H H') : Pt H' p l := by
  obtain ⟨ws, a, b⟩ := t
  exact ⟨ws, g.kp p _ n a, b.tk (Chg.tk g hD)⟩
theorem addSh_th {st st' : DS} {t : Th} (h : addSh st t = .ok st') : st'.th = st.th := by
  unfold addSh at h
  split at h
  · cases h
  split at h
  · cases h
  split at h
  · cases h
  split at h
  · cases h
  cases h
  rfl
theorem step_th {N : Nat} {st st' : DS} {l : Ln} (h : step N st l = .ok st') (hl : l ≠ thr) (h0 : st.th = []) : st'.th = [] := by
  unfold step at h
  split at h
  · cases h
  try rw [if_neg hl, if_pos h0] at h
  cases e : sharedT l with
  | none => rw [e] at h; cases h
  | some t =>
    rw [e] at h
    exact (addSh_th h).trans h0
def spRP (pf : Addr) : Sp := fun vs H Q E => ∃ (text : Str) (LS : List Ln) (nf : Nat) (w : Str), vs = [.str text] ∧ RPre text LS nf w ∧ Fl pf H nf w E
theorem ok_read_program (F : Df K mg "read_program" s_read_program ["text"]) (T : Tx w K mg Ax) (R : DrT K Ax.dr) (G_PF : PF P w K mg base Ax.pf) (G_tokens : Cl P w K mg base L2.CX0 3 "tokens" spTokens) (M_Draft : Mq P w K mg base 1 "Draft" Ax.dr (spDrInit Ax.dr))
    (G_add_line : Me P w K mg base (L2.CX P w) 13 Ax.dr "add_line" (spAddLine Ax.dr Ax.pf)) (G_program : Me P w K mg base L2.CX0 0 Ax.dr "program" spNo) : Cl P w K mg base (L2.CX P w) 14 "read_program" (spRP Ax.pf) := by
  refine F.clX sc_read_program (fun vs H Q E h => ?_) (fun f cdv A outer s H vs Q E hr h => ?_)
  · obtain ⟨_, _, _, _, rfl, _⟩ := h
    rfl
  · obtain ⟨text, LS, nf, wd, rfl, pre, fl⟩ := h
    refine ⟨_, (pss_cons (ps_setLc (i := 1) (own := [("line", 2)]) (g := gName 2) rfl sc_read_program.nd rfl rfl (sw_true rfl rfl rfl (by decide +kernel)) (pi_l (px_split (pv 0) pe_str)) (blkOk_by (own := [("line", 2)]) (N := N_read_program) (sc := defScope s_read_program) (by decide +kernel)) (fun _ _ _ _ _ => pg_name (i := 2) sc_read_program.nd rfl (Or.inl rfl)) (fun _ _ _ _ _ => pts_mo pts_nil) (fun _ _ _ _ _ => pe_mo (px_c G_tokens hr (by omega) (by rfl) (pa_cons (pv 2) pa_nil))))
  (pss_cons (ps_set (i := 3) sc_read_program.nd rfl (Or.inl rfl) (px_mk M_Draft hr (by omega) (by rfl) (pa_cons (pv 1) pa_nil)))
  (pss_cons (ps_for (passes_of rfl) rfl (pi_e (by rfl) T.b_enumerate (pv 1)) (pg_t rfl (pgs_cons (pg_name (i := 4) sc_read_program.nd rfl (Or.inl rfl)) (pgs_cons (pg_name (i := 5) sc_read_program.nd rfl (Or.inl rfl)) pgs_nil)))
    (pss_one (ps_if (pt_cmpR op_gt (pe_callB len_l (by rfl) T.b_len PySem.boot_len (pa_cons (pv 5) pa_nil)) pe_int (nomark _)) (pss_one (ps_expr (px_mE G_add_line hr (by omega) (passes_call (takes_of rfl rfl rfl rfl) fun _ _ _ _ h => h) (pv 3) (pa_cons (pv 4) (pa_cons (pv 5) pa_nil))))) pss_nil)))
  (pss_cons (ps_if (PW.pt (pw_or (pt_val (px_fld (pv 3) rfl)) (pw_or1 (pt_val (px_fld (pv 3) rfl))))) (pss_one (px_raise rfl G_PF hr (by omega) (takes_of rfl rfl rfl rfl) (by rfl) (pa_cons (pe_callB len_l (by rfl) T.b_len PySem.boot_len (pa_cons (pv 1) pa_nil)) (pa_cons pe_str pa_nil)))) pss_nil)
  (pss_cons (ps_if (pt_cmpR op_eq (pe_callB len_l (by rfl) T.b_len PySem.boot_len (pa_cons (px_fld (pv 3) rfl) pa_nil)) pe_int (nomark _)) (pss_one (px_raise rfl G_PF hr (by omega) (takes_of rfl rfl rfl rfl) (by rfl) (pa_cons (pe_callB len_l (by rfl) T.b_len PySem.boot_len (pa_cons (pv 1) pa_nil)) (pa_cons pe_str pa_nil)))) pss_nil)
  (pss_cons (ps_if (pt_val (pe_callB (cr_any rfl) (by rfl) T.b_any (by decide +kernel) (pa_cons (pe_lc (own := [("thread", 6)]) (g := gName 6) rfl sc_read_program.nd (pi_l (px_fld (pv 3) rfl)) (blkOk_by (own := [("thread", 6)]) (N := N_read_program) (sc := defScope s_read_program) (by decide +kernel)) (fun _ _ _ _ _ => pg_name (i := 6) sc_read_program.nd rfl (Or.inl rfl)) (fun _ _ _ _ _ => pts_mo pts_nil) (fun _ _ _ _ _ => pe_mo (pe_cmpR op_eq (pe_callB len_l (by rfl) T.b_len PySem.boot_len (pa_cons (pv 6) pa_nil)) pe_int (nomark _)))) pa_nil))) (pss_one (px_raise rfl G_PF hr (by omega) (takes_of rfl rfl rfl rfl) (by rfl) (pa_cons (pe_callB len_l (by rfl) T.b_len PySem.boot_len (pa_cons (pv 1) pa_nil)) (pa_cons pe_str pa_nil)))) pss_nil)
  (pss_one (ps_ret (px_m0 G_program hr (by omega) (pv 3)))))))))), ?_⟩
    rw [show L2.start N_read_program [V.str text] = [some (.str text), none, none, none, none, none, none] from rfl]
    walk_at "wp"
    refine ⟨by decide +kernel, le_line (by have := pre.lt; omega), fun pl H1 n1 => ?_⟩
    have hpl : H1 pl = some (.lst ((LS.map lnS).map V.str)) := by
      rw [← pre.sp]
      exact n1.at_
    have ll := pre.ll
    refine ⟨pl, rfl, ⟨_, hpl⟩, lc_l (xs := (LS.map lnS).map V.str) (fun D i acc H' => LnI LS H1 D i acc H') (fun D H' n => ⟨n.fr, n.kp, rfl, fun j v l h => by cases h⟩) (by rw [List.length_map, List.length_map]; omega) (fun D i acc H' h => Nat.le_of_eq h.ln) (fun D i acc H' _ h => SqL.of (h.sm _ _ hpl))
      (fun D i x acc H' hx hacc h => ⟨rfl, ?_⟩) (fun D acc H' n hacc h => ?_)⟩
    · rw [List.getElem?_map, List.getElem?_map] at hx
      obtain ⟨z, hz, rfl⟩ := Option.map_eq_some_iff.mp hx
      obtain ⟨l, hl, rfl⟩ := Option.map_eq_some_iff.mp hz
      have hm := List.mem_of_getElem? hl
      obtain ⟨j1, j2⟩ := pre.jn l hm
      have sz := (pre.ok l hm).sz
      unfold Tn
      simp only [tYes, if_true]
      walk_at "wp"
      refine ⟨_, rfl, lnS l, l, rfl, (pre.ok l hm).tk, j1, j2, by omega, fun p H4 ws hp h4 r4 s4 => ⟨s4 _ _ hacc, fun H5 g5 => ⟨h.fr, Chg.same g5 h.fr (h.sm.trans s4), by rw [List.length_append, h.ln]; rfl, fun j v l' h1 h2 => ?_⟩⟩⟩
      have hD4 := s4 _ _ hacc
      by_cases hj : j < acc.length
      · rw [List.getElem?_append_left hj] at h1
        obtain ⟨p', e, ne, t⟩ := h.at_ j v l' h1 h2
        exact ⟨p', e, ne, (t.same s4).chg ne hD4 g5⟩
      · have hj' : j = acc.length := by
          have := (List.getElem?_eq_some_iff.mp h1).1
          rw [List.length_append, List.length_singleton] at this
          omega
        subst hj'
        rw [List.getElem?_append_right (Nat.le_refl _), Nat.sub_self] at h1
        rw [h.ln, hl] at h2
        cases Option.some.inj h1
        cases h2
        have ne : p ≠ D := fun e => by
          rw [e, hacc] at hp
          cases hp
        exact ⟨p, rfl, ne, (show Pt H4 p l from ⟨ws, h4, r4⟩).chg ne hD4 g5⟩
    · rw [List.length_map, List.length_map] at h
      have hls := h.lns hacc
      have s1 : Same H H' := n1.kp.trans h.sm
      intro a dx H2 nA nD
      refine ⟨a, D, dx, rfl, nA.at_, fun H3 S Tt kp3 h3 nS nT neST h3S h3T => ⟨rfl, ?_⟩⟩
      have fr0 : ∀ {b : Addr}, H2 b = none → H' b = none := fun h => nA.kp.free h
      have s3 : Same H' H3 := fun b o e => kp3 b o (ne_of_none e nA.fr) (nA.kp b o e)
      have d3 : DrO Ax.dr H' H3 a dx D S Tt st0 := ⟨s3, nA.fr, fr0 nS, fr0 nT, neST, h3, ⟨[], h3S, .nil⟩, ⟨[], h3T, rfl, List.nodup_nil, fun i v n h => by cases h⟩, by decide, by decide, fun n h => by cases h⟩
      obtain ⟨lvs, hlv, hllen, hlat⟩ := id hls
      refine ⟨D, rfl, ⟨_, s3 _ _ hlv⟩, lp_e (xs := lvs) (fun i σ H4 => (∃ v4 v5, σ = [some (.str text), some (.ref D), none, some (.ref a), v4, v5, none]) ∧ RdI Ax.dr LS nf wd H' a dx D S Tt i H4) ⟨⟨_, _, rfl⟩, st0, 0, d3, pre.run, fun z => absurd rfl z⟩ ?_ ?_ ?_⟩
      · rintro i σ H4 ⟨_, st, n, d4, _⟩
        exact SqL.of (d4.sm _ _ hlv)
      · rintro i x tp σ H4 H5 hx ⟨⟨v4, v5, rfl⟩, st, n, d4, hrun, hth⟩ nt
        walk_at "wp"
        have hi : i < LS.length := by rw [← hllen]; exact (List.getElem?_eq_some_iff.mp hx).1
        have hLi : LS[i]? = some LS[i] := List.getElem?_eq_getElem hi
        obtain ⟨p, rfl, pt⟩ := hlat i x _ hx hLi
        generalize hl : LS[i] = l at hLi pt
        have hm : l ∈ LS := List.mem_of_getElem? hLi
        have d5 := d4.same nt.kp
        have pt5 := pt.same d5.sm
        obtain ⟨ws, hws, rws⟩ := id pt5
        have lw : ws.length = l.length := by rw [rws.len, List.length_map]
        have edr : LS.drop i = l :: LS.drop (i + 1) := by rw [List.drop_eq_getElem_cons hi, hl]
        rw [edr, run] at hrun
        refine ⟨_, nt.at_, rfl, _, _, rfl, _, _, rfl, rfl, p, rfl, ws, hws, ite2 (fun c => ?_) (fun c => ⟨⟨_, _, rfl⟩, ?_⟩)⟩
        · have hne : l ≠ [] := fun z => by
            rw [lw, z] at c
            exact absurd c (by decide)
          rw [if_neg hne] at hrun
          refine ⟨_, _, d5.ob, rfl, H', a, dx, D, S, Tt, p, st, i, (if l = thr then 0 else n), l, LS, rfl, d5, pt5, pre.ok l hm, by omega, fun hb ht hs => ?_, fun w' hw => ?_, fun st' hs H6 d6 => ⟨⟨_, _, rfl⟩, st', (if l = thr then cnt (LS.drop (i + 1)) else n), d6, ?_, fun z => ?_⟩⟩
          · obtain ⟨f, hf, hft, hfn, hfc⟩ := hth hs
            refine ⟨pre.ip l hm hne hb ht, f, ⟨hls, pre.ok, by omega, hft, fun j h1 h2 => ?_, hi, ll⟩, by rw [if_neg ht]; exact hfc⟩
            by_cases e : j = i
            · rw [e, hLi]
              exact fun z => ht (Option.some.inj z)
            · exact hfn j h1 (by omega)
          · rw [hw] at hrun
            cases hrun
            exact fun dd H7 h7 s7 => fl dd H7 h7 (s1.trans s7)
          · rw [hs] at hrun
            exact hrun
          · by_cases ht : l = thr
            · refine ⟨i, by omega, by rw [hLi, ht], fun j h1 h2 => by omega, by rw [if_pos ht]⟩
            · have hs0 : st.th ≠ [] := fun e => z (step_th hs ht e)
              obtain ⟨f, hf, hft, hfn, hfc⟩ := hth hs0
              refine ⟨f, by omega, hft, fun j h1 h2 => ?_, by rw [if_neg ht]; exact hfc⟩
              by_cases e : j = i
              · rw [e, hLi]
                exact fun z => ht (Option.some.inj z)
              · exact hfn j h1 (by omega)
        · have hnil : l = [] := List.eq_nil_of_length_eq_zero (by omega)
          rw [if_pos hnil] at hrun
          refine ⟨st, n, d5, hrun, fun z => ?_⟩
          obtain ⟨f, hf, hft, hfn, hfc⟩ := hth z
          refine ⟨f, by omega, hft, fun j h1 h2 => ?_, hfc⟩
          by_cases e : j = i
          · rw [e, hLi, hnil]
            exact fun z => by cases z
          · exact hfn j h1 (by omega)
      · rintro σ H4 ⟨⟨v4, v5, rfl⟩, st, n, d4, hrun, hth⟩
        walk_at "wp"
        rw [hllen, List.drop_length, run] at hrun
        have e1 : nf = LS.length := (congrArg Prod.fst hrun).symm
        have e2 : wd = endW st := (congrArg Prod.snd hrun).symm
        have hD4 : H4 D = some (.lst lvs) := d4.sm _ _ hlv
        have rs : ∀ {H6 : Hp} {w' : Str}, endW st = w' → w'.length ≤ 100 → Same H4 H6 → ∃ xs, H6 D = some (.lst xs) ∧ (0 : Int) ≤ (xs.length : Nat) ∧ ((xs.length : Nat) : Int) < 1000 ∧ w'.length ≤ 100 ∧ ∀ (d : Addr) (H2 : Hp), H2 d = some (.xd (pfF (xs.length : Nat) w')) → Same H6 H2 → E (.ref Ax.pf) (some d) H2 := fun {H6 w'} ew hw s6 => by
          have fl' : Fl Ax.pf H lvs.length w' E := by
            rw [hllen, ← e1, ← ew, ← e2]
            exact fl
          exact ⟨lvs, s6 _ _ hD4, fl'.rs (by omega) hw ((s1.trans d4.sm).trans s6)⟩
        refine fld_ d4.ob R.c (R.n _ (by decide +kernel)) rfl ⟨_, rfl, ite2 (fun cu => rs (by unfold endW; rw [if_pos (.inl cu)]) (by decide +kernel) (Same.refl _)) (fun cu => fld_ d4.ob R.c (R.n _ (by decide +kernel)) rfl ⟨_, rfl, ite2 (fun ci => rs (by unfold endW; rw [if_pos (.inr ci)]) (by decide +kernel) (Same.refl _)) (fun ci => ?_)⟩)⟩
        have c1 : ¬(st.unc = true ∨ st.ins = true) := fun z => z.elim cu ci
        obtain ⟨ts, hT, hts⟩ := d4.th
        have lt := hts.len
        refine fld_ d4.ob R.c (R.n _ (by decide +kernel)) rfl ⟨_, rfl, _, hT, ite2 (fun c => rs (by unfold endW; rw [if_neg c1, if_pos (List.eq_nil_of_length_eq_zero (by omega))]) (by decide +kernel) (Same.refl _)) (fun c => ?_)⟩
        have c2 : st.th ≠ [] := fun z => c (by rw [z] at lt; rw [lt]; rfl)
        refine fld_ d4.ob R.c (R.n _ (by decide +kernel)) rfl ⟨_, rfl, ⟨_, hT⟩, lc_pure (ds := st.th) (fun _ => true) (fun m => V.bl (decide (m = 0))) hT lt (by have := d4.l2; omega) (fun x => rfl) (fun i x m H6 hi hm s6 K1 K0 h1 h0 => ?_) (fun B H6 nB s6 hB => ?_)⟩
        · obtain ⟨q, xs, rfl, hq, hxl, _⟩ := hts.at_ i x m hi hm
          simp only [tYes, if_true]
          rw [show (wipe [some (V.str text), some (V.ref D), none, some (V.ref a), v4, v5, none] (List.map (fun x => x.2) [(Str.ofString "thread", 6)])).set 6 (some (V.ref q)) = [some (V.str text), some (V.ref D), none, some (V.ref a), v4, v5, some (V.ref q)] from rfl]
          walk_at "wp"
          have h := h1 rfl H6 (Same.refl _)
          rw [show decide (m = 0) = decide ((xs.length : Int) = 0) from decide_eq_decide.mpr (by omega)] at h
          exact ⟨xs, s6 _ _ hq, h⟩
        · have eB : (st.th.filter fun _ => true).map (fun m => V.bl (decide (m = 0))) = (st.th.map fun m => decide (m = 0)).map V.bl := by
            rw [List.filter_eq_self.mpr (fun _ _ => rfl), List.map_map]
            rfl
          rw [eB] at hB
          refine ⟨B, _, rfl, SqL.of hB, _, rfl, ?_⟩
          by_cases c3 : 0 ∈ st.th
          · refine iteP ?_ (rs (by unfold endW; rw [if_neg c1, if_neg c2, if_pos c3]) (by decide +kernel) s6)
            rw [List.any_eq_true]
            exact ⟨true, List.mem_map.mpr ⟨0, c3, by decide⟩, rfl⟩
          · exact absurd (by rw [e2]; unfold endW; rw [if_neg c1, if_neg c2, if_neg c3]) pre.nok
end
end K10
set_option linter.all false
set_option maxRecDepth 100000
set_option maxHeartbeats 4000000
namespace K10
open PySem PySem.Spec PyProof.Rows L2
def xCallS (sp : Sp) (W : WX) (t : TA) : TE := fun σ H Q => t σ H fun vs H1 => sp vs H1 Q (fun cls d H2 => W cls d σ H2)
section
variable {X : Cx} {k j : Nat} {x : Str} {sp : Sp} {W : WX} {p pos : Pos} {e : Expr} {es : List Expr} {t : TA}
theorem px_cS (c : Cl X.prog X.w X.K X.mg X.base (L2.CX X.prog X.w) k x sp) (hr : Room j X.A) (hk : k ≤ j) (hg : Gl X x) (tk : Takes X W) (ha : PA X (e :: es) t)
    (hdb : (x == ("__debug__" : Str)) = false := by decide) (he : starEach (e :: es) X.env = (false, eval e X.env) :: starEach es X.env := by rfl) (hpl : (backTo pos (starEach es X.env)).any (·.1) = false := by rfl) :
    PE X (.Call (.Name x p) (e :: es) [] pos) (xCallS sp W t) := by
  obtain ⟨f, fd, ps, F, hm, kp, b⟩ := c.ex
  exact PE.imp (pe_callS F (hr.mono hk) hg hm kp b (passAt tk) (pa_mo ha) hdb he hpl) fun σ H Q q => ⟨_, q, fun vs H1 z => z⟩
end
section
variable {P : Program} {w : World} {K : PySem.W.Frag} {mg : Str → Option Value} {base : Heap} {Ax : Ad}
local macro_rules | `(tactic| walk_at "wp") => `(tactic| simp only [tVar, tC, tOp, rI0, rI, rU, tUn, rEq, rNe, tTest, tB, tAnd, tOr, tNot, tAndV, tOrV, tNotV, tIf, tSeq, tNext, tAsg, gName, gSub, tDrop, tRet, tRetN, tIfS, tBreak, tCont, tAug, ipI, tCB, tCons, tNil,
  xTup, xLst, xIxL, xIxT, xIxS, xIxK, xLenL, xLenT, xLenS, xLenK, xSlL, xSlT, xSlS, xInL, xInT, xInK, xCat, xRep, xCatT, xTupL, xSetL, xIntS, xIntI, xIntB, xApp, xJoin, xSplit, xFld, xSetF, xAugF, tSl, tPart, tNoPart, xCall, xMeth, xMeth0, xMake, xRaise, xgT, xgL, gCons, gNil, xInD, xIxD, C8.tCut, xIsi, for_r1, for_r2, for_l, for_t, for_e, lc_xl, lc_xt, lc_xr, tM0, S,
  exists_eq_left, exists_eq_left', exists_and_left, V.int.injEq, V.ref.injEq, V.str.injEq, V.bl.injEq, consV, Option.some.injEq, HO.lst.injEq, HO.tup.injEq, HO.ins.injEq, and_true, true_and, List.getElem?_cons_zero, List.getElem?_cons_succ, List.set_cons_zero, List.set_cons_succ,
  if_true, if_false, Bool.false_eq_true, and_assoc, V.ty.injEq, isbI, isbS, kb1, kb2, kb3, kb4, kb5, kb6, kb7, kb8, kb9, reduceCtorEq, decide_false, decide_true, decide_eq_true_eq, Bool.not_eq_true', decide_eq_false_iff_not, Bool.not_true, Bool.not_false, ite_not, at0, at1, at2, at3, at4, ix0, ix1, fl_int, fl_str, fl_bl, fl_non, al_nil, al_cons, lenNil, len1, len2, len3, len4, sc_ii, sc_ss, sc_ns, sc_sn, sc_nn, sc_in, sc_si, sc_is, sc_bb, st_go])
local macro_rules | `(tactic| walk_at "wf") => `(tactic| simp only [*,
  exists_eq_left, exists_eq_left', exists_and_left, V.int.injEq, V.ref.injEq, V.str.injEq, V.bl.injEq, consV, Option.some.injEq, HO.lst.injEq, HO.tup.injEq, HO.ins.injEq, and_true, true_and, List.getElem?_cons_zero, List.getElem?_cons_succ, List.set_cons_zero, List.set_cons_succ,
  if_true, if_false, Bool.false_eq_true, and_assoc, V.ty.injEq, isbI, isbS, kb1, kb2, kb3, kb4, kb5, kb6, kb7, kb8, kb9, reduceCtorEq, decide_false, decide_true, decide_eq_true_eq, Bool.not_eq_true', decide_eq_false_iff_not, Bool.not_true, Bool.not_false, ite_not, at0, at1, at2, at3, at4, ix0, ix1, fl_int, fl_str, fl_bl, fl_non, al_nil, al_cons, lenNil, len1, len2, len3, len4, sc_ii, sc_ss, sc_ns, sc_sn, sc_nn, sc_in, sc_si, sc_is, sc_bb, st_go])
local macro_rules | `(tactic| walk_at "len") => `(tactic| (refine le_line ?_; simp only [List.length_cons, List.length_nil, List.length_append, List.length_map, List.map_nil, List.map_cons] <;> omega))
/-- what the clause asks of the class -/
structure FaT (K : PySem.W.Frag) (C : Addr) : Prop where
  xf : XfC K C
  n_line : PySem.W.findIn K (.ref C) "line" = some none
  n_word : PySem.W.findIn K (.ref C) "word" = some none
  mt : PySem.W.exmOne K (.ref C) (.ref C) = some true
def spFault : Sp := fun vs H Q _ => ∃ (text : Str) (LS : List Ln) (nf : Nat) (w : Str), vs = [.str text] ∧ RPre text LS nf w ∧ NwL [.int nf, .str w] H Q
theorem ok_law_fault (F : Df K mg "_law_fault" s_law_fault ["_law_text"]) (T : Tx w K mg Ax) (Z : FaT K Ax.pf) (G_read_program : Cl P w K mg base (L2.CX P w) 14 "read_program" (spRP Ax.pf)) : Cl P w K mg base L2.CX0 15 "_law_fault" spFault := by
  refine F.cl sc_law_fault (fun vs H Q E h => ?_) (fun f cdv A outer s H vs Q E hr h => ?_)
  · obtain ⟨_, _, _, _, rfl, _⟩ := h
    rfl
  · obtain ⟨text, LS, nf, wd, rfl, pre, q⟩ := h
    refine ⟨_, (pss_cons (ps_try_as (i := 1) (Wout := fun _ _ _ _ => False) rfl rfl sc_law_fault.nd rfl rfl ⟨rfl, by decide, .inl T.g_ProgramFault⟩ takes0 (fun W pn xe tk _ => (pss_one (ps_expr (px_cS G_read_program hr (by omega) (by rfl) tk (pa_cons (pv 0) pa_nil)))))
    (fun a oe cls d pn hz hf => (pss_one (ps_ret (px_lst (pa_cons (pe_xf Z.xf Z.n_line hz hf (pv 1)) (pa_cons (pe_xf Z.xf Z.n_word hz hf (pv 1)) pa_nil)))))))
  (pss_one (ps_ret pe_non))), ?_⟩
    rw [show L2.start N_law_fault [V.str text] = [some (.str text), none] from rfl]
    walk_at "wp"
    refine ⟨_, rfl, text, LS, nf, wd, rfl, pre, fun dd H1 hd s1 => ⟨true, Z.mt, fun _ a ha => ?_, fun z => Bool.noConfusion z⟩⟩
    walk_at "wp"
    exact ⟨_, rfl, rfl, rfl, dd, _, _, rfl, hd, rfl, _, rfl, rfl, rfl, dd, _, _, rfl, hd, rfl, fun p H2 n2 => q.of2 s1 n2⟩
end
end K10
set_option linter.all false
set_option maxRecDepth 100000
set_option maxHeartbeats 4000000
namespace K10
open PySem PySem.Spec PyProof.Rows L2
/-! ### good things, as the law draws them -/
def ThG (pre : List Th) : Th → Prop
  | .var _ v => -99 ≤ v ∧ v ≤ 99
  | .lock _ => True
  | .cond _ l => kindOf pre l = some ("lock" : Str)
  | .queue _ k => 1 ≤ k ∧ k ≤ 3
structure ShOk (ths : List Th) : Prop where
  le : ths.length ≤ 6
  nd : (ths.map thN).Nodup
  nm : ∀ t ∈ ths, NmOk (thN t)
  ok : ∀ (i : Nat) (t : Th), ths[i]? = some t → ThG (ths.take i) t
theorem kindOf_snoc_ne {ths : List Th} {t : Th} {x : Str} (h : thN t ≠ x) : kindOf (ths ++ [t]) x = kindOf ths x := by
  unfold kindOf
  rw [List.find?_append]
  cases e : ths.find? (fun t => decide (thN t = x)) with
  | some y => rfl
  | none =>
    rw [List.find?_cons, decide_eq_false h]
    rfl
theorem kindOf_snoc_new {ths : List Th} {t : Th} (h : thN t ∉ ths.map thN) : kindOf (ths ++ [t]) (thN t) = some (thK t) := by
  unfold kindOf
  rw [List.find?_append, List.find?_eq_none.mpr (fun y hy => by
    have : thN y ≠ thN t := fun e => h (List.mem_map.mpr ⟨y, hy, e⟩)
    rw [decide_eq_false this]
    exact Bool.false_ne_true)]
  rw [List.find?_cons, decide_eq_true rfl]
  rfl
theorem kindOf_snoc_old {ths : List Th} {t : Th} {x k : Str} (h : kindOf ths x = some k) : kindOf (ths ++ [t]) x = some k := by
  unfold kindOf at h ⊢
  rw [List.find?_append]
  cases e : ths.find? (fun t => decide (thN t = x)) with
  | some y =>
    rw [e] at h
    exact h
  | none =>
    rw [e] at h
    cases h
theorem ShOk.snoc {ths : List Th} {t : Th} (h : ShOk ths) (hl : ths.length < 6) (hn : thN t ∉ ths.map thN) (nm : NmOk (thN t)) (g : ThG ths t) : ShOk (ths ++ [t]) := by
  refine ⟨by rw [List.length_append, List.length_singleton]; omega, ?_, fun u hu => ?_, fun i u hi => ?_⟩
  · rw [List.map_append, List.nodup_append]
    refine ⟨h.nd, by simp, fun a ha b hb e => ?_⟩
    rw [List.map_cons, List.map_nil, List.mem_singleton] at hb
    subst hb
    subst e
    exact hn ha
  · rcases List.mem_append.mp hu with q | q
    · exact h.nm u q
    · rw [List.mem_singleton.mp q]
      exact nm
  · by_cases c : i < ths.length
    · rw [List.getElem?_append_left c] at hi
      rw [List.take_append_of_le_length (by omega)]
      exact h.ok i u hi
    · have hi' : i = ths.length := by
        have := (List.getElem?_eq_some_iff.mp hi).1
        rw [List.length_append, List.length_singleton] at this
        omega
      subst hi'
      rw [List.getElem?_append_right (Nat.le_refl _), Nat.sub_self] at hi
      cases Option.some.inj hi
      rw [List.take_left]
      exact g
theorem ShOk.nil : ShOk [] := ⟨by decide, List.nodup_nil, fun t h => absurd h List.not_mem_nil, fun i t h => by simp at h⟩
section
variable {P : Program} {w : World} {K : PySem.W.Frag} {mg : Str → Option Value} {base : Heap} {Ax : Ad}
local macro_rules | `(tactic| walk_at "wp") => `(tactic| simp only [tVar, tC, tOp, rI0, rI, rU, tUn, rEq, rNe, tTest, tB, tAnd, tOr, tNot, tAndV, tOrV, tNotV, tIf, tSeq, tNext, tAsg, gName, gSub, tDrop, tRet, tRetN, tIfS, tBreak, tCont, tAug, ipI, tCB, tCons, tNil,
  xTup, xLst, xIxL, xIxT, xIxS, xIxK, xLenL, xLenT, xLenS, xLenK, xSlL, xSlT, xSlS, xInL, xInT, xInK, xCat, xRep, xCatT, xTupL, xSetL, xIntS, xIntI, xIntB, xApp, xJoin, xSplit, xFld, xSetF, xAugF, tSl, tPart, tNoPart, xCall, xMeth, xMeth0, xMake, xRaise, xgT, xgL, gCons, gNil, xInD, xIxD, C8.tCut, xIsi, for_r1, for_r2, for_l, for_t, for_e, lc_xl, lc_xt, lc_xr, tM0, S,
  exists_eq_left, exists_eq_left', exists_and_left, V.int.injEq, V.ref.injEq, V.str.injEq, V.bl.injEq, consV, Option.some.injEq, HO.lst.injEq, HO.tup.injEq, HO.ins.injEq, and_true, true_and, List.getElem?_cons_zero, List.getElem?_cons_succ, List.set_cons_zero, List.set_cons_succ,
  if_true, if_false, Bool.false_eq_true, and_assoc, V.ty.injEq, isbI, isbS, kb1, kb2, kb3, kb4, kb5, kb6, kb7, kb8, kb9, reduceCtorEq, decide_false, decide_true, decide_eq_true_eq, Bool.not_eq_true', decide_eq_false_iff_not, Bool.not_true, Bool.not_false, ite_not, at0, at1, at2, at3, at4, ix0, ix1, fl_int, fl_str, fl_bl, fl_non, al_nil, al_cons, lenNil, len1, len2, len3, len4, sc_ii, sc_ss, sc_ns, sc_sn, sc_nn, sc_in, sc_si, sc_is, sc_bb, st_go])
local macro_rules | `(tactic| walk_at "wf") => `(tactic| simp only [*,
  exists_eq_left, exists_eq_left', exists_and_left, V.int.injEq, V.ref.injEq, V.str.injEq, V.bl.injEq, consV, Option.some.injEq, HO.lst.injEq, HO.tup.injEq, HO.ins.injEq, and_true, true_and, List.getElem?_cons_zero, List.getElem?_cons_succ, List.set_cons_zero, List.set_cons_succ,
  if_true, if_false, Bool.false_eq_true, and_assoc, V.ty.injEq, isbI, isbS, kb1, kb2, kb3, kb4, kb5, kb6, kb7, kb8, kb9, reduceCtorEq, decide_false, decide_true, decide_eq_true_eq, Bool.not_eq_true', decide_eq_false_iff_not, Bool.not_true, Bool.not_false, ite_not, at0, at1, at2, at3, at4, ix0, ix1, fl_int, fl_str, fl_bl, fl_non, al_nil, al_cons, lenNil, len1, len2, len3, len4, sc_ii, sc_ss, sc_ns, sc_sn, sc_nn, sc_in, sc_si, sc_is, sc_bb, st_go])
local macro_rules | `(tactic| walk_at "len") => `(tactic| (refine le_line ?_; simp only [List.length_cons, List.length_nil, List.length_append, List.length_map, List.map_nil, List.map_cons] <;> omega))
/-! ### _law_shared -/
/-- three lists: the things, their names, the locks'; H0: the heap ahead. nm: a name that is noted ahead of its thing, lp: in the locks too -/
structure ShP (b S N Lk : Addr) (H0 : Hp) (i : Nat) (ths : List Th) (nms : List Str) (lp : Bool) (H : Hp) : Prop where
  go : Go b H0 H
  fS : H0 S = none
  fN : H0 N = none
  fL : H0 Lk = none
  dS : Nd b S H
  dN : Nd b N H
  dL : Nd b Lk H
  SN : S ≠ N
  SL : S ≠ Lk
  NL : N ≠ Lk
  ok : ShOk ths
  le : ths.length ≤ i
  sh : ∃ ws, H S = some (.lst ws) ∧ Rps H ws (ths.map thD)
  nm : H N = some (.lst ((ths.map thN ++ nms).map V.str))
  lk : ∃ ks : List Str, H Lk = some (.lst (ks.map V.str)) ∧ (∀ k ∈ ks, kindOf ths k = some ("lock" : Str) ∨ (lp = true ∧ k ∈ nms)) ∧ ks.length ≤ i + (if lp then 1 else 0)
theorem mapV_inj : ∀ {a b : List Str}, a.map V.str = b.map V.str → a = b
  | [], [], _ => rfl
  | [], _ :: _, h => by cases h
  | _ :: _, [], h => by cases h
  | x :: a, y :: b, h => by
    have h1 := List.cons.inj h
    rw [V.str.inj h1.1, mapV_inj h1.2]
section
variable {b S N Lk : Addr} {H0 H H' : Hp} {i : Nat} {ths : List Th} {nms : List Str} {lp : Bool}
theorem ShP.go' (h : ShP b S N Lk H0 i ths nms lp H) (g : Go b H H') : ShP b S N Lk H0 i ths nms lp H' := by
  obtain ⟨ws, h1, h2⟩ := h.sh
  obtain ⟨ks, h3, h4⟩ := h.lk
  have bx := h.go.bx
  exact ⟨h.go.trans g, h.fS, h.fN, h.fL, h.dS.go bx g, h.dN.go bx g, h.dL.go bx g, h.SN, h.SL, h.NL, h.ok, h.le, ⟨ws, g.kp _ _ h.dS.1 h1, h2.tk (g.tk bx)⟩, g.kp _ _ h.dN.1 h.nm, ⟨ks, g.kp _ _ h.dL.1 h3, h4⟩⟩
theorem ShP.same (h : ShP b S N Lk H0 i ths nms lp H) (s : Same H H') : ShP b S N Lk H0 i ths nms lp H' := h.go' (.of h.go.bx s)
theorem ShP.addN {nm : Str} (h : ShP b S N Lk H0 i ths [] false H) (g : Chg N (.lst ((ths.map thN).map V.str ++ [V.str nm])) H H') : ShP b S N Lk H0 i ths [nm] false H' := by
  obtain ⟨ws, h1, h2⟩ := h.sh
  obtain ⟨ks, h3, h4, h5⟩ := h.lk
  have bx := h.go.bx
  refine ⟨h.go.chg h.fN h.dN g, h.fS, h.fN, h.fL, h.dS.chg h.dN.1 bx g, h.dN.chg h.dN.1 bx g, h.dL.chg h.dN.1 bx g, h.SN, h.SL, h.NL, h.ok, h.le, ⟨ws, g.kp _ _ h.SN h1, h2.tk (Chg.tk g h.nm)⟩, ?_, ⟨ks, g.kp _ _ (Ne.symm h.NL) h3, fun k hk => ?_, h5⟩⟩
  · rw [g.at_, List.map_append]
    rfl
  · exact (h4 k hk).imp id fun z => Bool.noConfusion z.1
theorem ShP.addL {nm : Str} {ks : List Str} (h : ShP b S N Lk H0 i ths [nm] false H) (e : H Lk = some (.lst (ks.map V.str))) (g : Chg Lk (.lst (ks.map V.str ++ [V.str nm])) H H') : ShP b S N Lk H0 i ths [nm] true H' := by
  obtain ⟨ws, h1, h2⟩ := h.sh
  obtain ⟨ks', h3, h4, h5⟩ := h.lk
  have bx := h.go.bx
  rw [e] at h3
  have ek : ks = ks' := mapV_inj (HO.lst.inj (Option.some.inj h3))
  subst ek
  refine ⟨h.go.chg h.fL h.dL g, h.fS, h.fN, h.fL, h.dS.chg h.dL.1 bx g, h.dN.chg h.dL.1 bx g, h.dL.chg h.dL.1 bx g, h.SN, h.SL, h.NL, h.ok, h.le, ⟨ws, g.kp _ _ h.SL h1, h2.tk (Chg.tk g e)⟩, g.kp _ _ h.NL h.nm, ⟨ks ++ [nm], ?_, fun k hk => ?_, ?_⟩⟩
  · rw [g.at_, List.map_append]
    rfl
  · rcases List.mem_append.mp hk with q | q
    · exact (h4 k q).imp id fun z => Bool.noConfusion z.1
    · exact .inr ⟨rfl, q⟩
  · rw [List.length_append, List.length_singleton]
    simpa using h5
theorem ShP.addS {t : Th} {ws : List V} {v : V} (h : ShP b S N Lk H0 i ths [thN t] lp H) (e : H S = some (.lst ws)) (rv : Rp H v (thD t)) (g : Chg S (.lst (ws ++ [v])) H H') (hi : i < 6) (hn : thN t ∉ ths.map thN) (ng : NmOk (thN t)) (tg : ThG ths t) (hk : lp = true → thK t = "lock") :
    ShP b S N Lk H0 (i + 1) (ths ++ [t]) [] false H' := by
  obtain ⟨ws', h1, h2⟩ := h.sh
  obtain ⟨ks, h3, h4, h5⟩ := h.lk
  have bx := h.go.bx
  rw [e] at h1
  cases h1
  have tk : Tk H H' := Chg.tk g e
  have hle := h.le
  refine ⟨h.go.chg h.fS h.dS g, h.fS, h.fN, h.fL, h.dS.chg h.dS.1 bx g, h.dN.chg h.dS.1 bx g, h.dL.chg h.dS.1 bx g, h.SN, h.SL, h.NL, h.ok.snoc (by omega) hn ng tg, by rw [List.length_append, List.length_singleton]; omega, ⟨_, g.at_, ?_⟩, ?_, ⟨ks, g.kp _ _ (Ne.symm h.SL) h3, fun k hk2 => .inl ?_, ?_⟩⟩
  · rw [List.map_append]
    exact Rps.snoc (h2.tk tk) (rv.tk tk)
  · rw [g.kp _ _ (Ne.symm h.SN) h.nm, List.append_nil, List.map_append (f := thN)]
    rfl
  · rcases h4 k hk2 with q | ⟨q1, q2⟩
    · exact kindOf_snoc_old q
    · rw [List.mem_singleton.mp q2, kindOf_snoc_new hn, hk q1]
  · have : (if lp = true then 1 else 0) ≤ 1 := by split <;> omega
    simp only [Bool.false_eq_true, if_false]
    omega
end
def spShr : Sp := fun vs H Q _ => ∃ b : Addr, vs = [.ref b] ∧ Bx H b ∧ ∀ (p : Addr) (ws : List V) (ths : List Th) (H' : Hp), ShOk ths → H p = none → H' p = some (.lst ws) → Rps H' ws (ths.map thD) → p ≠ b → Go b H H' → Q (.ref p) H'
theorem ok_law_shared (F : Df K mg "_law_shared" s_law_shared ["_law_box"]) (T : Tx w K mg Ax) (G_law_draw : Cl P w K mg base L2.CX0 1 "_law_draw" spDraw) (G_law_name : Cl P w K mg base L2.CX0 2 "_law_name" spName) : Cl P w K mg base L2.CX0 3 "_law_shared" spShr := by
  refine F.cl sc_law_shared (fun vs H Q E h => ?_) (fun f cdv A outer s H vs Q E hr h => ?_)
  · obtain ⟨_, rfl, _⟩ := h
    rfl
  · obtain ⟨b, rfl, hb, q⟩ := h
    refine ⟨_, (pss_cons (ps_set (i := 1) sc_law_shared.nd rfl (Or.inl rfl) (px_lst pa_nil))
  (pss_cons (ps_set (i := 2) sc_law_shared.nd rfl (Or.inl rfl) (px_lst pa_nil))
  (pss_cons (ps_set (i := 3) sc_law_shared.nd rfl (Or.inl rfl) (px_lst pa_nil))
  (pss_cons (ps_for PassesOwn.never rfl (pi_range1 rfl T.b_range (pa_cons (px_c G_law_draw hr (by omega) (by rfl) (pa_cons (pv 0) (pa_cons pe_int pa_nil))) pa_nil)) (pg_name (i := 4) sc_law_shared.nd rfl (Or.inl rfl))
    (pss_cons (ps_set (i := 5) sc_law_shared.nd rfl (Or.inl rfl) (px_c G_law_draw hr (by omega) (by rfl) (pa_cons (pv 0) (pa_cons pe_int pa_nil))))
  (pss_cons (ps_set (i := 6) sc_law_shared.nd rfl (Or.inl rfl) (px_c G_law_name hr (by omega) (by rfl) (pa_cons (pv 0) (pa_cons (pv 2) pa_nil))))
  (pss_one (ps_if (pt_cmpR ni_l (pv 6) (pv 2) rfl) (pss_cons (ps_expr (px_app (pv 2) (pv 6)))
  (pss_one (ps_if (PW.pt (pw_or (pt_cmpR op_eq (pv 5) pe_int (nomark _)) (pw_or1 (PW.pt (pw_and (pt_cmpR op_eq (pv 5) pe_int (nomark _)) (pw_and1 (pt_cmpR op_eq (pe_callB len_l (by rfl) T.b_len PySem.boot_len (pa_cons (pv 3) pa_nil)) pe_int (nomark _)))))))) (pss_one (ps_expr (px_app (pv 1) (px_tup (pa_cons pe_str (pa_cons (pv 6) (pa_cons (pe_op op_sub (px_c G_law_draw hr (by omega) (by rfl) (pa_cons (pv 0) (pa_cons pe_int pa_nil))) pe_int) pa_nil))))))) (pss_one (ps_if (pt_cmpR op_eq (pv 5) pe_int (nomark _)) (pss_cons (ps_expr (px_app (pv 3) (pv 6)))
  (pss_one (ps_expr (px_app (pv 1) (px_tup (pa_cons pe_str (pa_cons (pv 6) pa_nil))))))) (pss_one (ps_if (pt_cmpR op_eq (pv 5) pe_int (nomark _)) (pss_one (ps_expr (px_app (pv 1) (px_tup (pa_cons pe_str (pa_cons (pv 6) (pa_cons (pe_ix ix_l (pv 3) (px_c G_law_draw hr (by omega) (by rfl) (pa_cons (pv 0) (pa_cons (pe_callB len_l (by rfl) T.b_len PySem.boot_len (pa_cons (pv 3) pa_nil)) pa_nil))) (fun _ _ => rfl)) pa_nil))))))) (pss_one (ps_expr (px_app (pv 1) (px_tup (pa_cons pe_str (pa_cons (pv 6) (pa_cons (pe_op op_add pe_int (px_c G_law_draw hr (by omega) (by rfl) (pa_cons (pv 0) (pa_cons pe_int pa_nil)))) pa_nil)))))))))))))) pss_nil)))))
  (pss_one (ps_ret (pv 1))))))), ?_⟩
    rw [show L2.start N_law_shared [V.ref b] = [some (.ref b), none, none, none, none, none, none] from rfl]
    walk_at "wp"
    intro S H1 n1 N H2 n2 Lk H3 n3
    have fN : H N = none := n1.kp.free n2.fr
    have fL : H Lk = none := n1.kp.free (n2.kp.free n3.fr)
    have s2 : Same H H2 := n1.kp.trans n2.kp
    have s3 : Same H H3 := s2.trans n3.kp
    have b3 := hb.same s3
    have SN : S ≠ N := ne_of_none n1.at_ n2.fr
    have SL : S ≠ Lk := ne_of_none (n2.kp _ _ n1.at_) n3.fr
    have NL : N ≠ Lk := ne_of_none n2.at_ n3.fr
    have p0 : ShP b S N Lk H 0 [] [] false H3 := ⟨.of hb s3, n1.fr, fN, fL, (hb.nd n1.fr).same hb s3, (hb.nd fN).same hb s3, (hb.nd fL).same hb s3, SN, SL, NL, .nil, Nat.le_refl _, ⟨[], n3.kp _ _ (n2.kp _ _ n1.at_), .nil⟩, n3.kp _ _ n2.at_, ⟨[], n3.at_, fun k hk => absurd hk List.not_mem_nil, Nat.le_refl _⟩⟩
    refine draw_ (by decide) b3 fun r H4 r0 r1 g4 => ⟨r, rfl, by omega, by omega, lp_r (lo := 0) (n := r.toNat) (fun i σ H' => ∃ (ths : List Th) (v4 v5 v6 : Option V), σ = [some (.ref b), some (.ref S), some (.ref N), some (.ref Lk), v4, v5, v6] ∧ ShP b S N Lk H i ths [] false H') ⟨[], _, _, _, rfl, p0.go' g4⟩ ?_ ?_⟩
    · rintro i σ H5 hi ⟨ths, v4, v5, v6, rfl, p5⟩
      have i6 : i < 6 := by omega
      walk_at "wp"
      refine draw_ (by decide) p5.go.bx fun kd H6 k0 k1 g6 => ?_
      have p6 := p5.go' g6
      refine ⟨b, N, ths.map thN, rfl, p6.go.bx, by rw [p6.nm, List.append_nil], p6.dN.1, fun nm H7 ng g7 => ?_⟩
      have p7 := p6.go' g7
      have hN7 : H7 N = some (.lst ((ths.map thN).map V.str)) := by rw [p7.nm, List.append_nil]
      refine ⟨_, hN7, rfl, all_str _, ?_⟩
      rw [inV_str]
      by_cases hn : nm ∈ ths.map thN
      · refine iteN (by simp [hn]) ⟨ths, _, _, _, rfl, { p7 with le := by have := p7.le; omega, lk := ?_ }⟩
        obtain ⟨ks, h3, h4, h5⟩ := p7.lk
        exact ⟨ks, h3, h4, by simp only [Bool.false_eq_true, if_false] at h5 ⊢; omega⟩
      · refine iteP (by simp [hn]) ?_
        have lw : ∀ {lp : Bool} {nms : List Str} {H8 : Hp}, ShP b S N Lk H i ths nms lp H8 → ∃ ws, H8 S = some (.lst ws) ∧ ws.length < sizeLine := fun {lp nms H8} p8 => by
          obtain ⟨ws, h1, h2⟩ := p8.sh
          refine ⟨ws, h1, lt_line ?_⟩
          have := h2.1
          rw [List.length_map] at this
          have := p8.le
          omega
        have ln7 : ((ths.map thN).map V.str).length < sizeLine := lt_line (by rw [List.length_map, List.length_map]; have := p7.le; omega)
        refine ⟨⟨_, hN7⟩, _, hN7, ln7, fun H8 g8 => ?_⟩
        have p8 := p7.addN g8
        walk_at "wp"
        have post : ∀ {H9 H10 : Hp} {pt : Addr} {o : HO} (t : Th) {lp : Bool}, ShP b S N Lk H i ths [nm] lp H9 → New pt o H9 H10 → Rp H10 (.ref pt) (thD t) → thN t = nm → ThG ths t → (lp = true → thK t = "lock") →
            ∃ xs, H10 S = some (.lst xs) ∧ xs.length < sizeLine ∧ cg S (.lst (xs ++ [V.ref pt])) H10 fun H3 => ∃ ths v4 v5 v6, [some (V.ref b), some (V.ref S), some (V.ref N), some (V.ref Lk), some (V.int (0 + (i : Int))), some (V.int kd), some (V.str nm)] = [some (V.ref b), some (V.ref S), some (V.ref N), some (V.ref Lk), v4, v5, v6] ∧ ShP b S N Lk H (i + 1) ths [] false H3 := fun {H9 H10 pt o} t {lp} p9 n10 rv et tg hk => by
          have p10 := p9.same n10.kp
          obtain ⟨ws, hS, hl⟩ := lw p10
          subst et
          exact ⟨ws, hS, hl, fun H11 g11 => ⟨_, _, _, _, rfl, p10.addS hS rv g11 i6 hn ng tg hk⟩⟩
        obtain ⟨ws8, hS8, _⟩ := lw p8
        obtain ⟨ks, hk8, hks, hkl⟩ := p8.lk
        refine ite2 (fun c0 => ⟨⟨_, hS8⟩, draw_ (by decide) p8.go.bx fun x H9 x0 x1 g9 => ⟨x, rfl, fun pt H10 n10 => post (.var nm (x - 99)) (p8.go' g9) n10 (Rp.m3 n10.at_ (.str _) (.str _) (.int _)) rfl ⟨by omega, by omega⟩ (fun z => Bool.noConfusion z)⟩⟩) (fun c0 => ite2 (fun c2 => ⟨_, hk8, ite2 (fun cz => ⟨⟨_, hS8⟩, draw_ (by decide) p8.go.bx fun x H9 x0 x1 g9 => ⟨x, rfl, fun pt H10 n10 => post (.var nm (x - 99)) (p8.go' g9) n10 (Rp.m3 n10.at_ (.str _) (.str _) (.int _)) rfl ⟨by omega, by omega⟩ (fun z => Bool.noConfusion z)⟩⟩) (fun cz => iteN (by omega) (iteP c2 ⟨⟨_, hS8⟩, _, hk8, draw_ (by omega) p8.go.bx fun x H9 x0 x1 g9 => ?_⟩))⟩)
          (fun c2 => ite2 (fun c1 => ⟨⟨_, hk8⟩, _, hk8, lt_line (by rw [List.length_map]; simp only [Bool.false_eq_true, if_false] at hkl; omega), fun H9 g9 => ⟨⟨ws8, g9.kp _ _ p8.SL hS8⟩, fun pt H10 n10 => post (.lock nm) (p8.addL hk8 g9) n10 (Rp.m2 n10.at_ (.str _) (.str _)) rfl trivial (fun _ => rfl)⟩⟩)
            (fun c1 => iteN c2 ⟨⟨_, hS8⟩, draw_ (by decide) p8.go.bx fun x H9 x0 x1 g9 => ⟨x, rfl, fun pt H10 n10 => post (.queue nm (1 + x)) (p8.go' g9) n10 (Rp.m3 n10.at_ (.str _) (.str _) (.int _)) rfl ⟨by omega, by omega⟩ (fun z => Bool.noConfusion z)⟩⟩)))
        have p9 := p8.go' g9
        obtain ⟨vk, hv1, hv2⟩ := at_in (xs := ks.map V.str) x0 (by omega)
        obtain ⟨lk, hlk, rfl⟩ := List.mem_map.mp hv2
        refine ⟨x, rfl, _, g9.kp _ _ p8.dL.1 hk8, _, hv1, fun pt H10 n10 => post (.cond nm lk) p9 n10 (Rp.m3 n10.at_ (.str _) (.str _) (.str _)) rfl ?_ (fun z => Bool.noConfusion z)⟩
        exact (hks lk hlk).resolve_right fun z => Bool.noConfusion z.1
    · rintro σ H5 ⟨ths, v4, v5, v6, rfl, p5⟩
      walk_at "wp"
      obtain ⟨ws, h1, h2⟩ := p5.sh
      exact q S ws ths H5 p5.ok n1.fr h1 h2 p5.dS.1 p5.go
end
end K10
set_option linter.all false
set_option maxRecDepth 100000
set_option maxHeartbeats 4000000
namespace K10
open PySem PySem.Spec PyProof.Rows L2
def twoK : List Str := ["lock", "unlock", "wait", "notify", "notifyall"]
def putK : List Str := ["put", "add", "send"]
def threeK : List Str := ["get", "take"]
def InsG (ths : List Th) (n : Nat) : Ins → Prop
  | .two k x => k ∈ twoK ∧ kindOf ths x = kindK k ∧ kindK k ≠ none
  | .three k r x => k ∈ threeK ∧ r ∈ regS ∧ kindOf ths x = kindK k ∧ kindK k ≠ none
  | .xt k x t => TrOk t ∧ ((k = "let" ∧ x ∈ regS) ∨ (k ∈ putK ∧ kindOf ths x = kindK k ∧ kindK k ≠ none))
  | .check t => TrOk t
  | .go m => 0 ≤ m ∧ m ≤ n
  | .goIf m t => 0 ≤ m ∧ m ≤ n ∧ TrOk t
  | .one k => k = "stop"
theorem kindOf_mem {ths : List Th} (h : ShOk ths) {x k : Str} (hx : x ∈ ofKind ths k) : kindOf ths x = some k := by
  unfold ofKind at hx
  obtain ⟨t, ht, rfl⟩ := List.mem_map.mp hx
  rw [List.mem_filter, decide_eq_true_eq] at ht
  obtain ⟨ht, rfl⟩ := ht
  have nd := h.nd
  clear h hx
  induction ths with
  | nil => cases ht
  | cons a l ih =>
    rw [List.map_cons, List.nodup_cons] at nd
    unfold kindOf at ih ⊢
    rw [List.find?_cons]
    rcases List.mem_cons.mp ht with rfl | h
    · rw [decide_eq_true rfl]
      rfl
    · have ne : thN a ≠ thN t := fun e => nd.1 (by rw [e]; exact List.mem_map_of_mem h)
      rw [decide_eq_false ne]
      exact ih h nd.2
/-! ### a list of written pairs -/
def nws : Ln → List V → Hp → (List V → Hp → Prop) → Prop
  | [], acc, H, R => R acc H
  | t :: l, acc, H, R => nw (.tup [.str t.1, .str t.2]) H fun x H1 => nws l (acc ++ [x]) H1 R
theorem nws_ : ∀ {l m : Ln} {acc : List V} {H : Hp} {R : List V → Hp → Prop}, Rps H acc (m.map tokD) → (∀ ws H', Same H H' → Rps H' ws ((m ++ l).map tokD) → R ws H') → nws l acc H R
  | [], m, acc, H, R, r, k => k acc H (Same.refl _) (by rw [List.append_nil]; exact r)
  | t :: l, m, acc, H, R, r, k => fun p H1 n => nws_ (l := l) (m := m ++ [t]) (by
      rw [List.map_append]
      exact Rps.snoc (r.tk (.of n.kp)) (Rp.m2 n.at_ (.str _) (.str _))) fun ws H' s q => k ws H' (n.kp.trans s) (by
      rw [List.append_assoc] at q
      exact q)
theorem pls_ {l : Ln} {H : Hp} {R : VK} (k : ∀ p H', H p = none → Same H H' → Pt H' p l → R (.ref p) H') : nws l [] H fun vs H1 => nw (.lst vs) H1 R :=
  nws_ (m := []) .nil fun ws H' s r p H2 n => k p H2 (s.free n.fr) (s.trans n.kp) ⟨ws, n.at_, r.tk (.of n.kp)⟩
theorem plsL_ {l : Ln} {H : Hp} {R : VK} (hl : l.length ≤ 100) (k : ∀ p H', H p = none → Same H H' → Pt H' p l → R (.ref p) H') : nws l [] H fun vs H1 => vs.length ≤ 100 ∧ nw (.lst vs) H1 R :=
  nws_ (m := []) .nil fun ws H' s r => ⟨by have := r.1; rw [List.length_map] at this; simpa [this] using hl, fun p H2 n => k p H2 (s.free n.fr) (s.trans n.kp) ⟨ws, n.at_, r.tk (.of n.kp)⟩⟩
theorem Pt.go {H H' : Hp} {b p : Addr} {l : Ln} (t : Pt H p l) (n : p ≠ b) (bx : Bx H b) (g : Go b H H') : Pt H' p l := by
  obtain ⟨ws, a, r⟩ := t
  exact ⟨ws, g.kp p _ n a, r.tk (g.tk bx)⟩
section
variable {P : Program} {w : World} {K : PySem.W.Frag} {mg : Str → Option Value} {base : Heap} {Ax : Ad}
local macro_rules | `(tactic| walk_at "wp") => `(tactic| simp only [tVar, tC, tOp, rI0, rI, rU, tUn, rEq, rNe, tTest, tB, tAnd, tOr, tNot, tAndV, tOrV, tNotV, tIf, tSeq, tNext, tAsg, gName, gSub, tDrop, tRet, tRetN, tIfS, tBreak, tCont, tAug, ipI, tCB, tCons, tNil,
  xTup, xLst, xIxL, xIxT, xIxS, xIxK, xLenL, xLenT, xLenS, xLenK, xSlL, xSlT, xSlS, xInL, xInT, xInK, xCat, xRep, xCatT, xTupL, xSetL, xIntS, xIntI, xIntB, xApp, xJoin, xSplit, xFld, xSetF, xAugF, tSl, tPart, tNoPart, xCall, xMeth, xMeth0, xMake, xRaise, xgT, xgL, gCons, gNil, xInD, xIxD, C8.tCut, xIsi, for_r1, for_r2, for_l, for_t, for_e, lc_xl, lc_xt, lc_xr, tM0, S,
  exists_eq_left, exists_eq_left', exists_and_left, V.int.injEq, V.ref.injEq, V.str.injEq, V.bl.injEq, consV, Option.some.injEq, HO.lst.injEq, HO.tup.injEq, HO.ins.injEq, and_true, true_and, List.getElem?_cons_zero, List.getElem?_cons_succ, List.set_cons_zero, List.set_cons_succ,
  if_true, if_false, Bool.false_eq_true, and_assoc, V.ty.injEq, isbI, isbS, kb1, kb2, kb3, kb4, kb5, kb6, kb7, kb8, kb9, reduceCtorEq, decide_false, decide_true, decide_eq_true_eq, Bool.not_eq_true', decide_eq_false_iff_not, Bool.not_true, Bool.not_false, ite_not, at0, at1, at2, at3, at4, ix0, ix1, fl_int, fl_str, fl_bl, fl_non, al_nil, al_cons, lenNil, len1, len2, len3, len4, sc_ii, sc_ss, sc_ns, sc_sn, sc_nn, sc_in, sc_si, sc_is, sc_bb, st_go])
local macro_rules | `(tactic| walk_at "wf") => `(tactic| simp only [*,
  exists_eq_left, exists_eq_left', exists_and_left, V.int.injEq, V.ref.injEq, V.str.injEq, V.bl.injEq, consV, Option.some.injEq, HO.lst.injEq, HO.tup.injEq, HO.ins.injEq, and_true, true_and, List.getElem?_cons_zero, List.getElem?_cons_succ, List.set_cons_zero, List.set_cons_succ,
  if_true, if_false, Bool.false_eq_true, and_assoc, V.ty.injEq, isbI, isbS, kb1, kb2, kb3, kb4, kb5, kb6, kb7, kb8, kb9, reduceCtorEq, decide_false, decide_true, decide_eq_true_eq, Bool.not_eq_true', decide_eq_false_iff_not, Bool.not_true, Bool.not_false, ite_not, at0, at1, at2, at3, at4, ix0, ix1, fl_int, fl_str, fl_bl, fl_non, al_nil, al_cons, lenNil, len1, len2, len3, len4, sc_ii, sc_ss, sc_ns, sc_sn, sc_nn, sc_in, sc_si, sc_is, sc_bb, st_go])
local macro_rules | `(tactic| walk_at "len") => `(tactic| (refine le_line ?_; simp only [List.length_cons, List.length_nil, List.length_append, List.length_map, List.map_nil, List.map_cons] <;> omega))
def insKs : List Str := ["let", "get", "put", "add", "lock", "unlock", "wait", "notify", "notifyall", "send", "take", "check", "go", "stop", "get", "put", "lock", "unlock"]
def plK : Ln := [("get", "var"), ("put", "var"), ("add", "var"), ("lock", "lock"), ("unlock", "lock"), ("wait", "cond"), ("notify", "cond"), ("notifyall", "cond"), ("send", "queue"), ("take", "queue")]
def spIn : Sp := fun vs H Q _ => ∃ (b S : Addr) (ws : List V) (ths : List Th) (n : Nat), vs = [.ref b, .ref S, .int n, .int 1] ∧ n ≤ 11 ∧ Bx H b ∧ S ≠ b ∧ H S = some (.lst ws) ∧ Rps H ws (ths.map thD) ∧ ShOk ths ∧
  ∀ (v : V) (i : Ins) (H' : Hp), Go b H H' → InsG ths n i → Rp H' v (inD i) → Q v H'
theorem ok_law_instruction (F : Df K mg "_law_instruction" s_law_instruction ["_law_box", "_law_shared_here", "_law_size", "_law_depth"]) (T : Tx w K mg Ax) (G_law_draw : Cl P w K mg base L2.CX0 1 "_law_draw" spDraw) (G_law_tree : Cl P w K mg base L2.CX0 3 "_law_tree" (spTree 2)) (G_law_of_kind : Cl P w K mg base L2.CX0 1 "_law_of_kind" spOfKind) :
    Cl P w K mg base L2.CX0 4 "_law_instruction" spIn := by
  refine F.cl sc_law_instruction (fun vs H Q E h => ?_) (fun f cdv A outer s H vs Q E hr h => ?_)
  · obtain ⟨_, _, _, _, _, rfl, _⟩ := h
    rfl
  · obtain ⟨b, S, ws, ths, n, rfl, hn, hb, hSb, hS, rS, ok, q⟩ := h
    refine ⟨_, (pss_cons (ps_set (i := 4) sc_law_instruction.nd rfl (Or.inl rfl) (pe_ix ix_l (px_lst (pa_cons pe_str (pa_cons pe_str (pa_cons pe_str (pa_cons pe_str (pa_cons pe_str (pa_cons pe_str (pa_cons pe_str (pa_cons pe_str (pa_cons pe_str (pa_cons pe_str (pa_cons pe_str (pa_cons pe_str (pa_cons pe_str (pa_cons pe_str (pa_cons pe_str (pa_cons pe_str (pa_cons pe_str (pa_cons pe_str pa_nil))))))))))))))))))) (px_c G_law_draw hr (by omega) (by rfl) (pa_cons (pv 0) (pa_cons pe_int pa_nil))) (fun _ _ => rfl)))
  (pss_cons (ps_set (i := 5) sc_law_instruction.nd rfl (Or.inl rfl) (px_lst (pa_cons (px_tup (pa_cons pe_str (pa_cons pe_str pa_nil))) (pa_cons (px_tup (pa_cons pe_str (pa_cons pe_str pa_nil))) (pa_cons (px_tup (pa_cons pe_str (pa_cons pe_str pa_nil))) (pa_cons (px_tup (pa_cons pe_str (pa_cons pe_str pa_nil))) (pa_cons (px_tup (pa_cons pe_str (pa_cons pe_str pa_nil))) (pa_cons (px_tup (pa_cons pe_str (pa_cons pe_str pa_nil))) (pa_cons (px_tup (pa_cons pe_str (pa_cons pe_str pa_nil))) (pa_cons (px_tup (pa_cons pe_str (pa_cons pe_str pa_nil))) (pa_cons (px_tup (pa_cons pe_str (pa_cons pe_str pa_nil))) (pa_cons (px_tup (pa_cons pe_str (pa_cons pe_str pa_nil))) pa_nil))))))))))))
  (pss_cons (ps_set (i := 6) sc_law_instruction.nd rfl (Or.inl rfl) (px_c G_law_tree hr (by omega) (by rfl) (pa_cons (pv 0) (pa_cons (pv 3) pa_nil))))
  (pss_cons (ps_set (i := 7) sc_law_instruction.nd rfl (Or.inl rfl) (pe_ix ix_s pe_str (px_c G_law_draw hr (by omega) (by rfl) (pa_cons (pv 0) (pa_cons pe_int pa_nil))) (fun _ _ => rfl)))
  (pss_cons (ps_for PassesOwn.never rfl (pi_l (pv 5)) (pg_name (i := 8) sc_law_instruction.nd rfl (Or.inl rfl))
    (pss_one (ps_if (pt_cmpR op_eq (pe_ix ix_t (pv 8) pe_int (fun _ _ => rfl)) (pv 4) (nomark _)) (pss_cons (ps_set (i := 9) sc_law_instruction.nd rfl (Or.inl rfl) (px_c G_law_of_kind hr (by omega) (by rfl) (pa_cons (pv 1) (pa_cons (pe_ix ix_t (pv 8) pe_int (fun _ _ => rfl)) pa_nil))))
  (pss_cons (ps_if (pt_cmpR op_eq (pe_callB len_l (by rfl) T.b_len PySem.boot_len (pa_cons (pv 9) pa_nil)) pe_int (nomark _)) (pss_one (ps_ret (px_tup (pa_cons pe_str (pa_cons (pv 7) (pa_cons (pv 6) pa_nil)))))) pss_nil)
  (pss_cons (ps_set (i := 10) sc_law_instruction.nd rfl (Or.inl rfl) (pe_ix ix_l (pv 9) (px_c G_law_draw hr (by omega) (by rfl) (pa_cons (pv 0) (pa_cons (pe_callB len_l (by rfl) T.b_len PySem.boot_len (pa_cons (pv 9) pa_nil)) pa_nil))) (fun _ _ => rfl)))
  (pss_cons (ps_if (pt_cmpR in_l (pv 4) (px_lst (pa_cons pe_str (pa_cons pe_str pa_nil))) rfl) (pss_one (ps_ret (px_tup (pa_cons (pv 4) (pa_cons (pv 7) (pa_cons (pv 10) pa_nil)))))) pss_nil)
  (pss_cons (ps_if (pt_cmpR in_l (pv 4) (px_lst (pa_cons pe_str (pa_cons pe_str (pa_cons pe_str pa_nil)))) rfl) (pss_one (ps_ret (px_tup (pa_cons (pv 4) (pa_cons (pv 10) (pa_cons (pv 6) pa_nil)))))) pss_nil)
  (pss_one (ps_ret (px_tup (pa_cons (pv 4) (pa_cons (pv 10) pa_nil)))))))))) pss_nil)))
  (pss_cons (ps_if (pt_cmpR op_eq (pv 4) pe_str (nomark _)) (pss_one (ps_ret (px_tup (pa_cons pe_str (pa_cons (pv 6) pa_nil))))) pss_nil)
  (pss_cons (ps_if (pt_cmpR op_eq (pv 4) pe_str (nomark _)) (pss_one (ps_ret (px_tup (pa_cons pe_str (pa_cons (px_c G_law_draw hr (by omega) (by rfl) (pa_cons (pv 0) (pa_cons (pe_op op_add (pv 2) pe_int) pa_nil))) (pa_cons (pe_ix ix_l (px_lst (pa_cons pe_non (pa_cons (pv 6) pa_nil))) (px_c G_law_draw hr (by omega) (by rfl) (pa_cons (pv 0) (pa_cons pe_int pa_nil))) (fun _ _ => rfl)) pa_nil)))))) pss_nil)
  (pss_cons (ps_if (pt_cmpR op_eq (pv 4) pe_str (nomark _)) (pss_one (ps_ret (px_tup (pa_cons pe_str pa_nil)))) pss_nil)
  (pss_one (ps_ret (px_tup (pa_cons pe_str (pa_cons (pv 7) (pa_cons (pv 6) pa_nil)))))))))))))), ?_⟩
    rw [show L2.start N_law_instruction [V.ref b, V.ref S, V.int n, V.int 1] = [some (.ref b), some (.ref S), some (.int n), some (.int 1), none, none, none, none, none, none, none] from rfl]
    walk_at "wp"
    refine pick_ (by decide) rfl (by decide) hb fun vk H1 hvk g1 => ?_
    obtain ⟨k, hk, rfl⟩ := List.mem_map.mp (show vk ∈ insKs.map V.str from hvk)
    refine plsL_ (l := plK) (by decide) fun pl H2 fpl s2 hpl => ?_
    have g2 := g1.then s2
    refine ⟨b, rfl, by decide, g2.bx, fun tv t H3 g3 tok _ rt => ?_⟩
    have g3' := g2.trans g3
    refine letter_ g3.bx fun c H4 hc g4 => ?_
    have g4' := g3'.trans g4
    have plb : pl ≠ b := g1.bx.ne_new fpl
    have hpl4 : Pt H4 pl plK := (hpl.go plb g2.bx g3).go plb g3.bx g4
    have rt4 := rt.tk (g4.tk g3.bx)
    have hS4 := g4'.kp _ _ hSb hS
    have rS4 := rS.tk (g4'.tk hb)
    obtain ⟨wpl, hwpl, rpl⟩ := hpl4
    have letI_ : ∀ {H5 H6 : Hp} {p6 : Addr}, Go b H4 H5 → New p6 (.tup [.str "let", .str ⟨#[c]⟩, tv]) H5 H6 → Q (.ref p6) H6 := fun {H5 H6 p6} g5 n6 =>
      q _ (.xt "let" ⟨#[c]⟩ t) H6 ((g4'.trans g5).then n6.kp) ⟨tok, .inl ⟨rfl, hc⟩⟩ (Rp.m3 n6.at_ (.str _) (.str _) ((rt4.tk (g5.tk g4.bx)).tk (.of n6.kp)))
    refine ⟨pl, rfl, ⟨_, hwpl⟩, lp_l (xs := wpl) (fun i σ H' => (∃ v8, σ = [some (.ref b), some (.ref S), some (.int n), some (.int 1), some (.str k), some (.ref pl), some tv, some (.str ⟨#[c]⟩), v8, none, none]) ∧ H' = H4 ∧ ∀ (j : Nat) (y : Tok), j < i → plK[j]? = some y → decide (y.1 = k) = false)
      ⟨⟨_, rfl⟩, rfl, fun j y h => absurd h (Nat.not_lt_zero j)⟩ (fun i σ H' h => by rw [h.2.1]; exact hwpl) ?_ ?_⟩
    · rintro i x σ H' hx ⟨⟨v8, rfl⟩, rfl, hall⟩
      obtain ⟨d, hd, rd⟩ := rpl.at_ hx
      rw [List.getElem?_map] at hd
      obtain ⟨⟨k', kk⟩, hy, rfl⟩ := Option.map_eq_some_iff.mp hd
      obtain ⟨pa, x1, x2, rfl, hpa, r1, r2⟩ := Rp.t2 rd
      cases r1.str_inv
      cases r2.str_inv
      walk_at "wp"
      refine ⟨_, hpa, _, at0, rfl, ite2 (fun ck => ?_) (fun ck => ⟨⟨_, rfl⟩, fun j y hj hy' => ?_⟩)⟩
      · obtain rfl : k' = k := V.str.inj ck
        have hkk : kindK k' = some kk := by
          have all : ∀ y ∈ plK, kindK y.1 = some y.2 := by decide +kernel
          exact all _ (List.mem_of_getElem? hy)
        have lws : ws.length ≤ 100 := by
          have h1 := rS.1
          rw [List.length_map] at h1
          have := ok.le
          omega
        refine ⟨_, hpa, _, at1, S, ws, ths, kk, rfl, hS4, rS4, lws, fun D H5 nD hD s5 => ⟨D, rfl, _, hD, ite2 (fun c0 => fun p6 H6 n6 => letI_ (.of g4.bx s5) n6) (fun c0 => ⟨D, rfl, _, hD, draw_ (by omega) (g4.bx.same s5) fun x H6 x0 x1 g6 => ?_⟩)⟩⟩
        obtain ⟨vx, hv1, hv2⟩ := at_in (xs := (ofKind ths kk).map V.str) x0 (by omega)
        obtain ⟨nm, hnm, rfl⟩ := List.mem_map.mp hv2
        have g46 : Go b H' H6 := (Go.of g4.bx s5).trans g6
        have Db : D ≠ b := g4.bx.ne_new nD
        have kx : kindOf ths nm = kindK k' := by rw [hkk, kindOf_mem ok hnm]
        have kn : kindK k' ≠ none := by
          rw [hkk]
          exact fun z => by cases z
        have rt6 := rt4.tk (g46.tk g4.bx)
        refine ⟨D, rfl, x, rfl, _, g6.kp _ _ Db hD, _, hv1, fun p7 H7 n7 => ⟨_, rfl, _, n7.at_, rfl, ?_⟩⟩
        rw [show inV (V.str k') [V.str (Str.ofString "get"), V.str (Str.ofString "take")] = decide (k' ∈ threeK) from inV_str k' threeK]
        have g47 := (g4'.trans g46).then n7.kp
        have rt7 := rt6.tk (.of n7.kp)
        refine ite2 (fun c3 => fun p8 H8 n8 => q _ (.three k' ⟨#[c]⟩ nm) H8 (g47.then n8.kp) ⟨of_decide_eq_true c3, hc, kx, kn⟩ (Rp.m3 n8.at_ (.str _) (.str _) (.str _))) (fun c3 => fun p8 H8 n8 => ⟨_, rfl, _, n8.at_, rfl, ?_⟩)
        rw [show inV (V.str k') [V.str (Str.ofString "put"), V.str (Str.ofString "add"), V.str (Str.ofString "send")] = decide (k' ∈ putK) from inV_str k' putK]
        refine ite2 (fun c4 => fun p9 H9 n9 => q _ (.xt k' nm t) H9 ((g47.then n8.kp).then n9.kp) ⟨tok, .inr ⟨of_decide_eq_true c4, kx, kn⟩⟩ (Rp.m3 n9.at_ (.str _) (.str _) ((rt7.tk (.of n8.kp)).tk (.of n9.kp))))
          (fun c4 => fun p9 H9 n9 => q _ (.two k' nm) H9 ((g47.then n8.kp).then n9.kp) ⟨?_, kx, kn⟩ (Rp.m2 n9.at_ (.str _) (.str _)))
        have all : ∀ y ∈ plK, ¬ decide (y.1 ∈ threeK) = true → ¬ decide (y.1 ∈ putK) = true → y.1 ∈ twoK := by decide +kernel
        exact all _ (List.mem_of_getElem? hy) c3 c4
      · by_cases e : j = i
        · subst e
          rw [hy] at hy'
          cases hy'
          exact fun z => ck (by rw [z])
        · exact of_decide_eq_false (hall j y (by omega) hy')
    · rintro σ H' ⟨⟨v8, rfl⟩, rfl, hall⟩
      walk_at "wp"
      have noK : ∀ y ∈ plK, ¬ y.1 = k := fun y hy => by
        obtain ⟨j, hj⟩ := List.mem_iff_getElem?.mp hy
        have hjl := (List.getElem?_eq_some_iff.mp hj).1
        have hlen : wpl.length = plK.length := by rw [rpl.len, List.length_map]
        exact of_decide_eq_false (hall j y (by omega) hj)
      refine ite2 (fun c1 => fun p6 H6 n6 => q _ (.check t) H6 (g4'.then n6.kp) tok (Rp.m2 n6.at_ (.str _) (rt4.tk (.of n6.kp)))) (fun c1 => ite2 (fun c2 => draw_ (by omega) g4.bx fun m H5 m0 m1 g5 => fun p6 H6 n6 => draw_ (by decide) (g5.bx.same n6.kp) fun z H7 z0 z1 g7 => ?_)
        (fun c2 => ite2 (fun c3 => fun p6 H6 n6 => q _ (.one "stop") H6 (g4'.then n6.kp) rfl (Rp.m1 n6.at_ (.str _))) (fun c3 => fun p6 H6 n6 => letI_ (.refl g4.bx) n6)))
      have b6 := g5.bx.same n6.kp
      have n67 : H7 p6 = some (.lst [V.non, tv]) := g7.kp _ _ (g5.bx.ne_new n6.fr) n6.at_
      have g47 : Go b H' H7 := ((g5.then n6.kp)).trans g7
      have rt7 := rt4.tk (g47.tk g4.bx)
      have hz : z = 0 ∨ z = 1 := by omega
      rcases hz with rfl | rfl
      · exact ⟨p6, rfl, 0, rfl, _, n67, _, at0, fun p8 H8 n8 => q _ (.go m) H8 ((g4'.trans g47).then n8.kp) ⟨m0, by omega⟩ (Rp.m3 n8.at_ (.str _) (.int _) .non)⟩
      · exact ⟨p6, rfl, 1, rfl, _, n67, _, at1, fun p8 H8 n8 => q _ (.goIf m t) H8 ((g4'.trans g47).then n8.kp) ⟨m0, by omega, tok⟩ (Rp.m3 n8.at_ (.str _) (.int _) (rt7.tk (.of n8.kp)))⟩
end
end K10
set_option linter.all false
set_option maxRecDepth 100000
set_option maxHeartbeats 4000000
namespace K10
open PySem PySem.Spec PyProof.Rows L2
def bgI : Ins := .one "begin"
def enI : Ins := .one "end"
/-- a step of the blocks -/
def altS (i : Ins) (b b' : Bool) : Prop := (i = bgI ∧ b = false ∧ b' = true) ∨ (i = enI ∧ b = true ∧ b' = false) ∨ (i ≠ bgI ∧ i ≠ enI ∧ b' = b)
structure ThrG (ths : List Th) (is : List Ins) : Prop where
  n1 : 1 ≤ is.length
  n2 : is.length ≤ 11
  ok : ∀ i ∈ is, InsG ths is.length i ∨ i = bgI ∨ i = enI
  alt : ∃ st : Nat → Bool, st 0 = false ∧ st is.length = false ∧ ∀ (j : Nat) (i : Ins), is[j]? = some i → altS i (st j) (st (j + 1))
theorem InsG.ne {ths : List Th} {n : Nat} {i : Ins} (h : InsG ths n i) : i ≠ bgI ∧ i ≠ enI := by
  constructor
  · intro e
    rw [e] at h
    exact absurd (show ("begin" : Str) = "stop" from h) (by decide +kernel)
  · intro e
    rw [e] at h
    exact absurd (show ("end" : Str) = "stop" from h) (by decide +kernel)
theorem ThrG.plain {ths : List Th} {is : List Ins} (n1 : 1 ≤ is.length) (n2 : is.length ≤ 11) (ok : ∀ i ∈ is, InsG ths is.length i) : ThrG ths is :=
  ⟨n1, n2, fun i hi => .inl (ok i hi), fun _ => false, rfl, rfl, fun j i hj => .inr (.inr ⟨(ok i (List.mem_of_getElem? hj)).ne.1, (ok i (List.mem_of_getElem? hj)).ne.2, rfl⟩)⟩
theorem bg_en : bgI ≠ enI := fun e => absurd (Ins.one.inj e) (by decide +kernel)
theorem ThrG.one {ths : List Th} {is : List Ins} {f l : Nat} (n2 : is.length ≤ 11) (ok : ∀ i ∈ is, InsG ths is.length i) (h1 : f < l) (h2 : l < is.length) : ThrG ths ((is.set f bgI).set l enI) := by
  have e : ((is.set f bgI).set l enI).length = is.length := by rw [List.length_set, List.length_set]
  refine ⟨by omega, by omega, fun i hi => ?_, fun k => decide (f < k ∧ k ≤ l), by simp, by rw [e]; simp; omega, fun j i hj => ?_⟩
  · rw [e]
    rcases List.mem_or_eq_of_mem_set hi with q | q
    · rcases List.mem_or_eq_of_mem_set q with q | q
      · exact .inl (ok i q)
      · exact .inr (.inl q)
    · exact .inr (.inr q)
  · rw [List.getElem?_set] at hj
    by_cases c1 : l = j
    · subst c1
      rw [if_pos rfl, if_pos (by rw [List.length_set]; exact h2)] at hj
      cases Option.some.inj hj
      exact .inr (.inl ⟨rfl, decide_eq_true (by omega), decide_eq_false (by omega)⟩)
    rw [if_neg c1, List.getElem?_set] at hj
    by_cases c2 : f = j
    · subst c2
      rw [if_pos rfl, if_pos (by omega)] at hj
      cases Option.some.inj hj
      exact .inl ⟨rfl, decide_eq_false (by omega), decide_eq_true (by omega)⟩
    rw [if_neg c2] at hj
    have h := (ok i (List.mem_of_getElem? hj)).ne
    exact .inr (.inr ⟨h.1, h.2, decide_eq_decide.mpr (by omega)⟩)
theorem ThrG.two {ths : List Th} {is : List Ins} {f l a z : Nat} (n2 : is.length ≤ 11) (ok : ∀ i ∈ is, InsG ths is.length i) (h1 : f < l) (h2 : l < a) (h3 : a < z) (h4 : z < is.length) : ThrG ths ((((is.set f bgI).set l enI).set a bgI).set z enI) := by
  have e : ((((is.set f bgI).set l enI).set a bgI).set z enI).length = is.length := by rw [List.length_set, List.length_set, List.length_set, List.length_set]
  refine ⟨by omega, by omega, fun i hi => ?_, fun k => decide ((f < k ∧ k ≤ l) ∨ (a < k ∧ k ≤ z)), by simp, by rw [e]; simp; omega, fun j i hj => ?_⟩
  · rw [e]
    rcases List.mem_or_eq_of_mem_set hi with q | q
    · rcases List.mem_or_eq_of_mem_set q with q | q
      · rcases List.mem_or_eq_of_mem_set q with q | q
        · rcases List.mem_or_eq_of_mem_set q with q | q
          · exact .inl (ok i q)
          · exact .inr (.inl q)
        · exact .inr (.inr q)
      · exact .inr (.inl q)
    · exact .inr (.inr q)
  · rw [List.getElem?_set] at hj
    by_cases c1 : z = j
    · subst c1
      rw [if_pos rfl, if_pos (by rw [List.length_set, List.length_set, List.length_set]; exact h4)] at hj
      cases Option.some.inj hj
      exact .inr (.inl ⟨rfl, decide_eq_true (by omega), decide_eq_false (by omega)⟩)
    rw [if_neg c1, List.getElem?_set] at hj
    by_cases c2 : a = j
    · subst c2
      rw [if_pos rfl, if_pos (by rw [List.length_set, List.length_set]; omega)] at hj
      cases Option.some.inj hj
      exact .inl ⟨rfl, decide_eq_false (by omega), decide_eq_true (by omega)⟩
    rw [if_neg c2, List.getElem?_set] at hj
    by_cases c3 : l = j
    · subst c3
      rw [if_pos rfl, if_pos (by rw [List.length_set]; omega)] at hj
      cases Option.some.inj hj
      exact .inr (.inl ⟨rfl, decide_eq_true (by omega), decide_eq_false (by omega)⟩)
    rw [if_neg c3, List.getElem?_set] at hj
    by_cases c4 : f = j
    · subst c4
      rw [if_pos rfl, if_pos (by omega)] at hj
      cases Option.some.inj hj
      exact .inl ⟨rfl, decide_eq_false (by omega), decide_eq_true (by omega)⟩
    rw [if_neg c4] at hj
    have h := (ok i (List.mem_of_getElem? hj)).ne
    exact .inr (.inr ⟨h.1, h.2, decide_eq_decide.mpr (by omega)⟩)
theorem Rps.set {H : Hp} {vs : List V} {ds : List K10.D} {j : Nat} {v : V} {d : K10.D} (r : Rps H vs ds) (h : Rp H v d) : Rps H (vs.set j v) (ds.set j d) := by
  refine ⟨by rw [List.length_set, List.length_set, r.1], fun i u e h1 h2 => ?_⟩
  rw [List.getElem?_set] at h1 h2
  by_cases c : j = i
  · rw [if_pos c] at h1 h2
    split at h1
    · split at h2
      · cases h1
        cases h2
        exact h
      · cases h2
    · cases h1
  · rw [if_neg c] at h1 h2
    exact r.2 i u e h1 h2
theorem ixn {n i : Nat} (h : i < n) : ixN n (i : Int) = some i := by
  unfold ixN
  rw [if_pos (by omega), if_pos (by omega), Int.toNat_natCast]
/-- a list of instructions at D, laid behind H0 -/
structure ThI (b D : Addr) (H0 : Hp) (is : List Ins) (acc : List V) (H : Hp) : Prop where
  go : Go b H0 H
  fr : H0 D = none
  nd : Nd b D H
  at_ : H D = some (.lst acc)
  rp : Rps H acc (is.map inD)
section
variable {b D : Addr} {H0 H H' : Hp} {is : List Ins} {acc : List V}
theorem ThI.go' (h : ThI b D H0 is acc H) (g : Go b H H') : ThI b D H0 is acc H' := ⟨h.go.trans g, h.fr, h.nd.go h.go.bx g, g.kp _ _ h.nd.1 h.at_, h.rp.tk (g.tk h.go.bx)⟩
theorem ThI.same (h : ThI b D H0 is acc H) (s : Same H H') : ThI b D H0 is acc H' := h.go' (.of h.go.bx s)
theorem ThI.app {v : V} {i : Ins} (h : ThI b D H0 is acc H) (r : Rp H v (inD i)) (g : Chg D (.lst (acc ++ [v])) H H') : ThI b D H0 (is ++ [i]) (acc ++ [v]) H' := by
  refine ⟨h.go.chg h.fr h.nd g, h.fr, h.nd.chg h.nd.1 h.go.bx g, g.at_, ?_⟩
  rw [List.map_append]
  exact Rps.snoc (h.rp.tk (Chg.tk g h.at_)) (r.tk (Chg.tk g h.at_))
theorem ThI.set {v : V} {i : Ins} {j : Nat} (h : ThI b D H0 is acc H) (r : Rp H v (inD i)) (g : Chg D (.lst (acc.set j v)) H H') : ThI b D H0 (is.set j i) (acc.set j v) H' := by
  refine ⟨h.go.chg h.fr h.nd g, h.fr, h.nd.chg h.nd.1 h.go.bx g, g.at_, ?_⟩
  rw [List.map_set]
  exact Rps.set (h.rp.tk (Chg.tk g h.at_)) (r.tk (Chg.tk g h.at_))
theorem ThI.len (h : ThI b D H0 is acc H) : acc.length = is.length := by rw [h.rp.1, List.length_map]
end
section
variable {P : Program} {w : World} {K : PySem.W.Frag} {mg : Str → Option Value} {base : Heap} {Ax : Ad}
local macro_rules | `(tactic| walk_at "wp") => `(tactic| simp only [tVar, tC, tOp, rI0, rI, rU, tUn, rEq, rNe, tTest, tB, tAnd, tOr, tNot, tAndV, tOrV, tNotV, tIf, tSeq, tNext, tAsg, gName, gSub, tDrop, tRet, tRetN, tIfS, tBreak, tCont, tAug, ipI, tCB, tCons, tNil,
  xTup, xLst, xIxL, xIxT, xIxS, xIxK, xLenL, xLenT, xLenS, xLenK, xSlL, xSlT, xSlS, xInL, xInT, xInK, xCat, xRep, xCatT, xTupL, xSetL, xIntS, xIntI, xIntB, xApp, xJoin, xSplit, xFld, xSetF, xAugF, tSl, tPart, tNoPart, xCall, xMeth, xMeth0, xMake, xRaise, xgT, xgL, gCons, gNil, xInD, xIxD, C8.tCut, xIsi, for_r1, for_r2, for_l, for_t, for_e, lc_xl, lc_xt, lc_xr, tM0, S,
  exists_eq_left, exists_eq_left', exists_and_left, V.int.injEq, V.ref.injEq, V.str.injEq, V.bl.injEq, consV, Option.some.injEq, HO.lst.injEq, HO.tup.injEq, HO.ins.injEq, and_true, true_and, List.getElem?_cons_zero, List.getElem?_cons_succ, List.set_cons_zero, List.set_cons_succ,
  if_true, if_false, Bool.false_eq_true, and_assoc, V.ty.injEq, isbI, isbS, kb1, kb2, kb3, kb4, kb5, kb6, kb7, kb8, kb9, reduceCtorEq, decide_false, decide_true, decide_eq_true_eq, Bool.not_eq_true', decide_eq_false_iff_not, Bool.not_true, Bool.not_false, ite_not, at0, at1, at2, at3, at4, ix0, ix1, fl_int, fl_str, fl_bl, fl_non, al_nil, al_cons, lenNil, len1, len2, len3, len4, sc_ii, sc_ss, sc_ns, sc_sn, sc_nn, sc_in, sc_si, sc_is, sc_bb, st_go])
local macro_rules | `(tactic| walk_at "wf") => `(tactic| simp only [*,
  exists_eq_left, exists_eq_left', exists_and_left, V.int.injEq, V.ref.injEq, V.str.injEq, V.bl.injEq, consV, Option.some.injEq, HO.lst.injEq, HO.tup.injEq, HO.ins.injEq, and_true, true_and, List.getElem?_cons_zero, List.getElem?_cons_succ, List.set_cons_zero, List.set_cons_succ,
  if_true, if_false, Bool.false_eq_true, and_assoc, V.ty.injEq, isbI, isbS, kb1, kb2, kb3, kb4, kb5, kb6, kb7, kb8, kb9, reduceCtorEq, decide_false, decide_true, decide_eq_true_eq, Bool.not_eq_true', decide_eq_false_iff_not, Bool.not_true, Bool.not_false, ite_not, at0, at1, at2, at3, at4, ix0, ix1, fl_int, fl_str, fl_bl, fl_non, al_nil, al_cons, lenNil, len1, len2, len3, len4, sc_ii, sc_ss, sc_ns, sc_sn, sc_nn, sc_in, sc_si, sc_is, sc_bb, st_go])
local macro_rules | `(tactic| walk_at "len") => `(tactic| (refine le_line ?_; simp only [List.length_cons, List.length_nil, List.length_append, List.length_map, List.map_nil, List.map_cons] <;> omega))
def spThr : Sp := fun vs H Q _ => ∃ (b S : Addr) (ws : List V) (ths : List Th), vs = [.ref b, .ref S, .int 11, .int 1] ∧ Bx H b ∧ S ≠ b ∧ H S = some (.lst ws) ∧ Rps H ws (ths.map thD) ∧ ShOk ths ∧
  ∀ (v : V) (is : List Ins) (H' : Hp), Go b H H' → ThrG ths is → Rp H' v (.tup (is.map inD)) → Q v H'
theorem ok_law_thread (F : Df K mg "_law_thread" s_law_thread ["_law_box", "_law_shared_here", "_law_most", "_law_depth"]) (T : Tx w K mg Ax) (G_law_draw : Cl P w K mg base L2.CX0 1 "_law_draw" spDraw) (G_law_instruction : Cl P w K mg base L2.CX0 4 "_law_instruction" spIn) :
    Cl P w K mg base L2.CX0 5 "_law_thread" spThr := by
  refine F.cl sc_law_thread (fun vs H Q E h => ?_) (fun f cdv A outer s H vs Q E hr h => ?_)
  · obtain ⟨_, _, _, _, rfl, _⟩ := h
    rfl
  · obtain ⟨b, S, ws, ths, rfl, hb, hSb, hS, rS, ok, q⟩ := h
    refine ⟨_, (pss_cons (ps_set (i := 4) sc_law_thread.nd rfl (Or.inr rfl) (pe_op op_add pe_int (px_c G_law_draw hr (by omega) (by rfl) (pa_cons (pv 0) (pa_cons (pv 2) pa_nil)))))
  (pss_cons (ps_setLc (i := 5) (own := [("_law_k", 6)]) (g := gName 6) rfl sc_law_thread.nd rfl rfl (sw_true rfl rfl rfl (by decide +kernel)) (pi_range1 rfl T.b_range (pa_cons (pv 4) pa_nil)) (blkOk_by (own := [("_law_k", 6)]) (N := N_law_thread) (sc := defScope s_law_thread) (by decide +kernel)) (fun _ _ _ _ _ => pg_name (i := 6) sc_law_thread.nd rfl (Or.inl rfl)) (fun _ _ _ _ _ => pts_mo pts_nil) (fun _ _ _ _ _ => pe_mo (px_c G_law_instruction hr (by omega) (by rfl) (pa_cons (pv 0) (pa_cons (pv 1) (pa_cons (pv 4) (pa_cons (pv 3) pa_nil)))))))
  (pss_cons (ps_if (PW.pt (pw_and (pt_cmpR op_gt (pv 4) pe_int (nomark _)) (pw_and1 (pt_cmpR op_eq (px_c G_law_draw hr (by omega) (by rfl) (pa_cons (pv 0) (pa_cons pe_int pa_nil))) pe_int (nomark _))))) (pss_cons (ps_set (i := 7) sc_law_thread.nd rfl (Or.inl rfl) (px_c G_law_draw hr (by omega) (by rfl) (pa_cons (pv 0) (pa_cons (pe_op op_sub (pv 4) pe_int) pa_nil))))
  (pss_cons (ps_set (i := 8) sc_law_thread.nd rfl (Or.inl rfl) (pe_op op_add (pe_op op_add (pv 7) pe_int) (px_c G_law_draw hr (by omega) (by rfl) (pa_cons (pv 0) (pa_cons (pe_op op_sub (pe_op op_sub (pv 4) pe_int) (pv 7)) pa_nil)))))
  (pss_cons (ps_asg (px_tup (pa_cons pe_str pa_nil)) (pg_sub (pv 5) (pv 7) set_l))
  (pss_cons (ps_asg (px_tup (pa_cons pe_str pa_nil)) (pg_sub (pv 5) (pv 8) set_l))
  (pss_one (ps_if (PW.pt (pw_and (pt_cmpR op_gt (pe_op op_sub (pv 4) (pv 8)) pe_int (nomark _)) (pw_and1 (pt_cmpR op_eq (px_c G_law_draw hr (by omega) (by rfl) (pa_cons (pv 0) (pa_cons pe_int pa_nil))) pe_int (nomark _))))) (pss_cons (ps_set (i := 9) sc_law_thread.nd rfl (Or.inl rfl) (pe_op op_add (pe_op op_add (pv 8) pe_int) (px_c G_law_draw hr (by omega) (by rfl) (pa_cons (pv 0) (pa_cons (pe_op op_sub (pe_op op_sub (pv 4) (pv 8)) pe_int) pa_nil)))))
  (pss_cons (ps_asg (px_tup (pa_cons pe_str pa_nil)) (pg_sub (pv 5) (pv 9) set_l))
  (pss_one (ps_asg (px_tup (pa_cons pe_str pa_nil)) (pg_sub (pv 5) (pe_op op_add (pe_op op_add (pv 9) pe_int) (px_c G_law_draw hr (by omega) (by rfl) (pa_cons (pv 0) (pa_cons (pe_op op_sub (pe_op op_sub (pv 4) pe_int) (pv 9)) pa_nil)))) set_l))))) pss_nil)))))) pss_nil)
  (pss_one (ps_ret (pe_callTy tup_l (by rfl) T.b_tuple (by decide +kernel) (pa_cons (pv 5) pa_nil))))))), ?_⟩
    rw [show L2.start N_law_thread [V.ref b, V.ref S, V.int 11, V.int 1] = [some (.ref b), some (.ref S), some (.int 11), some (.int 1), none, none, none, none, none, none] from rfl]
    walk_at "wp"
    refine draw_ (by decide) hb fun x H1 x0 x1 g1 => ⟨x, rfl, by omega, by omega, ?_⟩
    obtain ⟨n, hn⟩ : ∃ n : Nat, 1 + x = (n : Int) := ⟨(1 + x).toNat, by omega⟩
    rw [hn, Int.toNat_natCast]
    have hS1 := g1.kp _ _ hSb hS
    have rS1 := rS.tk (g1.tk hb)
    refine lc_r (n := n) (fun D i acc H' => ∃ is, ThI b D H1 is acc H' ∧ is.length = i ∧ ∀ j ∈ is, InsG ths n j) (fun D H' nD => ⟨[], ⟨.of g1.bx nD.kp, nD.fr, (g1.bx.nd nD.fr).same g1.bx nD.kp, nD.at_, .nil⟩, rfl, fun j h => absurd h List.not_mem_nil⟩) (by omega) (fun D i acc H' ⟨is, h1, h2, _⟩ => by rw [h1.len]; omega)
      (fun D i acc H' hi hacc h => ⟨rfl, ?_⟩) (fun D acc H' nD hacc h => ?_)
    · obtain ⟨is, ti, hl, hg⟩ := h
      unfold Tn
      simp only [tYes, if_true]
      walk_at "wp"
      refine ⟨_, rfl, _, rfl, _, rfl, _, rfl, b, S, ws, ths, n, rfl, by omega, ti.go.bx, hSb, ti.go.kp _ _ hSb hS1, rS1.tk (ti.go.tk g1.bx), ok, fun v j H5 g5 jg rj => ?_⟩
      have t5 := ti.go' g5
      exact ⟨t5.at_, fun H6 g6 => ⟨is ++ [j], t5.app rj g6, by rw [List.length_append, hl]; rfl, fun u hu => (List.mem_append.mp hu).elim (hg u) (fun z => by rw [List.mem_singleton.mp z]; exact jg)⟩⟩
    · obtain ⟨is, ti, hl, hg⟩ := h
      have fin : ∀ {H5 : Hp} {is' : List Ins} {acc' : List V}, ThI b D H1 is' acc' H5 → ThrG ths is' → ∃ p, V.ref D = V.ref p ∧ ∃ xs, H5 p = some (.lst xs) ∧ nw (.tup xs) H5 Q := fun {H5 is' acc'} t5 tg => ⟨D, rfl, _, t5.at_, fun p H6 n6 => q _ is' H6 ((g1.trans t5.go).then n6.kp) tg (Rp.ofs n6.at_ (t5.rp.tk (.of n6.kp)))⟩
      have hg' : ∀ i ∈ is, InsG ths is.length i := by
        rw [hl]
        exact hg
      refine ite2 (fun c1 => draw_ (by decide) ti.go.bx fun r H3 r0 r1 g3 => ⟨rfl, ite2 (fun cr => ?_) (fun cr => fin (ti.go' g3) (.plain (by omega) (by omega) hg'))⟩) (fun c1 => fin ti (.plain (by omega) (by omega) hg'))
      refine draw_ (by omega) g3.bx fun y H4 y0 y1 g4 => ⟨y, rfl, y, rfl, draw_ (by omega) g4.bx fun z H5 z0 z1 g5 => ⟨z, rfl, fun p6 H6 n6 => ?_⟩⟩
      obtain ⟨f1, rfl⟩ : ∃ k : Nat, y = (k : Int) := ⟨y.toNat, by omega⟩
      obtain ⟨d1, rfl⟩ : ∃ k : Nat, z = (k : Int) := ⟨z.toNat, by omega⟩
      have hl1 : f1 + 1 + d1 < n := by omega
      have t6 := ((ti.go' g3).go' g4).go' g5 |>.same n6.kp
      have la : acc.length = n := by rw [t6.len, hl]
      refine ⟨D, rfl, _, rfl, _, t6.at_, f1, ixn (by omega), fun H7 g7 => ?_⟩
      have t7 := t6.set (i := bgI) (Rp.m1 n6.at_ (.str _)) g7
      intro p8 H8 n8
      have t8 := t7.same n8.kp
      rw [show (f1 : Int) + 1 + (d1 : Int) = ((f1 + 1 + d1 : Nat) : Int) by omega]
      refine ⟨D, rfl, _, t8.at_, f1 + 1 + d1, ixn (by rw [List.length_set]; omega), fun H9 g9 => ?_⟩
      have t9 := t8.set (i := enI) (Rp.m1 n8.at_ (.str _)) g9
      have one := ThrG.one (ths := ths) (is := is) (f := f1) (l := f1 + 1 + d1) (by omega) hg' (by omega) (by omega)
      refine ite2 (fun c2 => draw_ (by decide) t9.go.bx fun r2 H10 r20 r21 g10 => ⟨rfl, ite2 (fun cr2 => draw_ (by omega) g10.bx fun y2 H11 y20 y21 g11 => ⟨y2, rfl, fun p12 H12 n12 => ?_⟩) (fun cr2 => fin (t9.go' g10) one)⟩) (fun c2 => fin t9 one)
      obtain ⟨a1, rfl⟩ : ∃ k : Nat, y2 = (k : Int) := ⟨y2.toNat, by omega⟩
      have t12 := ((t9.go' g10).go' g11).same n12.kp
      rw [show ((f1 + 1 + d1 : Nat) : Int) + 1 + (a1 : Int) = ((f1 + 1 + d1 + 1 + a1 : Nat) : Int) by omega]
      refine ⟨D, rfl, _, t12.at_, f1 + 1 + d1 + 1 + a1, ixn (by rw [List.length_set, List.length_set]; omega), fun H13 g13 => ?_⟩
      have t13 := t12.set (i := bgI) (Rp.m1 n12.at_ (.str _)) g13
      intro p14 H14 n14
      have t14 := t13.same n14.kp
      refine draw_ (by omega) t14.go.bx fun y3 H15 y30 y31 g15 => ?_
      obtain ⟨z1, rfl⟩ : ∃ k : Nat, y3 = (k : Int) := ⟨y3.toNat, by omega⟩
      have t15 := t14.go' g15
      have r15 : Rp H15 (.ref p14) (inD enI) := (show Rp H14 (.ref p14) (inD enI) from Rp.m1 n14.at_ (.str _)).tk (g15.tk t14.go.bx)
      rw [show ((f1 + 1 + d1 + 1 + a1 : Nat) : Int) = ((f1 + 1 + d1 + 1 + a1 : Nat) : Int) from rfl]
      refine ⟨_, rfl, D, rfl, _, t15.at_, f1 + 1 + d1 + 1 + a1 + 1 + z1, ?_, fun H16 g16 => ?_⟩
      · rw [show ((f1 + 1 + d1 + 1 + a1 : Nat) : Int) + 1 + (z1 : Int) = ((f1 + 1 + d1 + 1 + a1 + 1 + z1 : Nat) : Int) by omega]
        exact ixn (by rw [List.length_set, List.length_set, List.length_set]; omega)
      · exact fin (t15.set (i := enI) r15 g16) (ThrG.two (ths := ths) (is := is) (f := f1) (l := f1 + 1 + d1) (a := f1 + 1 + d1 + 1 + a1) (z := f1 + 1 + d1 + 1 + a1 + 1 + z1) (by omega) hg' (by omega) (by omega) (by omega) (by omega))
end
end K10
set_option linter.all false
set_option maxRecDepth 100000
set_option maxHeartbeats 4000000
namespace K10
open PySem PySem.Spec PyProof.Rows L2
structure PrG (ths : List Th) (tss : List (List Ins)) : Prop where
  sh : ShOk ths
  n1 : 1 ≤ tss.length
  n2 : tss.length ≤ 3
  ok : ∀ is ∈ tss, ThrG ths is
def tsD (is : List Ins) : D := .tup (is.map inD)
def prD (ths : List Th) (tss : List (List Ins)) : D := .tup [.tup (ths.map thD), .tup (tss.map tsD)]
/-- a list of data at p, laid behind H0 -/
structure LsI (b p : Addr) (H0 : Hp) (ds : List D) (acc : List V) (H : Hp) : Prop where
  go : Go b H0 H
  fr : H0 p = none
  nd : Nd b p H
  at_ : H p = some (.lst acc)
  rp : Rps H acc ds
section
variable {b p : Addr} {H0 H H' : Hp} {ds : List D} {acc : List V}
theorem LsI.go' (h : LsI b p H0 ds acc H) (g : Go b H H') : LsI b p H0 ds acc H' := ⟨h.go.trans g, h.fr, h.nd.go h.go.bx g, g.kp _ _ h.nd.1 h.at_, h.rp.tk (g.tk h.go.bx)⟩
theorem LsI.app {v : V} {d : D} (h : LsI b p H0 ds acc H) (r : Rp H v d) (g : Chg p (.lst (acc ++ [v])) H H') : LsI b p H0 (ds ++ [d]) (acc ++ [v]) H' := by
  refine ⟨h.go.chg h.fr h.nd g, h.fr, h.nd.chg h.nd.1 h.go.bx g, g.at_, ?_⟩
  exact Rps.snoc (h.rp.tk (Chg.tk g h.at_)) (r.tk (Chg.tk g h.at_))
end
section
variable {P : Program} {w : World} {K : PySem.W.Frag} {mg : Str → Option Value} {base : Heap} {Ax : Ad}
local macro_rules | `(tactic| walk_at "wp") => `(tactic| simp only [tVar, tC, tOp, rI0, rI, rU, tUn, rEq, rNe, tTest, tB, tAnd, tOr, tNot, tAndV, tOrV, tNotV, tIf, tSeq, tNext, tAsg, gName, gSub, tDrop, tRet, tRetN, tIfS, tBreak, tCont, tAug, ipI, tCB, tCons, tNil,
  xTup, xLst, xIxL, xIxT, xIxS, xIxK, xLenL, xLenT, xLenS, xLenK, xSlL, xSlT, xSlS, xInL, xInT, xInK, xCat, xRep, xCatT, xTupL, xSetL, xIntS, xIntI, xIntB, xApp, xJoin, xSplit, xFld, xSetF, xAugF, tSl, tPart, tNoPart, xCall, xMeth, xMeth0, xMake, xRaise, xgT, xgL, gCons, gNil, xInD, xIxD, C8.tCut, xIsi, for_r1, for_r2, for_l, for_t, for_e, lc_xl, lc_xt, lc_xr, tM0, S,
  exists_eq_left, exists_eq_left', exists_and_left, V.int.injEq, V.ref.injEq, V.str.injEq, V.bl.injEq, consV, Option.some.injEq, HO.lst.injEq, HO.tup.injEq, HO.ins.injEq, and_true, true_and, List.getElem?_cons_zero, List.getElem?_cons_succ, List.set_cons_zero, List.set_cons_succ,
  if_true, if_false, Bool.false_eq_true, and_assoc, V.ty.injEq, isbI, isbS, kb1, kb2, kb3, kb4, kb5, kb6, kb7, kb8, kb9, reduceCtorEq, decide_false, decide_true, decide_eq_true_eq, Bool.not_eq_true', decide_eq_false_iff_not, Bool.not_true, Bool.not_false, ite_not, at0, at1, at2, at3, at4, ix0, ix1, fl_int, fl_str, fl_bl, fl_non, al_nil, al_cons, lenNil, len1, len2, len3, len4, sc_ii, sc_ss, sc_ns, sc_sn, sc_nn, sc_in, sc_si, sc_is, sc_bb, st_go])
local macro_rules | `(tactic| walk_at "wf") => `(tactic| simp only [*,
  exists_eq_left, exists_eq_left', exists_and_left, V.int.injEq, V.ref.injEq, V.str.injEq, V.bl.injEq, consV, Option.some.injEq, HO.lst.injEq, HO.tup.injEq, HO.ins.injEq, and_true, true_and, List.getElem?_cons_zero, List.getElem?_cons_succ, List.set_cons_zero, List.set_cons_succ,
  if_true, if_false, Bool.false_eq_true, and_assoc, V.ty.injEq, isbI, isbS, kb1, kb2, kb3, kb4, kb5, kb6, kb7, kb8, kb9, reduceCtorEq, decide_false, decide_true, decide_eq_true_eq, Bool.not_eq_true', decide_eq_false_iff_not, Bool.not_true, Bool.not_false, ite_not, at0, at1, at2, at3, at4, ix0, ix1, fl_int, fl_str, fl_bl, fl_non, al_nil, al_cons, lenNil, len1, len2, len3, len4, sc_ii, sc_ss, sc_ns, sc_sn, sc_nn, sc_in, sc_si, sc_is, sc_bb, st_go])
local macro_rules | `(tactic| walk_at "len") => `(tactic| (refine le_line ?_; simp only [List.length_cons, List.length_nil, List.length_append, List.length_map, List.map_nil, List.map_cons] <;> omega))
def spPrg : Sp := fun vs H Q _ => ∃ b : Addr, vs = [.ref b, .int 3, .int 11, .int 1] ∧ Bx H b ∧ ∀ (v : V) (ths : List Th) (tss : List (List Ins)) (H' : Hp), Go b H H' → PrG ths tss → Rp H' v (prD ths tss) → Q v H'
theorem ok_law_program (F : Df K mg "_law_program" s_law_program ["_law_box", "_law_threads", "_law_most", "_law_depth"]) (T : Tx w K mg Ax) (G_law_draw : Cl P w K mg base L2.CX0 1 "_law_draw" spDraw) (G_law_shared : Cl P w K mg base L2.CX0 3 "_law_shared" spShr) (G_law_thread : Cl P w K mg base L2.CX0 5 "_law_thread" spThr) :
    Cl P w K mg base L2.CX0 6 "_law_program" spPrg := by
  refine F.cl sc_law_program (fun vs H Q E h => ?_) (fun f cdv A outer s H vs Q E hr h => ?_)
  · obtain ⟨_, rfl, _⟩ := h
    rfl
  · obtain ⟨b, rfl, hb, q⟩ := h
    refine ⟨_, (pss_cons (ps_set (i := 4) sc_law_program.nd rfl (Or.inr rfl) (px_c G_law_shared hr (by omega) (by rfl) (pa_cons (pv 0) pa_nil)))
  (pss_cons (ps_set (i := 5) sc_law_program.nd rfl (Or.inl rfl) (pe_op op_add pe_int (px_c G_law_draw hr (by omega) (by rfl) (pa_cons (pv 0) (pa_cons (pv 1) pa_nil)))))
  (pss_one (ps_ret (px_tup (pa_cons (pe_callTy tup_l (by rfl) T.b_tuple (by decide +kernel) (pa_cons (pv 4) pa_nil)) (pa_cons (pe_callTy tup_l (by rfl) T.b_tuple (by decide +kernel) (pa_cons (pe_lc (own := [("_law_k", 6)]) (g := gName 6) rfl sc_law_program.nd (pi_range1 rfl T.b_range (pa_cons (pv 5) pa_nil)) (blkOk_by (own := [("_law_k", 6)]) (N := N_law_program) (sc := defScope s_law_program) (by decide +kernel)) (fun _ _ _ _ _ => pg_name (i := 6) sc_law_program.nd rfl (Or.inl rfl)) (fun _ _ _ _ _ => pts_mo pts_nil) (fun _ _ _ _ _ => pe_mo (px_c G_law_thread hr (by omega) (by rfl) (pa_cons (pv 0) (pa_cons (pv 4) (pa_cons (pv 2) (pa_cons (pv 3) pa_nil))))))) pa_nil)) pa_nil))))))), ?_⟩
    rw [show L2.start N_law_program [V.ref b, V.int 3, V.int 11, V.int 1] = [some (.ref b), some (.int 3), some (.int 11), some (.int 1), none, none, none] from rfl]
    walk_at "wp"
    refine ⟨b, rfl, hb, fun S ws ths H1 ok _ hS rS hSb g1 => draw_ (by decide) g1.bx fun x H2 x0 x1 g2 => ?_⟩
    refine ⟨x, rfl, S, rfl, ws, g2.kp _ _ hSb hS, fun pt H3 n3 => ⟨by omega, by omega, ?_⟩⟩
    obtain ⟨n, hn⟩ : ∃ n : Nat, 1 + x = (n : Int) := ⟨(1 + x).toNat, by omega⟩
    rw [hn, Int.toNat_natCast]
    have g3 : Go b H H3 := (g1.trans g2).then n3.kp
    have b3 := g3.bx
    have hS3 := n3.kp _ _ (g2.kp _ _ hSb hS)
    have rS3 : Rps H3 ws (ths.map thD) := (rS.tk (g2.tk g1.bx)).tk (.of n3.kp)
    refine lc_r (n := n) (fun p i acc H' => ∃ tss : List (List Ins), LsI b p H3 (tss.map tsD) acc H' ∧ tss.length = i ∧ ∀ is ∈ tss, ThrG ths is) (fun p H' nD => ⟨[], ⟨.of b3 nD.kp, nD.fr, (b3.nd nD.fr).same b3 nD.kp, nD.at_, .nil⟩, rfl, fun j h => absurd h List.not_mem_nil⟩) (by omega) (fun p i acc H' ⟨tss, h1, h2, _⟩ => by have := h1.rp.1; rw [List.length_map] at this; omega)
      (fun p i acc H' hi hacc h => ⟨rfl, ?_⟩) (fun p acc H' nD hacc h => ?_)
    · obtain ⟨tss, ti, hl, hg⟩ := h
      unfold Tn
      simp only [tYes, if_true]
      walk_at "wp"
      refine ⟨_, rfl, _, rfl, _, rfl, _, rfl, b, S, ws, ths, rfl, ti.go.bx, hSb, ti.go.kp _ _ hSb hS3, rS3.tk (ti.go.tk b3), ok, fun v is H5 g5 jg rj => ?_⟩
      have t5 := ti.go' g5
      refine ⟨t5.at_, fun H6 g6 => ⟨tss ++ [is], ?_, by rw [List.length_append, hl]; rfl, fun u hu => (List.mem_append.mp hu).elim (hg u) (fun z => by rw [List.mem_singleton.mp z]; exact jg)⟩⟩
      rw [List.map_append]
      exact t5.app rj g6
    · obtain ⟨tss, ti, hl, hg⟩ := h
      refine ⟨p, rfl, _, ti.at_, fun p5 H5 n5 p6 H6 n6 => q (.ref p6) ths tss H6 (((g3.trans ti.go).then n5.kp).then n6.kp) ⟨ok, by omega, by omega, hg⟩ (Rp.m2 n6.at_ ?_ ?_)⟩
      · have r3 : Rp H3 (.ref pt) (.tup (ths.map thD)) := Rp.ofs n3.at_ rS3
        exact ((r3.tk (ti.go.tk b3)).tk (.of n5.kp)).tk (.of n6.kp)
      · have r5 : Rp H5 (.ref p5) (.tup (tss.map tsD)) := Rp.ofs n5.at_ (ti.rp.tk (.of n5.kp))
        exact r5.tk (.of n6.kp)
/-! ### _law_line -/
def ThW : Th → Prop
  | .var _ v => -99 ≤ v ∧ v ≤ 99
  | .queue _ k => 0 ≤ k ∧ k ≤ 99
  | _ => True
def InW : Ins → Prop
  | .two k _ => k ∈ twoK
  | .three k _ _ => k ∈ threeK
  | .xt k _ t => (k = "let" ∨ k ∈ putK) ∧ TrOk t
  | .check t => TrOk t
  | .go m => 0 ≤ m ∧ m ≤ 99
  | .goIf m t => 0 ≤ m ∧ m ≤ 99 ∧ TrOk t
  | .one k => k = "stop" ∨ k = "begin" ∨ k = "end"
theorem lc_copy {p : Addr} {ws : List Str} {j : Nat} {vs : List Nat} {σ : L2.St} {H : Hp} {Q : VK} (hp : H p = some (.tup (ws.map V.str))) (hl : ws.length ≤ 100) (hw : ∀ x, wipe ((wipe σ vs).set j (some x)) vs = wipe σ vs) (hj : ∀ x, ((wipe σ vs).set j (some x))[j]? = some (some x))
    (k : NwL (ws.map V.str) H Q) : (∃ xs, H p = some (.tup xs)) ∧ Lc (Itt K p) (gName j) (moT tYes) (mo (tVar j)) vs σ H Q := by
  refine ⟨⟨_, hp⟩, lc_pureT (ds := ws) (fun _ => true) V.str hp (List.length_map ..) (by rw [List.length_map]; omega) hw (fun i x d H' hi hd s K1 K0 h1 h0 => ?_) (fun B H' n s h => k B H' n ?_ s)⟩
  · rw [List.getElem?_map, hd] at hi
    cases Option.some.inj hi
    simp only [tYes, if_true]
    exact ⟨_, hj _, h1 rfl H' (Same.refl _)⟩
  · rw [h, List.filter_eq_self.mpr (fun _ _ => rfl)]
theorem tr_ne {H : Hp} {v : V} {t : Tr} (r : Rp H v (trD t)) : ¬ v = V.non := by
  intro e
  subst e
  cases t <;> cases r
theorem trW_le (t : Tr) : (trW t).length ≤ 3 := by cases t <;> simp [trW]
/-- a head, the texts of a tree behind it -/
theorem cat_ {A : List Str} {H : Hp} {p : Addr} {vs : List V} {i : Int} {v : V} {t : Tr} {Q : VK} {E : XK} (hp : H p = some (.tup vs)) (hv : atI vs i = some v) (rt : Rp H v (trD t)) (ok : TrOk t) (hA : A.length ≤ 10) (q : NwL ((A ++ trW t).map V.str) H Q) :
    nw (.lst (A.map V.str)) H fun x H1 => ∃ p', V.ref p = .ref p' ∧ ∃ xs, H1 p' = some (.tup xs) ∧ ∃ v, atI xs i = some v ∧ spTexts [v] H1 (fun y H2 => ∃ l, x = .ref l ∧ ∃ x', y = .ref x' ∧ ∃ xs, H2 l = some (.lst xs) ∧ ∃ ys, H2 x' = some (.lst ys) ∧ xs.length + ys.length ≤ sizeLine ∧ nw (.lst (xs ++ ys)) H2 Q) E :=
  fun l H1 n1 => ⟨p, rfl, vs, n1.kp _ _ hp, v, hv, v, t, rfl, rt.tk (.of n1.kp), ok, fun m H2 fm hm s2 => ⟨l, rfl, m, rfl, _, s2 _ _ n1.at_, _, hm, le_line (by rw [List.length_map, List.length_map]; have := trW_le t; omega), fun r H3 n3 => by
    rw [← List.map_append] at n3
    exact q r H3 ((n1.kp.trans s2).free n3.fr) n3.at_ ((n1.kp.trans s2).trans n3.kp)⟩⟩
theorem NwL.on {xs : List V} {H H1 : Hp} {Q : VK} (k : NwL xs H Q) (s : Same H H1) : NwL xs H1 Q := fun p H' f h s' => k p H' (s.free f) h (s.trans s')
def spLine : Sp := fun vs H Q _ => ∃ v, vs = [v] ∧ ((∃ t, Rp H v (thD t) ∧ ThW t ∧ NwL ((thW t).map V.str) H Q) ∨ ∃ i, Rp H v (inD i) ∧ InW i ∧ NwL ((inW i).map V.str) H Q)
theorem ok_law_line (F : Df K mg "_law_line" s_law_line ["_law_item"]) (T : Tx w K mg Ax) (G_law_texts : Cl P w K mg base L2.CX0 3 "_law_texts" spTexts) : Cl P w K mg base L2.CX0 4 "_law_line" spLine := by
  refine F.cl sc_law_line (fun vs H Q E h => ?_) (fun f cdv A outer s H vs Q E hr h => ?_)
  · obtain ⟨_, rfl, _⟩ := h
    rfl
  · obtain ⟨v, rfl, h⟩ := h
    refine ⟨_, (pss_cons (ps_set (i := 1) sc_law_line.nd rfl (Or.inl rfl) (pe_ix ix_t (pv 0) pe_int (fun _ _ => rfl)))
  (pss_cons (ps_if (pt_cmpR op_eq (pv 1) pe_str (nomark _)) (pss_cons (ps_if (pt_cmpR op_lt (pe_ix ix_t (pv 0) pe_int (fun _ _ => rfl)) pe_int (nomark _)) (pss_one (ps_ret (px_lst (pa_cons pe_str (pa_cons (pe_ix ix_t (pv 0) pe_int (fun _ _ => rfl)) (pa_cons pe_str (pa_cons pe_str (pa_cons (pe_callTy call_str_int (by rfl) T.b_str (by decide +kernel) (pa_cons (pe_op op_sub pe_int (pe_ix ix_t (pv 0) pe_int (fun _ _ => rfl))) pa_nil)) pa_nil)))))))) pss_nil)
  (pss_one (ps_ret (px_lst (pa_cons pe_str (pa_cons (pe_ix ix_t (pv 0) pe_int (fun _ _ => rfl)) (pa_cons pe_str (pa_cons (pe_callTy call_str_int (by rfl) T.b_str (by decide +kernel) (pa_cons (pe_ix ix_t (pv 0) pe_int (fun _ _ => rfl)) pa_nil)) pa_nil)))))))) pss_nil)
  (pss_cons (ps_if (pt_cmpR op_eq (pv 1) pe_str (nomark _)) (pss_one (ps_ret (px_lst (pa_cons pe_str (pa_cons (pe_ix ix_t (pv 0) pe_int (fun _ _ => rfl)) (pa_cons pe_str (pa_cons (pe_ix ix_t (pv 0) pe_int (fun _ _ => rfl)) pa_nil))))))) pss_nil)
  (pss_cons (ps_if (pt_cmpR op_eq (pv 1) pe_str (nomark _)) (pss_one (ps_ret (px_lst (pa_cons pe_str (pa_cons (pe_ix ix_t (pv 0) pe_int (fun _ _ => rfl)) (pa_cons (pe_callTy call_str_int (by rfl) T.b_str (by decide +kernel) (pa_cons (pe_ix ix_t (pv 0) pe_int (fun _ _ => rfl)) pa_nil)) pa_nil)))))) pss_nil)
  (pss_cons (ps_if (pt_cmpR op_eq (pv 1) pe_str (nomark _)) (pss_one (ps_ret (pe_op cat_l (px_lst (pa_cons pe_str (pa_cons (pe_ix ix_t (pv 0) pe_int (fun _ _ => rfl)) (pa_cons pe_str pa_nil)))) (px_c G_law_texts hr (by omega) (by rfl) (pa_cons (pe_ix ix_t (pv 0) pe_int (fun _ _ => rfl)) pa_nil))))) pss_nil)
  (pss_cons (ps_if (pt_cmpR in_l (pv 1) (px_lst (pa_cons pe_str (pa_cons pe_str (pa_cons pe_str pa_nil)))) rfl) (pss_one (ps_ret (pe_op cat_l (px_lst (pa_cons (pv 1) (pa_cons (pe_ix ix_t (pv 0) pe_int (fun _ _ => rfl)) pa_nil))) (px_c G_law_texts hr (by omega) (by rfl) (pa_cons (pe_ix ix_t (pv 0) pe_int (fun _ _ => rfl)) pa_nil))))) pss_nil)
  (pss_cons (ps_if (pt_cmpR op_eq (pv 1) pe_str (nomark _)) (pss_one (ps_ret (pe_op cat_l (px_lst (pa_cons pe_str pa_nil)) (px_c G_law_texts hr (by omega) (by rfl) (pa_cons (pe_ix ix_t (pv 0) pe_int (fun _ _ => rfl)) pa_nil))))) pss_nil)
  (pss_cons (ps_if (pt_cmpR op_eq (pv 1) pe_str (nomark _)) (pss_one (ps_ret (px_lst (pa_cons pe_str (pa_cons pe_str (pa_cons (pe_ix ix_t (pv 0) pe_int (fun _ _ => rfl)) pa_nil)))))) pss_nil)
  (pss_cons (ps_if (pt_cmpR op_eq (pv 1) pe_str (nomark _)) (pss_cons (ps_if (pt_cmpR op_isN (pe_ix ix_t (pv 0) pe_int (fun _ _ => rfl)) pe_non (nomark _)) (pss_one (ps_ret (px_lst (pa_cons pe_str (pa_cons (pe_callTy call_str_int (by rfl) T.b_str (by decide +kernel) (pa_cons (pe_ix ix_t (pv 0) pe_int (fun _ _ => rfl)) pa_nil)) pa_nil))))) pss_nil)
  (pss_one (ps_ret (pe_op cat_l (px_lst (pa_cons pe_str (pa_cons (pe_callTy call_str_int (by rfl) T.b_str (by decide +kernel) (pa_cons (pe_ix ix_t (pv 0) pe_int (fun _ _ => rfl)) pa_nil)) (pa_cons pe_str pa_nil)))) (px_c G_law_texts hr (by omega) (by rfl) (pa_cons (pe_ix ix_t (pv 0) pe_int (fun _ _ => rfl)) pa_nil)))))) pss_nil)
  (pss_one (ps_ret (pe_lc (own := [("_law_part", 2)]) (g := gName 2) rfl sc_law_line.nd (pi_t (pv 0)) (blkOk_by (own := [("_law_part", 2)]) (N := N_law_line) (sc := defScope s_law_line) (by decide +kernel)) (fun _ _ _ _ _ => pg_name (i := 2) sc_law_line.nd rfl (Or.inl rfl)) (fun _ _ _ _ _ => pts_mo pts_nil) (fun _ _ _ _ _ => pe_mo (pv 2)))))))))))))), ?_⟩
    rw [show L2.start N_law_line [v] = [some v, none, none] from rfl]
    walk_at "wp"
    have lt100 : ∀ {z : Int}, -99 ≤ z → z ≤ 99 → z.natAbs.log2 < 1920 := fun h1 h2 => int_fits (by omega)
    rcases h with ⟨t, rt, tw, q⟩ | ⟨i, ri, iw, q⟩
    · cases t with
      | var n z =>
        obtain ⟨p, x, y, u, rfl, hp, r1, r2, r3⟩ := Rp.t3 rt
        cases r1.str_inv
        cases r2.str_inv
        cases r3.int_inv
        refine ⟨p, rfl, _, hp, _, at0, rfl, ?_⟩
        rw [if_pos rfl]
        refine ⟨p, rfl, _, hp, _, at2, z, rfl, ite2 (fun c => ?_) (fun c => ?_)⟩
        · refine ⟨p, rfl, _, hp, _, at1, p, rfl, _, hp, _, at2, z, rfl, lt100 (by have := tw.2; omega) (by have := tw.1; omega), by simp, fun p2 H2 n2 => ?_⟩
          have h := q.of (p := p2) (H1 := H2)
          simp only [thW, if_pos c] at h
          exact h n2
        · refine ⟨p, rfl, _, hp, _, at1, p, rfl, _, hp, _, at2, z, rfl, lt100 tw.1 tw.2, fun p2 H2 n2 => ?_⟩
          have h := q.of (p := p2) (H1 := H2)
          simp only [thW, if_neg c] at h
          exact h n2
      | cond n l =>
        obtain ⟨p, x, y, u, rfl, hp, r1, r2, r3⟩ := Rp.t3 rt
        cases r1.str_inv
        cases r2.str_inv
        cases r3.str_inv
        refine ⟨p, rfl, _, hp, _, at0, rfl, ?_⟩
        rw [if_neg (by decide +kernel)]
        refine ⟨rfl, ?_⟩
        rw [if_pos rfl]
        exact ⟨p, rfl, _, hp, _, at1, p, rfl, _, hp, _, at2, fun p2 H2 n2 => q.of n2⟩
      | queue n k =>
        obtain ⟨p, x, y, u, rfl, hp, r1, r2, r3⟩ := Rp.t3 rt
        cases r1.str_inv
        cases r2.str_inv
        cases r3.int_inv
        refine ⟨p, rfl, _, hp, _, at0, rfl, ?_⟩
        rw [if_neg (by decide +kernel)]
        refine ⟨rfl, ?_⟩
        rw [if_neg (by decide +kernel)]
        refine ⟨rfl, ?_⟩
        rw [if_pos rfl]
        exact ⟨p, rfl, _, hp, _, at1, p, rfl, _, hp, _, at2, k, rfl, lt100 (by have := tw.1; omega) tw.2, fun p2 H2 n2 => q.of n2⟩
      | lock n =>
        obtain ⟨p, x, y, rfl, hp, r1, r2⟩ := Rp.t2 rt
        cases r1.str_inv
        cases r2.str_inv
        refine ⟨p, rfl, _, hp, _, at0, rfl, ?_⟩
        rw [if_neg (by decide +kernel)]
        refine ⟨rfl, ?_⟩
        rw [if_neg (by decide +kernel)]
        refine ⟨rfl, ?_⟩
        rw [if_neg (by decide +kernel)]
        refine ⟨rfl, ?_⟩
        rw [if_neg (by decide +kernel)]
        intro p2 H2 n2
        refine ⟨p2, rfl, _, n2.at_, rfl, rfl, ?_⟩
        rw [if_neg (by decide +kernel)]
        refine ⟨rfl, ?_⟩
        rw [if_neg (by decide +kernel)]
        refine ⟨rfl, ?_⟩
        rw [if_neg (by decide +kernel)]
        refine ⟨rfl, ?_⟩
        rw [if_neg (by decide +kernel)]
        exact ⟨p, rfl, lc_copy (ws := ["lock", n]) (n2.kp _ _ hp) (by simp) (fun x => rfl) (fun x => rfl) (q.on n2.kp)⟩
    · cases i with
      | two k x =>
        obtain ⟨p, y, z, rfl, hp, r1, r2⟩ := Rp.t2 ri
        cases r1.str_inv
        cases r2.str_inv
        have iw' : k ∈ twoK := iw
        simp only [twoK, List.mem_cons, List.not_mem_nil, or_false] at iw'
        rcases iw' with rfl | rfl | rfl | rfl | rfl
        · refine ⟨p, rfl, _, hp, _, at0, rfl, ?_⟩
          rw [if_neg (by decide +kernel)]
          refine ⟨rfl, ?_⟩
          rw [if_neg (by decide +kernel)]
          refine ⟨rfl, ?_⟩
          rw [if_neg (by decide +kernel)]
          refine ⟨rfl, ?_⟩
          rw [if_neg (by decide +kernel)]
          intro p2 H2 n2
          refine ⟨p2, rfl, _, n2.at_, rfl, rfl, ?_⟩
          rw [if_neg (by decide +kernel)]
          refine ⟨rfl, ?_⟩
          rw [if_neg (by decide +kernel)]
          refine ⟨rfl, ?_⟩
          rw [if_neg (by decide +kernel)]
          refine ⟨rfl, ?_⟩
          rw [if_neg (by decide +kernel)]
          exact ⟨p, rfl, lc_copy (ws := ["lock", x]) (n2.kp _ _ hp) (by simp) (fun x => rfl) (fun x => rfl) (q.on n2.kp)⟩
        · refine ⟨p, rfl, _, hp, _, at0, rfl, ?_⟩
          rw [if_neg (by decide +kernel)]
          refine ⟨rfl, ?_⟩
          rw [if_neg (by decide +kernel)]
          refine ⟨rfl, ?_⟩
          rw [if_neg (by decide +kernel)]
          refine ⟨rfl, ?_⟩
          rw [if_neg (by decide +kernel)]
          intro p2 H2 n2
          refine ⟨p2, rfl, _, n2.at_, rfl, rfl, ?_⟩
          rw [if_neg (by decide +kernel)]
          refine ⟨rfl, ?_⟩
          rw [if_neg (by decide +kernel)]
          refine ⟨rfl, ?_⟩
          rw [if_neg (by decide +kernel)]
          refine ⟨rfl, ?_⟩
          rw [if_neg (by decide +kernel)]
          exact ⟨p, rfl, lc_copy (ws := ["unlock", x]) (n2.kp _ _ hp) (by simp) (fun x => rfl) (fun x => rfl) (q.on n2.kp)⟩
        · refine ⟨p, rfl, _, hp, _, at0, rfl, ?_⟩
          rw [if_neg (by decide +kernel)]
          refine ⟨rfl, ?_⟩
          rw [if_neg (by decide +kernel)]
          refine ⟨rfl, ?_⟩
          rw [if_neg (by decide +kernel)]
          refine ⟨rfl, ?_⟩
          rw [if_neg (by decide +kernel)]
          intro p2 H2 n2
          refine ⟨p2, rfl, _, n2.at_, rfl, rfl, ?_⟩
          rw [if_neg (by decide +kernel)]
          refine ⟨rfl, ?_⟩
          rw [if_neg (by decide +kernel)]
          refine ⟨rfl, ?_⟩
          rw [if_neg (by decide +kernel)]
          refine ⟨rfl, ?_⟩
          rw [if_neg (by decide +kernel)]
          exact ⟨p, rfl, lc_copy (ws := ["wait", x]) (n2.kp _ _ hp) (by simp) (fun x => rfl) (fun x => rfl) (q.on n2.kp)⟩
        · refine ⟨p, rfl, _, hp, _, at0, rfl, ?_⟩
          rw [if_neg (by decide +kernel)]
          refine ⟨rfl, ?_⟩
          rw [if_neg (by decide +kernel)]
          refine ⟨rfl, ?_⟩
          rw [if_neg (by decide +kernel)]
          refine ⟨rfl, ?_⟩
          rw [if_neg (by decide +kernel)]
          intro p2 H2 n2
          refine ⟨p2, rfl, _, n2.at_, rfl, rfl, ?_⟩
          rw [if_neg (by decide +kernel)]
          refine ⟨rfl, ?_⟩
          rw [if_neg (by decide +kernel)]
          refine ⟨rfl, ?_⟩
          rw [if_neg (by decide +kernel)]
          refine ⟨rfl, ?_⟩
          rw [if_neg (by decide +kernel)]
          exact ⟨p, rfl, lc_copy (ws := ["notify", x]) (n2.kp _ _ hp) (by simp) (fun x => rfl) (fun x => rfl) (q.on n2.kp)⟩
        · refine ⟨p, rfl, _, hp, _, at0, rfl, ?_⟩
          rw [if_neg (by decide +kernel)]
          refine ⟨rfl, ?_⟩
          rw [if_neg (by decide +kernel)]
          refine ⟨rfl, ?_⟩
          rw [if_neg (by decide +kernel)]
          refine ⟨rfl, ?_⟩
          rw [if_neg (by decide +kernel)]
          intro p2 H2 n2
          refine ⟨p2, rfl, _, n2.at_, rfl, rfl, ?_⟩
          rw [if_neg (by decide +kernel)]
          refine ⟨rfl, ?_⟩
          rw [if_neg (by decide +kernel)]
          refine ⟨rfl, ?_⟩
          rw [if_pos rfl]
          exact ⟨p, rfl, _, n2.kp _ _ hp, _, at1, fun p3 H3 n3 => (q.on n2.kp).of n3⟩
      | three k r x =>
        obtain ⟨p, y, z, u, rfl, hp, r1, r2, r3⟩ := Rp.t3 ri
        cases r1.str_inv
        cases r2.str_inv
        cases r3.str_inv
        have iw' : k ∈ threeK := iw
        simp only [threeK, List.mem_cons, List.not_mem_nil, or_false] at iw'
        rcases iw' with rfl | rfl
        · refine ⟨p, rfl, _, hp, _, at0, rfl, ?_⟩
          rw [if_neg (by decide +kernel)]
          refine ⟨rfl, ?_⟩
          rw [if_neg (by decide +kernel)]
          refine ⟨rfl, ?_⟩
          rw [if_neg (by decide +kernel)]
          refine ⟨rfl, ?_⟩
          rw [if_neg (by decide +kernel)]
          intro p2 H2 n2
          refine ⟨p2, rfl, _, n2.at_, rfl, rfl, ?_⟩
          rw [if_neg (by decide +kernel)]
          refine ⟨rfl, ?_⟩
          rw [if_neg (by decide +kernel)]
          refine ⟨rfl, ?_⟩
          rw [if_neg (by decide +kernel)]
          refine ⟨rfl, ?_⟩
          rw [if_neg (by decide +kernel)]
          exact ⟨p, rfl, lc_copy (ws := ["get", r, x]) (n2.kp _ _ hp) (by simp) (fun x => rfl) (fun x => rfl) (q.on n2.kp)⟩
        · refine ⟨p, rfl, _, hp, _, at0, rfl, ?_⟩
          rw [if_neg (by decide +kernel)]
          refine ⟨rfl, ?_⟩
          rw [if_neg (by decide +kernel)]
          refine ⟨rfl, ?_⟩
          rw [if_neg (by decide +kernel)]
          refine ⟨rfl, ?_⟩
          rw [if_neg (by decide +kernel)]
          intro p2 H2 n2
          refine ⟨p2, rfl, _, n2.at_, rfl, rfl, ?_⟩
          rw [if_neg (by decide +kernel)]
          refine ⟨rfl, ?_⟩
          rw [if_neg (by decide +kernel)]
          refine ⟨rfl, ?_⟩
          rw [if_neg (by decide +kernel)]
          refine ⟨rfl, ?_⟩
          rw [if_neg (by decide +kernel)]
          exact ⟨p, rfl, lc_copy (ws := ["take", r, x]) (n2.kp _ _ hp) (by simp) (fun x => rfl) (fun x => rfl) (q.on n2.kp)⟩
      | one k =>
        obtain ⟨p, y, rfl, hp, r1⟩ := Rp.t1 ri
        cases r1.str_inv
        have iw' : k = "stop" ∨ k = "begin" ∨ k = "end" := iw
        rcases iw' with rfl | rfl | rfl
        · refine ⟨p, rfl, _, hp, _, at0, rfl, ?_⟩
          rw [if_neg (by decide +kernel)]
          refine ⟨rfl, ?_⟩
          rw [if_neg (by decide +kernel)]
          refine ⟨rfl, ?_⟩
          rw [if_neg (by decide +kernel)]
          refine ⟨rfl, ?_⟩
          rw [if_neg (by decide +kernel)]
          intro p2 H2 n2
          refine ⟨p2, rfl, _, n2.at_, rfl, rfl, ?_⟩
          rw [if_neg (by decide +kernel)]
          refine ⟨rfl, ?_⟩
          rw [if_neg (by decide +kernel)]
          refine ⟨rfl, ?_⟩
          rw [if_neg (by decide +kernel)]
          refine ⟨rfl, ?_⟩
          rw [if_neg (by decide +kernel)]
          exact ⟨p, rfl, lc_copy (ws := ["stop"]) (n2.kp _ _ hp) (by simp) (fun x => rfl) (fun x => rfl) (q.on n2.kp)⟩
        · refine ⟨p, rfl, _, hp, _, at0, rfl, ?_⟩
          rw [if_neg (by decide +kernel)]
          refine ⟨rfl, ?_⟩
          rw [if_neg (by decide +kernel)]
          refine ⟨rfl, ?_⟩
          rw [if_neg (by decide +kernel)]
          refine ⟨rfl, ?_⟩
          rw [if_neg (by decide +kernel)]
          intro p2 H2 n2
          refine ⟨p2, rfl, _, n2.at_, rfl, rfl, ?_⟩
          rw [if_neg (by decide +kernel)]
          refine ⟨rfl, ?_⟩
          rw [if_neg (by decide +kernel)]
          refine ⟨rfl, ?_⟩
          rw [if_neg (by decide +kernel)]
          refine ⟨rfl, ?_⟩
          rw [if_neg (by decide +kernel)]
          exact ⟨p, rfl, lc_copy (ws := ["begin"]) (n2.kp _ _ hp) (by simp) (fun x => rfl) (fun x => rfl) (q.on n2.kp)⟩
        · refine ⟨p, rfl, _, hp, _, at0, rfl, ?_⟩
          rw [if_neg (by decide +kernel)]
          refine ⟨rfl, ?_⟩
          rw [if_neg (by decide +kernel)]
          refine ⟨rfl, ?_⟩
          rw [if_neg (by decide +kernel)]
          refine ⟨rfl, ?_⟩
          rw [if_neg (by decide +kernel)]
          intro p2 H2 n2
          refine ⟨p2, rfl, _, n2.at_, rfl, rfl, ?_⟩
          rw [if_neg (by decide +kernel)]
          refine ⟨rfl, ?_⟩
          rw [if_neg (by decide +kernel)]
          refine ⟨rfl, ?_⟩
          rw [if_neg (by decide +kernel)]
          refine ⟨rfl, ?_⟩
          rw [if_neg (by decide +kernel)]
          exact ⟨p, rfl, lc_copy (ws := ["end"]) (n2.kp _ _ hp) (by simp) (fun x => rfl) (fun x => rfl) (q.on n2.kp)⟩
      | xt k x t =>
        obtain ⟨p, y, z, u, rfl, hp, r1, r2, r3⟩ := Rp.t3 ri
        cases r1.str_inv
        cases r2.str_inv
        obtain ⟨hk, tok⟩ := iw
        simp only [putK, List.mem_cons, List.not_mem_nil, or_false] at hk
        rcases hk with rfl | rfl | rfl | rfl
        · refine ⟨p, rfl, _, hp, _, at0, rfl, ?_⟩
          rw [if_neg (by decide +kernel)]
          refine ⟨rfl, ?_⟩
          rw [if_neg (by decide +kernel)]
          refine ⟨rfl, ?_⟩
          rw [if_neg (by decide +kernel)]
          refine ⟨rfl, ?_⟩
          rw [if_pos rfl]
          exact ⟨p, rfl, _, hp, _, at1, cat_ (A := ["let", x, "="]) hp at2 r3 tok (by simp) q⟩
        · refine ⟨p, rfl, _, hp, _, at0, rfl, ?_⟩
          rw [if_neg (by decide +kernel)]
          refine ⟨rfl, ?_⟩
          rw [if_neg (by decide +kernel)]
          refine ⟨rfl, ?_⟩
          rw [if_neg (by decide +kernel)]
          refine ⟨rfl, ?_⟩
          rw [if_neg (by decide +kernel)]
          intro p2 H2 n2
          refine ⟨p2, rfl, _, n2.at_, rfl, rfl, ?_⟩
          rw [if_pos (by decide +kernel)]
          exact ⟨p, rfl, _, n2.kp _ _ hp, _, at1, cat_ (A := ["put", x]) (n2.kp _ _ hp) at2 (r3.tk (.of n2.kp)) tok (by simp) (q.on n2.kp)⟩
        · refine ⟨p, rfl, _, hp, _, at0, rfl, ?_⟩
          rw [if_neg (by decide +kernel)]
          refine ⟨rfl, ?_⟩
          rw [if_neg (by decide +kernel)]
          refine ⟨rfl, ?_⟩
          rw [if_neg (by decide +kernel)]
          refine ⟨rfl, ?_⟩
          rw [if_neg (by decide +kernel)]
          intro p2 H2 n2
          refine ⟨p2, rfl, _, n2.at_, rfl, rfl, ?_⟩
          rw [if_pos (by decide +kernel)]
          exact ⟨p, rfl, _, n2.kp _ _ hp, _, at1, cat_ (A := ["add", x]) (n2.kp _ _ hp) at2 (r3.tk (.of n2.kp)) tok (by simp) (q.on n2.kp)⟩
        · refine ⟨p, rfl, _, hp, _, at0, rfl, ?_⟩
          rw [if_neg (by decide +kernel)]
          refine ⟨rfl, ?_⟩
          rw [if_neg (by decide +kernel)]
          refine ⟨rfl, ?_⟩
          rw [if_neg (by decide +kernel)]
          refine ⟨rfl, ?_⟩
          rw [if_neg (by decide +kernel)]
          intro p2 H2 n2
          refine ⟨p2, rfl, _, n2.at_, rfl, rfl, ?_⟩
          rw [if_pos (by decide +kernel)]
          exact ⟨p, rfl, _, n2.kp _ _ hp, _, at1, cat_ (A := ["send", x]) (n2.kp _ _ hp) at2 (r3.tk (.of n2.kp)) tok (by simp) (q.on n2.kp)⟩
      | check t =>
        obtain ⟨p, y, z, rfl, hp, r1, r2⟩ := Rp.t2 ri
        cases r1.str_inv
        refine ⟨p, rfl, _, hp, _, at0, rfl, ?_⟩
        rw [if_neg (by decide +kernel)]
        refine ⟨rfl, ?_⟩
        rw [if_neg (by decide +kernel)]
        refine ⟨rfl, ?_⟩
        rw [if_neg (by decide +kernel)]
        refine ⟨rfl, ?_⟩
        rw [if_neg (by decide +kernel)]
        intro p2 H2 n2
        refine ⟨p2, rfl, _, n2.at_, rfl, rfl, ?_⟩
        rw [if_neg (by decide +kernel)]
        refine ⟨rfl, ?_⟩
        rw [if_pos rfl]
        exact cat_ (A := ["check"]) (n2.kp _ _ hp) at1 (r2.tk (.of n2.kp)) iw (by simp) (q.on n2.kp)
      | go m =>
        obtain ⟨p, y, z, u, rfl, hp, r1, r2, r3⟩ := Rp.t3 ri
        cases r1.str_inv
        cases r2.int_inv
        cases r3.non_inv
        refine ⟨p, rfl, _, hp, _, at0, rfl, ?_⟩
        rw [if_neg (by decide +kernel)]
        refine ⟨rfl, ?_⟩
        rw [if_neg (by decide +kernel)]
        refine ⟨rfl, ?_⟩
        rw [if_neg (by decide +kernel)]
        refine ⟨rfl, ?_⟩
        rw [if_neg (by decide +kernel)]
        intro p2 H2 n2
        refine ⟨p2, rfl, _, n2.at_, rfl, rfl, ?_⟩
        rw [if_neg (by decide +kernel)]
        refine ⟨rfl, ?_⟩
        rw [if_neg (by decide +kernel)]
        refine ⟨rfl, ?_⟩
        rw [if_neg (by decide +kernel)]
        refine ⟨rfl, ?_⟩
        rw [if_pos rfl]
        refine ⟨p, rfl, _, n2.kp _ _ hp, _, at2, ?_⟩
        rw [if_pos rfl]
        exact ⟨p, rfl, _, n2.kp _ _ hp, _, at1, m, rfl, lt100 (by have := iw.1; omega) iw.2, fun p3 H3 n3 => (q.on n2.kp).of n3⟩
      | goIf m t =>
        obtain ⟨p, y, z, u, rfl, hp, r1, r2, r3⟩ := Rp.t3 ri
        cases r1.str_inv
        cases r2.int_inv
        refine ⟨p, rfl, _, hp, _, at0, rfl, ?_⟩
        rw [if_neg (by decide +kernel)]
        refine ⟨rfl, ?_⟩
        rw [if_neg (by decide +kernel)]
        refine ⟨rfl, ?_⟩
        rw [if_neg (by decide +kernel)]
        refine ⟨rfl, ?_⟩
        rw [if_neg (by decide +kernel)]
        intro p2 H2 n2
        refine ⟨p2, rfl, _, n2.at_, rfl, rfl, ?_⟩
        rw [if_neg (by decide +kernel)]
        refine ⟨rfl, ?_⟩
        rw [if_neg (by decide +kernel)]
        refine ⟨rfl, ?_⟩
        rw [if_neg (by decide +kernel)]
        refine ⟨rfl, ?_⟩
        rw [if_pos rfl]
        refine ⟨p, rfl, _, n2.kp _ _ hp, _, at2, ?_⟩
        rw [if_neg (tr_ne r3)]
        exact ⟨p, rfl, _, n2.kp _ _ hp, _, at1, m, rfl, lt100 (by have := iw.1; omega) iw.2.1, cat_ (A := ["go", (toString m : Str), "if"]) (n2.kp _ _ hp) at2 (r3.tk (.of n2.kp)) iw.2.2 (by simp) (q.on n2.kp)⟩
end
end K10
set_option linter.all false
set_option maxRecDepth 100000
set_option maxHeartbeats 4000000
namespace K10
open PySem PySem.Spec PyProof.Rows L2
/-! ### lines as tokens -/
def thT : Th → Ln
  | .var n v => if v < 0 then [W "var", W n, G "=", G "-", Nn (0 - v)] else [W "var", W n, G "=", Nn v]
  | .lock n => [W "lock", W n]
  | .cond n l => [W "cond", W n, W "of", W l]
  | .queue n k => [W "queue", W n, Nn k]
def inT : Ins → Ln
  | .two k x => if k = "notifyall" then [W "notify", W "all", W x] else [W k, W x]
  | .three k r x => [W k, W r, W x]
  | .xt k x t => if k = "let" then W "let" :: W x :: G "=" :: trT t else W k :: W x :: trT t
  | .check t => W "check" :: trT t
  | .go n => [W "go", Nn n]
  | .goIf n t => W "go" :: Nn n :: W "if" :: trT t
  | .one k => [W k]
def iaOf : Ins → IA
  | .two k x => .nm k x
  | .three k _ x => .nm k x
  | .xt k x _ => if k = "let" then .ot "let" else .nm k x
  | .check _ => .ot "check"
  | .go n => .go n
  | .goIf n _ => .go n
  | .one k => .ot k
theorem num_ok {m : Int} (h0 : 0 ≤ m) (h1 : m ≤ 99) : (toString m : Str) ∈ nums ∧ numI (toString m : Str) = m := by
  obtain ⟨k, rfl⟩ : ∃ k : Nat, m = (k : Int) := ⟨m.toNat, by omega⟩
  have all : ∀ k : Nat, k < 100 → Str.ofString (toString (Int.ofNat k)) ∈ nums ∧ numI (Str.ofString (toString (Int.ofNat k))) = Int.ofNat k := by decide +kernel
  exact all k (by omega)
theorem tok_nm {n : Str} (h : NmOk n) : TOk (W n) := by
  obtain ⟨c, hc, hl⟩ := h.hd
  cases e : n.cps.toList with
  | nil => rw [e] at hc; cases hc
  | cons d r =>
    rw [e] at hc
    cases hc
    have an := h.an
    rw [e, List.all_cons, Bool.and_eq_true] at an
    exact Wk.word e hl an.2 h.le
theorem tok_num {m : Int} (h0 : 0 ≤ m) (h1 : m ≤ 99) : TOk (Nn m) := Wk.num (num_ok h0 h1).1
theorem tok_W {x : Str} (h : wordB x = true) : TOk (W x) := wordB_ok h
theorem tok_G {x : Str} (h : tokB (G x) = true) : TOk (G x) := tokB_ok h
theorem reg_tok {r : Str} (h : r ∈ regS) : TOk (W r) := by
  have all : ∀ r ∈ regS, wordB r = true := by decide +kernel
  exact tok_W (all r h)
/-- good tokens: none bad -/
structure GLn (l : Ln) : Prop where
  ok : LOk l
  nb : isBad l = false
theorem tree_tok {t : Tr} (h : TrOk t) : (∀ u ∈ trT t, TOk u) ∧ (∀ u ∈ trT t, u.1 ≠ "bad") ∧ (trT t).length ≤ 3 ∧ trT t ∈ goodE ∧ (trT t).map (·.2) = trW t := by
  have fin : trT t ∈ goodE ∧ (trT t).map (·.2) = trW t := by
    unfold goodE
    cases t with
    | reg s => exact ⟨List.mem_append_left _ (List.mem_append_left _ (List.mem_append_left _ (List.mem_append_left _ (List.mem_map_of_mem h)))), rfl⟩
    | num n => exact ⟨List.mem_append_left _ (List.mem_append_left _ (List.mem_append_left _ (List.mem_append_right _ (List.mem_map_of_mem h)))), rfl⟩
    | neg s => exact ⟨List.mem_append_left _ (List.mem_append_left _ (List.mem_append_right _ (List.mem_map_of_mem h))), rfl⟩
    | nt s => exact ⟨List.mem_append_left _ (List.mem_append_right _ (List.mem_map_of_mem h)), rfl⟩
    | op g s t =>
      refine ⟨List.mem_append_right _ (List.mem_flatMap.mpr ⟨g, h.1, List.mem_flatMap.mpr ⟨s, h.2.1, List.mem_map_of_mem h.2.2⟩⟩), ?_⟩
      simp only [trT, trW]
      split <;> rfl
  have all : ∀ l ∈ goodE, (l.all tokB && l.all (fun u => !decide (u.1 = "bad")) && decide (l.length ≤ 3)) = true := by decide +kernel
  have h1 := all _ fin.1
  simp only [Bool.and_eq_true, List.all_eq_true, Bool.not_eq_true', decide_eq_false_iff_not, decide_eq_true_eq] at h1
  exact ⟨fun u hu => tokB_ok (h1.1.1 u hu), h1.1.2, h1.2, fin⟩
theorem thT_w (t : Th) : (thT t).map (·.2) = thW t := by
  cases t with
  | var n v => simp only [thT, thW]; split <;> rfl
  | lock n => rfl
  | cond n l => rfl
  | queue n k => rfl
theorem inT_w {i : Ins} (h : ∀ k x t, i = .xt k x t → TrOk t) (h2 : ∀ t, i = .check t → TrOk t) (h3 : ∀ n t, i = .goIf n t → TrOk t) : (inT i).map (·.2) = inW i := by
  cases i with
  | two k x => simp only [inT, inW]; split <;> rfl
  | three k r x => rfl
  | xt k x t =>
    have e := (tree_tok (h k x t rfl)).2.2.2.2
    simp only [inT, inW]
    split
    · simp [W, G, e]
    · simp [W, e]
  | check t => simp [inT, inW, W, (tree_tok (h2 t rfl)).2.2.2.2]
  | go n => rfl
  | goIf n t => simp [inT, inW, W, Nn, (tree_tok (h3 n t rfl)).2.2.2.2]
  | one k => rfl
end K10
set_option linter.all false
set_option maxRecDepth 100000
set_option maxHeartbeats 4000000
namespace K10
open PySem PySem.Spec PyProof.Rows L2
theorem shared_thT {t : Th} (h : match t with | .var _ v => -99 ≤ v ∧ v ≤ 99 | .queue _ k => 0 ≤ k ∧ k ≤ 99 | _ => True) : sharedT (thT t) = some t := by
  cases t with
  | var n v =>
    obtain ⟨h1, h2⟩ := h
    simp only [thT]
    by_cases c : v < 0
    · rw [if_pos c]
      have e : sharedT [W "var", W n, G "=", G "-", Nn (0 - v)] = some (.var n (-(numI (toString (0 - v) : Str)))) := by kernel_rfl
      rw [e, (num_ok (m := 0 - v) (by omega) (by omega)).2]
      simp
    · rw [if_neg c]
      have e : sharedT [W "var", W n, G "=", Nn v] = some (.var n (numI (toString v : Str))) := by kernel_rfl
      rw [e, (num_ok (m := v) (by omega) (by omega)).2]
  | lock n =>
    have e : sharedT [W "lock", W n] = some (.lock n) := by kernel_rfl
    exact e
  | cond n l =>
    have e : sharedT [W "cond", W n, W "of", W l] = some (.cond n l) := by kernel_rfl
    exact e
  | queue n k =>
    have e : sharedT [W "queue", W n, Nn k] = some (.queue n (numI (toString k : Str))) := by kernel_rfl
    have e2 : sharedT (thT (.queue n k)) = some (.queue n (numI (toString k : Str))) := e
    rw [e2, (num_ok h.1 h.2).2]
theorem bf {b : Bool} {p : Prop} (h : b = false) (z : b = true) : p := by
  rw [h] at z
  exact Bool.noConfusion z
theorem bt {b : Bool} {p : Prop} (h : b = true) (z : b = false) : p := bf z h
theorem fits_len {l : Ln} {f : List Str} (h : l.length ≠ f.length) : fitsT l f = false := by
  unfold fitsT
  rw [decide_eq_false h, Bool.false_and]
theorem simple_long {l : Ln} (h : 4 ≤ l.length) : simpleT l = none := by
  unfold simpleT
  have z : ∀ {f : List Str}, f.length ≤ 3 → fitsT l f = false := fun hf => fits_len (by omega)
  rw [z (by decide), z (by decide), z (by decide), z (by decide), z (by decide), z (by decide), z (by decide), z (by decide), z (by decide), z (by decide), z (by decide)]
  rfl
theorem tr_len (t : Tr) : 1 ≤ (trT t).length := by cases t <;> simp [trT]
theorem exp_ok {t : Tr} (h : TrOk t) (i : IA) : expT (trT t) i = some i := by
  unfold expT
  rw [if_pos (tree_tok h).2.2.2.1]
theorem pre_simple {l : Ln} {i : IA} (ne : l ≠ []) (h : simpleT l = some i) : InsPre l := by
  refine ⟨ne, fun z => ?_, fun z => ?_, fun z => ?_, fun z => ?_⟩ <;> (rw [h] at z; cases z)
/-- a line of a good instruction is read as it -/
theorem ins_inT {ths : List Th} {n : Nat} {i : Ins} (hn : n ≤ 11) (h : InsG ths n i ∨ i = bgI ∨ i = enI) : insT (inT i) = some (iaOf i) ∧ InsPre (inT i) := by
  have one : ∀ {l : Ln} {i : IA}, l ≠ [] → simpleT l = some i → insT l = some i ∧ InsPre l := fun {l i} ne e => ⟨by unfold insT; rw [e], pre_simple ne e⟩
  rcases h with h | rfl | rfl
  · cases i with
    | two k x =>
      have hk : k ∈ twoK := h.1
      simp only [twoK, List.mem_cons, List.not_mem_nil, or_false] at hk
      rcases hk with rfl | rfl | rfl | rfl | rfl
      · exact one (by simp [inT, show ¬ (Str.ofString "lock" = Str.ofString "notifyall") by decide +kernel]) (by kernel_rfl)
      · exact one (by simp [inT, show ¬ (Str.ofString "unlock" = Str.ofString "notifyall") by decide +kernel]) (by kernel_rfl)
      · exact one (by simp [inT, show ¬ (Str.ofString "wait" = Str.ofString "notifyall") by decide +kernel]) (by kernel_rfl)
      · exact one (by simp [inT, show ¬ (Str.ofString "notify" = Str.ofString "notifyall") by decide +kernel]) (by kernel_rfl)
      · exact one (by simp [inT]) (by kernel_rfl)
    | three k r x =>
      have hk : k ∈ threeK := h.1
      have hr : r ∈ regS := h.2.1
      simp only [threeK, regS, List.mem_cons, List.not_mem_nil, or_false] at hk hr
      rcases hk with rfl | rfl <;> rcases hr with rfl | rfl | rfl | rfl <;> exact one (by simp [inT]) (by kernel_rfl)
    | xt k x t =>
      obtain ⟨tok, ⟨rfl, hx⟩ | ⟨hk, hk2⟩⟩ := h
      · have e : inT (.xt "let" x t) = W "let" :: W x :: G "=" :: trT t := by simp [inT]
        have ei : iaOf (.xt "let" x t) = .ot "let" := by simp [iaOf]
        have hl : simpleT (W "let" :: W x :: G "=" :: trT t) = none := simple_long (by have := tr_len t; simp; omega)
        have hx' : x = "a" ∨ x = "b" ∨ x = "c" ∨ x = "d" := by simpa [regS] using hx
        have f1 : fitsT ((W "let" :: W x :: G "=" :: trT t).take 3) ["let", "REGISTER", "="] = true := by
          rcases hx' with rfl | rfl | rfl | rfl <;> kernel_rfl
        rw [e, ei]
        refine ⟨?_, ⟨by simp, fun _ _ => .inl (tree_tok tok).2.2.2.1, fun _ z => ?_, fun _ z => ?_, fun _ w hw z => ?_⟩⟩
        · unfold insT
          rw [hl]
          simp only [f1, if_true]
          exact exp_ok tok _
        · exact bt f1 z
        · exact bt f1 z
        · simp only [List.mem_cons, List.not_mem_nil, or_false] at hw
          have all : fitsT [W "let", W x] ["put", "WORD"] = false ∧ fitsT [W "let", W x] ["add", "WORD"] = false ∧ fitsT [W "let", W x] ["send", "WORD"] = false := ⟨by kernel_rfl, by kernel_rfl, by kernel_rfl⟩
          have z' : fitsT [W "let", W x] [w, "WORD"] = true := z
          rcases hw with rfl | rfl | rfl
          · rw [all.1] at z'; cases z'
          · rw [all.2.1] at z'; cases z'
          · rw [all.2.2] at z'; cases z'
      · have main : ∀ kk : Str, kk ∈ putK → inT (.xt kk x t) = W kk :: W x :: trT t ∧ iaOf (.xt kk x t) = .nm kk x ∧ simpleT (W kk :: W x :: trT t) = none ∧ fitsT ((W kk :: W x :: trT t).take 3) ["let", "REGISTER", "="] = false ∧ fitsT ((W kk :: W x :: trT t).take 3) ["go", "NUMBER", "if"] = false ∧ kk ≠ "check" := by
          intro kk hkk
          simp only [putK, List.mem_cons, List.not_mem_nil, or_false] at hkk
          refine ⟨if_neg ?_, if_neg ?_, ?_, ?_, ?_, ?_⟩
          · rcases hkk with rfl | rfl | rfl <;> decide +kernel
          · rcases hkk with rfl | rfl | rfl <;> decide +kernel
          · rcases hkk with rfl | rfl | rfl <;> cases t <;> kernel_rfl
          · rcases hkk with rfl | rfl | rfl <;> cases t <;> kernel_rfl
          · rcases hkk with rfl | rfl | rfl <;> cases t <;> kernel_rfl
          · rcases hkk with rfl | rfl | rfl <;> decide +kernel
        obtain ⟨e, ei, hl, f1, f2, hck⟩ := main k hk
        rw [e, ei]
        have t0 : tx (W k :: W x :: trT t) 0 = k := rfl
        have t1 : tx (W k :: W x :: trT t) 1 = x := rfl
        refine ⟨?_, ⟨by simp, fun _ z => bf f1 z, fun _ _ z => bf f2 z, fun _ _ _ z => absurd (t0 ▸ z) hck, fun _ w hw z => .inl (tree_tok tok).2.2.2.1⟩⟩
        unfold insT
        rw [hl]
        simp only [f1, f2, Bool.false_eq_true, if_false]
        rw [if_neg (by rw [t0]; exact hck)]
        have ft : ∀ w : Str, fitsT ((W k :: W x :: trT t).take 2) [w, "WORD"] = fitsT [W k, W x] [w, "WORD"] := fun w => rfl
        rw [ft, ft, ft, t1]
        have hk' : k = "put" ∨ k = "add" ∨ k = "send" := by simpa [putK] using hk
        rcases hk' with rfl | rfl | rfl
        · rw [if_pos (by kernel_rfl)]
          exact exp_ok tok _
        · rw [if_neg (by rw [show fitsT [W "add", W x] ["put", "WORD"] = false by kernel_rfl]; exact Bool.false_ne_true), if_pos (by kernel_rfl)]
          exact exp_ok tok _
        · rw [if_neg (by rw [show fitsT [W "send", W x] ["put", "WORD"] = false by kernel_rfl]; exact Bool.false_ne_true), if_neg (by rw [show fitsT [W "send", W x] ["add", "WORD"] = false by kernel_rfl]; exact Bool.false_ne_true), if_pos (by kernel_rfl)]
          exact exp_ok tok _
    | check t =>
      have tok : TrOk t := h
      have hl : simpleT (W "check" :: trT t) = none := by cases t <;> kernel_rfl
      have f1 : fitsT ((W "check" :: trT t).take 3) ["let", "REGISTER", "="] = false := by cases t <;> kernel_rfl
      have f2 : fitsT ((W "check" :: trT t).take 3) ["go", "NUMBER", "if"] = false := by cases t <;> kernel_rfl
      have f3 : ∀ w ∈ (["put", "add", "send"] : List Str), fitsT ((W "check" :: trT t).take 2) [w, "WORD"] = false := by
        intro w hw
        simp only [List.mem_cons, List.not_mem_nil, or_false] at hw
        rcases hw with rfl | rfl | rfl <;> cases t <;> kernel_rfl
      refine ⟨?_, ⟨by simp [inT], fun _ z => bf f1 z, fun _ _ z => bf f2 z, fun _ _ _ _ => .inl (tree_tok tok).2.2.2.1, fun _ w hw z => bf (f3 w hw) z⟩⟩
      show insT (W "check" :: trT t) = some (.ot "check")
      unfold insT
      rw [hl]
      simp only [f1, f2, Bool.false_eq_true, if_false]
      rw [if_pos (show tx (W "check" :: trT t) 0 = "check" from rfl)]
      exact exp_ok tok _
    | go m =>
      have e : simpleT [W "go", Nn m] = some (.go (numI (toString m : Str))) := by kernel_rfl
      rw [(num_ok h.1 (by have := h.2; omega)).2] at e
      exact one (by simp [inT]) e
    | goIf m t =>
      have tok : TrOk t := h.2.2
      have hl : simpleT (W "go" :: Nn m :: W "if" :: trT t) = none := simple_long (by have := tr_len t; simp; omega)
      have f1 : fitsT ((W "go" :: Nn m :: W "if" :: trT t).take 3) ["let", "REGISTER", "="] = false := by kernel_rfl
      have f2 : fitsT ((W "go" :: Nn m :: W "if" :: trT t).take 3) ["go", "NUMBER", "if"] = true := by kernel_rfl
      have f3 : ∀ w ∈ (["put", "add", "send"] : List Str), fitsT ((W "go" :: Nn m :: W "if" :: trT t).take 2) [w, "WORD"] = false := by
        intro w hw
        simp only [List.mem_cons, List.not_mem_nil, or_false] at hw
        rcases hw with rfl | rfl | rfl <;> kernel_rfl
      refine ⟨?_, ⟨by simp [inT], fun _ z => bf f1 z, fun _ _ _ => .inl (tree_tok tok).2.2.2.1, fun _ _ z => bt f2 z, fun _ w hw z => bf (f3 w hw) z⟩⟩
      show insT (W "go" :: Nn m :: W "if" :: trT t) = some (.go m)
      unfold insT
      rw [hl]
      simp only [f1, f2, Bool.false_eq_true, if_false, if_true]
      rw [show tx (W "go" :: Nn m :: W "if" :: trT t) 1 = (toString m : Str) from rfl, (num_ok h.1 (by have := h.2.1; omega)).2]
      exact exp_ok tok _
    | one k =>
      obtain rfl : k = "stop" := h
      exact one (by simp [inT]) (by kernel_rfl)
  · exact one (by simp [inT, bgI]) (by kernel_rfl)
  · exact one (by simp [inT, enI]) (by kernel_rfl)
end K10
set_option linter.all false
set_option maxRecDepth 100000
set_option maxHeartbeats 4000000
namespace K10
open PySem PySem.Spec PyProof.Rows L2
/-! ### lines that are joined, and split again -/
structure LineOk (l : Ln) : Prop where
  ok : LOk l
  ip : l ≠ [] → isBad l = false → l ≠ thr → InsPre l
  sm : ∀ t ∈ l, t.2.cps.toList.length ≤ 20
  nl : ∀ t ∈ l, 10 ∉ t.2.cps.toList
  le : l.length ≤ 10
theorem jn_joinL : ∀ ws : List Str, TL.joinL [32] (ws.map TL.tl) = jn ws
  | [] => rfl
  | [w] => rfl
  | w :: v :: r => by
    have ih := jn_joinL (v :: r)
    show TL.tl w ++ ([32] ++ TL.joinL [32] ((v :: r).map TL.tl)) = _
    rw [ih]
    rfl
theorem lnS_tl (l : Ln) : (lnS l).cps.toList = jn (l.map (·.2)) := by
  have e : TL.tl (lnS l) = TL.joinL (TL.tl (" " : Str)) ((l.map (·.2)).map TL.tl) := by
    unfold lnS
    rw [TL.join_eq, TL.tl_join]
  have e2 : TL.tl (" " : Str) = [32] := by decide +kernel
  rw [e2, jn_joinL] at e
  exact e
theorem jn_nl : ∀ {ws : List Str}, (∀ w ∈ ws, 10 ∉ w.cps.toList) → 10 ∉ jn ws
  | [], _ => by simp [jn]
  | [w], h => h w (by simp)
  | w :: v :: r, h => by
    have ih := jn_nl (ws := v :: r) fun x hx => h x (List.mem_cons_of_mem _ hx)
    intro m
    rcases List.mem_append.mp (show 10 ∈ w.cps.toList ++ 32 :: jn (v :: r) from m) with q | q
    · exact h w (by simp) q
    · rcases List.mem_cons.mp q with q | q
      · exact absurd q (by decide)
      · exact ih q
theorem jn_len : ∀ {ws : List Str}, (∀ w ∈ ws, w.cps.toList.length ≤ 20) → (jn ws).length ≤ 21 * ws.length
  | [], _ => by simp [jn]
  | [w], h => by
    have := h w (by simp)
    simp only [jn, List.length_singleton]
    omega
  | w :: v :: r, h => by
    have ih := jn_len (ws := v :: r) fun x hx => h x (List.mem_cons_of_mem _ hx)
    have := h w (by simp)
    show (w.cps.toList ++ 32 :: jn (v :: r)).length ≤ _
    rw [List.length_append, List.length_cons, List.length_cons]
    omega
theorem LineOk.len {l : Ln} (h : LineOk l) : (lnS l).length ≤ 210 := by
  rw [TL.len_tl]
  show (lnS l).cps.toList.length ≤ 210
  rw [lnS_tl]
  have h1 : (jn (l.map (·.2))).length ≤ 21 * (l.map (·.2)).length := jn_len fun w hw => by
    obtain ⟨t, ht, rfl⟩ := List.mem_map.mp hw
    exact h.sm t ht
  rw [List.length_map] at h1
  have := h.le
  omega
theorem joinL_len (S : List Nat) (n : Nat) : ∀ {ps : List (List Nat)}, (∀ p ∈ ps, p.length ≤ n) → (TL.joinL S ps).length ≤ (n + S.length) * ps.length
  | [], _ => by simp [TL.joinL]
  | [p], h => by
    have := h p (by simp)
    simp only [TL.joinL, List.length_singleton]
    omega
  | p :: q :: r, h => by
    have ih := joinL_len S n (ps := q :: r) fun x hx => h x (List.mem_cons_of_mem _ hx)
    have := h p (by simp)
    show (p ++ (S ++ TL.joinL S (q :: r))).length ≤ _
    rw [List.length_append, List.length_append, List.length_cons, Nat.mul_succ]
    omega
abbrev nlS : Str := Str.ofString "\n"
theorem rpre_of {LS : List Ln} {nf : Nat} {w : Str} (h : ∀ l ∈ LS, LineOk l) (ne : LS ≠ []) (le : LS.length ≤ 400) (r : run 0 0 st0 LS = (nf, w)) (nok : w ≠ "ok") : RPre (Txt.join nlS (LS.map lnS)) LS nf w := by
  have e10 : TL.tl nlS = [10] := by decide +kernel
  refine ⟨TL.split_join e10 (by decide +kernel) (fun e => ne (List.map_eq_nil_iff.mp e)) fun p hp => ?_, fun l hl => (h l hl).ok, fun l hl => ⟨lnS_tl l, by have := (h l hl).len; omega⟩, fun l hl => (h l hl).ip, by omega, ?_, r, nok⟩
  · obtain ⟨l, hl, rfl⟩ := List.mem_map.mp hp
    show 10 ∉ (lnS l).cps.toList
    rw [lnS_tl]
    exact jn_nl fun x hx => by
      obtain ⟨t, ht, rfl⟩ := List.mem_map.mp hx
      exact (h l hl).nl t ht
  · rw [TL.len_tl, TL.join_eq, TL.tl_join, e10]
    have h1 := joinL_len [10] 210 (ps := (LS.map lnS).map TL.tl) fun p hp => by
      obtain ⟨z, hz, rfl⟩ := List.mem_map.mp hp
      obtain ⟨l, hl, rfl⟩ := List.mem_map.mp hz
      have := (h l hl).len
      rw [TL.len_tl] at this
      exact this
    rw [List.length_map, List.length_map] at h1
    simp only [List.length_singleton] at h1
    omega
end K10
set_option linter.all false
set_option maxRecDepth 100000
set_option maxHeartbeats 4000000
namespace K10
open PySem PySem.Spec PyProof.Rows L2
theorem tok_small {t : Tok} (h : TOk t) (nb : t.1 ≠ "bad") : t.2.cps.toList.length ≤ 20 ∧ 10 ∉ t.2.cps.toList := by
  obtain ⟨k, w⟩ := t
  have h' : Wk k w := h
  have nb' : k ≠ "bad" := nb
  show w.cps.toList.length ≤ 20 ∧ 10 ∉ w.cps.toList
  cases h' with
  | num h =>
    have all : ∀ w ∈ nums, w.cps.toList.length ≤ 20 ∧ 10 ∉ w.cps.toList := by decide +kernel
    exact all w h
  | badn h hd hl => exact absurd rfl nb'
  | word h hc hr hl =>
    refine ⟨by omega, fun m => ?_⟩
    rw [h] at m
    rcases List.mem_cons.mp m with q | q
    · rw [← q] at hc
      exact absurd hc (by decide)
    · exact absurd (List.all_eq_true.mp hr _ q) (by decide)
  | sign h hc =>
    subst h
    refine ⟨by simp, fun m => ?_⟩
    have e := List.mem_singleton.mp m
    rw [← e] at hc
    exact absurd hc (by decide +kernel)
  | bads h _ _ _ _ _ => exact absurd rfl nb'
theorem line_good {l : Ln} (h1 : ∀ t ∈ l, TOk t ∧ t.1 ≠ "bad") (h2 : l.length ≤ 10) (ip : InsPre l) : LineOk l :=
  ⟨⟨fun t ht => (h1 t ht).1, by omega⟩, fun _ _ _ => ip, fun t ht => (tok_small (h1 t ht).1 (h1 t ht).2).1, fun t ht => (tok_small (h1 t ht).1 (h1 t ht).2).2, h2⟩
theorem nb_of {l : Ln} (h1 : ∀ t ∈ l, TOk t ∧ t.1 ≠ "bad") : isBad l = false := by
  unfold isBad
  rw [List.any_eq_false]
  intro t ht
  rw [decide_eq_false (h1 t ht).2]
  exact Bool.false_ne_true
theorem wk_nb {x : Str} (h : TOk (W x)) : TOk (W x) ∧ (W x).1 ≠ "bad" := ⟨h, by show Str.ofString "word" ≠ Str.ofString "bad"; decide +kernel⟩
theorem nn_nb {m : Int} (h0 : 0 ≤ m) (h1 : m ≤ 99) : TOk (Nn m) ∧ (Nn m).1 ≠ "bad" := ⟨tok_num h0 h1, by show Str.ofString "number" ≠ Str.ofString "bad"; decide +kernel⟩
theorem g_nb {x : Str} (h : tokB (G x) = true) : TOk (G x) ∧ (G x).1 ≠ "bad" := ⟨tokB_ok h, by show Str.ofString "sign" ≠ Str.ofString "bad"; decide +kernel⟩
theorem nm_nb {n : Str} (h : NmOk n) : TOk (W n) ∧ (W n).1 ≠ "bad" := wk_nb (tok_nm h)
theorem w_nb {x : Str} (h : wordB x = true) : TOk (W x) ∧ (W x).1 ≠ "bad" := wk_nb (tok_W h)
theorem kindOf_in {ths : List Th} {x k : Str} (h : kindOf ths x = some k) : x ∈ ths.map thN ∧ ∃ t ∈ ths, thN t = x ∧ thK t = k := by
  unfold kindOf at h
  obtain ⟨t, ht, rfl⟩ := Option.map_eq_some_iff.mp h
  have h1 := List.find?_some ht
  have h2 := List.mem_of_find?_eq_some ht
  rw [decide_eq_true_eq] at h1
  exact ⟨h1 ▸ List.mem_map_of_mem h2, t, h2, h1, rfl⟩
theorem kind_nm {ths : List Th} (ok : ShOk ths) {x k : Str} (h1 : kindOf ths x = kindK k) (h2 : kindK k ≠ none) : NmOk x := by
  cases e : kindK k with
  | none => exact absurd e h2
  | some y =>
    rw [e] at h1
    obtain ⟨_, t, ht, rfl, _⟩ := kindOf_in h1
    exact ok.nm t ht
/-- what is good of a thing, wherever it stands -/
def ThB : Th → Prop
  | .var _ v => -99 ≤ v ∧ v ≤ 99
  | .lock _ => True
  | .cond _ l => NmOk l
  | .queue _ k => 0 ≤ k ∧ k ≤ 99
theorem thB_of {ths : List Th} (ok : ShOk ths) {i : Nat} {t : Th} (h : ths[i]? = some t) : ThB t := by
  have g := ok.ok i t h
  cases t with
  | var n v => exact g
  | lock n => exact trivial
  | cond n l =>
    obtain ⟨_, u, hu, rfl, _⟩ := kindOf_in g
    exact ok.nm u (List.mem_of_mem_take hu)
  | queue n k =>
    have g' : 1 ≤ k ∧ k ≤ 3 := g
    exact ⟨by omega, by omega⟩
theorem thT_line {t : Th} (nm : NmOk (thN t)) (b : ThB t) : (∀ u ∈ thT t, TOk u ∧ u.1 ≠ "bad") ∧ LineOk (thT t) ∧ thT t ≠ [] ∧ thT t ≠ thr := by
  have key : (∀ u ∈ thT t, TOk u ∧ u.1 ≠ "bad") ∧ (thT t).length ≤ 10 ∧ InsPre (thT t) ∧ thT t ≠ [] ∧ thT t ≠ thr := by
    cases t with
    | var n v =>
      obtain ⟨h1, h2⟩ := b
      simp only [thT]
      by_cases c : v < 0
      · rw [if_pos c]
        have hs : simpleT [W "var", W n, G "=", G "-", Nn (0 - v)] = none := simple_long (by simp)
        have f1 : fitsT ([W "var", W n, G "=", G "-", Nn (0 - v)].take 3) ["let", "REGISTER", "="] = false := by kernel_rfl
        have f2 : fitsT ([W "var", W n, G "=", G "-", Nn (0 - v)].take 3) ["go", "NUMBER", "if"] = false := by kernel_rfl
        have f3 : ∀ w ∈ (["put", "add", "send"] : List Str), fitsT ([W "var", W n, G "=", G "-", Nn (0 - v)].take 2) [w, "WORD"] = false := by
          intro w hw
          simp only [List.mem_cons, List.not_mem_nil, or_false] at hw
          rcases hw with rfl | rfl | rfl <;> kernel_rfl
        refine ⟨fun u hu => ?_, by simp, ⟨by simp, fun _ z => bf f1 z, fun _ _ z => bf f2 z, fun _ _ _ z => absurd (show ("var" : Str) = "check" from z) (by decide +kernel), fun _ w hw z => bf (f3 w hw) z⟩, by simp, by simp [thr]⟩
        simp only [List.mem_cons, List.not_mem_nil, or_false] at hu
        rcases hu with rfl | rfl | rfl | rfl | rfl
        · exact w_nb (by decide +kernel)
        · exact nm_nb nm
        · exact g_nb (by decide +kernel)
        · exact g_nb (by decide +kernel)
        · exact nn_nb (by omega) (by omega)
      · rw [if_neg c]
        have hs : simpleT [W "var", W n, G "=", Nn v] = none := simple_long (by simp)
        have f1 : fitsT ([W "var", W n, G "=", Nn v].take 3) ["let", "REGISTER", "="] = false := by kernel_rfl
        have f2 : fitsT ([W "var", W n, G "=", Nn v].take 3) ["go", "NUMBER", "if"] = false := by kernel_rfl
        have f3 : ∀ w ∈ (["put", "add", "send"] : List Str), fitsT ([W "var", W n, G "=", Nn v].take 2) [w, "WORD"] = false := by
          intro w hw
          simp only [List.mem_cons, List.not_mem_nil, or_false] at hw
          rcases hw with rfl | rfl | rfl <;> kernel_rfl
        refine ⟨fun u hu => ?_, by simp, ⟨by simp, fun _ z => bf f1 z, fun _ _ z => bf f2 z, fun _ _ _ z => absurd (show ("var" : Str) = "check" from z) (by decide +kernel), fun _ w hw z => bf (f3 w hw) z⟩, by simp, by simp [thr]⟩
        simp only [List.mem_cons, List.not_mem_nil, or_false] at hu
        rcases hu with rfl | rfl | rfl | rfl
        · exact w_nb (by decide +kernel)
        · exact nm_nb nm
        · exact g_nb (by decide +kernel)
        · exact nn_nb (by omega) (by omega)
    | lock n =>
      have e : simpleT (thT (.lock n)) = some (.nm "lock" n) := by kernel_rfl
      refine ⟨fun u hu => ?_, by simp [thT], pre_simple (by simp [thT]) e, by simp [thT], by simp [thT, thr]⟩
      simp only [thT, List.mem_cons, List.not_mem_nil, or_false] at hu
      rcases hu with rfl | rfl
      · exact w_nb (by decide +kernel)
      · exact nm_nb nm
    | cond n l =>
      have hs : simpleT [W "cond", W n, W "of", W l] = none := simple_long (by simp)
      have f1 : fitsT ([W "cond", W n, W "of", W l].take 3) ["let", "REGISTER", "="] = false := by kernel_rfl
      have f2 : fitsT ([W "cond", W n, W "of", W l].take 3) ["go", "NUMBER", "if"] = false := by kernel_rfl
      have f3 : ∀ w ∈ (["put", "add", "send"] : List Str), fitsT ([W "cond", W n, W "of", W l].take 2) [w, "WORD"] = false := by
        intro w hw
        simp only [List.mem_cons, List.not_mem_nil, or_false] at hw
        rcases hw with rfl | rfl | rfl <;> kernel_rfl
      refine ⟨fun u hu => ?_, by simp [thT], ⟨by simp [thT], fun _ z => bf f1 z, fun _ _ z => bf f2 z, fun _ _ _ z => absurd (show ("cond" : Str) = "check" from z) (by decide +kernel), fun _ w hw z => bf (f3 w hw) z⟩, by simp [thT], by simp [thT, thr]⟩
      simp only [thT, List.mem_cons, List.not_mem_nil, or_false] at hu
      rcases hu with rfl | rfl | rfl | rfl
      · exact w_nb (by decide +kernel)
      · exact nm_nb nm
      · exact w_nb (by decide +kernel)
      · exact nm_nb b
    | queue n k =>
      obtain ⟨h1, h2⟩ := b
      have f0 : simpleT [W "queue", W n, Nn k] = none := by kernel_rfl
      have f1 : fitsT ([W "queue", W n, Nn k].take 3) ["let", "REGISTER", "="] = false := by kernel_rfl
      have f2 : fitsT ([W "queue", W n, Nn k].take 3) ["go", "NUMBER", "if"] = false := by kernel_rfl
      have f3 : ∀ w ∈ (["put", "add", "send"] : List Str), fitsT ([W "queue", W n, Nn k].take 2) [w, "WORD"] = false := by
        intro w hw
        simp only [List.mem_cons, List.not_mem_nil, or_false] at hw
        rcases hw with rfl | rfl | rfl <;> kernel_rfl
      refine ⟨fun u hu => ?_, by simp [thT], ⟨by simp [thT], fun _ z => bf f1 z, fun _ _ z => bf f2 z, fun _ _ _ z => absurd (show ("queue" : Str) = "check" from z) (by decide +kernel), fun _ w hw z => bf (f3 w hw) z⟩, by simp [thT], by simp [thT, thr]⟩
      simp only [thT, List.mem_cons, List.not_mem_nil, or_false] at hu
      rcases hu with rfl | rfl | rfl
      · exact w_nb (by decide +kernel)
      · exact nm_nb nm
      · exact nn_nb h1 h2
  exact ⟨key.1, line_good key.1 key.2.1 key.2.2.1, key.2.2.2⟩
theorem inT_line {ths : List Th} {n : Nat} {i : Ins} (ok : ShOk ths) (hn : n ≤ 11) (h : InsG ths n i ∨ i = bgI ∨ i = enI) : (∀ u ∈ inT i, TOk u ∧ u.1 ≠ "bad") ∧ LineOk (inT i) ∧ inT i ≠ [] ∧ inT i ≠ thr := by
  have ip := (ins_inT hn h).2
  have key : (∀ u ∈ inT i, TOk u ∧ u.1 ≠ "bad") ∧ (inT i).length ≤ 10 ∧ inT i ≠ thr := by
    have tr : ∀ {t : Tr}, TrOk t → ∀ u ∈ trT t, TOk u ∧ u.1 ≠ "bad" := fun tok u hu => ⟨(tree_tok tok).1 u hu, (tree_tok tok).2.1 u hu⟩
    rcases h with h | rfl | rfl
    · cases i with
      | two k x =>
        have nx := nm_nb (kind_nm ok h.2.1 h.2.2)
        have hk : k ∈ twoK := h.1
        have wk : ∀ k ∈ twoK, wordB k = true ∨ k = "notifyall" := by decide +kernel
        simp only [inT]
        by_cases c : k = "notifyall"
        · rw [if_pos c]
          refine ⟨fun u hu => ?_, by simp, by simp [thr]⟩
          simp only [List.mem_cons, List.not_mem_nil, or_false] at hu
          rcases hu with rfl | rfl | rfl
          · exact w_nb (by decide +kernel)
          · exact w_nb (by decide +kernel)
          · exact nx
        · rw [if_neg c]
          refine ⟨fun u hu => ?_, by simp, by simp [thr]⟩
          simp only [List.mem_cons, List.not_mem_nil, or_false] at hu
          rcases hu with rfl | rfl
          · exact w_nb ((wk k hk).resolve_right c)
          · exact nx
      | three k r x =>
        have nx := nm_nb (kind_nm ok h.2.2.1 h.2.2.2)
        have wk : ∀ k ∈ threeK, wordB k = true := by decide +kernel
        refine ⟨fun u hu => ?_, by simp [inT], by simp [inT, thr]⟩
        simp only [inT, List.mem_cons, List.not_mem_nil, or_false] at hu
        rcases hu with rfl | rfl | rfl
        · exact w_nb (wk k h.1)
        · exact wk_nb (reg_tok h.2.1)
        · exact nx
      | xt k x t =>
        obtain ⟨tok, h⟩ := h
        have tl := (tree_tok tok).2.2.1
        simp only [inT]
        rcases h with ⟨rfl, hx⟩ | ⟨hk, h1, h2⟩
        · rw [if_pos rfl]
          refine ⟨fun u hu => ?_, by simp; omega, by simp [thr]⟩
          simp only [List.mem_cons] at hu
          rcases hu with rfl | rfl | rfl | hu
          · exact w_nb (by decide +kernel)
          · exact wk_nb (reg_tok hx)
          · exact g_nb (by decide +kernel)
          · exact tr tok u hu
        · have wk : ∀ k ∈ putK, wordB k = true ∧ k ≠ "let" := by decide +kernel
          rw [if_neg (wk k hk).2]
          refine ⟨fun u hu => ?_, by simp; omega, by simp [thr]⟩
          simp only [List.mem_cons] at hu
          rcases hu with rfl | rfl | hu
          · exact w_nb (wk k hk).1
          · exact nm_nb (kind_nm ok h1 h2)
          · exact tr tok u hu
      | check t =>
        have tok : TrOk t := h
        have tl := (tree_tok tok).2.2.1
        have tn := tr_len t
        refine ⟨fun u hu => ?_, by simp [inT]; omega, fun e => ?_⟩
        · simp only [inT, List.mem_cons] at hu
          rcases hu with rfl | hu
          · exact w_nb (by decide +kernel)
          · exact tr tok u hu
        · have h1 : (W "check" :: trT t).length = 1 := congrArg List.length e
          rw [List.length_cons] at h1
          omega
      | go m =>
        refine ⟨fun u hu => ?_, by simp [inT], by simp [inT, thr]⟩
        simp only [inT, List.mem_cons, List.not_mem_nil, or_false] at hu
        rcases hu with rfl | rfl
        · exact w_nb (by decide +kernel)
        · exact nn_nb h.1 (by have := h.2; omega)
      | goIf m t =>
        have tok : TrOk t := h.2.2
        have tl := (tree_tok tok).2.2.1
        refine ⟨fun u hu => ?_, by simp [inT]; omega, by simp [inT, thr]⟩
        simp only [inT, List.mem_cons] at hu
        rcases hu with rfl | rfl | rfl | hu
        · exact w_nb (by decide +kernel)
        · exact nn_nb h.1 (by have := h.2.1; omega)
        · exact w_nb (by decide +kernel)
        · exact tr tok u hu
      | one k =>
        obtain rfl : k = "stop" := h
        refine ⟨fun u hu => ?_, by simp [inT], by decide +kernel⟩
        rw [List.mem_singleton.mp (show u ∈ [W "stop"] from hu)]
        exact w_nb (by decide +kernel)
    · refine ⟨fun u hu => ?_, by simp [inT, bgI], by decide +kernel⟩
      rw [List.mem_singleton.mp (show u ∈ [W "begin"] from hu)]
      exact w_nb (by decide +kernel)
    · refine ⟨fun u hu => ?_, by simp [inT, enI], by decide +kernel⟩
      rw [List.mem_singleton.mp (show u ∈ [W "end"] from hu)]
      exact w_nb (by decide +kernel)
  exact ⟨key.1, line_good key.1 key.2.1 ip, ip.ne, key.2.2⟩
end K10
set_option linter.all false
set_option maxRecDepth 100000
set_option maxHeartbeats 4000000
namespace K10
open PySem PySem.Spec PyProof.Rows L2
/-! ### the reader runs over good lines -/
def thrL (is : List Ins) : List Ln := thr :: is.map inT
def prL (ths : List Th) (tss : List (List Ins)) : List Ln := ths.map thT ++ tss.flatMap thrL
theorem run_ok {k n n' : Nat} {st st' : DS} {l : Ln} {ls : List Ln} (h : l ≠ []) (ht : l ≠ thr) (hs : step n st l = .ok st') : run k n st (l :: ls) = run (k + 1) n st' ls := by
  rw [run, if_neg h, if_neg ht, hs]
  simp only [if_neg ht]
theorem run_bad {k n : Nat} {st : DS} {l : Ln} {ls : List Ln} {w : Str} (h : l ≠ []) (ht : l ≠ thr) (hs : step n st l = .error w) : run k n st (l :: ls) = (k, w) := by
  rw [run, if_neg h, if_neg ht, hs]
theorem thr_nb : isBad thr = false := by decide +kernel
theorem step_thr {n : Nat} {st : DS} : step n st thr = addThr st := by
  unfold step
  rw [if_neg (show ¬ (thr.any fun t => decide (t.1 = "bad")) = true by decide +kernel), if_pos rfl]
theorem run_thr {k n : Nat} {ths : List Th} {tm : List Nat} {rest : List Ln} (h : tm.length ≠ 4) : run k n ⟨ths, tm, false, false⟩ (thr :: rest) = run (k + 1) (cnt rest) ⟨ths, tm ++ [0], false, false⟩ rest := by
  have e : addThr ⟨ths, tm, false, false⟩ = .ok ⟨ths, tm ++ [0], false, false⟩ := by
    unfold addThr
    rw [if_neg h]
    rfl
  rw [run, if_neg (by decide +kernel), if_pos rfl, step_thr, e]
  simp only [if_true]
theorem run_thr4 {k n : Nat} {ths : List Th} {tm : List Nat} {b u : Bool} {rest : List Ln} (h : tm.length = 4) : run k n ⟨ths, tm, b, u⟩ (thr :: rest) = (k, ("many" : Str)) := by
  have e : addThr ⟨ths, tm, b, u⟩ = .error "many" := by
    unfold addThr
    rw [if_pos h]
  rw [run, if_neg (by decide +kernel), if_pos rfl, step_thr, e]
theorem isNm_of {n : Str} (h : NmOk n) : isNm n = true := by
  unfold isNm
  rw [decide_eq_false h.nr, decide_eq_false h.ng]
  rfl
theorem kindOf_none {ths : List Th} {x : Str} (h : x ∉ ths.map thN) : kindOf ths x = none := by
  unfold kindOf
  rw [List.find?_eq_none.mpr (fun t ht => by
    have : thN t ≠ x := fun e => h (by rw [← e]; exact List.mem_map_of_mem ht)
    rw [decide_eq_false this]
    exact Bool.false_ne_true)]
  rfl
theorem addSh_ok {pre suf : List Th} {t : Th} {b u : Bool} (ok : ShOk (pre ++ t :: suf)) : addSh ⟨pre, [], b, u⟩ t = .ok ⟨pre ++ [t], [], b, u⟩ := by
  have nm := ok.nm t (by simp)
  have nd := ok.nd
  rw [List.map_append, List.map_cons, List.nodup_append] at nd
  have hn : thN t ∉ pre.map thN := fun z => nd.2.2 _ z _ (List.mem_cons_self ..) rfl
  have g := ok.ok pre.length t (by rw [List.getElem?_append_right (Nat.le_refl _), Nat.sub_self]; rfl)
  rw [List.take_left] at g
  have le := ok.le
  rw [List.length_append, List.length_cons] at le
  have e1 : ¬(isNm (thN t) = false ∨ kindOf pre (thN t) ≠ none) := fun z => by
    rw [isNm_of nm, kindOf_none hn] at z
    rcases z with z | z
    · cases z
    · exact z rfl
  have e2 : cBad pre t = false := by
    cases t with
    | cond n l => exact decide_eq_false fun z => z g
    | var n v => rfl
    | lock n => rfl
    | queue n k => rfl
  have e3 : qBad t = false := by
    cases t with
    | queue n k =>
      have g' : 1 ≤ k ∧ k ≤ 3 := g
      exact decide_eq_false (by omega)
    | var n v => rfl
    | lock n => rfl
    | cond n l => rfl
  unfold addSh
  rw [if_neg e1]
  simp only [e2, e3, Bool.false_eq_true, if_false]
  rw [if_neg (by show ¬ pre.length = 6; omega)]
theorem step_sh {n : Nat} {st : DS} {t : Th} {l : Ln} (nb : isBad l = false) (ht : l ≠ thr) (h0 : st.th = []) (hs : sharedT l = some t) : step n st l = addSh st t := by
  unfold step
  rw [if_neg (show ¬ (l.any fun t => decide (t.1 = "bad")) = true by rw [show (l.any fun t => decide (t.1 = "bad")) = false from nb]; exact Bool.false_ne_true), if_neg ht, if_pos h0, hs]
theorem step_in {n : Nat} {st : DS} {i : IA} {l : Ln} (nb : isBad l = false) (ht : l ≠ thr) (h0 : st.th ≠ []) (hs : insT l = some i) : step n st l = addIns n st i := by
  unfold step
  rw [if_neg (show ¬ (l.any fun t => decide (t.1 = "bad")) = true by rw [show (l.any fun t => decide (t.1 = "bad")) = false from nb]; exact Bool.false_ne_true), if_neg ht, if_neg h0, hs]
theorem thB_sh {t : Th} (b : ThB t) : sharedT (thT t) = some t := shared_thT (by
  cases t with
  | var n v => exact b
  | lock n => trivial
  | cond n l => trivial
  | queue n k => exact b)
theorem run_sh {n : Nat} {rest : List Ln} : ∀ {suf pre : List Th} {k : Nat}, ShOk (pre ++ suf) → run k n ⟨pre, [], false, false⟩ (suf.map thT ++ rest) = run (k + suf.length) n ⟨pre ++ suf, [], false, false⟩ rest
  | [], pre, k, _ => by simp
  | t :: suf, pre, k, ok => by
    have nm := ok.nm t (by simp)
    have b := thB_of ok (i := pre.length) (t := t) (by rw [List.getElem?_append_right (Nat.le_refl _), Nat.sub_self]; rfl)
    obtain ⟨q1, _, q3, q4⟩ := thT_line nm b
    have ok' : ShOk ((pre ++ [t]) ++ suf) := by rw [List.append_assoc]; exact ok
    rw [List.map_cons, List.cons_append, run_ok (st' := ⟨pre ++ [t], [], false, false⟩) (n' := n) q3 q4 (by rw [step_sh (nb_of q1) q4 rfl (thB_sh b)]; exact addSh_ok ok), run_sh (suf := suf) ok']
    rw [List.append_assoc, List.length_cons, show k + 1 + suf.length = k + (suf.length + 1) by omega]
    rfl
theorem addIns_ok {ths : List Th} {N n c : Nat} {tm : List Nat} {i : Ins} {b b' u : Bool} (h : InsG ths N i ∨ i = bgI ∨ i = enI) (hn : N ≤ n) (hc : c < 12) (ha : altS i b b') : addIns n ⟨ths, tm ++ [c], b, u⟩ (iaOf i) = .ok ⟨ths, tm ++ [c + 1], b', u⟩ := by
  have e1 : nBad ths (iaOf i) = false := by
    rcases h with h | rfl | rfl
    · cases i with
      | two k x => exact decide_eq_false fun z => z h.2.1
      | three k r x => exact decide_eq_false fun z => z h.2.2.1
      | xt k x t =>
        have ei : iaOf (.xt k x t) = if k = "let" then .ot "let" else .nm k x := rfl
        rw [ei]
        rcases h.2 with ⟨rfl, _⟩ | ⟨hk, h1, _⟩
        · rw [if_pos rfl]
          rfl
        · have wk : ∀ k ∈ putK, k ≠ "let" := by decide +kernel
          rw [if_neg (wk k hk)]
          exact decide_eq_false fun z => z h1
      | check t => rfl
      | go m => rfl
      | goIf m t => rfl
      | one k => rfl
    · rfl
    · rfl
  have e2 : gBad n (iaOf i) = false := by
    rcases h with h | rfl | rfl
    · cases i with
      | two k x => rfl
      | three k r x => rfl
      | xt k x t =>
        have ei : iaOf (.xt k x t) = if k = "let" then .ot "let" else .nm k x := rfl
        rw [ei]
        split <;> rfl
      | check t => rfl
      | go m => exact decide_eq_false (by have := h.2; omega)
      | goIf m t => exact decide_eq_false (by have := h.2.1; omega)
      | one k => rfl
    · rfl
    · rfl
  have nn : InsG ths N i → bBad b (iaOf i) = false ∧ insN b (iaOf i) = b := fun h => by
    have ot : ∀ k : Str, k = "let" ∨ k = "check" ∨ k = "stop" → bBad b (.ot k) = false ∧ insN b (.ot k) = b := fun k hk => by
      have nk : k ≠ "begin" ∧ k ≠ "end" := by rcases hk with rfl | rfl | rfl <;> decide +kernel
      simp only [bBad, insN]
      rw [decide_eq_false nk.1, decide_eq_false nk.2, if_neg (fun z => z.elim nk.1 nk.2)]
      exact ⟨rfl, rfl⟩
    cases i with
    | two k x => exact ⟨rfl, rfl⟩
    | three k r x => exact ⟨rfl, rfl⟩
    | xt k x t =>
      have ei : iaOf (.xt k x t) = if k = "let" then .ot "let" else .nm k x := rfl
      rw [ei]
      split
      · exact ot _ (.inl rfl)
      · exact ⟨rfl, rfl⟩
    | check t => exact ot _ (.inr (.inl rfl))
    | go m => exact ⟨rfl, rfl⟩
    | goIf m t => exact ⟨rfl, rfl⟩
    | one k => exact ot _ (.inr (.inr h))
  have e3 : bBad b (iaOf i) = false ∧ insN b (iaOf i) = b' := by
    rcases ha with ⟨rfl, rfl, rfl⟩ | ⟨rfl, rfl, rfl⟩ | ⟨n1, n2, rfl⟩
    · exact ⟨by decide +kernel, by decide +kernel⟩
    · exact ⟨by decide +kernel, by decide +kernel⟩
    · rcases h with h | h | h
      · exact nn h
      · exact absurd h n1
      · exact absurd h n2
  unfold addIns
  simp only [e1, e2, e3.1, e3.2, Bool.false_eq_true, if_false, List.getLast?_concat, List.dropLast_concat, Option.getD_some]
  rw [if_neg (by intro z; have := Option.some.inj z; omega)]
theorem run_ins {ths : List Th} {N n : Nat} {tm : List Nat} {u : Bool} {rest : List Ln} (ok : ShOk ths) (hN : N ≤ 11) (hn : N ≤ n) : ∀ {is : List Ins} {c k : Nat} {st : Nat → Bool}, (∀ i ∈ is, InsG ths N i ∨ i = bgI ∨ i = enI) → c + is.length ≤ 12 → (∀ (j : Nat) (i : Ins), is[j]? = some i → altS i (st j) (st (j + 1))) →
    run k n ⟨ths, tm ++ [c], st 0, u⟩ (is.map inT ++ rest) = run (k + is.length) n ⟨ths, tm ++ [c + is.length], st is.length, u⟩ rest
  | [], c, k, st, _, _, _ => by simp
  | i :: is, c, k, st, hg, hc, ha => by
    rw [List.length_cons] at hc
    have hi := hg i (List.mem_cons_self ..)
    obtain ⟨q1, _, q3, q4⟩ := inT_line ok hN hi
    have ih := run_ins (rest := rest) (u := u) (tm := tm) ok hN hn (is := is) (c := c + 1) (k := k + 1) (st := fun j => st (j + 1)) (fun j hj => hg j (List.mem_cons_of_mem _ hj)) (by omega) (fun j x hj => ha (j + 1) x hj)
    rw [List.map_cons, List.cons_append, run_ok (st' := ⟨ths, tm ++ [c + 1], st 1, u⟩) (n' := n) q3 q4 (by rw [step_in (nb_of q1) q4 (by simp) (ins_inT hN hi).1]; exact addIns_ok hi hn (by omega) (ha 0 i rfl)), ih]
    rw [List.length_cons, show k + 1 + is.length = k + (is.length + 1) by omega, show c + 1 + is.length = c + (is.length + 1) by omega]
theorem cnt_app {a r : List Ln} (h : ∀ l ∈ a, l ≠ [] ∧ l ≠ thr) : cnt (a ++ r) = a.length + cnt r := by
  induction a with
  | nil => simp
  | cons l a ih =>
    obtain ⟨h1, h2⟩ := h l (List.mem_cons_self ..)
    have ih' := ih fun x hx => h x (List.mem_cons_of_mem _ hx)
    unfold cnt at ih' ⊢
    rw [List.cons_append, List.takeWhile_cons, decide_eq_true h2, if_pos rfl, List.filter_cons, decide_eq_true h1, if_pos rfl, List.length_cons, ih', List.length_cons]
    omega
theorem cnt_nil : cnt [] = 0 := rfl
theorem cnt_thr {r : List Ln} : cnt (thr :: r) = 0 := by
  unfold cnt
  rw [List.takeWhile_cons, decide_eq_false (fun z => z rfl), if_neg Bool.false_ne_true]
  rfl
theorem body_ne {ths : List Th} {is : List Ins} {N : Nat} (ok : ShOk ths) (hN : N ≤ 11) (h : ∀ i ∈ is, InsG ths N i ∨ i = bgI ∨ i = enI) : ∀ l ∈ is.map inT, l ≠ [] ∧ l ≠ thr := fun l hl => by
  obtain ⟨i, hi, rfl⟩ := List.mem_map.mp hl
  have q := inT_line ok hN (h i hi)
  exact q.2.2
theorem run_th {ths : List Th} {is : List Ins} {k n : Nat} {tm : List Nat} {rest : List Ln} (ok : ShOk ths) (g : ThrG ths is) (h : tm.length ≤ 3) : run k n ⟨ths, tm, false, false⟩ (thrL is ++ rest) = run (k + 1 + is.length) (is.length + cnt rest) ⟨ths, tm ++ [is.length], false, false⟩ rest := by
  obtain ⟨st, h0, h1, ha⟩ := g.alt
  have e := run_ins (rest := rest) (u := false) (tm := tm) (n := is.length + cnt rest) ok g.n2 (Nat.le_add_right _ _) (is := is) (c := 0) (k := k + 1) (st := st) g.ok (by have := g.n2; omega) ha
  rw [h0, h1, Nat.zero_add] at e
  unfold thrL
  rw [List.cons_append, run_thr (by omega), cnt_app (body_ne ok g.n2 g.ok), List.length_map, e]
theorem run_ths {ths : List Th} {rest : List Ln} (ok : ShOk ths) : ∀ {tss : List (List Ins)} {k n : Nat} {tm : List Nat}, (∀ is ∈ tss, ThrG ths is) → tm.length + tss.length ≤ 4 →
    ∃ n', run k n ⟨ths, tm, false, false⟩ (tss.flatMap thrL ++ rest) = run (k + (tss.flatMap thrL).length) n' ⟨ths, tm ++ tss.map List.length, false, false⟩ rest
  | [], k, n, tm, _, _ => ⟨n, by simp⟩
  | is :: tss, k, n, tm, hg, hl => by
    rw [List.length_cons] at hl
    obtain ⟨n', e⟩ := run_ths (rest := rest) ok (tss := tss) (k := k + 1 + is.length) (n := is.length + cnt (tss.flatMap thrL ++ rest)) (tm := tm ++ [is.length]) (fun x hx => hg x (List.mem_cons_of_mem _ hx)) (by rw [List.length_append, List.length_singleton]; omega)
    refine ⟨n', ?_⟩
    rw [List.flatMap_cons, List.append_assoc, run_th ok (hg is (List.mem_cons_self ..)) (by omega), e, List.length_append, List.map_cons, List.append_assoc]
    have e2 : (thrL is).length = 1 + is.length := by unfold thrL; rw [List.length_cons, List.length_map]; omega
    rw [e2, show k + 1 + is.length + (tss.flatMap thrL).length = k + (1 + is.length + (tss.flatMap thrL).length) by omega]
    rfl
end K10
set_option linter.all false
set_option maxRecDepth 100000
set_option maxHeartbeats 4000000
namespace K10
open PySem PySem.Spec PyProof.Rows L2
/-! ### bad lines -/
def B (s : Str) : Tok := ("bad", s)
def eB (l : Ln) : Bool := decide (l ∈ goodE) || decide (l ∈ badE)
def insB (l : Ln) : Bool := (simpleT l).isSome || ((!fitsT (l.take 3) ["let", "REGISTER", "="] || eB (l.drop 3)) && (fitsT (l.take 3) ["let", "REGISTER", "="] || !fitsT (l.take 3) ["go", "NUMBER", "if"] || eB (l.drop 3)) && (fitsT (l.take 3) ["let", "REGISTER", "="] || fitsT (l.take 3) ["go", "NUMBER", "if"] || !decide (tx l 0 = "check") || eB (l.drop 1)) && (["put", "add", "send"] : List Str).all fun w => !fitsT (l.take 2) [w, "WORD"] || eB (l.drop 2))
def lineB (l : Ln) : Bool := l.all tokB && decide (l.length ≤ 10) && l.all (fun t => decide (t.2.cps.toList.length ≤ 20) && decide (10 ∉ t.2.cps.toList)) && (decide (l = []) || isBad l || decide (l = thr) || insB l)
theorem eB_ok {l : Ln} (h : eB l = true) : EOk l := by
  unfold eB at h
  rw [Bool.or_eq_true, decide_eq_true_eq, decide_eq_true_eq] at h
  exact h
theorem insB_ok {l : Ln} (ne : l ≠ []) (h : insB l = true) : InsPre l := by
  unfold insB at h
  have nn : simpleT l = none → (simpleT l).isSome = false := fun z => by rw [z]; rfl
  have h' : simpleT l = none → _ := fun z => by
    rw [nn z, Bool.false_or] at h
    exact h
  simp only [Bool.and_eq_true, Bool.or_eq_true, Bool.not_eq_true', List.all_eq_true, decide_eq_false_iff_not] at h'
  refine ⟨ne, fun z f => ?_, fun z f g => ?_, fun z f g c => ?_, fun z w hw f => ?_⟩
  · rcases (h' z).1.1.1 with q | q
    · rw [f] at q; cases q
    · exact eB_ok q
  · rcases (h' z).1.1.2 with (q | q) | q
    · rw [f] at q; cases q
    · rw [g] at q; cases q
    · exact eB_ok q
  · rcases (h' z).1.2 with ((q | q) | q) | q
    · rw [f] at q; cases q
    · rw [g] at q; cases q
    · exact absurd c q
    · exact eB_ok q
  · rcases (h' z).2 w hw with q | q
    · rw [f] at q; cases q
    · exact eB_ok q
theorem lineB_ok {l : Ln} (h : lineB l = true) : LineOk l := by
  unfold lineB at h
  simp only [Bool.and_eq_true, Bool.or_eq_true, List.all_eq_true, decide_eq_true_eq] at h
  obtain ⟨⟨⟨h1, h2⟩, h3⟩, h4⟩ := h
  refine ⟨⟨fun t ht => tokB_ok (h1 t ht), by omega⟩, fun a b c => ?_, fun t ht => (h3 t ht).1, fun t ht => (h3 t ht).2, h2⟩
  rcases h4 with ((q | q) | q) | q
  · exact absurd q a
  · rw [b] at q; cases q
  · exact absurd q c
  · exact insB_ok a q
structure BadI (size : Nat) (l : Ln) (w : Str) : Prop where
  ok : LineOk l
  ne : l ≠ []
  nt : l ≠ thr
  nok : w ≠ "ok"
  st : ∀ (st : DS) (n : Nat), st.th ≠ [] → kindOf st.sh "zzzzzzz9" = none → n < size + 3 → step n st l = .error w
def badIs (size : Nat) : List (Ln × Str) := [([W "get", W "a", W "zzzzzzz9"], "name"), ([W "put", W "zzzzzzz9", Nn 1], "name"), ([W "wait", W "zzzzzzz9"], "name"), ([W "take", W "b", W "zzzzzzz9"], "name"), ([W "notify", W "all", W "zzzzzzz9"], "name"), ([W "go", Nn (size + 3)], "number"), ([W "let", W "e", G "=", Nn 1], "form"), ([W "let", W "a", Nn 1], "form"), ([W "check"], "form"), ([W "check", Nn 1, G "+"], "form"), ([W "var", W "zz", G "=", Nn 1], "form"), ([W "thread", W "x"], "form"), ([W "put", B "A", Nn 1], "tokens"), ([W "go", Nn 1, W "if"], "form"), ([W "get", W "zz", W "a"], "form"), ([W "stop", Nn 1], "form"), ([W "let", W "a", G "=", B "001"], "tokens")]
theorem step_bad {n : Nat} {st : DS} {l : Ln} (h : isBad l = true) : step n st l = .error "tokens" := by
  unfold step
  rw [if_pos (show (l.any fun t => decide (t.1 = "bad")) = true from h)]
theorem step_form {n : Nat} {st : DS} {l : Ln} (nb : isBad l = false) (nt : l ≠ thr) (h0 : st.th ≠ []) (h : insT l = none) : step n st l = .error "form" := by
  unfold step
  rw [if_neg (show ¬ (l.any fun t => decide (t.1 = "bad")) = true by rw [show (l.any fun t => decide (t.1 = "bad")) = false from nb]; exact Bool.false_ne_true), if_neg nt, if_neg h0, h]
theorem step_formS {n : Nat} {st : DS} {l : Ln} (nb : isBad l = false) (nt : l ≠ thr) (h0 : st.th = []) (h : sharedT l = none) : step n st l = .error "form" := by
  unfold step
  rw [if_neg (show ¬ (l.any fun t => decide (t.1 = "bad")) = true by rw [show (l.any fun t => decide (t.1 = "bad")) = false from nb]; exact Bool.false_ne_true), if_neg nt, if_pos h0, h]
theorem step_nm {n : Nat} {st : DS} {l : Ln} {k : Str} (nb : isBad l = false) (nt : l ≠ thr) (h0 : st.th ≠ []) (h : insT l = some (.nm k "zzzzzzz9")) (hk : kindK k ≠ none) (hz : kindOf st.sh "zzzzzzz9" = none) : step n st l = .error "name" := by
  rw [step_in nb nt h0 h]
  unfold addIns
  rw [if_pos (show nBad st.sh (.nm k "zzzzzzz9") = true from decide_eq_true (by rw [hz]; exact hk.symm))]
theorem badI_of {size : Nat} (hs : size ≤ 11) : ∀ x ∈ badIs size, BadI size x.1 x.2 := by
  have form : ∀ {l : Ln}, lineB l = true → isBad l = false → l ≠ [] → l ≠ thr → insT l = none → BadI size l "form" := fun h1 h2 h3 h4 h5 => ⟨lineB_ok h1, h3, h4, by decide +kernel, fun st n a _ _ => step_form h2 h4 a h5⟩
  have name : ∀ {l : Ln} {k : Str}, lineB l = true → isBad l = false → l ≠ [] → l ≠ thr → insT l = some (.nm k "zzzzzzz9") → kindK k ≠ none → BadI size l "name" := fun h1 h2 h3 h4 h5 h6 => ⟨lineB_ok h1, h3, h4, by decide +kernel, fun st n a b _ => step_nm h2 h4 a h5 h6 b⟩
  have toks : ∀ {l : Ln}, lineB l = true → isBad l = true → l ≠ [] → l ≠ thr → BadI size l "tokens" := fun h1 h2 h3 h4 => ⟨lineB_ok h1, h3, h4, by decide +kernel, fun st n a _ _ => step_bad h2⟩
  intro x hx
  simp only [badIs, List.mem_cons, List.not_mem_nil, or_false] at hx
  rcases hx with rfl | rfl | rfl | rfl | rfl | rfl | rfl | rfl | rfl | rfl | rfl | rfl | rfl | rfl | rfl | rfl | rfl
  · exact name (by decide +kernel) (by decide +kernel) (by decide +kernel) (by decide +kernel) (k := "get") (by kernel_rfl) (by decide +kernel)
  · exact name (by decide +kernel) (by decide +kernel) (by decide +kernel) (by decide +kernel) (k := "put") (by kernel_rfl) (by decide +kernel)
  · exact name (by decide +kernel) (by decide +kernel) (by decide +kernel) (by decide +kernel) (k := "wait") (by kernel_rfl) (by decide +kernel)
  · exact name (by decide +kernel) (by decide +kernel) (by decide +kernel) (by decide +kernel) (k := "take") (by kernel_rfl) (by decide +kernel)
  · exact name (by decide +kernel) (by decide +kernel) (by decide +kernel) (by decide +kernel) (k := "notifyall") (by kernel_rfl) (by decide +kernel)
  · have nb : ∀ u ∈ ([W "go", Nn (size + 3)] : Ln), TOk u ∧ u.1 ≠ "bad" := fun u hu => by
      simp only [List.mem_cons, List.not_mem_nil, or_false] at hu
      rcases hu with rfl | rfl
      · exact w_nb (by decide +kernel)
      · exact nn_nb (by omega) (by omega)
    have e : simpleT [W "go", Nn (size + 3)] = some (.go (numI (toString ((size : Int) + 3) : Str))) := by kernel_rfl
    have e2 : insT [W "go", Nn (size + 3)] = some (.go ((size : Int) + 3)) := by
      unfold insT
      rw [e, (num_ok (m := (size : Int) + 3) (by omega) (by omega)).2]
    refine ⟨line_good nb (by simp) (pre_simple (by simp) e), by simp, by simp [thr], by show Str.ofString "number" ≠ Str.ofString "ok"; decide +kernel, fun st n a b c => ?_⟩
    rw [step_in (nb_of nb) (by simp [thr]) a e2]
    unfold addIns
    rw [if_neg (by show ¬ false = true; simp), if_pos (show gBad n (.go ((size : Int) + 3)) = true from decide_eq_true (by omega))]
  · exact form (by decide +kernel) (by decide +kernel) (by decide +kernel) (by decide +kernel) (by kernel_rfl)
  · exact form (by decide +kernel) (by decide +kernel) (by decide +kernel) (by decide +kernel) (by kernel_rfl)
  · exact form (by decide +kernel) (by decide +kernel) (by decide +kernel) (by decide +kernel) (by kernel_rfl)
  · exact form (by decide +kernel) (by decide +kernel) (by decide +kernel) (by decide +kernel) (by kernel_rfl)
  · exact form (by decide +kernel) (by decide +kernel) (by decide +kernel) (by decide +kernel) (by kernel_rfl)
  · exact form (by decide +kernel) (by decide +kernel) (by decide +kernel) (by decide +kernel) (by kernel_rfl)
  · exact toks (by decide +kernel) (by decide +kernel) (by decide +kernel) (by decide +kernel)
  · exact form (by decide +kernel) (by decide +kernel) (by decide +kernel) (by decide +kernel) (by kernel_rfl)
  · exact form (by decide +kernel) (by decide +kernel) (by decide +kernel) (by decide +kernel) (by kernel_rfl)
  · exact form (by decide +kernel) (by decide +kernel) (by decide +kernel) (by decide +kernel) (by kernel_rfl)
  · exact toks (by decide +kernel) (by decide +kernel) (by decide +kernel) (by decide +kernel)
structure BadS (sh : List Th) (l : Ln) (w : Str) : Prop where
  ok : LineOk l
  ne : l ≠ []
  nt : l ≠ thr
  nok : w ≠ "ok"
  st : ∀ (n : Nat) (b u : Bool), step n ⟨sh, [], b, u⟩ l = .error w
def badSs (nm : Str) : List (Ln × Str) := [([W "var", W nm, G "=", Nn 1], "name"), ([W "var", W "a", G "=", Nn 1], "name"), ([W "lock", W "queue"], "name"), ([W "cond", W "w", W "of", W "zzzzzzz9"], "name"), ([W "queue", W "zzzzzzz8", Nn 0], "number"), ([W "queue", W "zzzzzzz8", Nn 4], "number"), ([W "var", W "zz", G "=", B ";"], "tokens"), ([W "var", W "zz", Nn 1], "form"), ([W "check", Nn 1], "form"), ([W "queue", W "zz"], "form"), ([W "lock", W "zz", W "zy"], "form"), ([W "var", W "zz", G "=", B "100"], "tokens"), ([W "go", Nn 0], "form")]
theorem addSh_nm {st : DS} {t : Th} (h : isNm (thN t) = false ∨ kindOf st.sh (thN t) ≠ none) : addSh st t = .error "name" := by
  unfold addSh
  rw [if_pos h]
theorem badS_of {sh : List Th} {nm : Str} (h9 : kindOf sh "zzzzzzz9" = none) (h8 : kindOf sh "zzzzzzz8" = none) : ∀ x ∈ (badSs nm).drop 1, BadS sh x.1 x.2 := by
  have form : ∀ {l : Ln}, lineB l = true → isBad l = false → l ≠ [] → l ≠ thr → sharedT l = none → BadS sh l "form" := fun h1 h2 h3 h4 h5 => ⟨lineB_ok h1, h3, h4, by decide +kernel, fun n b u => step_formS h2 h4 rfl h5⟩
  have toks : ∀ {l : Ln}, lineB l = true → isBad l = true → l ≠ [] → l ≠ thr → BadS sh l "tokens" := fun h1 h2 h3 h4 => ⟨lineB_ok h1, h3, h4, by decide +kernel, fun n b u => step_bad h2⟩
  have thing : ∀ {l : Ln} {t : Th} {w : Str}, lineB l = true → isBad l = false → l ≠ [] → l ≠ thr → sharedT l = some t → w ≠ "ok" → (∀ b u, addSh ⟨sh, [], b, u⟩ t = .error w) → BadS sh l w := fun h1 h2 h3 h4 h5 h6 h7 => ⟨lineB_ok h1, h3, h4, h6, fun n b u => by rw [step_sh h2 h4 rfl h5]; exact h7 b u⟩
  intro x hx
  simp only [badSs, List.drop_succ_cons, List.drop_zero, List.mem_cons, List.not_mem_nil, or_false] at hx
  have num : ∀ k : Int, k < 1 ∨ 3 < k → ∀ b u, addSh ⟨sh, [], b, u⟩ (.queue "zzzzzzz8" k) = .error "number" := fun k hk b u => by
    unfold addSh
    rw [if_neg (show ¬ (isNm (thN (.queue "zzzzzzz8" k)) = false ∨ kindOf (⟨sh, [], b, u⟩ : DS).sh (thN (.queue "zzzzzzz8" k)) ≠ none) from fun z => z.elim (fun z => absurd (show isNm "zzzzzzz8" = false from z) (by decide +kernel)) (fun z => z h8)), if_neg (show ¬ cBad sh (.queue "zzzzzzz8" k) = true from Bool.false_ne_true), if_pos (show qBad (.queue "zzzzzzz8" k) = true from decide_eq_true hk)]
  rcases hx with rfl | rfl | rfl | rfl | rfl | rfl | rfl | rfl | rfl | rfl | rfl | rfl
  · exact thing (t := .var "a" 1) (by decide +kernel) (by decide +kernel) (by decide +kernel) (by decide +kernel) (by kernel_rfl) (by decide +kernel) fun b u => addSh_nm (.inl (by decide +kernel))
  · exact thing (t := .lock "queue") (by decide +kernel) (by decide +kernel) (by decide +kernel) (by decide +kernel) (by kernel_rfl) (by decide +kernel) fun b u => addSh_nm (.inl (by decide +kernel))
  · refine thing (t := .cond "w" "zzzzzzz9") (by decide +kernel) (by decide +kernel) (by decide +kernel) (by decide +kernel) (by kernel_rfl) (by decide +kernel) fun b u => ?_
    by_cases c : isNm (thN (.cond "w" "zzzzzzz9")) = false ∨ kindOf sh (thN (.cond "w" "zzzzzzz9")) ≠ none
    · exact addSh_nm c
    · unfold addSh
      rw [if_neg c, if_pos (show cBad sh (.cond "w" "zzzzzzz9") = true from decide_eq_true (by rw [h9]; exact fun z => by cases z))]
  · exact thing (t := .queue "zzzzzzz8" 0) (by decide +kernel) (by decide +kernel) (by decide +kernel) (by decide +kernel) (by kernel_rfl) (by decide +kernel) (num 0 (by omega))
  · exact thing (t := .queue "zzzzzzz8" 4) (by decide +kernel) (by decide +kernel) (by decide +kernel) (by decide +kernel) (by kernel_rfl) (by decide +kernel) (num 4 (by omega))
  · exact toks (by decide +kernel) (by decide +kernel) (by decide +kernel) (by decide +kernel)
  · exact form (by decide +kernel) (by decide +kernel) (by decide +kernel) (by decide +kernel) (by kernel_rfl)
  · exact form (by decide +kernel) (by decide +kernel) (by decide +kernel) (by decide +kernel) (by kernel_rfl)
  · exact form (by decide +kernel) (by decide +kernel) (by decide +kernel) (by decide +kernel) (by kernel_rfl)
  · exact form (by decide +kernel) (by decide +kernel) (by decide +kernel) (by decide +kernel) (by kernel_rfl)
  · exact toks (by decide +kernel) (by decide +kernel) (by decide +kernel) (by decide +kernel)
  · exact form (by decide +kernel) (by decide +kernel) (by decide +kernel) (by decide +kernel) (by kernel_rfl)
theorem badS_own {sh : List Th} {nm : Str} (ng : NmOk nm) (h : kindOf sh nm ≠ none) : BadS sh [W "var", W nm, G "=", Nn 1] "name" := by
  obtain ⟨q1, q2, q3, q4⟩ := thT_line (t := .var nm 1) ng ⟨by decide, by decide⟩
  have e : thT (.var nm 1) = [W "var", W nm, G "=", Nn 1] := if_neg (c := (1 : Int) < 0) (t := [W "var", W nm, G "=", G "-", Nn (0 - 1)]) (by decide)
  have s := shared_thT (t := .var nm 1) ⟨by decide, by decide⟩
  rw [e] at q1 q2 q3 q4 s
  exact ⟨q2, q3, q4, by decide +kernel, fun n b u => by
    rw [step_sh (nb_of q1) q4 rfl s]
    exact addSh_nm (.inr h)⟩
end K10
set_option linter.all false
set_option maxRecDepth 100000
set_option maxHeartbeats 4000000
namespace K10
open PySem PySem.Spec PyProof.Rows L2
/-- lines, and the fault in them -/
structure Flt (LS : List Ln) (nf : Nat) (w : Str) : Prop where
  ok : ∀ l ∈ LS, LineOk l
  ne : LS ≠ []
  le : LS.length ≤ 400
  rn : run 0 0 st0 LS = (nf, w)
  nok : w ≠ "ok"
theorem Flt.pre {LS : List Ln} {nf : Nat} {w : Str} (h : Flt LS nf w) : RPre (Txt.join nlS (LS.map lnS)) LS nf w := rpre_of h.ok h.ne h.le h.rn h.nok
theorem thr_lok : LineOk thr := lineB_ok (by decide +kernel)
theorem nil_ok : LineOk [] := lineB_ok (by decide +kernel)
theorem ShOk.pre {a b : List Th} (h : ShOk (a ++ b)) : ShOk a := by
  refine ⟨by have := h.le; rw [List.length_append] at this; omega, ?_, fun t ht => h.nm t (List.mem_append_left _ ht), fun i t hi => ?_⟩
  · have := h.nd
    rw [List.map_append, List.nodup_append] at this
    exact this.1
  · have hl := (List.getElem?_eq_some_iff.mp hi).1
    have := h.ok i t (by rw [List.getElem?_append_left hl]; exact hi)
    rwa [List.take_append_of_le_length (by omega)] at this
theorem ShOk.take {a : List Th} (h : ShOk a) (k : Nat) : ShOk (a.take k) := ShOk.pre (b := a.drop k) (by rw [List.take_append_drop]; exact h)
theorem thT_ok {ths : List Th} (ok : ShOk ths) : ∀ l ∈ ths.map thT, LineOk l := fun l hl => by
  obtain ⟨t, ht, rfl⟩ := List.mem_map.mp hl
  obtain ⟨i, hi⟩ := List.mem_iff_getElem?.mp ht
  exact (thT_line (ok.nm t ht) (thB_of ok hi)).2.1
theorem thrL_ok {ths : List Th} {is : List Ins} (ok : ShOk ths) (g : ThrG ths is) : ∀ l ∈ thrL is, LineOk l := fun l hl => by
  unfold thrL at hl
  rcases List.mem_cons.mp hl with rfl | hl
  · exact thr_lok
  · obtain ⟨i, hi, rfl⟩ := List.mem_map.mp hl
    exact (inT_line ok g.n2 (g.ok i hi)).2.1
theorem flat_ok {ths : List Th} {tss : List (List Ins)} (ok : ShOk ths) (g : ∀ is ∈ tss, ThrG ths is) : ∀ l ∈ tss.flatMap thrL, LineOk l := fun l hl => by
  obtain ⟨is, hi, hl⟩ := List.mem_flatMap.mp hl
  exact thrL_ok ok (g is hi) l hl
theorem prL_ok {ths : List Th} {tss : List (List Ins)} (ok : ShOk ths) (g : ∀ is ∈ tss, ThrG ths is) : ∀ l ∈ prL ths tss, LineOk l := fun l hl => by
  unfold prL at hl
  rcases List.mem_append.mp hl with hl | hl
  · exact thT_ok ok l hl
  · exact flat_ok ok g l hl
theorem thrL_len (is : List Ins) : (thrL is).length = is.length + 1 := by unfold thrL; rw [List.length_cons, List.length_map]
theorem flat_len {ths : List Th} : ∀ {tss : List (List Ins)}, (∀ is ∈ tss, ThrG ths is) → (tss.flatMap thrL).length ≤ 12 * tss.length
  | [], _ => by simp
  | is :: tss, g => by
    have ih := flat_len (tss := tss) fun x hx => g x (List.mem_cons_of_mem _ hx)
    have := (g is (List.mem_cons_self ..)).n2
    rw [List.flatMap_cons, List.length_append, thrL_len, List.length_cons]
    omega
theorem prL_len {ths : List Th} {tss : List (List Ins)} (ok : ShOk ths) (g : ∀ is ∈ tss, ThrG ths is) : (prL ths tss).length ≤ 6 + 12 * tss.length := by
  unfold prL
  have := ok.le
  have := flat_len g
  rw [List.length_append, List.length_map]
  omega
theorem run_pr {ths : List Th} {tss : List (List Ins)} {rest : List Ln} (ok : ShOk ths) (g : ∀ is ∈ tss, ThrG ths is) (hl : tss.length ≤ 4) : ∃ n', run 0 0 st0 (prL ths tss ++ rest) = run (prL ths tss).length n' ⟨ths, tss.map List.length, false, false⟩ rest := by
  obtain ⟨n', e⟩ := run_ths (rest := rest) ok (tss := tss) (k := 0 + ths.length) (n := 0) (tm := []) g (by simpa using hl)
  refine ⟨n', ?_⟩
  unfold prL
  rw [List.append_assoc, show st0 = ⟨[], [], false, false⟩ from rfl, run_sh (suf := ths) (pre := []) ok, List.nil_append, e, List.length_append, List.length_map, Nat.zero_add]
  rfl
theorem end_big {ths : List Th} {tm : List Nat} {u : Bool} : endW ⟨ths, tm, true, u⟩ = "block" := by
  unfold endW
  rw [if_pos (.inr rfl)]
/-- a begin behind all -/
theorem flt_begin {ths : List Th} {tss : List (List Ins)} (g : PrG ths tss) : Flt (prL ths tss ++ [[W "begin"]]) ((prL ths tss).length + 1) "block" := by
  have bl : LineOk [W "begin"] := lineB_ok (by decide +kernel)
  refine ⟨fun l hl => ?_, by simp, ?_, ?_, by decide +kernel⟩
  · rcases List.mem_append.mp hl with hl | hl
    · exact prL_ok g.sh g.ok l hl
    · rw [List.mem_singleton.mp hl]; exact bl
  · have := prL_len g.sh g.ok
    have := g.n2
    rw [List.length_append, List.length_singleton]
    omega
  · obtain ⟨n', e⟩ := run_pr (rest := [[W "begin"]]) g.sh g.ok (by have := g.n2; omega)
    have e1 : insT [W "begin"] = some (.ot "begin") := by kernel_rfl
    obtain ⟨tm, c, hm, hc⟩ : ∃ tm c, tss.map List.length = tm ++ [c] ∧ c < 12 := by
      have hne : tss ≠ [] := fun z => by have := g.n1; rw [z] at this; exact absurd this (by decide)
      refine ⟨tss.dropLast.map List.length, (tss.getLast hne).length, ?_, by have := (g.ok _ (List.getLast_mem hne)).n2; omega⟩
      rw [← List.map_singleton, ← List.map_append, List.dropLast_concat_getLast]
    rw [e, hm, run_ok (st' := ⟨ths, tm ++ [c + 1], true, false⟩) (n' := n') (by decide +kernel) (by decide +kernel) ?_]
    · rw [run, end_big]
    · rw [step_in (by decide +kernel) (by decide +kernel) (by simp) e1]
      have := addIns_ok (ths := ths) (N := 0) (n := n') (c := c) (tm := tm) (i := bgI) (b := false) (b' := true) (u := false) (.inr (.inl rfl)) (Nat.zero_le _) hc (.inl ⟨rfl, rfl, rfl⟩)
      exact this
/-- a thread without a line -/
theorem flt_empty {ths : List Th} {tss : List (List Ins)} (g : PrG ths tss) : Flt (prL ths tss ++ [thr, []]) ((prL ths tss).length + 2) "empty" := by
  refine ⟨fun l hl => ?_, by simp, ?_, ?_, by decide +kernel⟩
  · rcases List.mem_append.mp hl with hl | hl
    · exact prL_ok g.sh g.ok l hl
    · simp only [List.mem_cons, List.not_mem_nil, or_false] at hl
      rcases hl with rfl | rfl
      · exact thr_lok
      · exact nil_ok
  · have := prL_len g.sh g.ok
    have := g.n2
    simp only [List.length_append, List.length_cons, List.length_nil]
    omega
  · obtain ⟨n', e⟩ := run_pr (rest := [thr, []]) g.sh g.ok (by have := g.n2; omega)
    rw [e, run_thr (by rw [List.length_map]; have := g.n2; omega), run, if_pos rfl, run]
    unfold endW
    rw [if_neg (by simp), if_neg (by simp), if_pos (by simp)]
/-- things alone -/
theorem flt_things {ths : List Th} (ok : ShOk ths) : ∃ LS, LS.map lnS = (if ths = [] then [Str.ofString ""] else (ths.map thT).map lnS) ∧ Flt LS (max 1 ths.length) "threads" := by
  by_cases c : ths = []
  · subst c
    refine ⟨[[]], by rw [if_pos rfl]; rfl, fun l hl => by rw [List.mem_singleton.mp hl]; exact nil_ok, by simp, by simp, by decide +kernel, by decide +kernel⟩
  · refine ⟨ths.map thT, by rw [if_neg c], thT_ok ok, by simpa using c, by rw [List.length_map]; have := ok.le; omega, ?_, by decide +kernel⟩
    have e := run_sh (n := 0) (k := 0) (rest := []) (suf := ths) (pre := []) ok
    rw [List.append_nil] at e
    have hl : 1 ≤ ths.length := by
      cases ths with
      | nil => exact absurd rfl c
      | cons a b => simp
    rw [show st0 = ⟨[], [], false, false⟩ from rfl, e, run, Nat.max_eq_right hl, Nat.zero_add]
    rfl
/-- a bad thing -/
theorem flt_bad_sh {ths : List Th} {tss : List (List Ins)} {semi : List Ln} {k : Nat} {l : Ln} {w : Str} (g : PrG ths tss) (hs : ∀ l ∈ semi, LineOk l) (hl : semi.length ≤ 1) (hk : k ≤ ths.length) (b : BadS (ths.take k) l w) : Flt ((prL ths tss).take k ++ l :: (prL ths tss).drop k ++ semi) k w := by
  have ok1 := prL_ok g.sh g.ok
  refine ⟨fun x hx => ?_, by simp, ?_, ?_, b.nok⟩
  · rw [List.append_assoc, List.cons_append] at hx
    rcases List.mem_append.mp hx with hx | hx
    · exact ok1 x (List.mem_of_mem_take hx)
    · rcases List.mem_cons.mp hx with rfl | hx
      · exact b.ok
      · rcases List.mem_append.mp hx with hx | hx
        · exact ok1 x (List.mem_of_mem_drop hx)
        · exact hs x hx
  · have := prL_len g.sh g.ok
    have := g.n2
    simp only [List.length_append, List.length_cons, List.length_take, List.length_drop]
    omega
  · have e : (prL ths tss).take k = (ths.take k).map thT := by
      unfold prL
      rw [List.take_append_of_le_length (by rw [List.length_map]; exact hk), List.map_take]
    rw [e, List.append_assoc, show st0 = ⟨[], [], false, false⟩ from rfl, run_sh (suf := ths.take k) (pre := []) (g.sh.take k), List.nil_append, List.cons_append, run_bad b.ne b.nt (b.st _ _ _), List.length_take, Nat.zero_add, Nat.min_eq_left hk]
end K10
set_option linter.all false
set_option maxRecDepth 100000
set_option maxHeartbeats 4000000
namespace K10
open PySem PySem.Spec PyProof.Rows L2
theorem cnt_le {ths : List Th} {tss : List (List Ins)} {semi : List Ln} (hl : semi.length ≤ 1) : cnt (tss.flatMap thrL ++ semi) ≤ 1 := by
  cases tss with
  | nil =>
    rw [List.flatMap_nil, List.nil_append]
    unfold cnt
    exact Nat.le_trans (List.length_filter_le _ _) (Nat.le_trans (List.takeWhile_sublist _).length_le hl)
  | cons a b =>
    rw [List.flatMap_cons, show thrL a = thr :: a.map inT from rfl, List.cons_append, List.cons_append, cnt_thr]
    exact Nat.zero_le _
/-- into a thread -/
theorem run_to {ths : List Th} {pre : List (List Ins)} {is : List Ins} {j : Nat} {rest : List Ln} {st : Nat → Bool} (ok : ShOk ths) (gp : ∀ x ∈ pre, ThrG ths x) (hp : pre.length ≤ 3) (g : ThrG ths is) (hj : j ≤ is.length) (h0 : st 0 = false) (ha : ∀ (j : Nat) (i : Ins), is[j]? = some i → altS i (st j) (st (j + 1))) (hn : is.length ≤ j + cnt rest) :
    run 0 0 st0 (prL ths pre ++ thr :: ((is.take j).map inT ++ rest)) = run ((prL ths pre).length + 1 + j) (j + cnt rest) ⟨ths, pre.map List.length ++ [j], st j, false⟩ rest := by
  obtain ⟨n', e⟩ := run_pr (rest := thr :: ((is.take j).map inT ++ rest)) ok gp (by omega)
  have lt : (is.take j).length = j := by rw [List.length_take, Nat.min_eq_left hj]
  have gt : ∀ i ∈ is.take j, InsG ths is.length i ∨ i = bgI ∨ i = enI := fun i hi => g.ok i (List.mem_of_mem_take hi)
  have e2 := run_ins (rest := rest) (u := false) (tm := pre.map List.length) (n := j + cnt rest) ok g.n2 hn (is := is.take j) (c := 0) (k := (prL ths pre).length + 1) (st := st) gt (by have := g.n2; omega) (fun q i hq => by
    have hq2 : q < j := by
      have := (List.getElem?_eq_some_iff.mp hq).1
      omega
    rw [List.getElem?_take_of_lt hq2] at hq
    exact ha q i hq)
  rw [h0, lt, Nat.zero_add] at e2
  rw [e, run_thr (by rw [List.length_map]; omega), cnt_app (body_ne ok g.n2 gt), List.length_map, lt, e2]
theorem prL_cut {ths : List Th} {pre post : List (List Ins)} {is : List Ins} (j : Nat) (hj : j ≤ is.length) : prL ths (pre ++ is :: post) = (prL ths pre ++ thr :: (is.take j).map inT) ++ ((is.drop j).map inT ++ post.flatMap thrL) ∧ (prL ths pre ++ thr :: (is.take j).map inT).length = (prL ths pre).length + 1 + j := by
  constructor
  · have e : is.map inT = (is.take j).map inT ++ (is.drop j).map inT := by rw [← List.map_append, List.take_append_drop]
    unfold prL
    rw [List.flatMap_append, List.flatMap_cons, show thrL is = thr :: is.map inT from rfl, e]
    simp only [List.append_assoc, List.cons_append]
  · rw [List.length_append, List.length_cons, List.length_map, List.length_take, Nat.min_eq_left hj]
    omega
/-- a bad line within a thread -/
theorem flt_mid {ths : List Th} {tss pre post : List (List Ins)} {is : List Ins} {j : Nat} {semi : List Ln} {l : Ln} {w : Str} {st : Nat → Bool} (g : PrG ths tss) (e : tss = pre ++ is :: post) (hj : j ≤ is.length) (hs : ∀ l ∈ semi, LineOk l) (hl : semi.length ≤ 1)
    (h0 : st 0 = false) (ha : ∀ (j : Nat) (i : Ins), is[j]? = some i → altS i (st j) (st (j + 1)))
    (b1 : LineOk l) (b2 : l ≠ []) (b3 : l ≠ thr) (b4 : w ≠ "ok") (b5 : ∀ n, n < is.length + 3 → step n ⟨ths, pre.map List.length ++ [j], st j, false⟩ l = .error w) :
    Flt ((prL ths tss).take ((prL ths pre).length + 1 + j) ++ l :: (prL ths tss).drop ((prL ths pre).length + 1 + j) ++ semi) ((prL ths pre).length + 1 + j) w := by
  have ok1 := prL_ok g.sh g.ok
  refine ⟨fun x hx => ?_, by simp, ?_, ?_, b4⟩
  · rw [List.append_assoc, List.cons_append] at hx
    rcases List.mem_append.mp hx with hx | hx
    · exact ok1 x (List.mem_of_mem_take hx)
    · rcases List.mem_cons.mp hx with rfl | hx
      · exact b1
      · rcases List.mem_append.mp hx with hx | hx
        · exact ok1 x (List.mem_of_mem_drop hx)
        · exact hs x hx
  · have := prL_len g.sh g.ok
    have := g.n2
    simp only [List.length_append, List.length_cons, List.length_take, List.length_drop]
    omega
  · obtain ⟨c1, c2⟩ := prL_cut (ths := ths) (pre := pre) (post := post) (is := is) j hj
    rw [← e] at c1
    have gis : ThrG ths is := g.ok is (by rw [e]; simp)
    have gp : ∀ x ∈ pre, ThrG ths x := fun x hx => g.ok x (by rw [e]; exact List.mem_append_left _ hx)
    have hp : pre.length ≤ 3 := by have := g.n2; rw [e, List.length_append, List.length_cons] at this; omega
    have gd : ∀ i ∈ is.drop j, InsG ths is.length i ∨ i = bgI ∨ i = enI := fun i hi => gis.ok i (List.mem_of_mem_drop hi)
    have cn : cnt (l :: ((is.drop j).map inT ++ post.flatMap thrL) ++ semi) = 1 + (is.length - j) + cnt (post.flatMap thrL ++ semi) := by
      have := cnt_app (a := l :: (is.drop j).map inT) (r := post.flatMap thrL ++ semi) (fun x hx => by
        rcases List.mem_cons.mp hx with rfl | hx
        · exact ⟨b2, b3⟩
        · exact body_ne g.sh gis.n2 gd x hx)
      rw [List.length_cons, List.length_map, List.length_drop] at this
      rw [List.cons_append, List.append_assoc, ← List.cons_append, this]
      omega
    have cl := cnt_le (ths := ths) (tss := post) hl
    have e2 := run_to (rest := l :: ((is.drop j).map inT ++ post.flatMap thrL) ++ semi) g.sh gp hp gis hj h0 ha (by rw [cn]; omega)
    rw [c1, List.take_left' c2, List.drop_left' c2, List.append_assoc, List.append_assoc, List.cons_append, e2, List.cons_append, run_bad b2 b3 (b5 _ (by rw [← List.cons_append, cn]; omega))]
theorem h9_of {ths : List Th} (h : ∀ t ∈ ths, NmOk (thN t)) {x : Str} (hx : x = "zzzzzzz9" ∨ x = "zzzzzzz8" ∨ (∃ c, x.cps.toList[5]? = some c ∧ (c = 122 ∨ c = 113))) : x ∉ ths.map thN := fun hm => by
  obtain ⟨t, ht, e⟩ := List.mem_map.mp hm
  have := (h t ht).five
  rw [e] at this
  rcases hx with rfl | rfl | ⟨c, h1, h2⟩
  · exact (this 122 (by decide +kernel)).1 rfl
  · exact (this 122 (by decide +kernel)).1 rfl
  · rcases h2 with rfl | rfl
    · exact (this _ h1).1 rfl
    · exact (this _ h1).2 rfl
theorem flt_bad_in {ths : List Th} {tss pre post : List (List Ins)} {is : List Ins} {j : Nat} {semi : List Ln} {l : Ln} {w : Str} (g : PrG ths tss) (e : tss = pre ++ is :: post) (hj : j ≤ is.length) (hs : ∀ l ∈ semi, LineOk l) (hl : semi.length ≤ 1) (b : BadI is.length l w) :
    Flt ((prL ths tss).take ((prL ths pre).length + 1 + j) ++ l :: (prL ths tss).drop ((prL ths pre).length + 1 + j) ++ semi) ((prL ths pre).length + 1 + j) w := by
  obtain ⟨st, h0, _, ha⟩ := (g.ok is (by rw [e]; simp)).alt
  exact flt_mid g e hj hs hl h0 ha b.ok b.ne b.nt b.nok fun n hn => b.st _ n (by simp) (kindOf_none (h9_of g.sh.nm (.inl rfl))) hn
/-! ### begin and end -/
def insK : Ins → Str
  | .two k _ => k
  | .three k _ _ => k
  | .xt k _ _ => k
  | .check _ => "check"
  | .go _ => "go"
  | .goIf _ _ => "go"
  | .one k => k
theorem insK_of {ths : List Th} {n : Nat} {i : Ins} (h : InsG ths n i ∨ i = bgI ∨ i = enI) : (insK i = "begin" ↔ i = bgI) ∧ (insK i = "end" ↔ i = enI) := by
  have fin : ∀ k : Str, k ∈ twoK ++ threeK ++ (("let" : Str) :: putK) ++ (["check", "go", "stop"] : List Str) → k ≠ "begin" ∧ k ≠ "end" := by decide +kernel
  rcases h with h | rfl | rfl
  · have hk : insK i ∈ twoK ++ threeK ++ (("let" : Str) :: putK) ++ (["check", "go", "stop"] : List Str) := by
      cases i with
      | two k x => exact List.mem_append_left _ (List.mem_append_left _ (List.mem_append_left _ h.1))
      | three k r x => exact List.mem_append_left _ (List.mem_append_left _ (List.mem_append_right _ h.1))
      | xt k x t =>
        refine List.mem_append_left _ (List.mem_append_right _ ?_)
        rcases h.2 with ⟨rfl, _⟩ | ⟨h, _⟩
        · exact List.mem_cons_self ..
        · exact List.mem_cons_of_mem _ h
      | check t => exact List.mem_append_right _ (by simp [insK])
      | go m => exact List.mem_append_right _ (by simp [insK])
      | goIf m t => exact List.mem_append_right _ (by simp [insK])
      | one k => exact List.mem_append_right _ (by rw [show k = "stop" from h]; simp [insK])
    exact ⟨⟨fun z => absurd z (fin _ hk).1, fun z => absurd z h.ne.1⟩, ⟨fun z => absurd z (fin _ hk).2, fun z => absurd z h.ne.2⟩⟩
  · exact ⟨⟨fun _ => rfl, fun _ => rfl⟩, ⟨fun z => absurd z (by decide +kernel), fun z => absurd z bg_en⟩⟩
  · exact ⟨⟨fun z => absurd z (by decide +kernel), fun z => absurd z.symm bg_en⟩, ⟨fun _ => rfl, fun _ => rfl⟩⟩
def cK (k : Str) (is : List Ins) : Nat := (is.filter fun i => decide (insK i = k)).length
theorem cK_cons (k : Str) (i : Ins) (is : List Ins) : cK k (i :: is) = (if insK i = k then 1 else 0) + cK k is := by
  unfold cK
  rw [List.filter_cons]
  by_cases c : insK i = k
  · rw [if_pos (decide_eq_true c), if_pos c, List.length_cons]
    omega
  · rw [if_neg (by rw [decide_eq_false c]; exact Bool.false_ne_true), if_neg c]
    omega
theorem alt_cnt {ths : List Th} {n : Nat} : ∀ {is : List Ins} {st : Nat → Bool}, (∀ i ∈ is, InsG ths n i ∨ i = bgI ∨ i = enI) → (∀ (j : Nat) (i : Ins), is[j]? = some i → altS i (st j) (st (j + 1))) → cK "begin" is + (if st 0 = true then 1 else 0) = cK "end" is + (if st is.length = true then 1 else 0)
  | [], st, _, _ => rfl
  | i :: is, st, hg, ha => by
    have ih := alt_cnt (is := is) (st := fun j => st (j + 1)) (fun j hj => hg j (List.mem_cons_of_mem _ hj)) (fun j x hj => ha (j + 1) x hj)
    have h0 := ha 0 i rfl
    obtain ⟨kb, ke⟩ := insK_of (hg i (List.mem_cons_self ..))
    rw [cK_cons, cK_cons, List.length_cons]
    simp only [Nat.zero_add] at h0 ih
    rcases h0 with ⟨rfl, a, b⟩ | ⟨rfl, a, b⟩ | ⟨n1, n2, b⟩
    · rw [if_pos (kb.mpr rfl), if_neg (fun z => bg_en (ke.mp z)), a]
      rw [b] at ih
      simp only [if_true, Bool.false_eq_true, if_false] at ih ⊢
      omega
    · rw [if_neg (fun z => bg_en (kb.mp z).symm), if_pos (ke.mpr rfl), a]
      rw [b] at ih
      simp only [if_true, Bool.false_eq_true, if_false] at ih ⊢
      omega
    · rw [if_neg (fun z => n1 (kb.mp z)), if_neg (fun z => n2 (ke.mp z))]
      rw [b] at ih
      omega
def opnB (is : List Ins) (j : Nat) : Bool := decide (cK "end" (is.take j) < cK "begin" (is.take j))
/-- a begin within a block, an end without -/
theorem flt_block {ths : List Th} {tss pre : List (List Ins)} {is : List Ins} {j : Nat} {semi : List Ln} (g : PrG ths tss) (e : tss = pre ++ [is]) (hj : j ≤ is.length) (hs : ∀ l ∈ semi, LineOk l) (hl : semi.length ≤ 1) :
    Flt ((prL ths tss).take ((prL ths pre).length + 1 + j) ++ [W (if opnB is j = true then "begin" else "end")] :: (prL ths tss).drop ((prL ths pre).length + 1 + j) ++ semi) ((prL ths pre).length + 1 + j) "block" := by
  have gis : ThrG ths is := g.ok is (by rw [e]; simp)
  obtain ⟨st, h0, _, ha⟩ := gis.alt
  have lt : (is.take j).length = j := by rw [List.length_take, Nat.min_eq_left hj]
  have c := alt_cnt (is := is.take j) (st := st) (fun i hi => gis.ok i (List.mem_of_mem_take hi)) (fun q i hq => by
    have hq2 : q < j := by
      have := (List.getElem?_eq_some_iff.mp hq).1
      omega
    rw [List.getElem?_take_of_lt hq2] at hq
    exact ha q i hq)
  rw [h0, lt] at c
  simp only [Bool.false_eq_true, if_false] at c
  have eo : opnB is j = st j := by
    unfold opnB
    by_cases q : st j = true
    · rw [q] at c ⊢
      rw [if_pos rfl] at c
      exact decide_eq_true (by omega)
    · rw [if_neg q] at c
      rw [Bool.eq_false_iff.mpr q]
      exact decide_eq_false (by omega)
  have blk : ∀ (b : Bool) (n : Nat), step n ⟨ths, pre.map List.length ++ [j], b, false⟩ [W (if b = true then "begin" else "end")] = .error "block" := fun b n => by
    have nl : ¬ (pre.map List.length ++ [j]).getLast? = some 12 := by
      rw [List.getLast?_concat]
      intro z
      have := Option.some.inj z
      have := gis.n2
      omega
    cases b
    · rw [if_neg Bool.false_ne_true, step_in (i := .ot "end") (by decide +kernel) (by decide +kernel) (by simp) (by kernel_rfl)]
      unfold addIns
      rw [if_neg (by show ¬ false = true; simp), if_neg (by show ¬ false = true; simp), if_neg nl, if_pos (show bBad false (.ot "end") = true by decide +kernel)]
    · rw [if_pos rfl, step_in (i := .ot "begin") (by decide +kernel) (by decide +kernel) (by simp) (by kernel_rfl)]
      unfold addIns
      rw [if_neg (by show ¬ false = true; simp), if_neg (by show ¬ false = true; simp), if_neg nl, if_pos (show bBad true (.ot "begin") = true by decide +kernel)]
  have lo : LineOk [W (if opnB is j = true then "begin" else "end")] ∧ [W (if opnB is j = true then "begin" else "end")] ≠ thr := by
    split
    · exact ⟨lineB_ok (by decide +kernel), by decide +kernel⟩
    · exact ⟨lineB_ok (by decide +kernel), by decide +kernel⟩
  exact flt_mid (post := []) g e hj hs hl h0 ha lo.1 (by simp) lo.2 (by decide +kernel) fun n _ => by rw [eo]; exact blk _ n
/-! ### too many -/
def stI : Ins := .one "stop"
theorem stG (ths : List Th) (n : Nat) : InsG ths n stI := rfl
theorem thr_st (ths : List Th) : ThrG ths [stI] := .plain (by decide) (by decide) fun i hi => by rw [List.mem_singleton.mp hi]; exact stG _ _
theorem flt_many1 {ths : List Th} {tss : List (List Ins)} {semi : List Ln} (g : PrG ths tss) (hs : ∀ l ∈ semi, LineOk l) (hl : semi.length ≤ 1) :
    Flt (prL ths tss ++ (List.replicate (5 - tss.length) [stI]).flatMap thrL ++ semi) ((prL ths tss).length + 2 * (5 - tss.length) - 2) "many" := by
  have h3 := g.n2
  obtain ⟨m, hm⟩ : ∃ m, 5 - tss.length = m + 1 := ⟨4 - tss.length, by omega⟩
  rw [hm]
  have gr : ∀ q, ∀ is ∈ tss ++ List.replicate q [stI], ThrG ths is := fun q is hi => by
    rcases List.mem_append.mp hi with hi | hi
    · exact g.ok is hi
    · rw [(List.mem_replicate.mp hi).2]
      exact thr_st ths
  have fl : ∀ q, ((List.replicate q [stI]).flatMap thrL).length = 2 * q := fun q => by
    induction q with
    | zero => rfl
    | succ q ih =>
      rw [List.replicate_succ, List.flatMap_cons, List.length_append, ih, show (thrL [stI]).length = 2 from rfl]
      omega
  refine ⟨fun x hx => ?_, fun z => ?_, ?_, ?_, by decide +kernel⟩
  · rcases List.mem_append.mp hx with hx | hx
    · have := prL_ok g.sh (gr (m + 1))
      unfold prL at this hx
      rw [List.flatMap_append, ← List.append_assoc] at this
      exact this x hx
    · exact hs x hx
  · have := congrArg List.length z
    simp only [List.length_append, fl, List.length_nil] at this
    omega
  · have := prL_len g.sh g.ok
    rw [List.length_append, List.length_append, fl]
    omega
  · have e : prL ths tss ++ (List.replicate (m + 1) [stI]).flatMap thrL ++ semi = prL ths (tss ++ List.replicate m [stI]) ++ thr :: ([stI].map inT ++ semi) := by
      rw [List.replicate_succ']
      unfold prL
      rw [List.flatMap_append, List.flatMap_append]
      simp only [List.append_assoc, List.flatMap_cons, List.flatMap_nil, List.append_nil]
      rfl
    obtain ⟨n', e2⟩ := run_pr (rest := thr :: ([stI].map inT ++ semi)) g.sh (gr m) (by rw [List.length_append, List.length_replicate]; omega)
    rw [e, e2, run_thr4 (by rw [List.length_map, List.length_append, List.length_replicate]; omega)]
    have : (prL ths (tss ++ List.replicate m [stI])).length = (prL ths tss).length + 2 * m := by
      unfold prL
      rw [List.flatMap_append, List.length_append, List.length_append, List.length_append, fl]
      omega
    rw [this]
    exact Prod.ext (by show _ = _; omega) rfl
theorem flt_many2 {ths : List Th} {tss pre : List (List Ins)} {is : List Ins} {semi : List Ln} (g : PrG ths tss) (e : tss = pre ++ [is]) (hs : ∀ l ∈ semi, LineOk l) (hl : semi.length ≤ 1) :
    Flt (prL ths tss ++ List.replicate (13 - is.length) [W "stop"] ++ semi) ((prL ths pre).length + 1 + 12) "many" := by
  have gis : ThrG ths is := g.ok is (by rw [e]; simp)
  have gp : ∀ x ∈ pre, ThrG ths x := fun x hx => g.ok x (by rw [e]; exact List.mem_append_left _ hx)
  have h11 := gis.n2
  have h3 := g.n2
  have hp : pre.length ≤ 3 := by rw [e, List.length_append, List.length_singleton] at h3; omega
  obtain ⟨m, hm⟩ : ∃ m, 13 - is.length = m + 1 := ⟨12 - is.length, by omega⟩
  rw [hm]
  have sl : LineOk [W "stop"] := lineB_ok (by decide +kernel)
  refine ⟨fun x hx => ?_, by simp, ?_, ?_, by decide +kernel⟩
  · rcases List.mem_append.mp hx with hx | hx
    · rcases List.mem_append.mp hx with hx | hx
      · exact prL_ok g.sh g.ok x hx
      · rw [(List.mem_replicate.mp hx).2]
        exact sl
    · exact hs x hx
  · have := prL_len g.sh g.ok
    rw [List.length_append, List.length_append, List.length_replicate]
    omega
  · obtain ⟨st, h0, h1, ha⟩ := gis.alt
    have ea : prL ths tss ++ List.replicate (m + 1) [W "stop"] ++ semi = prL ths pre ++ thr :: ((is.take is.length).map inT ++ ((List.replicate m stI).map inT ++ ([W "stop"] :: semi))) := by
      rw [e, List.replicate_succ', List.take_length, List.map_replicate]
      unfold prL
      rw [List.flatMap_append, List.flatMap_cons, List.flatMap_nil, List.append_nil, show thrL is = thr :: is.map inT from rfl, show inT stI = [W "stop"] from rfl]
      simp only [List.append_assoc, List.cons_append, List.nil_append]
    have e2 := run_to (rest := (List.replicate m stI).map inT ++ ([W "stop"] :: semi)) g.sh gp hp gis (Nat.le_refl _) h0 ha (Nat.le_add_right _ _)
    have e3 := run_ins (rest := [W "stop"] :: semi) (u := false) (tm := pre.map List.length) (n := is.length + cnt ((List.replicate m stI).map inT ++ ([W "stop"] :: semi))) (N := 0) g.sh (Nat.zero_le _) (Nat.zero_le _) (is := List.replicate m stI) (c := is.length) (k := (prL ths pre).length + 1 + is.length) (st := fun _ => false) (fun i hi => by
      rw [(List.mem_replicate.mp hi).2]
      exact .inl (stG _ _)) (by rw [List.length_replicate]; omega) (fun j i hj => by
      have hi := List.mem_of_getElem? hj
      rw [(List.mem_replicate.mp hi).2]
      exact .inr (.inr ⟨by show stI ≠ bgI; exact (stG ths 0).ne.1, (stG ths 0).ne.2, rfl⟩))
    rw [List.length_replicate, show is.length + m = 12 by omega] at e3
    rw [ea, e2, h1, e3, run_bad (w := "many") (by decide +kernel) (by decide +kernel) ?_]
    · exact Prod.ext (by show _ = _; omega) rfl
    · rw [step_in (i := .ot "stop") (by decide +kernel) (by decide +kernel) (by simp) (by kernel_rfl)]
      unfold addIns
      rw [if_neg (by show ¬ false = true; simp), if_neg (by show ¬ false = true; simp), if_pos (List.getLast?_concat ..)]
def lqN (k : Nat) : Str := Str.ofString ("qqqqqqq" ++ toString k)
def lq (k : Nat) : Th := .lock (lqN k)
theorem lq_fin : ∀ k < 7, (lineB (thT (lq k)) && !isBad (thT (lq k)) && decide (thT (lq k) ≠ []) && decide (thT (lq k) ≠ thr) && isNm (lqN k) && decide ((lqN k).cps.toList[5]? = some 113) && (List.range k).all fun j => !decide (lqN j = lqN k)) = true := by decide +kernel
theorem run_lq {ths : List Th} {n : Nat} {rest : List Ln} (ok : ShOk ths) : ∀ {m a k : Nat}, ths.length + a + m ≤ 6 → run k n ⟨ths ++ (List.range a).map lq, [], false, false⟩ ((List.range' a m).map (fun j => thT (lq j)) ++ rest) = run (k + m) n ⟨ths ++ (List.range (a + m)).map lq, [], false, false⟩ rest
  | 0, a, k, _ => rfl
  | m + 1, a, k, h => by
    have f := lq_fin a (by omega)
    simp only [Bool.and_eq_true, Bool.not_eq_true', decide_eq_true_eq, List.all_eq_true, decide_eq_false_iff_not, List.mem_range] at f
    obtain ⟨⟨⟨⟨⟨⟨f1, f2⟩, f3⟩, f4⟩, f5⟩, f6⟩, f7⟩ := f
    have kn : kindOf (ths ++ (List.range a).map lq) (lqN a) = none := kindOf_none fun hm => by
      rw [List.map_append] at hm
      rcases List.mem_append.mp hm with q | q
      · exact h9_of ok.nm (.inr (.inr ⟨113, f6, .inr rfl⟩)) q
      · rw [List.map_map] at q
        obtain ⟨j, hj, ej⟩ := List.mem_map.mp q
        exact f7 j (List.mem_range.mp hj) ej
    rw [List.range'_succ, List.map_cons, List.cons_append, run_ok (n' := n) (st' := ⟨ths ++ (List.range (a + 1)).map lq, [], false, false⟩) f3 f4 ?_, run_lq ok (m := m) (a := a + 1) (by omega), show k + 1 + m = k + (m + 1) by omega, show a + 1 + m = a + (m + 1) by omega]
    rw [step_sh f2 f4 rfl (thB_sh (t := lq a) trivial)]
    unfold addSh
    rw [if_neg (show ¬ (isNm (thN (lq a)) = false ∨ kindOf (ths ++ (List.range a).map lq) (thN (lq a)) ≠ none) from fun z => z.elim (fun z => by rw [show isNm (thN (lq a)) = true from f5] at z; cases z) (fun z => z kn)), if_neg (show ¬ cBad (ths ++ (List.range a).map lq) (lq a) = true from Bool.false_ne_true), if_neg (show ¬ qBad (lq a) = true from Bool.false_ne_true)]
    rw [if_neg (show ¬ (ths ++ (List.range a).map lq).length = 6 by rw [List.length_append, List.length_map, List.length_range]; omega), List.range_succ, List.map_append, ← List.append_assoc]
    rfl
theorem flt_many0 {ths : List Th} {tss : List (List Ins)} {semi : List Ln} (g : PrG ths tss) (hs : ∀ l ∈ semi, LineOk l) (hl : semi.length ≤ 1) :
    Flt ((prL ths tss).take ths.length ++ (List.range (7 - ths.length)).map (fun j => thT (lq j)) ++ (prL ths tss).drop ths.length ++ semi) 6 "many" := by
  have h6 := g.sh.le
  obtain ⟨m, hm⟩ : ∃ m, 7 - ths.length = m + 1 := ⟨6 - ths.length, by omega⟩
  rw [hm]
  have ok1 := prL_ok g.sh g.ok
  have e1 : (prL ths tss).take ths.length = ths.map thT := by
    unfold prL
    exact List.take_left' (List.length_map ..)
  refine ⟨fun x hx => ?_, fun z => ?_, ?_, ?_, by decide +kernel⟩
  · rcases List.mem_append.mp hx with hx | hx
    · rcases List.mem_append.mp hx with hx | hx
      · rcases List.mem_append.mp hx with hx | hx
        · exact ok1 x (List.mem_of_mem_take hx)
        · obtain ⟨j, hj, rfl⟩ := List.mem_map.mp hx
          have f := lq_fin j (by have := List.mem_range.mp hj; omega)
          simp only [Bool.and_eq_true] at f
          exact lineB_ok f.1.1.1.1.1.1
      · exact ok1 x (List.mem_of_mem_drop hx)
    · exact hs x hx
  · have := congrArg List.length z
    simp only [List.length_append, List.length_map, List.length_range, List.length_nil] at this
    omega
  · have := prL_len g.sh g.ok
    have := g.n2
    simp only [List.length_append, List.length_map, List.length_range, List.length_take, List.length_drop]
    omega
  · have f := lq_fin m (by omega)
    simp only [Bool.and_eq_true, Bool.not_eq_true', decide_eq_true_eq, List.all_eq_true, decide_eq_false_iff_not, List.mem_range] at f
    obtain ⟨⟨⟨⟨⟨⟨f1, f2⟩, f3⟩, f4⟩, f5⟩, f6⟩, f7⟩ := f
    have kn : kindOf (ths ++ (List.range m).map lq) (lqN m) = none := kindOf_none fun hm => by
      rw [List.map_append] at hm
      rcases List.mem_append.mp hm with q | q
      · exact h9_of g.sh.nm (.inr (.inr ⟨113, f6, .inr rfl⟩)) q
      · rw [List.map_map] at q
        obtain ⟨j, hj, ej⟩ := List.mem_map.mp q
        exact f7 j (List.mem_range.mp hj) ej
    have e2 := run_lq (n := 0) (rest := thT (lq m) :: ((prL ths tss).drop ths.length ++ semi)) g.sh (m := m) (a := 0) (k := ths.length) (by omega)
    rw [List.range_zero, List.map_nil, List.append_nil, Nat.zero_add, ← List.range_eq_range'] at e2
    have e3 : (List.range (m + 1)).map (fun j => thT (lq j)) = (List.range m).map (fun j => thT (lq j)) ++ [thT (lq m)] := by rw [List.range_succ, List.map_append]; rfl
    rw [e1, e3, show st0 = ⟨[], [], false, false⟩ from rfl]
    simp only [List.append_assoc, List.cons_append, List.nil_append]
    rw [run_sh (suf := ths) (pre := []) g.sh, List.nil_append, Nat.zero_add, e2, run_bad (w := "many") f3 f4 ?_, show ths.length + m = 6 by omega]
    rw [step_sh f2 f4 rfl (thB_sh (t := lq m) trivial)]
    unfold addSh
    rw [if_neg (show ¬ (isNm (thN (lq m)) = false ∨ kindOf (ths ++ (List.range m).map lq) (thN (lq m)) ≠ none) from fun z => z.elim (fun z => by rw [show isNm (thN (lq m)) = true from f5] at z; cases z) (fun z => z kn)), if_neg (show ¬ cBad (ths ++ (List.range m).map lq) (lq m) = true from Bool.false_ne_true), if_neg (show ¬ qBad (lq m) = true from Bool.false_ne_true)]
    rw [if_pos (show (ths ++ (List.range m).map lq).length = 6 by rw [List.length_append, List.length_map, List.length_range]; omega)]
end K10
set_option linter.all false
set_option maxRecDepth 100000
set_option maxHeartbeats 4000000
namespace K10
open PySem PySem.Spec PyProof.Rows L2
section
variable {P : Program} {w : World} {K : PySem.W.Frag} {mg : Str → Option Value} {base : Heap} {Ax : Ad}
local macro_rules | `(tactic| walk_at "wp") => `(tactic| simp only [tVar, tC, tOp, rI0, rI, rU, tUn, rEq, rNe, tTest, tB, tAnd, tOr, tNot, tAndV, tOrV, tNotV, tIf, tSeq, tNext, tAsg, gName, gSub, tDrop, tRet, tRetN, tIfS, tBreak, tCont, tAug, ipI, tCB, tCons, tNil,
  xTup, xLst, xIxL, xIxT, xIxS, xIxK, xLenL, xLenT, xLenS, xLenK, xSlL, xSlT, xSlS, xInL, xInT, xInK, xCat, xRep, xCatT, xTupL, xSetL, xIntS, xIntI, xIntB, xApp, xJoin, xSplit, xFld, xSetF, xAugF, tSl, tPart, tNoPart, xCall, xMeth, xMeth0, xMake, xRaise, xgT, xgL, gCons, gNil, xInD, xIxD, C8.tCut, xIsi, for_r1, for_r2, for_l, for_t, for_e, lc_xl, lc_xt, lc_xr, tM0, S,
  exists_eq_left, exists_eq_left', exists_and_left, V.int.injEq, V.ref.injEq, V.str.injEq, V.bl.injEq, consV, Option.some.injEq, HO.lst.injEq, HO.tup.injEq, HO.ins.injEq, and_true, true_and, List.getElem?_cons_zero, List.getElem?_cons_succ, List.set_cons_zero, List.set_cons_succ,
  if_true, if_false, Bool.false_eq_true, and_assoc, V.ty.injEq, isbI, isbS, kb1, kb2, kb3, kb4, kb5, kb6, kb7, kb8, kb9, reduceCtorEq, decide_false, decide_true, decide_eq_true_eq, Bool.not_eq_true', decide_eq_false_iff_not, Bool.not_true, Bool.not_false, ite_not, at0, at1, at2, at3, at4, ix0, ix1, fl_int, fl_str, fl_bl, fl_non, al_nil, al_cons, lenNil, len1, len2, len3, len4, sc_ii, sc_ss, sc_ns, sc_sn, sc_nn, sc_in, sc_si, sc_is, sc_bb, st_go])
local macro_rules | `(tactic| walk_at "wf") => `(tactic| simp only [*,
  exists_eq_left, exists_eq_left', exists_and_left, V.int.injEq, V.ref.injEq, V.str.injEq, V.bl.injEq, consV, Option.some.injEq, HO.lst.injEq, HO.tup.injEq, HO.ins.injEq, and_true, true_and, List.getElem?_cons_zero, List.getElem?_cons_succ, List.set_cons_zero, List.set_cons_succ,
  if_true, if_false, Bool.false_eq_true, and_assoc, V.ty.injEq, isbI, isbS, kb1, kb2, kb3, kb4, kb5, kb6, kb7, kb8, kb9, reduceCtorEq, decide_false, decide_true, decide_eq_true_eq, Bool.not_eq_true', decide_eq_false_iff_not, Bool.not_true, Bool.not_false, ite_not, at0, at1, at2, at3, at4, ix0, ix1, fl_int, fl_str, fl_bl, fl_non, al_nil, al_cons, lenNil, len1, len2, len3, len4, sc_ii, sc_ss, sc_ns, sc_sn, sc_nn, sc_in, sc_si, sc_is, sc_bb, st_go])
local macro_rules | `(tactic| walk_at "len") => `(tactic| (refine le_line ?_; simp only [List.length_cons, List.length_nil, List.length_append, List.length_map, List.map_nil, List.map_cons] <;> omega))
/-! ### _law_lines -/
def Rl (p : Addr) (H : Hp) (v : V) (ws : List Str) : Prop := ∃ a, v = .ref a ∧ a ≠ p ∧ H a = some (.lst (ws.map V.str))
def Rls (p : Addr) (H : Hp) (vs : List V) (wss : List (List Str)) : Prop := vs.length = wss.length ∧ ∀ (i : Nat) (v : V) (ws : List Str), vs[i]? = some v → wss[i]? = some ws → Rl p H v ws
theorem Rls.nil {p : Addr} {H : Hp} : Rls p H [] [] := ⟨rfl, fun i v ws h => by simp at h⟩
theorem Rls.on {p : Addr} {H H' : Hp} {vs : List V} {wss : List (List Str)} (r : Rls p H vs wss) (s : ∀ a o, a ≠ p → H a = some o → H' a = some o) : Rls p H' vs wss := ⟨r.1, fun i v ws h1 h2 => by
  obtain ⟨a, h3, h4, h5⟩ := r.2 i v ws h1 h2
  exact ⟨a, h3, h4, s a _ h4 h5⟩⟩
theorem Rls.snoc {p : Addr} {H : Hp} {vs : List V} {wss : List (List Str)} {v : V} {ws : List Str} (r : Rls p H vs wss) (q : Rl p H v ws) : Rls p H (vs ++ [v]) (wss ++ [ws]) := by
  refine ⟨by rw [List.length_append, List.length_append, r.1]; rfl, fun i x ys h1 h2 => ?_⟩
  by_cases c : i < vs.length
  · rw [List.getElem?_append_left c] at h1
    rw [List.getElem?_append_left (by rw [← r.1]; exact c)] at h2
    exact r.2 i x ys h1 h2
  · have hi : i = vs.length := by
      have := (List.getElem?_eq_some_iff.mp h1).1
      rw [List.length_append, List.length_singleton] at this
      omega
    subst hi
    rw [List.getElem?_append_right (Nat.le_refl _), Nat.sub_self] at h1
    rw [List.getElem?_append_right (by rw [r.1]; exact Nat.le_refl _), r.1, Nat.sub_self] at h2
    cases Option.some.inj h1
    cases Option.some.inj h2
    exact q
/-- at p: lists of words, laid behind H0 -/
structure WsI (p : Addr) (H0 : Hp) (wss : List (List Str)) (H : Hp) : Prop where
  fr : H0 p = none
  sm : Same H0 H
  at_ : ∃ vs, H p = some (.lst vs) ∧ Rls p H vs wss
theorem WsI.same {p : Addr} {H0 H H' : Hp} {wss : List (List Str)} (h : WsI p H0 wss H) (s : Same H H') : WsI p H0 wss H' := by
  obtain ⟨vs, h1, h2⟩ := h.at_
  exact ⟨h.fr, h.sm.trans s, vs, s _ _ h1, h2.on fun a o _ e => s a o e⟩
theorem WsI.app {p a : Addr} {H0 H H' : Hp} {wss : List (List Str)} {vs : List V} {ws : List Str} (h : WsI p H0 wss H) (hp : H p = some (.lst vs)) (ha : H a = some (.lst (ws.map V.str))) (ne : a ≠ p) (g : Chg p (.lst (vs ++ [.ref a])) H H') : WsI p H0 (wss ++ [ws]) H' := by
  obtain ⟨vs', h1, h2⟩ := h.at_
  rw [hp] at h1
  cases h1
  refine ⟨h.fr, fun b o e => g.kp b o (ne_of_none e h.fr) (h.sm b o e), _, g.at_, ?_⟩
  exact (h2.on (H' := H') fun b o n e => g.kp b o n e).snoc ⟨a, rfl, ne, g.kp a _ ne ha⟩
theorem thW_of {ths : List Th} (ok : ShOk ths) {i : Nat} {t : Th} (h : ths[i]? = some t) : ThW t := by
  have g := ok.ok i t h
  cases t with
  | var n v => exact g
  | lock n => trivial
  | cond n l => trivial
  | queue n k =>
    have g' : 1 ≤ k ∧ k ≤ 3 := g
    exact ⟨by omega, by omega⟩
theorem inW_of {ths : List Th} {n : Nat} {i : Ins} (hn : n ≤ 11) (h : InsG ths n i ∨ i = bgI ∨ i = enI) : InW i := by
  rcases h with h | rfl | rfl
  · cases i with
    | two k x => exact h.1
    | three k r x => exact h.1
    | xt k x t => exact ⟨h.2.imp (fun z => z.1) (fun z => z.1), h.1⟩
    | check t => exact h
    | go m => exact ⟨h.1, by have := h.2; omega⟩
    | goIf m t => exact ⟨h.1, by have := h.2.1; omega, h.2.2⟩
    | one k => exact .inl h
  · exact .inr (.inl rfl)
  · exact .inr (.inr rfl)
def wsTh (is : List Ins) : List (List Str) := ["thread"] :: is.map inW
def wsPr (ths : List Th) (tss : List (List Ins)) : List (List Str) := ths.map thW ++ tss.flatMap wsTh
theorem wsTh_len (is : List Ins) : (wsTh is).length = is.length + 1 := by unfold wsTh; rw [List.length_cons, List.length_map]
theorem wsFlat_len {ths : List Th} : ∀ {tss : List (List Ins)}, (∀ is ∈ tss, ThrG ths is) → (tss.flatMap wsTh).length ≤ 12 * tss.length
  | [], _ => by simp
  | is :: tss, g => by
    have ih := wsFlat_len (tss := tss) fun x hx => g x (List.mem_cons_of_mem _ hx)
    have := (g is (List.mem_cons_self ..)).n2
    rw [List.flatMap_cons, List.length_append, wsTh_len, List.length_cons]
    omega
def spLines : Sp := fun vs H Q _ => ∃ (v : V) (ths : List Th) (tss : List (List Ins)), vs = [v] ∧ Rp H v (prD ths tss) ∧ PrG ths tss ∧ ∀ (p : Addr) (H' : Hp), WsI p H (wsPr ths tss) H' → Q (.ref p) H'
theorem ok_law_lines (F : Df K mg "_law_lines" s_law_lines ["_law_program_here"]) (T : Tx w K mg Ax) (G_law_line : Cl P w K mg base L2.CX0 4 "_law_line" spLine) : Cl P w K mg base L2.CX0 5 "_law_lines" spLines := by
  refine F.cl sc_law_lines (fun vs H Q E h => ?_) (fun f cdv A outer s H vs Q E hr h => ?_)
  · obtain ⟨_, _, _, rfl, _⟩ := h
    rfl
  · obtain ⟨v, ths, tss, rfl, rv, g, q⟩ := h
    obtain ⟨pp, x, y, rfl, hpp, r1, r2⟩ := Rp.t2 rv
    obtain ⟨p1, v1, rfl, h1, rs1⟩ := Rp.tup_inv r1
    obtain ⟨p2, v2, rfl, h2, rs2⟩ := Rp.tup_inv r2
    refine ⟨_, (pss_cons (ps_setLc (i := 1) (own := [("_law_thing", 2)]) (g := gName 2) rfl sc_law_lines.nd rfl rfl (sw_true rfl rfl rfl (by decide +kernel)) (pi_t (pe_ix ix_t (pv 0) pe_int (fun _ _ => rfl))) (blkOk_by (own := [("_law_thing", 2)]) (N := N_law_lines) (sc := defScope s_law_lines) (by decide +kernel)) (fun _ _ _ _ _ => pg_name (i := 2) sc_law_lines.nd rfl (Or.inl rfl)) (fun _ _ _ _ _ => pts_mo pts_nil) (fun _ _ _ _ _ => pe_mo (px_c G_law_line hr (by omega) (by rfl) (pa_cons (pv 2) pa_nil))))
  (pss_cons (ps_for PassesOwn.never rfl (pi_t (pe_ix ix_t (pv 0) pe_int (fun _ _ => rfl))) (pg_name (i := 3) sc_law_lines.nd rfl (Or.inl rfl))
    (pss_cons (ps_expr (px_app (pv 1) (px_lst (pa_cons pe_str pa_nil))))
  (pss_one (ps_for PassesOwn.never rfl (pi_t (pv 3)) (pg_name (i := 4) sc_law_lines.nd rfl (Or.inl rfl))
    (pss_one (ps_expr (px_app (pv 1) (px_c G_law_line hr (by omega) (by rfl) (pa_cons (pv 4) pa_nil)))))))))
  (pss_one (ps_ret (pv 1))))), ?_⟩
    rw [show L2.start N_law_lines [V.ref pp] = [some (.ref pp), none, none, none, none] from rfl]
    walk_at "wp"
    have wl : ∀ t : Th, (thW t).length ≤ 5 := fun t => by
      cases t with
      | var n v => simp only [thW]; split <;> simp
      | lock n => simp [thW]
      | cond n l => simp [thW]
      | queue n k => simp [thW]
    have bs := g.sh.le
    refine ⟨_, hpp, _, at0, p1, rfl, ⟨_, h1⟩, lc_t (xs := v1) (fun D i acc H' => WsI D H ((ths.take i).map thW) H' ∧ acc.length = i) (fun D H1 n => ⟨⟨n.fr, n.kp, [], n.at_, .nil⟩, rfl⟩) (by have := rs1.1; rw [List.length_map] at this; omega) (fun D i acc H' h => by omega) (fun D i acc H' _ h => SqT.of (h.1.sm _ _ h1)) (fun D i x acc H' hi hacc h => ⟨rfl, ?_⟩) (fun D acc H' nD hacc h => ?_)⟩
    · obtain ⟨wi, hl⟩ := h
      obtain ⟨d, hd, rd⟩ := rs1.at_ hi
      rw [List.getElem?_map] at hd
      obtain ⟨t, ht, rfl⟩ := Option.map_eq_some_iff.mp hd
      unfold Tn
      simp only [tYes, if_true]
      walk_at "wp"
      refine ⟨x, rfl, x, rfl, .inl ⟨t, rd.tk (.of wi.sm), thW_of g.sh ht, fun a H5 fa ha s5 => ?_⟩⟩
      have w5 := wi.same s5
      refine ⟨s5 _ _ hacc, fun H6 g6 => ⟨?_, by rw [List.length_append, hl]; rfl⟩⟩
      have e : ths.take (i + 1) = ths.take i ++ [t] := by rw [List.take_add_one, ht]; rfl
      rw [e, List.map_append]
      exact w5.app (s5 _ _ hacc) ha (Ne.symm (ne_of_none hacc fa)) g6
    · obtain ⟨wi, hl⟩ := h
      rw [List.take_of_length_le (by have := rs1.1; rw [List.length_map] at this; omega)] at wi
      have ln : ∀ {k : Nat} {wss : List (List Str)} {H5 : Hp}, WsI D H (ths.map thW ++ (tss.take k).flatMap wsTh ++ wss) H5 → ∃ vs, H5 D = some (.lst vs) ∧ vs.length ≤ 42 + wss.length := fun {k wss H5} w5 => by
        obtain ⟨vs, e1, e2⟩ := w5.at_
        refine ⟨vs, e1, ?_⟩
        have h1 := e2.1
        have h2 := wsFlat_len (tss := tss.take k) fun x hx => g.ok x (List.mem_of_mem_take hx)
        have h3 := g.n2
        have h4 : (tss.take k).length ≤ tss.length := by rw [List.length_take]; omega
        rw [List.length_append, List.length_append, List.length_map] at h1
        omega
      have lt2 : v2.length = tss.length := by have := rs2.1; rwa [List.length_map] at this
      refine ⟨_, wi.sm _ _ hpp, _, at1, p2, rfl, ⟨_, wi.sm _ _ h2⟩, lp_t (xs := v2) (fun i σ H5 => ∃ x3 x4, σ = [some (.ref pp), some (.ref D), none, x3, x4] ∧ WsI D H (ths.map thW ++ (tss.take i).flatMap wsTh) H5) ⟨_, _, rfl, by simpa using wi⟩ (fun i σ H5 ⟨_, _, _, w5⟩ => w5.sm _ _ h2) ?_ ?_⟩
      · rintro i x σ H5 hx ⟨x3, x4, rfl, w5⟩
        obtain ⟨d, hd, rd⟩ := rs2.at_ hx
        rw [List.getElem?_map] at hd
        obtain ⟨is, his, rfl⟩ := Option.map_eq_some_iff.mp hd
        have gis := g.ok is (List.mem_of_getElem? his)
        obtain ⟨p3, v3, rfl, h3, rs3⟩ := Rp.tup_inv rd
        have e : tss.take (i + 1) = tss.take i ++ [is] := by rw [List.take_add_one, his]; rfl
        walk_at "wp"
        obtain ⟨vs5, hv5, hl5⟩ := ln (k := i) (wss := []) (by rw [List.append_nil]; exact w5)
        refine ⟨⟨_, hv5⟩, fun pt H6 n6 => ⟨vs5, n6.kp _ _ hv5, lt_line (by simp at hl5; omega), fun H7 g7 => ?_⟩⟩
        have w6 := w5.same n6.kp
        have w7 := w6.app (ws := ["thread"]) (n6.kp _ _ hv5) n6.at_ (Ne.symm (ne_of_none hv5 n6.fr)) g7
        refine ⟨⟨_, w7.sm _ _ h3⟩, lp_t (xs := v3) (fun j σ H8 => ∃ x4, σ = [some (.ref pp), some (.ref D), none, some (.ref p3), x4] ∧ WsI D H (ths.map thW ++ (tss.take i).flatMap wsTh ++ ([("thread" : Str)] :: (is.take j).map inW)) H8) ⟨_, rfl, by simpa using w7⟩ (fun j σ H8 ⟨_, _, w8⟩ => w8.sm _ _ h3) ?_ ?_⟩
        · rintro j y σ H8 hy ⟨y4, rfl, w8⟩
          obtain ⟨dj, hdj, rdj⟩ := rs3.at_ hy
          rw [List.getElem?_map] at hdj
          obtain ⟨ins, hins, rfl⟩ := Option.map_eq_some_iff.mp hdj
          walk_at "wp"
          obtain ⟨vs8, hv8, hl8⟩ := ln (k := i) w8
          refine ⟨⟨_, hv8⟩, y, rfl, .inr ⟨ins, rdj.tk (.of w8.sm), inW_of gis.n2 (gis.ok ins (List.mem_of_getElem? hins)), fun a H9 fa ha s9 => ⟨vs8, s9 _ _ hv8, lt_line (by rw [List.length_cons, List.length_map, List.length_take] at hl8; have := gis.n2; omega), fun H10 g10 => ⟨_, rfl, ?_⟩⟩⟩⟩
          have e2 : is.take (j + 1) = is.take j ++ [ins] := by rw [List.take_add_one, hins]; rfl
          have w10 := (w8.same s9).app (s9 _ _ hv8) ha (Ne.symm (ne_of_none hv8 fa)) g10
          rw [e2, List.map_append]
          rw [List.append_assoc, List.cons_append] at w10
          exact w10
        · rintro σ H8 ⟨y4, rfl, w8⟩
          refine ⟨_, _, rfl, ?_⟩
          have l3 : v3.length = is.length := by have := rs3.1; rwa [List.length_map] at this
          rw [e, List.flatMap_append, ← List.append_assoc]
          rw [l3, List.take_length] at w8
          simpa [wsTh] using w8
      · rintro σ H5 ⟨x3, x4, rfl, w5⟩
        walk_at "wp"
        rw [lt2, List.take_length] at w5
        exact q D H5 w5
end
end K10
set_option linter.all false
set_option maxRecDepth 100000
set_option maxHeartbeats 4000000
namespace K10
open PySem PySem.Spec PyProof.Rows L2
theorem prL_ws {ths : List Th} {tss : List (List Ins)} (g : PrG ths tss) : wsPr ths tss = (prL ths tss).map fun l => l.map (·.2) := by
  unfold wsPr prL
  rw [List.map_append, List.map_map, List.map_flatMap]
  congr 1
  · exact List.map_congr_left fun t _ => (thT_w t).symm
  · have h := g.ok
    clear g
    induction tss with
    | nil => rfl
    | cons is tss ih =>
      rw [List.flatMap_cons, List.flatMap_cons, ih fun x hx => h x (List.mem_cons_of_mem _ hx)]
      congr 1
      have gi := h is (List.mem_cons_self ..)
      unfold wsTh thrL
      rw [List.map_cons, List.map_map]
      congr 1
      exact List.map_congr_left fun i hi => by
        have iw := inW_of gi.n2 (gi.ok i hi)
        exact (inT_w (i := i) (fun k x t e => by subst e; exact iw.2) (fun t e => by subst e; exact iw) (fun n t e => by subst e; exact iw.2.2)).symm
theorem sum_le : ∀ {l : List Nat} {k : Nat}, (∀ x ∈ l, x ≤ k) → l.sum ≤ k * l.length
  | [], _, _ => by simp
  | x :: l, k, h => by
    have := sum_le (l := l) fun y hy => h y (List.mem_cons_of_mem _ hy)
    have := h x (List.mem_cons_self ..)
    rw [List.sum_cons, List.length_cons, Nat.mul_succ]
    omega
theorem LineOk.join {l : Ln} (h : LineOk l) : ((l.map (·.2)).map (·.length)).sum + (l.map (·.2)).length * (" " : Str).length ≤ 16777216 := by
  have h1 := sum_le (l := (l.map (·.2)).map (·.length)) (k := 20) fun x hx => by
    obtain ⟨s, hs, rfl⟩ := List.mem_map.mp hx
    obtain ⟨t, ht, rfl⟩ := List.mem_map.mp hs
    rw [TL.len_tl]
    exact h.sm t ht
  have h2 := h.le
  have h3 : (" " : Str).length = 1 := by decide +kernel
  rw [h3]
  simp only [List.length_map] at h1 ⊢
  omega
section
variable {P : Program} {w : World} {K : PySem.W.Frag} {mg : Str → Option Value} {base : Heap} {Ax : Ad}
local macro_rules | `(tactic| walk_at "wp") => `(tactic| simp only [tVar, tC, tOp, rI0, rI, rU, tUn, rEq, rNe, tTest, tB, tAnd, tOr, tNot, tAndV, tOrV, tNotV, tIf, tSeq, tNext, tAsg, gName, gSub, tDrop, tRet, tRetN, tIfS, tBreak, tCont, tAug, ipI, tCB, tCons, tNil,
  xTup, xLst, xIxL, xIxT, xIxS, xIxK, xLenL, xLenT, xLenS, xLenK, xSlL, xSlT, xSlS, xInL, xInT, xInK, xCat, xRep, xCatT, xTupL, xSetL, xIntS, xIntI, xIntB, xApp, xJoin, xSplit, xFld, xSetF, xAugF, tSl, tPart, tNoPart, xCall, xMeth, xMeth0, xMake, xRaise, xgT, xgL, gCons, gNil, xInD, xIxD, C8.tCut, xIsi, for_r1, for_r2, for_l, for_t, for_e, lc_xl, lc_xt, lc_xr, tM0, S,
  exists_eq_left, exists_eq_left', exists_and_left, V.int.injEq, V.ref.injEq, V.str.injEq, V.bl.injEq, consV, Option.some.injEq, HO.lst.injEq, HO.tup.injEq, HO.ins.injEq, and_true, true_and, List.getElem?_cons_zero, List.getElem?_cons_succ, List.set_cons_zero, List.set_cons_succ,
  if_true, if_false, Bool.false_eq_true, and_assoc, V.ty.injEq, isbI, isbS, kb1, kb2, kb3, kb4, kb5, kb6, kb7, kb8, kb9, reduceCtorEq, decide_false, decide_true, decide_eq_true_eq, Bool.not_eq_true', decide_eq_false_iff_not, Bool.not_true, Bool.not_false, ite_not, at0, at1, at2, at3, at4, ix0, ix1, fl_int, fl_str, fl_bl, fl_non, al_nil, al_cons, lenNil, len1, len2, len3, len4, sc_ii, sc_ss, sc_ns, sc_sn, sc_nn, sc_in, sc_si, sc_is, sc_bb, st_go])
local macro_rules | `(tactic| walk_at "wf") => `(tactic| simp only [*,
  exists_eq_left, exists_eq_left', exists_and_left, V.int.injEq, V.ref.injEq, V.str.injEq, V.bl.injEq, consV, Option.some.injEq, HO.lst.injEq, HO.tup.injEq, HO.ins.injEq, and_true, true_and, List.getElem?_cons_zero, List.getElem?_cons_succ, List.set_cons_zero, List.set_cons_succ,
  if_true, if_false, Bool.false_eq_true, and_assoc, V.ty.injEq, isbI, isbS, kb1, kb2, kb3, kb4, kb5, kb6, kb7, kb8, kb9, reduceCtorEq, decide_false, decide_true, decide_eq_true_eq, Bool.not_eq_true', decide_eq_false_iff_not, Bool.not_true, Bool.not_false, ite_not, at0, at1, at2, at3, at4, ix0, ix1, fl_int, fl_str, fl_bl, fl_non, al_nil, al_cons, lenNil, len1, len2, len3, len4, sc_ii, sc_ss, sc_ns, sc_sn, sc_nn, sc_in, sc_si, sc_is, sc_bb, st_go])
local macro_rules | `(tactic| walk_at "len") => `(tactic| (refine le_line ?_; simp only [List.length_cons, List.length_nil, List.length_append, List.length_map, List.map_nil, List.map_cons] <;> omega))
def lnV (l : Ln) : V := .str (lnS l)
def spTextsOf : Sp := fun vs H Q _ => ∃ (v : V) (ths : List Th) (tss : List (List Ins)), vs = [v] ∧ Rp H v (prD ths tss) ∧ PrG ths tss ∧ NwL ((prL ths tss).map lnV) H Q
theorem ok_law_texts_of (F : Df K mg "_law_texts_of" s_law_texts_of ["_law_program_here"]) (T : Tx w K mg Ax) (G_law_lines : Cl P w K mg base L2.CX0 5 "_law_lines" spLines) : Cl P w K mg base L2.CX0 6 "_law_texts_of" spTextsOf := by
  refine F.cl sc_law_texts_of (fun vs H Q E h => ?_) (fun f cdv A outer s H vs Q E hr h => ?_)
  · obtain ⟨_, _, _, rfl, _⟩ := h
    rfl
  · obtain ⟨v, ths, tss, rfl, rv, g, q⟩ := h
    refine ⟨_, (pss_one (ps_ret (pe_lc (own := [("_law_line_here", 1)]) (g := gName 1) rfl sc_law_texts_of.nd (pi_l (px_c G_law_lines hr (by omega) (by rfl) (pa_cons (pv 0) pa_nil))) (blkOk_by (own := [("_law_line_here", 1)]) (N := N_law_texts_of) (sc := defScope s_law_texts_of) (by decide +kernel)) (fun _ _ _ _ _ => pg_name (i := 1) sc_law_texts_of.nd rfl (Or.inl rfl)) (fun _ _ _ _ _ => pts_mo pts_nil) (fun _ _ _ _ _ => pe_mo (px_join pe_str (pv 1)))))), ?_⟩
    rw [show L2.start N_law_texts_of [v] = [some v, none] from rfl]
    walk_at "wp"
    refine ⟨v, ths, tss, rfl, rv, g, fun p H1 wi => ?_⟩
    obtain ⟨xs, hx, rx⟩ := wi.at_
    rw [prL_ws g] at rx
    have hl := rx.1
    rw [List.length_map] at hl
    have pl := prL_len g.sh g.ok
    have n2 := g.n2
    refine ⟨p, rfl, ⟨_, hx⟩, lc_pure (ds := prL ths tss) (fun _ => true) lnV hx hl (by omega) (fun x => rfl) (fun i x l H' hi hd s K1 K0 h1 h0 => ?_) (fun D H' n s h => q D H' (wi.sm.free n) ?_ (wi.sm.trans s))⟩
    · obtain ⟨a, rfl, _, ha⟩ := rx.2 i x (l.map (·.2)) hi (by rw [List.getElem?_map, hd]; rfl)
      walk_at "wp"
      exact ⟨_, rfl, _, rfl, _, s _ _ ha, (prL_ok g.sh g.ok l (List.mem_of_getElem? hd)).join, h1 rfl H' (Same.refl _)⟩
    · rw [h, List.filter_eq_self.mpr (fun _ _ => rfl)]
/-! ### _law_is_open -/
theorem inD_hd {H : Hp} {v : V} {i : Ins} (r : Rp H v (inD i)) : ∃ p xs, v = .ref p ∧ H p = some (.tup xs) ∧ atI xs 0 = some (.str (insK i)) := by
  have key : ∃ ds, inD i = .tup (.str (insK i) :: ds) := by cases i <;> exact ⟨_, rfl⟩
  obtain ⟨ds, e⟩ := key
  rw [e] at r
  obtain ⟨p, xs, rfl, hp, rs⟩ := Rp.tup_inv r
  obtain ⟨x, ys, rfl, r1, _⟩ := Rps.inv_cons rs
  cases r1.str_inv
  exact ⟨p, _, rfl, hp, at0⟩
def spOpen : Sp := fun vs H Q _ => ∃ (p : Addr) (is : List Ins) (j : Nat), vs = [.ref p, .int j] ∧ Rp H (.ref p) (tsD is) ∧ is.length ≤ 11 ∧ ∀ H', Same H H' → Q (.bl (opnB is j)) H'
theorem zip_filter {α β : Type} (f : β → Bool) : ∀ {a : List α} {b : List β}, a.length = b.length → ((a.zip b).filter fun p => f p.2).length = (b.filter f).length
  | [], [], _ => rfl
  | [], _ :: _, h => by simp at h
  | _ :: _, [], h => by simp at h
  | x :: a, y :: b, h => by
    have ih := zip_filter f (a := a) (b := b) (by simpa using h)
    rw [List.zip_cons_cons, List.filter_cons, List.filter_cons]
    split <;> simp [ih]
theorem lc_kind {q : Addr} {xs : List V} {is : List Ins} {k : Str} {a b : Option V} {H : Hp} {Q : VK} (hq : H q = some (.tup xs)) (rs : Rps H xs (is.map inD)) (hl : is.length ≤ 11) (hd : ∀ D vs H', Same H H' → H' D = some (.lst vs) → vs.length = cK k is → Q (.ref D) H') :
    Lc (Itt K q) (gName 2) (moT (tTest (tOp rEq (tOp xIxT (tVar 2) (tC (V.int 0))) (tC (V.str k))))) (mo (tVar 2)) [2] [a, b, none] H Q := by
  have ll : xs.length = is.length := by have := rs.1; rwa [List.length_map] at this
  refine lc_pureT (ds := xs.zip is) (fun p => decide (insK p.2 = k)) (fun p => p.1) hq (by rw [List.length_zip, ll, Nat.min_self]) (by omega) (fun x => rfl) (fun i x d H' hi hdd s K1 K0 h1 h0 => ?_) (fun D H' n s h => hd D _ H' s h ?_)
  · obtain ⟨y, ins⟩ := d
    obtain ⟨e1, e2⟩ := List.getElem?_zip_eq_some.mp hdd
    rw [hi] at e1
    cases Option.some.inj e1
    have rx : Rp H y (inD ins) := rs.2 i y _ hi (by rw [List.getElem?_map, e2]; rfl)
    obtain ⟨p, ys, rfl, hp, h0'⟩ := inD_hd rx
    walk_at "wp"
    refine ⟨_, rfl, _, rfl, _, s _ _ hp, _, h0', rfl, ?_⟩
    have ve : (V.str (insK ins) = V.str k) = (insK ins = k) := V.str.injEq ..
    simp only [ve]
    by_cases c : insK ins = k
    · rw [if_pos c]
      exact ⟨_, rfl, h1 (decide_eq_true c) H' (Same.refl _)⟩
    · rw [if_neg c]
      exact h0 (decide_eq_false c) H' (Same.refl _)
  · rw [List.length_map]
    exact zip_filter (fun i => decide (insK i = k)) ll
theorem ok_law_is_open (F : Df K mg "_law_is_open" s_law_is_open ["_law_thread_here", "_law_at"]) (T : Tx w K mg Ax) : Cl P w K mg base L2.CX0 1 "_law_is_open" spOpen := by
  refine F.cl sc_law_is_open (fun vs H Q E h => ?_) (fun f cdv A outer s H vs Q E hr h => ?_)
  · obtain ⟨_, _, _, rfl, _⟩ := h
    rfl
  · obtain ⟨p, is, j, rfl, rv, hl, q⟩ := h
    obtain ⟨p', xs, e, hp, rs⟩ := Rp.tup_inv rv
    cases e
    refine ⟨_, (pss_one (ps_ret (pe_cmpR op_gt (pe_callB len_l (by rfl) T.b_len PySem.boot_len (pa_cons (pe_lc (own := [("_law_item", 2)]) (g := gName 2) rfl sc_law_is_open.nd (pi_t (pe_slice sl_t (pv 0) po_none (po_some (pv 1)))) (blkOk_by (own := [("_law_item", 2)]) (N := N_law_is_open) (sc := defScope s_law_is_open) (by decide +kernel)) (fun _ _ _ _ _ => pg_name (i := 2) sc_law_is_open.nd rfl (Or.inl rfl)) (fun _ _ _ _ _ => pts_mo (pts_one (pt_cmpR op_eq (pe_ix ix_t (pv 2) pe_int (fun _ _ => rfl)) pe_str (nomark _)))) (fun _ _ _ _ _ => pe_mo (pv 2))) pa_nil)) (pe_callB len_l (by rfl) T.b_len PySem.boot_len (pa_cons (pe_lc (own := [("_law_item", 2)]) (g := gName 2) rfl sc_law_is_open.nd (pi_t (pe_slice sl_t (pv 0) po_none (po_some (pv 1)))) (blkOk_by (own := [("_law_item", 2)]) (N := N_law_is_open) (sc := defScope s_law_is_open) (by decide +kernel)) (fun _ _ _ _ _ => pg_name (i := 2) sc_law_is_open.nd rfl (Or.inl rfl)) (fun _ _ _ _ _ => pts_mo (pts_one (pt_cmpR op_eq (pe_ix ix_t (pv 2) pe_int (fun _ _ => rfl)) pe_str (nomark _)))) (fun _ _ _ _ _ => pe_mo (pv 2))) pa_nil)) (nomark _)))), ?_⟩
    rw [show L2.start N_law_is_open [V.ref p, V.int j] = [some (.ref p), some (.int j), none] from rfl]
    walk_at "wp"
    have ht : (is.take j).length ≤ 11 := by rw [List.length_take]; omega
    have rt := rs.take j
    rw [← List.map_take] at rt
    refine ⟨_, hp, fun q1 H1 s1 hq1 => ⟨⟨_, hq1⟩, ?_⟩⟩
    rw [cutV_pre] at hq1
    refine lc_kind hq1 (rt.tk (.of s1)) ht fun D1 v1 H2 s2 hD1 hl1 => ⟨D1, rfl, v1, hD1, xs, s2 _ _ (s1 _ _ hp), fun q3 H3 s3 hq3 => ⟨⟨_, hq3⟩, ?_⟩⟩
    rw [cutV_pre] at hq3
    refine lc_kind hq3 (((rt.tk (.of s1)).tk (.of s2)).tk (.of s3)) ht fun D2 v2 H4 s4 hD2 hl2 => ⟨D2, rfl, v2, hD2, ?_⟩
    have e : decide ((v2.length : Int) < (v1.length : Int)) = opnB is j := by
      unfold opnB
      rw [hl1, hl2]
      exact decide_eq_decide.mpr (by omega)
    rw [e]
    exact q H4 (((s1.trans s2).trans s3).trans s4)
/-! ### _law_bad_shared -/
def lnQ (x : Ln × Str) : Tok := (lnS x.1, x.2)
def badT1 : Ln := [("var a = 1", "name"), ("lock queue", "name"), ("cond w of zzzzzzz9", "name"), ("queue zzzzzzz8 0", "number"), ("queue zzzzzzz8 4", "number"), ("var zz = ;", "tokens"), ("var zz 1", "form"), ("check 1", "form"), ("queue zz", "form"), ("lock zz zy", "form"), ("var zz = 100", "tokens"), ("go 0", "form")]
theorem badT1_eq : badT1 = ((badSs "").drop 1).map lnQ := by decide +kernel
theorem badT0_eq (nm : Str) : lnQ ([W "var", W nm, G "=", Nn 1], ("name" : Str)) = (("var " ++ nm ++ " = 1" : Str), ("name" : Str)) := by
  refine Prod.ext (tl_inj ?_) rfl
  show (lnS [W "var", W nm, G "=", Nn 1]).cps.toList = _
  rw [lnS_tl, show (Str.ofString "var " ++ nm ++ Str.ofString " = 1").cps.toList = (Str.ofString "var " ++ nm).cps.toList ++ (Str.ofString " = 1").cps.toList from TL.tl_append _ _, show (Str.ofString "var " ++ nm).cps.toList = (Str.ofString "var ").cps.toList ++ nm.cps.toList from TL.tl_append _ _]
  have e1 : (Str.ofString "var ").cps.toList = [118, 97, 114, 32] := by decide +kernel
  have e2 : (Str.ofString " = 1").cps.toList = [32, 61, 32, 49] := by decide +kernel
  have e3 : (Str.ofString "var").cps.toList = [118, 97, 114] := by decide +kernel
  have e4 : (Str.ofString "=").cps.toList = [61] := by decide +kernel
  have e5 : (Str.ofString (toString (1 : Int))).cps.toList = [49] := by decide +kernel
  rw [e1, e2]
  show (Str.ofString "var").cps.toList ++ 32 :: (nm.cps.toList ++ 32 :: ((Str.ofString "=").cps.toList ++ 32 :: (Str.ofString (toString (1 : Int))).cps.toList)) = _
  rw [e3, e4, e5]
  simp
theorem at_pt {l : Ln} {H : Hp} {ws : List V} (rs : Rps H ws (l.map tokD)) {k : Nat} (hk : k < l.length) : ∃ a, atI ws (k : Int) = some (.ref a) ∧ H a = some (.tup [.str l[k].1, .str l[k].2]) := by
  have hw : k < ws.length := by have := rs.1; rw [List.length_map] at this; omega
  have r := rs.2 k ws[k] (tokD l[k]) (List.getElem?_eq_getElem hw) (by rw [List.getElem?_map, List.getElem?_eq_getElem hk]; rfl)
  obtain ⟨p, x, y, e, hp, r1, r2⟩ := Rp.t2 r
  cases r1.str_inv
  cases r2.str_inv
  refine ⟨p, ?_, hp⟩
  rw [← e]
  exact atI_nat (List.getElem?_eq_getElem hw)
theorem at_pt2 {l : List (Ln × Str)} {H : Hp} {ws : List V} (rs : Rps H ws ((l.map lnQ).map tokD)) {i : Int} (h0 : 0 ≤ i) (h1 : i < (l.length : Int)) : ∃ a x, atI ws i = some (.ref a) ∧ H a = some (.tup [lnV x.1, .str x.2]) ∧ l[i.toNat]? = some x := by
  obtain ⟨k, rfl⟩ : ∃ k : Nat, i = (k : Int) := ⟨i.toNat, by omega⟩
  have hk : k < l.length := by omega
  obtain ⟨a, e1, e2⟩ := at_pt rs (k := k) (by rw [List.length_map]; exact hk)
  rw [List.getElem_map] at e2
  exact ⟨a, l[k], e1, e2, by rw [Int.toNat_natCast]; exact List.getElem?_eq_getElem hk⟩
theorem thD_nm {H : Hp} {v : V} {t : Th} (r : Rp H v (thD t)) : ∃ p xs, v = .ref p ∧ H p = some (.tup xs) ∧ atI xs 1 = some (.str (thN t)) := by
  have key : ∃ d ds, thD t = .tup (d :: .str (thN t) :: ds) := by cases t <;> exact ⟨_, _, rfl⟩
  obtain ⟨d, ds, e⟩ := key
  rw [e] at r
  obtain ⟨p, xs, rfl, hp, rs⟩ := Rp.tup_inv r
  obtain ⟨x, ys, rfl, r1, rs2⟩ := Rps.inv_cons rs
  obtain ⟨y, zs, rfl, r2, _⟩ := Rps.inv_cons rs2
  cases r2.str_inv
  exact ⟨p, _, rfl, hp, at1⟩
def spBadS : Sp := fun vs H Q _ => ∃ (b S : Addr) (ws : List V) (ths : List Th), vs = [.ref b, .ref S] ∧ Bx H b ∧ H S = some (.tup ws) ∧ Rps H ws (ths.map thD) ∧ ShOk ths ∧
  ∀ (a : Addr) (x : Ln × Str) (H' : Hp), Go b H H' → H' a = some (.tup [lnV x.1, .str x.2]) → ((∃ t ∈ ths, x = ([W "var", W (thN t), G "=", Nn 1], ("name" : Str))) ∨ x ∈ (badSs "").drop 1) → Q (.ref a) H'
theorem ok_law_bad_shared (F : Df K mg "_law_bad_shared" s_law_bad_shared ["_law_box", "_law_shared_here"]) (T : Tx w K mg Ax) (G_law_draw : Cl P w K mg base L2.CX0 1 "_law_draw" spDraw) : Cl P w K mg base L2.CX0 2 "_law_bad_shared" spBadS := by
  refine F.cl sc_law_bad_shared (fun vs H Q E h => ?_) (fun f cdv A outer s H vs Q E hr h => ?_)
  · obtain ⟨_, _, _, _, rfl, _⟩ := h
    rfl
  · obtain ⟨b, S, ws, ths, rfl, bx, hS, rS, ok, q⟩ := h
    refine ⟨_, (pss_cons (ps_set (i := 2) sc_law_bad_shared.nd rfl (Or.inl rfl) pe_str)
  (pss_cons (ps_if (pt_cmpR op_gt (pe_callB len_t (by rfl) T.b_len PySem.boot_len (pa_cons (pv 1) pa_nil)) pe_int (nomark _)) (pss_one (ps_set (i := 2) sc_law_bad_shared.nd rfl (Or.inl rfl) (pe_ix ix_t (pe_ix ix_t (pv 1) (px_c G_law_draw hr (by omega) (by rfl) (pa_cons (pv 0) (pa_cons (pe_callB len_t (by rfl) T.b_len PySem.boot_len (pa_cons (pv 1) pa_nil)) pa_nil))) (fun _ _ => rfl)) pe_int (fun _ _ => rfl)))) pss_nil)
  (pss_cons (ps_set (i := 3) sc_law_bad_shared.nd rfl (Or.inl rfl) (px_lst (pa_cons (px_tup (pa_cons (pe_op op_add_str (pe_op op_add_str pe_str (pv 2)) pe_str) (pa_cons pe_str pa_nil))) (pa_cons (px_tup (pa_cons pe_str (pa_cons pe_str pa_nil))) (pa_cons (px_tup (pa_cons pe_str (pa_cons pe_str pa_nil))) (pa_cons (px_tup (pa_cons pe_str (pa_cons pe_str pa_nil))) (pa_cons (px_tup (pa_cons pe_str (pa_cons pe_str pa_nil))) (pa_cons (px_tup (pa_cons pe_str (pa_cons pe_str pa_nil))) (pa_cons (px_tup (pa_cons pe_str (pa_cons pe_str pa_nil))) (pa_cons (px_tup (pa_cons pe_str (pa_cons pe_str pa_nil))) (pa_cons (px_tup (pa_cons pe_str (pa_cons pe_str pa_nil))) (pa_cons (px_tup (pa_cons pe_str (pa_cons pe_str pa_nil))) (pa_cons (px_tup (pa_cons pe_str (pa_cons pe_str pa_nil))) (pa_cons (px_tup (pa_cons pe_str (pa_cons pe_str pa_nil))) (pa_cons (px_tup (pa_cons pe_str (pa_cons pe_str pa_nil))) pa_nil)))))))))))))))
  (pss_cons (ps_if (pt_cmpR op_eq (pv 2) pe_str (nomark _)) (pss_one (ps_ret (pe_ix ix_l (pv 3) (pe_op op_add pe_int (px_c G_law_draw hr (by omega) (by rfl) (pa_cons (pv 0) (pa_cons pe_int pa_nil)))) (fun _ _ => rfl)))) pss_nil)
  (pss_one (ps_ret (pe_ix ix_l (pv 3) (px_c G_law_draw hr (by omega) (by rfl) (pa_cons (pv 0) (pa_cons pe_int pa_nil))) (fun _ _ => rfl)))))))), ?_⟩
    rw [show L2.start N_law_bad_shared [V.ref b, V.ref S] = [some (.ref b), some (.ref S), none, none] from rfl]
    walk_at "wp"
    have lw : ws.length = ths.length := by have := rS.1; rwa [List.length_map] at this
    have e13 : ∀ nm : Str, (("var " ++ nm ++ " = 1", "name") :: badT1 : Ln) = (badSs nm).map lnQ := fun nm => by
      rw [show badSs nm = ([W "var", W nm, G "=", Nn 1], ("name" : Str)) :: (badSs "").drop 1 from rfl, List.map_cons, badT0_eq, badT1_eq]
    have sl : ∀ {a b : Str} {n : Nat}, a.length ≤ n → b.length ≤ n → n ≤ 1000 → a.length + b.length ≤ sizeLine := fun h1 h2 h3 => le_line (by omega)
    refine ⟨_, hS, ite2 (fun c => ?_) (fun c => ?_)⟩
    · refine ⟨_, hS, draw_ (by omega) bx fun r H1 r0 r1 g1 => ?_⟩
      have hS1 := g1.tup bx hS
      obtain ⟨v, hv, hm⟩ := at_in (xs := ws) r0 r1
      obtain ⟨i, hi⟩ := List.mem_iff_getElem?.mp hm
      obtain ⟨d, hd, rd⟩ := rS.at_ hi
      rw [List.getElem?_map] at hd
      obtain ⟨t, ht, rfl⟩ := Option.map_eq_some_iff.mp hd
      have tm := List.mem_of_getElem? ht
      obtain ⟨pt, ys, rfl, hpt, hy⟩ := thD_nm (rd.tk (g1.tk bx))
      have nm := ok.nm t tm
      have l8 : (thN t).length ≤ 8 := by rw [TL.len_tl]; exact nm.le
      have n9 : ¬ thN t = Str.ofString "zzzzzzz9" := fun e => h9_of ok.nm (.inl rfl) (List.mem_map.mpr ⟨t, tm, e⟩)
      refine ⟨r, rfl, _, hS1, _, hv, pt, rfl, ys, hpt, _, hy, _, rfl, sl (n := 100) (by decide +kernel) (by omega) (by omega), sl (n := 100) ?_ (by decide +kernel) (by omega), plsL_ (l := ("var " ++ thN t ++ " = 1", "name") :: badT1) (by simp [badT1]) fun pl H2 fpl s2 hpl => ?_⟩
      · rw [TL.len_tl, TL.tl_append, List.length_append, ← TL.len_tl, ← TL.len_tl]
        have : (Str.ofString "var ").length = 4 := by decide +kernel
        omega
      · refine ⟨rfl, ?_⟩
        rw [if_neg (fun z => n9 (V.str.inj z))]
        rw [e13] at hpl
        obtain ⟨wl, hwl, rl⟩ := hpl
        refine draw_ (by decide) (g1.bx.same s2) fun k H3 k0 k1 g3 => ?_
        have pb : pl ≠ b := g1.bx.ne_new fpl
        obtain ⟨a, x, e1, e2, e3⟩ := at_pt2 rl k0 (by show k < ((13 : Nat) : Int); exact k1)
        refine ⟨pl, rfl, k, rfl, _, g3.kp _ _ pb hwl, _, e1, q a x H3 ((g1.then s2).trans g3) (g3.tup (g1.bx.same s2) e2) ?_⟩
        cases ek : k.toNat with
        | zero =>
          rw [ek] at e3
          exact .inl ⟨t, tm, (Option.some.inj e3).symm⟩
        | succ j =>
          rw [ek] at e3
          exact .inr (List.mem_of_getElem? (show ((badSs "").drop 1)[j]? = some x from e3))
    · have nil : ths = [] := List.eq_nil_of_length_eq_zero (by omega)
      refine ⟨sl (n := 100) (by decide +kernel) (by decide +kernel) (by omega), sl (n := 100) (by decide +kernel) (by decide +kernel) (by omega), plsL_ (l := ("var " ++ "zzzzzzz9" ++ " = 1", "name") :: badT1) (by decide) fun pl H2 fpl s2 hpl => ?_⟩
      rw [e13] at hpl
      obtain ⟨wl, hwl, rl⟩ := hpl
      refine draw_ (by decide) (bx.same s2) fun k H3 k0 k1 g3 => ?_
      have pb : pl ≠ b := bx.ne_new fpl
      obtain ⟨a, x, e1, e2, e3⟩ := at_pt2 (i := 1 + k) rl (by omega) (by show 1 + k < ((13 : Nat) : Int); omega)
      refine ⟨k, rfl, pl, rfl, _, g3.kp _ _ pb hwl, _, e1, q a x H3 ((Go.of bx s2).trans g3) (g3.tup (bx.same s2) e2) (.inr ?_)⟩
      have ek : (1 + k).toNat = k.toNat + 1 := by omega
      rw [ek] at e3
      exact List.mem_of_getElem? (show ((badSs "").drop 1)[k.toNat]? = some x from e3)
def badI1 (n : Nat) : Ln := [("get a zzzzzzz9", "name"), ("put zzzzzzz9 1", "name"), ("wait zzzzzzz9", "name"), ("take b zzzzzzz9", "name"), ("notify all zzzzzzz9", "name"), (Str.ofString "go " ++ Str.ofString (toString ((n : Int) + 3)), "number")]
def badI2 : Ln := [("let e = 1", "form"), ("let a 1", "form"), ("check", "form"), ("check 1 +", "form"), ("var zz = 1", "form"), ("thread x", "form"), ("put A 1", "tokens"), ("go 1 if", "form"), ("get zz a", "form"), ("stop 1", "form"), ("let a = 001", "tokens")]
theorem badI_eq : ∀ n < 12, badI1 n ++ badI2 = (badIs n).map lnQ := by decide +kernel
theorem goLen : ∀ n : Nat, n < 12 → (Str.ofString "go ").length + (Str.ofString (toString ((n : Int) + 3))).length ≤ sizeLine := by decide +kernel
def spBadI : Sp := fun vs H Q _ => ∃ (b : Addr) (n : Nat), vs = [.ref b, .int n] ∧ n ≤ 11 ∧ Bx H b ∧
  ∀ (a : Addr) (x : Ln × Str) (H' : Hp), Go b H H' → H' a = some (.tup [lnV x.1, .str x.2]) → x ∈ badIs n → Q (.ref a) H'
theorem ok_law_bad_instruction (F : Df K mg "_law_bad_instruction" s_law_bad_instruction ["_law_box", "_law_size"]) (T : Tx w K mg Ax) (G_law_draw : Cl P w K mg base L2.CX0 1 "_law_draw" spDraw) : Cl P w K mg base L2.CX0 2 "_law_bad_instruction" spBadI := by
  refine F.cl sc_law_bad_instruction (fun vs H Q E h => ?_) (fun f cdv A outer s H vs Q E hr h => ?_)
  · obtain ⟨_, _, rfl, _⟩ := h
    rfl
  · obtain ⟨b, n, rfl, hn, bx, q⟩ := h
    refine ⟨_, (pss_cons (ps_set (i := 2) sc_law_bad_instruction.nd rfl (Or.inl rfl) (px_lst (pa_cons (px_tup (pa_cons pe_str (pa_cons pe_str pa_nil))) (pa_cons (px_tup (pa_cons pe_str (pa_cons pe_str pa_nil))) (pa_cons (px_tup (pa_cons pe_str (pa_cons pe_str pa_nil))) (pa_cons (px_tup (pa_cons pe_str (pa_cons pe_str pa_nil))) (pa_cons (px_tup (pa_cons pe_str (pa_cons pe_str pa_nil))) (pa_cons (px_tup (pa_cons (pe_op op_add_str pe_str (pe_callTy call_str_int (by rfl) T.b_str (by decide +kernel) (pa_cons (pe_op op_add (pv 1) pe_int) pa_nil))) (pa_cons pe_str pa_nil))) (pa_cons (px_tup (pa_cons pe_str (pa_cons pe_str pa_nil))) (pa_cons (px_tup (pa_cons pe_str (pa_cons pe_str pa_nil))) (pa_cons (px_tup (pa_cons pe_str (pa_cons pe_str pa_nil))) (pa_cons (px_tup (pa_cons pe_str (pa_cons pe_str pa_nil))) (pa_cons (px_tup (pa_cons pe_str (pa_cons pe_str pa_nil))) (pa_cons (px_tup (pa_cons pe_str (pa_cons pe_str pa_nil))) (pa_cons (px_tup (pa_cons pe_str (pa_cons pe_str pa_nil))) (pa_cons (px_tup (pa_cons pe_str (pa_cons pe_str pa_nil))) (pa_cons (px_tup (pa_cons pe_str (pa_cons pe_str pa_nil))) (pa_cons (px_tup (pa_cons pe_str (pa_cons pe_str pa_nil))) (pa_cons (px_tup (pa_cons pe_str (pa_cons pe_str pa_nil))) pa_nil)))))))))))))))))))
  (pss_one (ps_ret (pe_ix ix_l (pv 2) (px_c G_law_draw hr (by omega) (by rfl) (pa_cons (pv 0) (pa_cons pe_int pa_nil))) (fun _ _ => rfl))))), ?_⟩
    rw [show L2.start N_law_bad_instruction [V.ref b, V.int n] = [some (.ref b), some (.int n), none] from rfl]
    walk_at "wp"
    have ei : badI1 n ++ badI2 = (badIs n).map lnQ := badI_eq n (by omega)
    have hlen : (badIs n).length = 17 := rfl
    intro p0 H0 n0 p1 H1 n1 p2 H2 n2 p3 H3 n3 p4 H4 n4
    refine ⟨int_fits (by omega), goLen n (by omega), ?_⟩
    intro p5 H5 n5 p6 H6 n6 p7 H7 n7 p8 H8 n8 p9 H9 n9 p10 H10 n10 p11 H11 n11 p12 H12 n12 p13 H13 n13 p14 H14 n14 p15 H15 n15 p16 H16 n16
    have u16 : Same H16 H16 := Same.refl _
    have u15 : Same H15 H16 := n16.kp.trans u16
    have u14 : Same H14 H16 := n15.kp.trans u15
    have u13 : Same H13 H16 := n14.kp.trans u14
    have u12 : Same H12 H16 := n13.kp.trans u13
    have u11 : Same H11 H16 := n12.kp.trans u12
    have u10 : Same H10 H16 := n11.kp.trans u11
    have u9 : Same H9 H16 := n10.kp.trans u10
    have u8 : Same H8 H16 := n9.kp.trans u9
    have u7 : Same H7 H16 := n8.kp.trans u8
    have u6 : Same H6 H16 := n7.kp.trans u7
    have u5 : Same H5 H16 := n6.kp.trans u6
    have u4 : Same H4 H16 := n5.kp.trans u5
    have u3 : Same H3 H16 := n4.kp.trans u4
    have u2 : Same H2 H16 := n3.kp.trans u3
    have u1 : Same H1 H16 := n2.kp.trans u2
    have u0 : Same H0 H16 := n1.kp.trans u1
    have r17 : Rps H16 [.ref p0, .ref p1, .ref p2, .ref p3, .ref p4, .ref p5, .ref p6, .ref p7, .ref p8, .ref p9, .ref p10, .ref p11, .ref p12, .ref p13, .ref p14, .ref p15, .ref p16] ((badI1 n ++ badI2).map tokD) := .cons (Rp.m2 (u0 _ _ n0.at_) (.str _) (.str _)) (.cons (Rp.m2 (u1 _ _ n1.at_) (.str _) (.str _)) (.cons (Rp.m2 (u2 _ _ n2.at_) (.str _) (.str _)) (.cons (Rp.m2 (u3 _ _ n3.at_) (.str _) (.str _)) (.cons (Rp.m2 (u4 _ _ n4.at_) (.str _) (.str _)) (.cons (Rp.m2 (u5 _ _ n5.at_) (.str _) (.str _)) (.cons (Rp.m2 (u6 _ _ n6.at_) (.str _) (.str _)) (.cons (Rp.m2 (u7 _ _ n7.at_) (.str _) (.str _)) (.cons (Rp.m2 (u8 _ _ n8.at_) (.str _) (.str _)) (.cons (Rp.m2 (u9 _ _ n9.at_) (.str _) (.str _)) (.cons (Rp.m2 (u10 _ _ n10.at_) (.str _) (.str _)) (.cons (Rp.m2 (u11 _ _ n11.at_) (.str _) (.str _)) (.cons (Rp.m2 (u12 _ _ n12.at_) (.str _) (.str _)) (.cons (Rp.m2 (u13 _ _ n13.at_) (.str _) (.str _)) (.cons (Rp.m2 (u14 _ _ n14.at_) (.str _) (.str _)) (.cons (Rp.m2 (u15 _ _ n15.at_) (.str _) (.str _)) (.cons (Rp.m2 (u16 _ _ n16.at_) (.str _) (.str _)) (.nil)))))))))))))))))
    refine ⟨by show 17 ≤ 100; decide, fun p H17 n17 => ?_⟩
    rw [ei] at r17
    have s17 : Same H H17 := (n0.kp.trans u0).trans n17.kp
    refine draw_ (by decide) (bx.same s17) fun r H18 h0 h1 g18 => ?_
    have pb : p ≠ b := bx.ne_new ((n0.kp.trans u0).free n17.fr)
    obtain ⟨a, x, e1, e2, e3⟩ := at_pt2 (r17.tk (.of n17.kp)) h0 (by rw [hlen]; exact h1)
    exact ⟨p, rfl, r, rfl, _, g18.kp _ _ pb n17.at_, _, e1, q a x H18 ((Go.of bx s17).trans g18) (g18.tup (bx.same s17) e2) (List.mem_of_getElem? e3)⟩
end
end K10
set_option linter.all false
set_option maxRecDepth 100000
set_option maxHeartbeats 4000000
namespace K10
open PySem PySem.Spec PyProof.Rows L2
section
variable {P : Program} {w : World} {K : PySem.W.Frag} {mg : Str → Option Value} {base : Heap} {Ax : Ad}
local macro_rules | `(tactic| walk_at "wp") => `(tactic| simp only [tVar, tC, tOp, rI0, rI, rU, tUn, rEq, rNe, tTest, tB, tAnd, tOr, tNot, tAndV, tOrV, tNotV, tIf, tSeq, tNext, tAsg, gName, gSub, tDrop, tRet, tRetN, tIfS, tBreak, tCont, tAug, ipI, tCB, tCons, tNil,
  xTup, xLst, xIxL, xIxT, xIxS, xIxK, xLenL, xLenT, xLenS, xLenK, xSlL, xSlT, xSlS, xInL, xInT, xInK, xCat, xRep, xCatT, xTupL, xSetL, xIntS, xIntI, xIntB, xApp, xJoin, xSplit, xFld, xSetF, xAugF, tSl, tPart, tNoPart, xCall, xMeth, xMeth0, xMake, xRaise, xgT, xgL, gCons, gNil, xInD, xIxD, C8.tCut, xIsi, for_r1, for_r2, for_l, for_t, for_e, lc_xl, lc_xt, lc_xr, tM0, S,
  exists_eq_left, exists_eq_left', exists_and_left, V.int.injEq, V.ref.injEq, V.str.injEq, V.bl.injEq, consV, Option.some.injEq, HO.lst.injEq, HO.tup.injEq, HO.ins.injEq, and_true, true_and, List.getElem?_cons_zero, List.getElem?_cons_succ, List.set_cons_zero, List.set_cons_succ,
  if_true, if_false, Bool.false_eq_true, and_assoc, V.ty.injEq, isbI, isbS, kb1, kb2, kb3, kb4, kb5, kb6, kb7, kb8, kb9, reduceCtorEq, decide_false, decide_true, decide_eq_true_eq, Bool.not_eq_true', decide_eq_false_iff_not, Bool.not_true, Bool.not_false, ite_not, at0, at1, at2, at3, at4, ix0, ix1, fl_int, fl_str, fl_bl, fl_non, al_nil, al_cons, lenNil, len1, len2, len3, len4, sc_ii, sc_ss, sc_ns, sc_sn, sc_nn, sc_in, sc_si, sc_is, sc_bb, st_go])
local macro_rules | `(tactic| walk_at "wf") => `(tactic| simp only [*,
  exists_eq_left, exists_eq_left', exists_and_left, V.int.injEq, V.ref.injEq, V.str.injEq, V.bl.injEq, consV, Option.some.injEq, HO.lst.injEq, HO.tup.injEq, HO.ins.injEq, and_true, true_and, List.getElem?_cons_zero, List.getElem?_cons_succ, List.set_cons_zero, List.set_cons_succ,
  if_true, if_false, Bool.false_eq_true, and_assoc, V.ty.injEq, isbI, isbS, kb1, kb2, kb3, kb4, kb5, kb6, kb7, kb8, kb9, reduceCtorEq, decide_false, decide_true, decide_eq_true_eq, Bool.not_eq_true', decide_eq_false_iff_not, Bool.not_true, Bool.not_false, ite_not, at0, at1, at2, at3, at4, ix0, ix1, fl_int, fl_str, fl_bl, fl_non, al_nil, al_cons, lenNil, len1, len2, len3, len4, sc_ii, sc_ss, sc_ns, sc_sn, sc_nn, sc_in, sc_si, sc_is, sc_bb, st_go])
local macro_rules | `(tactic| walk_at "len") => `(tactic| (refine le_line ?_; simp only [List.length_cons, List.length_nil, List.length_append, List.length_map, List.map_nil, List.map_cons] <;> omega))
theorem iteV {kd n : Int} {p q : Prop} (h1 : kd = n → p) (h2 : kd ≠ n → q) : if V.int kd = V.int n then p else q := by
  by_cases c : kd = n
  · rw [if_pos (by rw [c])]
    exact h1 c
  · rw [if_neg (fun z => c (V.int.inj z))]
    exact h2 c
theorem lc_rpure {n j : Nat} {te : TE} {vs : List Nat} {σ : L2.St} {H : Hp} {Q : VK} (fV : Nat → V) (hn : n ≤ 100000) (hw : ∀ x, wipe ((wipe σ vs).set j (some x)) vs = wipe σ vs) (ht : ∀ (i : Nat) (H' : Hp) (K1 : VK), i < n → K1 (fV i) H' → te ((wipe σ vs).set j (some (.int (0 + (i : Int))))) H' K1)
    (k : NwL ((List.range n).map fV) H Q) : Lc (Itr 0 n) (gName j) (moT tYes) (mo te) vs σ H Q := by
  refine lc_r (n := n) (fun D i acc H' => H D = none ∧ Same H H' ∧ acc = (List.range i).map fV) (fun D H1 nD => ⟨nD.fr, nD.kp, rfl⟩) hn (fun D i acc H' h => by rw [h.2.2, List.length_map, List.length_range]; exact Nat.le_refl _) (fun D i acc H' hi hacc h => ⟨hw _, ?_⟩) (fun D acc H' nD hacc h => ?_)
  · obtain ⟨fD, s, rfl⟩ := h
    unfold Tn
    simp only [tYes, if_true]
    refine ht i H' _ hi ⟨hacc, fun H6 g6 => ⟨fD, fun a o e => g6.kp a o (ne_of_none e fD) (s a o e), ?_⟩⟩
    rw [List.range_succ, List.map_append]
    rfl
  · obtain ⟨fD, s, rfl⟩ := h
    exact k D H' fD hacc s
theorem lq_str : ∀ i : Nat, i < 7 → Str.ofString "lock qqqqqqq" ++ Str.ofString (toString (0 + (i : Int))) = lnS (thT (lq i)) := by decide +kernel
theorem lq_len : ∀ i : Nat, i < 7 → (Str.ofString "lock qqqqqqq").length + (Str.ofString (toString (0 + (i : Int)))).length ≤ sizeLine := by decide +kernel
theorem Rps.inv_snoc {H : Hp} {vs : List V} {ds : List D} {d : D} (r : Rps H vs (ds ++ [d])) : ∃ ws v, vs = ws ++ [v] ∧ Rps H ws ds ∧ Rp H v d := by
  have hl := r.1
  rw [List.length_append, List.length_singleton] at hl
  rcases List.eq_nil_or_concat vs with z | ⟨ws, v, z⟩
  · rw [z] at hl
    simp at hl
  · rw [List.concat_eq_append] at z
    subst z
    rw [List.length_append, List.length_singleton] at hl
    have ld : ws.length = ds.length := by omega
    refine ⟨ws, v, rfl, ⟨ld, fun i x d' h1 h2 => ?_⟩, ?_⟩
    · have hi := (List.getElem?_eq_some_iff.mp h2).1
      exact r.2 i x d' (by rw [List.getElem?_append_left (by omega)]; exact h1) (by rw [List.getElem?_append_left hi]; exact h2)
    · exact r.2 ds.length v d (by rw [List.getElem?_append_right (by omega), ld, Nat.sub_self]; rfl) (by rw [List.getElem?_append_right (Nat.le_refl _), Nat.sub_self]; rfl)
theorem prL_snoc (ths : List Th) (pre : List (List Ins)) (is : List Ins) : (prL ths (pre ++ [is])).length = (prL ths pre).length + 1 + is.length := by
  unfold prL
  rw [List.flatMap_append, List.flatMap_cons, List.flatMap_nil, List.append_nil, List.length_append, List.length_append, List.length_append, thrL_len]
  omega
def rep (n : Nat) : List Ln := (List.replicate n [stI]).flatMap thrL
theorem rep_succ (n : Nat) : rep (n + 1) = rep n ++ [thr, [W "stop"]] := by
  unfold rep
  rw [List.replicate_succ', List.flatMap_append]
  rfl
theorem rep_len (n : Nat) : (rep n).length = 2 * n := by
  induction n with
  | zero => rfl
  | succ n ih =>
    rw [rep_succ, List.length_append, ih]
    show 2 * n + 2 = _
    omega
theorem rep_ln : [thr, [W "stop"]].map lnV = [V.str "thread", V.str "stop"] := by
  have e1 : lnS thr = "thread" := by decide +kernel
  have e2 : lnS [W "stop"] = "stop" := by decide +kernel
  show [V.str (lnS thr), V.str (lnS [W "stop"])] = _
  rw [e1, e2]
def spMany : Sp := fun vs H Q _ => ∃ (b L : Addr) (vp : V) (ths : List Th) (tss : List (List Ins)), vs = [.ref b, vp, .ref L] ∧ Bx H b ∧ Rp H vp (prD ths tss) ∧ PrG ths tss ∧ L ≠ b ∧ H L = some (.lst ((prL ths tss).map lnV)) ∧
  ∀ (a m : Addr) (LS : List Ln) (nf : Nat) (wd : Str) (H' : Hp), Go b H H' → H' a = some (.lst [.ref m, .int nf, .str wd]) → a ≠ b → m ≠ b → H' m = some (.lst (LS.map lnV)) → LS.length ≤ 100 → (∀ semi : List Ln, (∀ l ∈ semi, LineOk l) → semi.length ≤ 1 → Flt (LS ++ semi) nf wd) → Q (.ref a) H'
theorem ok_law_too_many (F : Df K mg "_law_too_many" s_law_too_many ["_law_box", "_law_program_here", "_law_lines_here"]) (T : Tx w K mg Ax) (G_law_draw : Cl P w K mg base L2.CX0 1 "_law_draw" spDraw) (G_law_is_open : Cl P w K mg base L2.CX0 1 "_law_is_open" spOpen) : Cl P w K mg base L2.CX0 2 "_law_too_many" spMany := by
  refine F.cl sc_law_too_many (fun vs H Q E h => ?_) (fun f cdv A outer s H vs Q E hr h => ?_)
  · obtain ⟨_, _, _, _, _, rfl, _⟩ := h
    rfl
  · obtain ⟨b, L, vp, ths, tss, rfl, bx, rv, g, Lb, hL, q⟩ := h
    obtain ⟨pp, x, y, rfl, hpp, r1, r2⟩ := Rp.t2 rv
    obtain ⟨p1, v1, rfl, h1, rs1⟩ := Rp.tup_inv r1
    obtain ⟨p2, v2, rfl, h2, rs2⟩ := Rp.tup_inv r2
    refine ⟨_, (pss_cons (ps_set (i := 3) sc_law_too_many.nd rfl (Or.inl rfl) (pe_callB len_t (by rfl) T.b_len PySem.boot_len (pa_cons (pe_ix ix_t (pv 1) pe_int (fun _ _ => rfl)) pa_nil)))
  (pss_cons (ps_set (i := 4) sc_law_too_many.nd rfl (Or.inl rfl) (px_c G_law_draw hr (by omega) (by rfl) (pa_cons (pv 0) (pa_cons pe_int pa_nil))))
  (pss_cons (ps_if (pt_cmpR op_eq (pv 4) pe_int (nomark _)) (pss_cons (ps_setLc (i := 5) (own := [("_law_k", 6)]) (g := gName 6) rfl sc_law_too_many.nd rfl rfl (sw_true rfl rfl rfl (by decide +kernel)) (pi_range1 rfl T.b_range (pa_cons (pe_op op_sub pe_int (pv 3)) pa_nil)) (blkOk_by (own := [("_law_k", 6)]) (N := N_law_too_many) (sc := defScope s_law_too_many) (by decide +kernel)) (fun _ _ _ _ _ => pg_name (i := 6) sc_law_too_many.nd rfl (Or.inl rfl)) (fun _ _ _ _ _ => pts_mo pts_nil) (fun _ _ _ _ _ => pe_mo (pe_op op_add_str pe_str (pe_callTy call_str_int (by rfl) T.b_str (by decide +kernel) (pa_cons (pv 6) pa_nil)))))
  (pss_one (ps_ret (px_lst (pa_cons (pe_op cat_l (pe_op cat_l (pe_slice sl_l (pv 2) po_none (po_some (pv 3))) (pv 5)) (pe_slice sl_l (pv 2) (po_some (pv 3)) po_none)) (pa_cons pe_int (pa_cons pe_str pa_nil))))))) pss_nil)
  (pss_cons (ps_if (pt_cmpR op_eq (pv 4) pe_int (nomark _)) (pss_cons (ps_set (i := 5) sc_law_too_many.nd rfl (Or.inl rfl) (px_lst pa_nil))
  (pss_cons (ps_for PassesOwn.never rfl (pi_range1 rfl T.b_range (pa_cons (pe_op op_sub pe_int (pe_callB len_t (by rfl) T.b_len PySem.boot_len (pa_cons (pe_ix ix_t (pv 1) pe_int (fun _ _ => rfl)) pa_nil))) pa_nil)) (pg_name (i := 6) sc_law_too_many.nd rfl (Or.inl rfl))
    (pss_one (ps_set (i := 5) sc_law_too_many.nd rfl (Or.inl rfl) (pe_op cat_l (pv 5) (px_lst (pa_cons pe_str (pa_cons pe_str pa_nil)))))))
  (pss_one (ps_ret (px_lst (pa_cons (pe_op cat_l (pv 2) (pv 5)) (pa_cons (pe_op op_sub (pe_op op_add (pe_callB len_l (by rfl) T.b_len PySem.boot_len (pa_cons (pv 2) pa_nil)) (pe_callB len_l (by rfl) T.b_len PySem.boot_len (pa_cons (pv 5) pa_nil))) pe_int) (pa_cons pe_str pa_nil)))))))) pss_nil)
  (pss_cons (ps_set (i := 7) sc_law_too_many.nd rfl (Or.inl rfl) (pe_ix ix_t (pe_ix ix_t (pv 1) pe_int (fun _ _ => rfl)) (pe_un un_neg pe_int) (fun _ _ => rfl)))
  (pss_cons (ps_set (i := 8) sc_law_too_many.nd rfl (Or.inl rfl) (pe_op op_sub (pe_callB len_l (by rfl) T.b_len PySem.boot_len (pa_cons (pv 2) pa_nil)) (pe_callB len_t (by rfl) T.b_len PySem.boot_len (pa_cons (pv 7) pa_nil))))
  (pss_cons (ps_if (pt_cmpR op_eq (pv 4) pe_int (nomark _)) (pss_one (ps_ret (px_lst (pa_cons (pe_op cat_l (pv 2) (pe_lc (own := [("_law_k", 6)]) (g := gName 6) rfl sc_law_too_many.nd (pi_range1 rfl T.b_range (pa_cons (pe_op op_sub pe_int (pe_callB len_t (by rfl) T.b_len PySem.boot_len (pa_cons (pv 7) pa_nil))) pa_nil)) (blkOk_by (own := [("_law_k", 6)]) (N := N_law_too_many) (sc := defScope s_law_too_many) (by decide +kernel)) (fun _ _ _ _ _ => pg_name (i := 6) sc_law_too_many.nd rfl (Or.inl rfl)) (fun _ _ _ _ _ => pts_mo pts_nil) (fun _ _ _ _ _ => pe_mo pe_str))) (pa_cons (pe_op op_add (pv 8) pe_int) (pa_cons pe_str pa_nil)))))) pss_nil)
  (pss_cons (ps_set (i := 9) sc_law_too_many.nd rfl (Or.inl rfl) (px_c G_law_draw hr (by omega) (by rfl) (pa_cons (pv 0) (pa_cons (pe_op op_add (pe_callB len_t (by rfl) T.b_len PySem.boot_len (pa_cons (pv 7) pa_nil)) pe_int) pa_nil))))
  (pss_cons (ps_set (i := 10) sc_law_too_many.nd rfl (Or.inl rfl) (pe_ix ix_l (px_lst (pa_cons pe_str (pa_cons pe_str pa_nil))) (pe_callTy int_b (by rfl) T.b_int (by decide +kernel) (pa_cons (px_c G_law_is_open hr (by omega) (by rfl) (pa_cons (pv 7) (pa_cons (pv 9) pa_nil))) pa_nil)) (fun _ _ => rfl)))
  (pss_one (ps_ret (px_lst (pa_cons (pe_op cat_l (pe_op cat_l (pe_slice sl_l (pv 2) po_none (po_some (pe_op op_add (pv 8) (pv 9)))) (px_lst (pa_cons (pv 10) pa_nil))) (pe_slice sl_l (pv 2) (po_some (pe_op op_add (pv 8) (pv 9))) po_none)) (pa_cons (pe_op op_add (pv 8) (pv 9)) (pa_cons pe_str pa_nil))))))))))))))), ?_⟩
    rw [show L2.start N_law_too_many [V.ref b, V.ref pp, V.ref L] = [some (.ref b), some (.ref pp), some (.ref L), none, none, none, none, none, none, none, none] from rfl]
    walk_at "wp"
    have l1 : v1.length = ths.length := by have := rs1.1; rwa [List.length_map] at this
    have l2 : v2.length = tss.length := by have := rs2.1; rwa [List.length_map] at this
    refine ⟨_, hpp, _, at0, p1, rfl, _, h1, draw_ (by decide) bx fun kd H1 k0 k1 g1 => ?_⟩
    have hL1 := g1.kp _ _ Lb hL
    have hpp1 := g1.tup bx hpp
    have h11 := g1.tup bx h1
    have h21 := g1.tup bx h2
    have pl := prL_len g.sh g.ok
    have n1 := g.n1
    have n2 := g.n2
    have b6 := g.sh.le
    refine ⟨rfl, iteV (fun c0 => ?_) (fun c0 => ⟨rfl, iteV (fun c1 => ?_) (fun c1 => ?_)⟩)⟩
    · refine ⟨by omega, by omega, lc_rpure (fun i => lnV (thT (lq i))) (by omega) (fun x => rfl) (fun i H' K1 hi k => ?_) fun pm H2 fm hm s2 => ?_⟩
      · have h7 : i < 7 := by omega
        walk_at "wp"
        refine ⟨_, rfl, _, rfl, int_fits (by omega), lq_len i h7, ?_⟩
        rw [lq_str i h7]
        exact k
      · rw [show (7 - (v1.length : Int)).toNat = 7 - ths.length by omega] at hm
        have hL2 := s2 _ _ hL1
        refine ⟨_, hL2, fun p3 H3 n3 => ⟨p3, rfl, pm, rfl, _, n3.at_, _, n3.kp _ _ hm, le_line ?_, fun p4 H4 n4 => ⟨_, n4.kp _ _ (n3.kp _ _ hL2), fun p5 H5 n5 => ⟨p4, rfl, p5, rfl, _, n5.kp _ _ n4.at_, _, n5.at_, le_line ?_, fun p6 H6 n6 p7 H7 n7 => ?_⟩⟩⟩⟩
        · rw [cutV_pre, List.length_take, List.length_map, List.length_map, List.length_range]
          omega
        · rw [cutV_pre, cutV_suf, List.length_append, List.length_take, List.length_drop, List.length_map, List.length_map, List.length_range]
          omega
        · have s37 := s2.trans (n3.kp.trans (n4.kp.trans (n5.kp.trans (n6.kp.trans n7.kp))))
          have b6' := (g1.bx.same (s2.trans (n3.kp.trans (n4.kp.trans n5.kp))))
          refine q p7 p6 ((prL ths tss).take ths.length ++ (List.range (7 - ths.length)).map (fun j => thT (lq j)) ++ (prL ths tss).drop ths.length) 6 "many" H7 (g1.then s37) n7.at_ ((b6'.same n6.kp).ne_new n7.fr) (b6'.ne_new n6.fr) ?_ ?_ fun semi h1 h2 => flt_many0 g h1 h2
          · rw [n7.kp _ _ n6.at_, cutV_pre, cutV_suf, l1, List.map_append, List.map_append, List.map_take, List.map_drop, List.map_map]
            rfl
          · simp only [List.length_append, List.length_map, List.length_range, List.length_take, List.length_drop]
            omega
    · intro m0 H2 n0
      refine ⟨_, n0.kp _ _ hpp1, _, at1, p2, rfl, _, n0.kp _ _ h21, by omega, by omega, lp_r (fun i σ H' => ∃ (ma : Addr) (x6 : Option V), σ = [some (.ref b), some (.ref pp), some (.ref L), some (.int v1.length), some (.int kd), some (.ref ma), x6, none, none, none, none] ∧ Same H1 H' ∧ H' ma = some (.lst ((rep i).map lnV))) ⟨m0, _, rfl, n0.kp, n0.at_⟩ ?_ ?_⟩
      · rintro i σ H3 hi ⟨ma, x6, rfl, s3, hm⟩
        walk_at "wp"
        intro p4 H4 n4
        refine ⟨p4, rfl, _, n4.kp _ _ hm, _, n4.at_, le_line ?_, fun p5 H5 n5 => ⟨p5, _, rfl, s3.trans (n4.kp.trans n5.kp), ?_⟩⟩
        · rw [List.length_map, rep_len]
          show _ + 2 ≤ _
          omega
        · rw [n5.at_, rep_succ, List.map_append, rep_ln]
      · rintro σ H3 ⟨ma, x6, rfl, s3, hm⟩
        rw [show (5 - (v2.length : Int)).toNat = 5 - tss.length by omega] at hm
        walk_at "wp"
        have hL3 := s3 _ _ hL1
        refine ⟨_, hL3, _, hm, le_line ?_, fun p4 H4 n4 => ⟨_, n4.kp _ _ hL3, _, n4.kp _ _ hm, fun p5 H5 n5 => ?_⟩⟩
        · rw [List.length_map, List.length_map, rep_len]
          omega
        · have s35 := s3.trans (n4.kp.trans n5.kp)
          have b4 := g1.bx.same s3
          refine q p5 p4 (prL ths tss ++ rep (5 - tss.length)) ((prL ths tss).length + 2 * (5 - tss.length) - 2) "many" H5 (g1.then s35) ?_ ((b4.same n4.kp).ne_new n5.fr) (b4.ne_new n4.fr) ?_ ?_ fun semi h1 h2 => flt_many1 g h1 h2
          · rw [n5.at_, List.length_map, List.length_map, rep_len, show ((prL ths tss).length : Int) + ((2 * (5 - tss.length) : Nat) : Int) - 2 = (((prL ths tss).length + 2 * (5 - tss.length) - 2 : Nat) : Int) by omega]
          · rw [n5.kp _ _ n4.at_, List.map_append]
          · rw [List.length_append, rep_len]
            omega
    · have hne : tss ≠ [] := fun z => by rw [z] at n1; simp at n1
      obtain ⟨pre, is, e⟩ : ∃ pre is, tss = pre ++ [is] := ⟨tss.dropLast, tss.getLast hne, (List.dropLast_concat_getLast hne).symm⟩
      have gis : ThrG ths is := g.ok is (by rw [e]; simp)
      have g11 := gis.n2
      have rs2' := rs2
      rw [e, List.map_append] at rs2'
      obtain ⟨vp, vl, ev, _, rl⟩ := Rps.inv_snoc rs2'
      obtain ⟨p3, v3, rfl, h3, rs3⟩ := Rp.tup_inv rl
      have l3 : v3.length = is.length := by have := rs3.1; rwa [List.length_map] at this
      have h31 := g1.tup bx h3
      have ple : (prL ths tss).length = (prL ths pre).length + 1 + is.length := by rw [e]; exact prL_snoc ths pre is
      have first : (((prL ths tss).map lnV).length : Int) - (v3.length : Int) = (((prL ths pre).length + 1 : Nat) : Int) := by rw [List.length_map]; omega
      refine ⟨_, hpp1, _, at1, p2, rfl, _, h21, _, by rw [ev]; exact atI_last _ _, _, hL1, p3, rfl, _, h31, rfl, ?_⟩
      rw [first]
      refine iteV (fun c2 => ?_) (fun c2 => ?_)
      · refine ⟨p3, rfl, _, h31, by omega, by omega, lc_rpure (fun i => .str "stop") (by omega) (fun x => rfl) (fun i H' K1 hi k => k) fun pm H2 fm hm s2 => ⟨pm, rfl, _, s2 _ _ hL1, _, hm, le_line ?_, fun p4 H4 n4 p5 H5 n5 => ?_⟩⟩
        · rw [List.length_map, List.length_map, List.length_range]
          omega
        · have b2 := g1.bx.same s2
          have e2 : lnS [W "stop"] = "stop" := by decide +kernel
          refine q p5 p4 (prL ths tss ++ List.replicate (13 - is.length) [W "stop"]) ((prL ths pre).length + 1 + 12) "many" H5 (g1.then (s2.trans (n4.kp.trans n5.kp))) ?_ ((b2.same n4.kp).ne_new n5.fr) (b2.ne_new n4.fr) ?_ ?_ fun semi h1 h2 => flt_many2 g e h1 h2
          · rw [n5.at_]
            rfl
          · rw [n5.kp _ _ n4.at_, List.map_append, List.map_replicate, show lnV [W "stop"] = V.str "stop" from congrArg V.str e2, show (13 - (v3.length : Int)).toNat = 13 - is.length by omega, List.map_const', List.length_range]
          · rw [List.length_append, List.length_replicate]
            omega
      · refine ⟨p3, rfl, _, h31, draw_ (by omega) g1.bx fun r H2 r0 r1 g2 p4 H3 n3 => ?_⟩
        obtain ⟨j, rfl⟩ : ∃ j : Nat, r = (j : Int) := ⟨r.toNat, by omega⟩
        have hj : j ≤ is.length := by omega
        have g3 := g1.trans (g2.then n3.kp)
        refine ⟨p3, is, j, rfl, rl.tk (g3.tk bx), g11, fun H4 s4 => ?_⟩
        have hL4 := s4 _ _ (n3.kp _ _ (g2.kp _ _ Lb hL1))
        have word : ∃ v, atI [V.str (Str.ofString "end"), V.str (Str.ofString "begin")] (if opnB is j = true then 1 else 0) = some v ∧ v = lnV [W (if opnB is j = true then "begin" else "end")] := by
          have e1 : lnS [W "begin"] = "begin" := by decide +kernel
          have e2 : lnS [W "end"] = "end" := by decide +kernel
          cases opnB is j
          · exact ⟨_, at0, congrArg V.str e2.symm⟩
          · exact ⟨_, at1, congrArg V.str e1.symm⟩
        obtain ⟨wv, hw, hwe⟩ := word
        have ej : ((((prL ths pre).length + 1 : Nat) : Int) + (j : Int)) = (((prL ths pre).length + 1 + j : Nat) : Int) := by omega
        refine ⟨_, rfl, p4, rfl, _, s4 _ _ n3.at_, wv, hw, _, rfl, _, hL4, fun p5 H5 n5 p6 H6 n6 => ⟨p5, rfl, p6, rfl, _, n6.kp _ _ n5.at_, _, n6.at_, le_line ?_, fun p7 H7 n7 => ⟨_, rfl, _, n7.kp _ _ (n6.kp _ _ (n5.kp _ _ hL4)), fun p8 H8 n8 => ⟨p7, rfl, p8, rfl, _, n8.kp _ _ n7.at_, _, n8.at_, le_line ?_, fun p9 H9 n9 => ⟨_, rfl, fun p10 H10 n10 => ?_⟩⟩⟩⟩⟩
        · rw [ej, cutV_pre, List.length_take, List.length_map]
          simp only [List.length_singleton]
          omega
        · rw [ej, cutV_pre, cutV_suf, List.length_append, List.length_take, List.length_drop, List.length_map]
          simp only [List.length_singleton]
          omega
        · have s8 := s4.trans (n5.kp.trans (n6.kp.trans (n7.kp.trans n8.kp)))
          have b8 := g3.bx.same s8
          refine q p10 p9 ((prL ths tss).take ((prL ths pre).length + 1 + j) ++ [W (if opnB is j = true then "begin" else "end")] :: (prL ths tss).drop ((prL ths pre).length + 1 + j)) ((prL ths pre).length + 1 + j) "block" H10 (g3.then (s8.trans (n9.kp.trans n10.kp))) ?_ ((b8.same n9.kp).ne_new n10.fr) (b8.ne_new n9.fr) ?_ ?_ fun semi h1 h2 => flt_block g e hj h1 h2
          · rw [n10.at_, ej]
          · rw [n10.kp _ _ n9.at_, ej, cutV_pre, cutV_suf, List.map_append, List.map_cons, List.map_take, List.map_drop, hwe, List.append_assoc]
            rfl
          · simp only [List.length_append, List.length_cons, List.length_take, List.length_drop]
            omega
end
end K10
set_option linter.all false
set_option maxRecDepth 100000
set_option maxHeartbeats 4000000
namespace K10
open PySem PySem.Spec PyProof.Rows L2
theorem Flt.join {LS : List Ln} {nf : Nat} {w : Str} (h : Flt LS nf w) : ((LS.map lnS).map (·.length)).sum + (LS.map lnS).length * (Str.ofString "\n").length ≤ 16777216 := by
  have h1 := sum_le (l := (LS.map lnS).map (·.length)) (k := 210) fun x hx => by
    obtain ⟨s, hs, rfl⟩ := List.mem_map.mp hx
    obtain ⟨l, hl, rfl⟩ := List.mem_map.mp hs
    exact (h.ok l hl).len
  have h2 := h.le
  have h3 : (Str.ofString "\n").length = 1 := by decide +kernel
  rw [h3]
  simp only [List.length_map] at h1 ⊢
  omega
theorem lnV_map (LS : List Ln) : LS.map lnV = (LS.map lnS).map V.str := by
  rw [List.map_map]
  rfl
theorem semi_ok : LineOk [B ";"] ∧ lnV [B ";"] = V.str ";" := ⟨lineB_ok (by decide +kernel), congrArg V.str (by decide +kernel)⟩
theorem own_tl (nm : Str) : (lnS [W "var", W nm, G "=", Nn 1]).cps.toList = [118, 97, 114, 32] ++ (nm.cps.toList ++ [32, 61, 32, 49]) := by
  have h := congrArg Prod.fst (badT0_eq nm)
  rw [show lnS [W "var", W nm, G "=", Nn 1] = (Str.ofString "var " ++ nm ++ Str.ofString " = 1") from h, show (Str.ofString "var " ++ nm ++ Str.ofString " = 1").cps.toList = (Str.ofString "var " ++ nm).cps.toList ++ (Str.ofString " = 1").cps.toList from TL.tl_append _ _, show (Str.ofString "var " ++ nm).cps.toList = (Str.ofString "var ").cps.toList ++ nm.cps.toList from TL.tl_append _ _, List.append_assoc]
  congr 1
theorem own_cut (nm : Str) : cutS (lnS [W "var", W nm, G "=", Nn 1]) none (some 4) = Str.ofString "var " := by
  have h := own_tl nm
  generalize lnS [W "var", W nm, G "=", Nn 1] = z at h
  have hl := congrArg List.length h
  refine tl_inj ?_
  show (z.cps.toList.drop (HT.sIx z.length 0 none)).take (HT.sIx z.length z.length (some ((4 : Nat) : Int)) - HT.sIx z.length 0 none) = (Str.ofString "var ").cps.toList
  have e : z.length = z.cps.toList.length := TL.len_tl z
  rw [HT.sIx_nat, HT.sIx_none, List.drop_zero, Nat.sub_zero, e, Nat.min_eq_left (by rw [hl, List.length_append]; simp), h]
  have e4 : (Str.ofString "var ").cps.toList = [118, 97, 114, 32] := by decide +kernel
  rw [e4]
  rfl
theorem own_ne {nm : Str} (ng : NmOk nm) : lnS [W "var", W nm, G "=", Nn 1] ≠ Str.ofString "var a = 1" := fun z => by
  have h := own_tl nm
  rw [z, show (Str.ofString "var a = 1").cps.toList = [118, 97, 114, 32] ++ ([97] ++ [32, 61, 32, 49]) by decide +kernel] at h
  have h1 := List.append_cancel_right (List.append_cancel_left h)
  have e : nm = Str.ofString "a" := tl_inj (h1.symm.trans (by decide +kernel))
  exact ng.ng (by rw [e]; exact List.mem_cons_self ..)
theorem own_len (nm : Str) (ng : NmOk nm) : (lnS [W "var", W nm, G "=", Nn 1]).length ≤ sizeLine := by
  rw [TL.len_tl]
  show (lnS [W "var", W nm, G "=", Nn 1]).cps.toList.length ≤ _
  rw [own_tl]
  have := ng.le
  simp only [List.length_append, List.length_cons, List.length_nil]
  exact le_line (by omega)
theorem kindOf_has {ths : List Th} {t : Th} (h : t ∈ ths) : kindOf ths (thN t) ≠ none := fun z => by
  unfold kindOf at z
  rw [Option.map_eq_none_iff] at z
  have := List.find?_eq_none.mp z t h
  exact this (decide_eq_true rfl)
/-- the law's own things: box, program, lines -/
structure LwI (b L : Addr) (vp : V) (ths : List Th) (tss : List (List Ins)) (H : Hp) : Prop where
  bx : Bx H b
  rv : Rp H vp (prD ths tss)
  Lb : L ≠ b
  hL : H L = some (.lst ((prL ths tss).map lnV))
theorem LwI.go {b L : Addr} {vp : V} {ths : List Th} {tss : List (List Ins)} {H H' : Hp} (h : LwI b L vp ths tss H) (g : Go b H H') : LwI b L vp ths tss H' := ⟨g.bx, h.rv.tk (g.tk h.bx), h.Lb, g.kp _ _ h.Lb h.hL⟩
section
variable {P : Program} {w : World} {K : PySem.W.Frag} {mg : Str → Option Value} {base : Heap} {Ax : Ad}
local macro_rules | `(tactic| walk_at "wp") => `(tactic| simp only [tVar, tC, tOp, rI0, rI, rU, tUn, rEq, rNe, tTest, tB, tAnd, tOr, tNot, tAndV, tOrV, tNotV, tIf, tSeq, tNext, tAsg, gName, gSub, tDrop, tRet, tRetN, tIfS, tBreak, tCont, tAug, ipI, tCB, tCons, tNil,
  xTup, xLst, xIxL, xIxT, xIxS, xIxK, xLenL, xLenT, xLenS, xLenK, xSlL, xSlT, xSlS, xInL, xInT, xInK, xCat, xRep, xCatT, xTupL, xSetL, xIntS, xIntI, xIntB, xApp, xJoin, xSplit, xFld, xSetF, xAugF, tSl, tPart, tNoPart, xCall, xMeth, xMeth0, xMake, xRaise, xgT, xgL, gCons, gNil, xInD, xIxD, C8.tCut, xIsi, for_r1, for_r2, for_l, for_t, for_e, lc_xl, lc_xt, lc_xr, tM0, S,
  exists_eq_left, exists_eq_left', exists_and_left, V.int.injEq, V.ref.injEq, V.str.injEq, V.bl.injEq, consV, Option.some.injEq, HO.lst.injEq, HO.tup.injEq, HO.ins.injEq, and_true, true_and, List.getElem?_cons_zero, List.getElem?_cons_succ, List.set_cons_zero, List.set_cons_succ,
  if_true, if_false, Bool.false_eq_true, and_assoc, V.ty.injEq, isbI, isbS, kb1, kb2, kb3, kb4, kb5, kb6, kb7, kb8, kb9, reduceCtorEq, decide_false, decide_true, decide_eq_true_eq, Bool.not_eq_true', decide_eq_false_iff_not, Bool.not_true, Bool.not_false, ite_not, at0, at1, at2, at3, at4, ix0, ix1, fl_int, fl_str, fl_bl, fl_non, al_nil, al_cons, lenNil, len1, len2, len3, len4, sc_ii, sc_ss, sc_ns, sc_sn, sc_nn, sc_in, sc_si, sc_is, sc_bb, st_go])
local macro_rules | `(tactic| walk_at "wf") => `(tactic| simp only [*,
  exists_eq_left, exists_eq_left', exists_and_left, V.int.injEq, V.ref.injEq, V.str.injEq, V.bl.injEq, consV, Option.some.injEq, HO.lst.injEq, HO.tup.injEq, HO.ins.injEq, and_true, true_and, List.getElem?_cons_zero, List.getElem?_cons_succ, List.set_cons_zero, List.set_cons_succ,
  if_true, if_false, Bool.false_eq_true, and_assoc, V.ty.injEq, isbI, isbS, kb1, kb2, kb3, kb4, kb5, kb6, kb7, kb8, kb9, reduceCtorEq, decide_false, decide_true, decide_eq_true_eq, Bool.not_eq_true', decide_eq_false_iff_not, Bool.not_true, Bool.not_false, ite_not, at0, at1, at2, at3, at4, ix0, ix1, fl_int, fl_str, fl_bl, fl_non, al_nil, al_cons, lenNil, len1, len2, len3, len4, sc_ii, sc_ss, sc_ns, sc_sn, sc_nn, sc_in, sc_si, sc_is, sc_bb, st_go])
local macro_rules | `(tactic| walk_at "len") => `(tactic| (refine le_line ?_; simp only [List.length_cons, List.length_nil, List.length_append, List.length_map, List.map_nil, List.map_cons] <;> omega))
def spLaw (K : PySem.W.Frag) : Sp := fun vs H Q _ => ∃ (a : Addr) (ns : List Int), vs = [.ref a] ∧ SqL K H a (ns.map V.int) ∧ ∀ H', Q (.bl true) H'
theorem ok_law {f : Addr} {fd : FuncData} (F : L2.Fun K "law" "law" s_law f fd) (T : Tx w K mg Ax) (G_law_digits : Cl P w K mg base L2.CX0 2 "_law_digits" (spDigits K)) (G_law_draw : Cl P w K mg base L2.CX0 1 "_law_draw" spDraw) (G_law_program : Cl P w K mg base L2.CX0 6 "_law_program" spPrg) (G_law_texts_of : Cl P w K mg base L2.CX0 6 "_law_texts_of" spTextsOf)
    (G_law_too_many : Cl P w K mg base L2.CX0 2 "_law_too_many" spMany) (G_law_bad_shared : Cl P w K mg base L2.CX0 2 "_law_bad_shared" spBadS) (G_law_bad_instruction : Cl P w K mg base L2.CX0 2 "_law_bad_instruction" spBadI) (G_law_fault : Cl P w K mg base L2.CX0 15 "_law_fault" spFault) (G_law_same : Cl P w K mg base L2.CX0 2 "_law_same" spSame2) : FnOk P w K mg base L2.CX0 16 f fd ["_law_script"] (spLaw K) := by
  refine F.ok sc_law (fun vs H Q E h => ?_) (fun cdv A outer s H vs Q E hr h => ?_)
  · obtain ⟨_, _, rfl, _⟩ := h
    rfl
  · obtain ⟨a, ns, rfl, hs, q⟩ := h
    refine ⟨_, (pss_cons (ps_set (i := 1) sc_law.nd rfl (Or.inl rfl) (px_lst (pa_cons (px_c G_law_digits hr (by omega) (by rfl) (pa_cons (pv 0) (pa_cons pe_int (pa_cons pe_int pa_nil)))) (pa_cons pe_int pa_nil))))
  (pss_cons (ps_set (i := 2) sc_law.nd rfl (Or.inl rfl) (px_c G_law_program hr (by omega) (by rfl) (pa_cons (pv 1) (pa_cons pe_int (pa_cons pe_int (pa_cons pe_int pa_nil))))))
  (pss_cons (ps_set (i := 3) sc_law.nd rfl (Or.inl rfl) (px_c G_law_texts_of hr (by omega) (by rfl) (pa_cons (pv 2) pa_nil)))
  (pss_cons (ps_set (i := 4) sc_law.nd rfl (Or.inl rfl) (pe_callB len_t (by rfl) T.b_len PySem.boot_len (pa_cons (pe_ix ix_t (pv 2) pe_int (fun _ _ => rfl)) pa_nil)))
  (C8.pss_cut (ps_if (pt_cmpR op_eq (px_c G_law_draw hr (by omega) (by rfl) (pa_cons (pv 1) (pa_cons pe_int pa_nil))) pe_int (nomark _)) (pss_one (ps_if (pt_not (pt_val (px_c G_law_same hr (by omega) (by rfl) (pa_cons (px_c G_law_fault hr (by omega) (by rfl) (pa_cons (px_join pe_str (pe_op cat_l (pv 3) (px_lst (pa_cons pe_str pa_nil)))) pa_nil)) (pa_cons (px_lst (pa_cons (pe_op op_add (pe_callB len_l (by rfl) T.b_len PySem.boot_len (pa_cons (pv 3) pa_nil)) pe_int) (pa_cons pe_str pa_nil))) pa_nil))))) (pss_one (ps_ret pe_bl)) pss_nil)) pss_nil)
  (pss_cons (ps_if (pt_cmpR op_eq (px_c G_law_draw hr (by omega) (by rfl) (pa_cons (pv 1) (pa_cons pe_int pa_nil))) pe_int (nomark _)) (pss_cons (ps_asg (px_c G_law_too_many hr (by omega) (by rfl) (pa_cons (pv 1) (pa_cons (pv 2) (pa_cons (pv 3) pa_nil)))) (pg_l rfl (pgs_cons (pg_name (i := 5) sc_law.nd rfl (Or.inl rfl)) (pgs_cons (pg_name (i := 6) sc_law.nd rfl (Or.inl rfl)) (pgs_cons (pg_name (i := 7) sc_law.nd rfl (Or.inl rfl)) pgs_nil)))))
  (pss_one (ps_ret (px_c G_law_same hr (by omega) (by rfl) (pa_cons (px_c G_law_fault hr (by omega) (by rfl) (pa_cons (px_join pe_str (pe_op cat_l (pv 5) (pe_op rep_l (px_lst (pa_cons pe_str pa_nil)) (px_c G_law_draw hr (by omega) (by rfl) (pa_cons (pv 1) (pa_cons pe_int pa_nil)))))) pa_nil)) (pa_cons (px_lst (pa_cons (pv 6) (pa_cons (pv 7) pa_nil))) pa_nil)))))) pss_nil)
  (C8.pss_cut (ps_if (pt_cmpR op_eq (px_c G_law_draw hr (by omega) (by rfl) (pa_cons (pv 1) (pa_cons pe_int pa_nil))) pe_int (nomark _)) (pss_one (ps_if (pt_not (pt_val (px_c G_law_same hr (by omega) (by rfl) (pa_cons (px_c G_law_fault hr (by omega) (by rfl) (pa_cons (px_join pe_str (pe_slice sl_l (pv 3) po_none (po_some (pv 4)))) pa_nil)) (pa_cons (px_lst (pa_cons (pe_callB (call_max2 rfl) (by rfl) T.b_max (by decide +kernel) (pa_cons pe_int (pa_cons (pv 4) pa_nil))) (pa_cons pe_str pa_nil))) pa_nil))))) (pss_one (ps_ret pe_bl)) pss_nil)) pss_nil)
  (C8.pss_cut (ps_if (pt_cmpR op_eq (px_c G_law_draw hr (by omega) (by rfl) (pa_cons (pv 1) (pa_cons pe_int pa_nil))) pe_int (nomark _)) (pss_one (ps_if (pt_not (pt_val (px_c G_law_same hr (by omega) (by rfl) (pa_cons (px_c G_law_fault hr (by omega) (by rfl) (pa_cons (px_join pe_str (pe_op cat_l (pv 3) (px_lst (pa_cons pe_str (pa_cons pe_str pa_nil))))) pa_nil)) (pa_cons (px_lst (pa_cons (pe_op op_add (pe_callB len_l (by rfl) T.b_len PySem.boot_len (pa_cons (pv 3) pa_nil)) pe_int) (pa_cons pe_str pa_nil))) pa_nil))))) (pss_one (ps_ret pe_bl)) pss_nil)) pss_nil)
  (C8.pss_cut (ps_if (pt_cmpR op_eq (px_c G_law_draw hr (by omega) (by rfl) (pa_cons (pv 1) (pa_cons pe_int pa_nil))) pe_int (nomark _)) (pss_cons (ps_set (i := 8) sc_law.nd rfl (Or.inl rfl) (px_c G_law_bad_shared hr (by omega) (by rfl) (pa_cons (pv 1) (pa_cons (pe_ix ix_t (pv 2) pe_int (fun _ _ => rfl)) pa_nil))))
  (pss_cons (ps_set (i := 6) sc_law.nd rfl (Or.inl rfl) (px_c G_law_draw hr (by omega) (by rfl) (pa_cons (pv 1) (pa_cons (pe_op op_add (pv 4) pe_int) pa_nil))))
  (C8.pss_cut (ps_if (PW.pt (pw_and (pt_cmpR op_eq (pe_ix ix_t (pv 8) pe_int (fun _ _ => rfl)) pe_str (nomark _)) (pw_and (pt_cmpR op_eq (pe_slice sl_s (pe_ix ix_t (pv 8) pe_int (fun _ _ => rfl)) po_none (po_some pe_int)) pe_str (nomark _)) (pw_and1 (pt_cmpR op_ne (pe_ix ix_t (pv 8) pe_int (fun _ _ => rfl)) pe_str (nomark _)))))) (pss_one (ps_set (i := 6) sc_law.nd rfl (Or.inl rfl) (pv 4))) pss_nil)
  (pss_one (ps_set (i := 3) sc_law.nd rfl (Or.inl rfl) (pe_op cat_l (pe_op cat_l (pe_slice sl_l (pv 3) po_none (po_some (pv 6))) (px_lst (pa_cons (pe_ix ix_t (pv 8) pe_int (fun _ _ => rfl)) pa_nil))) (pe_slice sl_l (pv 3) (po_some (pv 6)) po_none))))))) (pss_cons (ps_set (i := 9) sc_law.nd rfl (Or.inl rfl) (px_c G_law_draw hr (by omega) (by rfl) (pa_cons (pv 1) (pa_cons (pe_callB len_t (by rfl) T.b_len PySem.boot_len (pa_cons (pe_ix ix_t (pv 2) pe_int (fun _ _ => rfl)) pa_nil)) pa_nil))))
  (pss_cons (ps_set (i := 10) sc_law.nd rfl (Or.inl rfl) (pe_op op_add (pv 4) pe_int))
  (pss_cons (ps_for PassesOwn.never rfl (pi_range1 rfl T.b_range (pa_cons (pv 9) pa_nil)) (pg_name (i := 11) sc_law.nd rfl (Or.inl rfl))
    (pss_one (ps_set (i := 10) sc_law.nd rfl (Or.inl rfl) (pe_op op_add (pe_op op_add (pv 10) (pe_callB len_t (by rfl) T.b_len PySem.boot_len (pa_cons (pe_ix ix_t (pe_ix ix_t (pv 2) pe_int (fun _ _ => rfl)) (pv 11) (fun _ _ => rfl)) pa_nil))) pe_int))))
  (pss_cons (ps_set (i := 12) sc_law.nd rfl (Or.inl rfl) (pe_callB len_t (by rfl) T.b_len PySem.boot_len (pa_cons (pe_ix ix_t (pe_ix ix_t (pv 2) pe_int (fun _ _ => rfl)) (pv 9) (fun _ _ => rfl)) pa_nil)))
  (pss_cons (ps_set (i := 8) sc_law.nd rfl (Or.inl rfl) (px_c G_law_bad_instruction hr (by omega) (by rfl) (pa_cons (pv 1) (pa_cons (pv 12) pa_nil))))
  (pss_cons (ps_set (i := 6) sc_law.nd rfl (Or.inl rfl) (pe_op op_add (pv 10) (px_c G_law_draw hr (by omega) (by rfl) (pa_cons (pv 1) (pa_cons (pe_op op_add (pv 12) pe_int) pa_nil)))))
  (pss_one (ps_set (i := 3) sc_law.nd rfl (Or.inl rfl) (pe_op cat_l (pe_op cat_l (pe_slice sl_l (pv 3) po_none (po_some (pv 6))) (px_lst (pa_cons (pe_ix ix_t (pv 8) pe_int (fun _ _ => rfl)) pa_nil))) (pe_slice sl_l (pv 3) (po_some (pv 6)) po_none)))))))))))
  (C8.pss_cut (ps_if (pt_cmpR op_eq (px_c G_law_draw hr (by omega) (by rfl) (pa_cons (pv 1) (pa_cons pe_int pa_nil))) pe_int (nomark _)) (pss_one (ps_expr (px_app (pv 3) pe_str))) pss_nil)
  (pss_one (ps_ret (px_c G_law_same hr (by omega) (by rfl) (pa_cons (px_c G_law_fault hr (by omega) (by rfl) (pa_cons (px_join pe_str (pv 3)) pa_nil)) (pa_cons (px_lst (pa_cons (pv 6) (pa_cons (pe_ix ix_t (pv 8) pe_int (fun _ _ => rfl)) pa_nil))) pa_nil))))))))))))))), ?_⟩
    rw [show L2.start N_law [V.ref a] = [some (.ref a), none, none, none, none, none, none, none, none, none, none, none, none] from rfl]
    walk_at "wp"
    refine ⟨a, ns, rfl, hs, fun d H1 ds fd hd s1 => ?_⟩
    intro b H2 n2
    have bx : Bx H2 b := ⟨d, ds, 0, n2.at_, n2.kp _ _ hd, Int.le_refl _, ne_of_none hd n2.fr⟩
    refine ⟨b, rfl, bx, fun vp ths tss H3 g3 g rv => ⟨vp, ths, tss, rfl, rv, g, fun L H4 fL hL s4 => ?_⟩⟩
    have l4 : LwI b L vp ths tss H4 := ⟨g3.bx.same s4, rv.tk (.of s4), g3.bx.ne_new fL, hL⟩
    obtain ⟨pp, x, y, rfl, hpp, r1, r2⟩ := Rp.t2 l4.rv
    obtain ⟨p1, v1, rfl, h1, rs1⟩ := Rp.tup_inv r1
    have l1 : v1.length = ths.length := by have := rs1.1; rwa [List.length_map] at this
    obtain ⟨p2, v2, rfl, h2, rs2⟩ := Rp.tup_inv r2
    have l2 : v2.length = tss.length := by have := rs2.1; rwa [List.length_map] at this
    walk_at "wp"
    have hpp5 : ∀ {H5 : Hp}, Go b H4 H5 → H5 pp = some (.tup [.ref p1, .ref p2]) := fun g5 => g5.tup l4.bx hpp
    have h15 : ∀ {H5 : Hp}, Go b H4 H5 → H5 p1 = some (.tup v1) := fun g5 => g5.tup l4.bx h1
    refine ⟨_, hpp, _, at0, p1, rfl, _, h1, fun σ H5 => σ = [some (.ref a), some (.ref b), some (.ref pp), some (.ref L), some (.int v1.length), none, none, none, none, none, none, none, none] ∧ Go b H4 H5, draw_ (by decide) l4.bx fun d0 H5 _ _ g5 => ⟨rfl, iteV (fun c => ?_) (fun c => ⟨rfl, g5⟩)⟩, ?_⟩
    · have l5 := l4.go g5
      intro p6 H6 n6
      have f1 := flt_begin g
      have e1 : lnS [W "begin"] = "begin" := by decide +kernel
      refine ⟨p6, rfl, _, n6.kp _ _ l5.hL, _, n6.at_, le_line ?_, fun p7 H7 n7 => ⟨p7, rfl, (prL ths tss ++ [[W "begin"]]).map lnS, ?_, f1.join, _, _, _, _, rfl, f1.pre, fun r H8 fr hr8 s8 => ⟨_, s8 _ _ (n7.kp _ _ (n6.kp _ _ l5.hL)), fun p9 H9 n9 => ?_⟩⟩⟩
      · have := f1.le
        rw [List.length_append] at this
        rw [List.length_map]
        exact Nat.le_trans this (by decide)
      · rw [n7.at_, ← lnV_map, List.map_append, List.map_singleton, show lnV [W "begin"] = V.str "begin" from congrArg V.str e1]
      · have s9 := (n6.kp.trans n7.kp).trans (s8.trans n9.kp)
        refine ⟨r, p9, ((prL ths tss).length + 1 : Nat), "block", rfl, n9.kp _ _ hr8, ?_, true, rfl, ?_⟩
        · rw [n9.at_, List.length_map]
          rfl
        · exact ⟨rfl, g5.then s9⟩
    · rintro σ H5 ⟨rfl, g5⟩
      have l5 := l4.go g5
      walk_at "wp"
      refine draw_ (by decide) l5.bx fun d1 H6 _ _ g6 => ⟨rfl, iteV (fun c => ?_) (fun c => ?_)⟩
      · have l6 := l5.go g6
        refine ⟨b, L, .ref pp, ths, tss, rfl, l6.bx, l6.rv, g, l6.Lb, l6.hL, fun t m LS nf wd H7 g7 ht tb mb hm hl hf => ⟨t, rfl, _, ht, rfl, _, _, rfl, _, _, rfl, _, _, rfl, rfl, ?_⟩⟩
        intro p8 H8 n8
        have l8 := (l6.go g7).bx.same n8.kp
        refine draw_ (by decide) l8 fun k H9 k0 k1 g9 => ⟨p8, rfl, k, rfl, _, g9.kp _ _ (g7.bx.ne_new n8.fr) n8.at_, k0, by omega, by decide, fun p10 H10 n10 => ?_⟩
        have hm9 := g9.kp _ _ mb (n8.kp _ _ hm)
        have esemi : (List.replicate k.toNat [V.str (Str.ofString ";")]).flatten = (List.replicate k.toNat [B ";"]).map lnV := by
          rw [List.map_replicate, semi_ok.2]
          exact List.flatten_replicate_singleton
        have f1 := hf (List.replicate k.toNat [B ";"]) (fun l hl => by rw [(List.mem_replicate.mp hl).2]; exact semi_ok.1) (by rw [List.length_replicate]; omega)
        refine ⟨m, rfl, p10, rfl, _, n10.kp _ _ hm9, _, n10.at_, le_line ?_, fun p11 H11 n11 => ⟨p11, rfl, (LS ++ List.replicate k.toNat [B ";"]).map lnS, ?_, f1.join, _, _, _, _, rfl, f1.pre, fun r H12 fr hr12 s12 p13 H13 n13 => ⟨r, p13, nf, wd, rfl, n13.kp _ _ hr12, n13.at_, q _⟩⟩⟩
        · rw [esemi, List.length_map, List.length_map, List.length_replicate]
          omega
        · rw [n11.at_, ← lnV_map, List.map_append, esemi]
      · refine ⟨fun σ H6 => σ = [some (.ref a), some (.ref b), some (.ref pp), some (.ref L), some (.int v1.length), none, none, none, none, none, none, none, none] ∧ Go b H4 H6, draw_ (by decide) g6.bx fun d2 H7 _ _ g7 => ⟨rfl, iteV (fun c => ?_) (fun c => ⟨rfl, (g5.trans g6).trans g7⟩)⟩, ?_⟩
        · have g47 := (g5.trans g6).trans g7
          have l7 := l4.go g47
          obtain ⟨LS, eLS, f1⟩ := flt_things g.sh
          have et : cutV ((prL ths tss).map lnV) none (some ((v1.length : Nat) : Int)) = ((ths.map thT).map lnS).map V.str := by
            rw [cutV_pre, l1, ← List.map_take, ← lnV_map]
            unfold prL
            rw [List.take_left' (List.length_map ..)]
          have ej : Txt.join (Str.ofString "\n") ((ths.map thT).map lnS) = Txt.join nlS (LS.map lnS) := by
            rw [eLS]
            by_cases c : ths = []
            · rw [if_pos c, c]
              rfl
            · rw [if_neg c]
          have lj : (((ths.map thT).map lnS).map (·.length)).sum + ((ths.map thT).map lnS).length * (Str.ofString "\n").length ≤ 16777216 := by
            by_cases c : ths = []
            · rw [c]
              decide
            · rw [if_neg c] at eLS
              rw [← eLS]
              exact f1.join
          refine ⟨_, l7.hL, fun p8 H8 n8 => ⟨p8, rfl, (ths.map thT).map lnS, by rw [n8.at_, et], lj, _, LS, _, _, by rw [ej], f1.pre, fun r H9 fr hr9 s9 p10 H10 n10 => ⟨r, p10, (max 1 ths.length : Nat), "threads", rfl, n10.kp _ _ hr9, ?_, true, rfl, ?_⟩⟩⟩
          · rw [n10.at_, l1]
            have : (if (ths.length : Int) > 1 then (ths.length : Int) else 1) = ((max 1 ths.length : Nat) : Int) := by
              by_cases c : (ths.length : Int) > 1
              · rw [if_pos c, Nat.max_eq_right (by omega)]
              · rw [if_neg c, Nat.max_eq_left (by omega)]
                rfl
            rw [this]
          · exact ⟨rfl, g47.then (n8.kp.trans (s9.trans n10.kp))⟩
        · rintro σ H7 ⟨rfl, g7⟩
          walk_at "wp"
          refine ⟨fun σ H6 => σ = [some (.ref a), some (.ref b), some (.ref pp), some (.ref L), some (.int v1.length), none, none, none, none, none, none, none, none] ∧ Go b H4 H6, draw_ (by decide) g7.bx fun d3 H8 _ _ g8 => ⟨rfl, iteV (fun c => ?_) (fun c => ⟨rfl, g7.trans g8⟩)⟩, ?_⟩
          · have l8 := l4.go (g7.trans g8)
            intro p9 H9 n9
            have f1 := flt_empty g
            have e1 : lnS thr = "thread" := by decide +kernel
            have e2 : lnS [] = "" := by decide +kernel
            refine ⟨p9, rfl, _, n9.kp _ _ l8.hL, _, n9.at_, le_line ?_, fun p10 H10 n10 => ⟨p10, rfl, (prL ths tss ++ [thr, []]).map lnS, ?_, f1.join, _, _, _, _, rfl, f1.pre, fun r H11 fr hr11 s11 => ⟨_, s11 _ _ (n10.kp _ _ (n9.kp _ _ l8.hL)), fun p12 H12 n12 => ?_⟩⟩⟩
            · have := f1.le
              rw [List.length_append] at this
              rw [List.length_map]
              exact Nat.le_trans this (by decide)
            · rw [n10.at_, ← lnV_map, List.map_append, show [thr, []].map lnV = [V.str "thread", V.str ""] from by show [V.str (lnS thr), V.str (lnS [])] = _; rw [e1, e2]]
            · have s12 := (n9.kp.trans n10.kp).trans (s11.trans n12.kp)
              refine ⟨r, p12, ((prL ths tss).length + 2 : Nat), "empty", rfl, n12.kp _ _ hr11, ?_, true, rfl, ?_⟩
              · rw [n12.at_, List.length_map]
                rfl
              · exact ⟨rfl, (g7.trans g8).then s12⟩
          · rintro σ H8 ⟨rfl, g8⟩
            walk_at "wp"
            have l8 := l4.go g8
            have pl := prL_len g.sh g.ok
            have n1 := g.n1
            have n2 := g.n2
            have b6 := g.sh.le
            refine ⟨fun σ H' => ∃ (M qa : Addr) (LS : List Ln) (nf : Nat) (l : Ln) (wd : Str) (v5 v7 v9 v10 v11 v12 : Option V), σ = [some (.ref a), some (.ref b), some (.ref pp), some (.ref M), some (.int v1.length), v5, some (.int nf), v7, some (.ref qa), v9, v10, v11, v12] ∧ Bx H' b ∧ M ≠ b ∧ H' M = some (.lst (LS.map lnV)) ∧ H' qa = some (.tup [lnV l, .str wd]) ∧ LS.length ≤ 100 ∧ (∀ semi : List Ln, (∀ l ∈ semi, LineOk l) → semi.length ≤ 1 → Flt (LS ++ semi) nf wd),
              draw_ (by decide) g8.bx fun d4 H9 _ _ g9 => ⟨rfl, iteV (fun c => ?_) (fun c => ?_)⟩, ?_⟩
            · have g49 := g8.trans g9
              have l9 := l4.go g49
              refine ⟨_, hpp5 g49, _, at0, b, p1, v1, ths, rfl, l9.bx, h15 g49, rs1.tk (g49.tk l4.bx), g.sh, fun qa x H10 g10 hqa hx => draw_ (by omega) g10.bx fun k H11 k0 k1 g11 => ?_⟩
              have hqa11 := g11.tup g10.bx hqa
              have g411 := (g49.trans g10).trans g11
              have l11 := l4.go g411
              obtain ⟨kn, rfl⟩ : ∃ kn : Nat, k = (kn : Int) := ⟨k.toNat, by omega⟩
              have nn : ∀ (k : Nat), kindOf (ths.take k) "zzzzzzz9" = none ∧ kindOf (ths.take k) "zzzzzzz8" = none := fun k => ⟨kindOf_none (h9_of (g.sh.take k).nm (.inl rfl)), kindOf_none (h9_of (g.sh.take k).nm (.inr (.inl rfl)))⟩
              have fin : ∀ k : Nat, k ≤ ths.length → BadS (ths.take k) x.1 x.2 → ∃ k' : Nat, [some (V.ref a), some (V.ref b), some (V.ref pp), some (V.ref L), some (V.int v1.length), none, some (V.int k), none, some (V.ref qa), none, none, none, none] = [some (V.ref a), some (V.ref b), some (V.ref pp), some (V.ref L), some (V.int v1.length), none, some (V.int k'), none, some (V.ref qa), none, none, none, none] ∧ H11 = H11 ∧ k' ≤ ths.length ∧ BadS (ths.take k') x.1 x.2 := fun k h1 h2 => ⟨k, rfl, rfl, h1, h2⟩
              refine ⟨fun σ H' => ∃ k' : Nat, σ = [some (V.ref a), some (V.ref b), some (V.ref pp), some (V.ref L), some (V.int v1.length), none, some (V.int k'), none, some (V.ref qa), none, none, none, none] ∧ H' = H11 ∧ k' ≤ ths.length ∧ BadS (ths.take k') x.1 x.2, ?_, ?_⟩
              · rcases hx with ⟨t, tm, rfl⟩ | hx
                · have ng := g.sh.nm t tm
                  refine ⟨qa, rfl, _, hqa11, _, at1, rfl, ?_⟩
                  rw [if_pos rfl]
                  refine ⟨qa, rfl, _, hqa11, _, at0, _, rfl, own_len _ ng, ?_⟩
                  rw [if_pos (own_cut _)]
                  have h := badS_own (sh := ths) ng (kindOf_has tm)
                  exact ⟨qa, rfl, _, hqa11, _, at0, rfl, iteN (fun z => own_ne ng (V.str.inj z)) (fin v1.length (by omega) (by rw [l1, List.take_length]; exact h))⟩
                · have bs : ∀ k, BadS (ths.take k) x.1 x.2 := fun k => badS_of (nn k).1 (nn k).2 x hx
                  have hz : (lnS x.1).length ≤ sizeLine := by have := (bs 0).ok.len; exact le_line (by omega)
                  have fk := fin kn (by omega) (bs kn)
                  have ft := fin v1.length (by omega) (bs _)
                  refine ⟨qa, rfl, _, hqa11, _, at1, rfl, ite2 (fun _ => ⟨qa, rfl, _, hqa11, _, at0, _, rfl, hz, ite2 (fun _ => ⟨qa, rfl, _, hqa11, _, at0, rfl, ite2 (fun _ => fk) (fun _ => ft)⟩) (fun _ => fk)⟩) (fun _ => fk)⟩
              · rintro σ H' ⟨k', rfl, rfl, hk, bs⟩
                walk_at "wp"
                refine ⟨_, l11.hL, fun p12 H12 n12 => ⟨_, n12.kp _ _ hqa11, _, at0, fun p13 H13 n13 => ⟨p12, rfl, p13, rfl, _, n13.kp _ _ n12.at_, _, n13.at_, le_line ?_, fun p14 H14 n14 => ⟨_, n14.kp _ _ (n13.kp _ _ (n12.kp _ _ l11.hL)), fun p15 H15 n15 => ⟨p14, rfl, p15, rfl, _, n15.kp _ _ n14.at_, _, n15.at_, le_line ?_, fun p16 H16 n16 => ?_⟩⟩⟩⟩⟩
                · rw [cutV_pre, List.length_take, List.length_map]
                  simp only [List.length_singleton]
                  omega
                · rw [cutV_pre, cutV_suf, List.length_append, List.length_take, List.length_drop, List.length_map]
                  simp only [List.length_singleton]
                  omega
                · have s15 := n12.kp.trans (n13.kp.trans (n14.kp.trans n15.kp))
                  have b15 := l11.bx.same s15
                  refine ⟨p16, qa, (prL ths tss).take k' ++ x.1 :: (prL ths tss).drop k', k', x.1, x.2, _, _, _, _, _, _, rfl, b15.same n16.kp, b15.ne_new n16.fr, ?_, n16.kp _ _ (s15 _ _ hqa11), ?_, fun semi h1 h2 => flt_bad_sh g h1 h2 hk bs⟩
                  · rw [n16.at_, cutV_pre, cutV_suf, List.map_append, List.map_cons, List.map_take, List.map_drop, List.append_assoc]
                    rfl
                  · simp only [List.length_append, List.length_cons, List.length_take, List.length_drop]
                    omega
            · have g49 := g8.trans g9
              have h25 : ∀ {H5 : Hp}, Go b H4 H5 → H5 p2 = some (.tup v2) := fun g5 => g5.tup l4.bx h2
              refine ⟨_, hpp5 g49, _, at1, p2, rfl, _, h25 g49, draw_ (by omega) g49.bx fun wi H10 w0 w1 g10 => ⟨wi, rfl, by omega, by omega, ?_⟩⟩
              have g410 := g49.trans g10
              obtain ⟨wn, rfl⟩ : ∃ wn : Nat, wi = (wn : Int) := ⟨wi.toNat, by omega⟩
              have hw : wn < tss.length := by omega
              have fst0 : ((v1.length : Int) + 1) = (((prL ths (tss.take 0)).length + 1 : Nat) : Int) := by
                unfold prL
                rw [List.take_zero, List.flatMap_nil, List.append_nil, List.length_map, l1]
                rfl
              rw [fst0, Int.toNat_natCast]
              refine lp_r (lo := 0) (n := wn) (fun i σ H' => ∃ v11, σ = [some (.ref a), some (.ref b), some (.ref pp), some (.ref L), some (.int v1.length), none, none, none, none, some (.int wn), some (.int ((prL ths (tss.take i)).length + 1 : Nat)), v11, none] ∧ H' = H10) ⟨_, rfl, rfl⟩ ?_ ?_
              · rintro i σ H' hi ⟨v11, rfl, rfl⟩
                walk_at "wp"
                have hi2 : i < v2.length := by omega
                obtain ⟨dd, hdd, rd⟩ := rs2.at_ (List.getElem?_eq_getElem hi2)
                rw [List.getElem?_map] at hdd
                obtain ⟨is, his, rfl⟩ := Option.map_eq_some_iff.mp hdd
                obtain ⟨p3, v3, e3, h3, rs3⟩ := Rp.tup_inv rd
                have l3 : v3.length = is.length := by have := rs3.1; rwa [List.length_map] at this
                refine ⟨_, hpp5 g410, _, at1, p2, rfl, _, h25 g410, .ref p3, ?_, p3, rfl, _, g410.tup l4.bx h3, ?_⟩
                · rw [Int.zero_add]
                  exact atI_nat (by rw [← e3]; exact List.getElem?_eq_getElem hi2)
                · have e : tss.take (i + 1) = tss.take i ++ [is] := by rw [List.take_add_one, his]; rfl
                  have en : (((prL ths (tss.take i)).length + 1 : Nat) : Int) + (v3.length : Int) + 1 = (((prL ths (tss.take (i + 1))).length + 1 : Nat) : Int) := by
                    rw [e, prL_snoc, l3]
                    omega
                  rw [en]
                  exact ⟨_, rfl⟩
              · rintro σ H' ⟨v11, rfl, rfl⟩
                walk_at "wp"
                have hi2 : wn < v2.length := by omega
                obtain ⟨dd, hdd, rd⟩ := rs2.at_ (List.getElem?_eq_getElem hi2)
                rw [List.getElem?_map] at hdd
                obtain ⟨is, his, rfl⟩ := Option.map_eq_some_iff.mp hdd
                obtain ⟨p3, v3, e3, h3, rs3⟩ := Rp.tup_inv rd
                have l3 : v3.length = is.length := by have := rs3.1; rwa [List.length_map] at this
                have gis : ThrG ths is := g.ok is (List.mem_of_getElem? his)
                have g11' := gis.n2
                have et : tss = tss.take wn ++ is :: tss.drop (wn + 1) := by
                  rw [← List.getElem?_eq_some_iff.mp his |>.2, ← List.drop_eq_getElem_cons hw, List.take_append_drop]
                refine ⟨_, hpp5 g410, _, at1, p2, rfl, _, h25 g410, .ref p3, atI_nat (by rw [← e3]; exact List.getElem?_eq_getElem hi2), p3, rfl, _, g410.tup l4.bx h3, ?_⟩
                rw [l3]
                refine ⟨b, is.length, rfl, g11', g410.bx, fun qa x H11 g11 hqa hx => draw_ (by omega) g11.bx fun j H12 j0 j1 g12 => ?_⟩
                obtain ⟨jn, rfl⟩ : ∃ jn : Nat, j = (jn : Int) := ⟨j.toNat, by omega⟩
                have hj : jn ≤ is.length := by omega
                have ej : ((((prL ths (tss.take wn)).length + 1 : Nat) : Int) + (jn : Int)) = (((prL ths (tss.take wn)).length + 1 + jn : Nat) : Int) := by omega
                generalize ek : (prL ths (tss.take wn)).length + 1 + jn = k' at ej
                have hqa12 := g12.tup g11.bx hqa
                have g412 := (g410.trans g11).trans g12
                have l12 := l4.go g412
                have bs := badI_of g11' x hx
                refine ⟨_, rfl, ?_⟩
                rw [ej]
                refine ⟨_, l12.hL, fun p12 H13 n13 => ⟨qa, rfl, _, n13.kp _ _ hqa12, _, at0, fun p13 H14 n14 => ⟨p12, rfl, p13, rfl, _, n14.kp _ _ n13.at_, _, n14.at_, le_line ?_, fun p14 H15 n15 => ?_⟩⟩⟩
                · rw [cutV_pre, List.length_take, List.length_map]
                  simp only [List.length_singleton]
                  omega
                · have s15 := n13.kp.trans (n14.kp.trans n15.kp)
                  have b15 := l12.bx.same s15
                  refine ⟨_, s15 _ _ l12.hL, fun p15 H16 n16 => ⟨p14, rfl, p15, rfl, _, n16.kp _ _ n15.at_, _, n16.at_, le_line ?_, fun p16 H17 n17 => ?_⟩⟩
                  · rw [cutV_pre, cutV_suf, List.length_append, List.length_take, List.length_drop, List.length_map]
                    simp only [List.length_singleton]
                    omega
                  · refine ⟨p16, qa, (prL ths tss).take k' ++ x.1 :: (prL ths tss).drop k', k', x.1, x.2, _, _, _, _, _, _, rfl, (b15.same n16.kp).same n17.kp, (b15.same n16.kp).ne_new n17.fr, ?_, n17.kp _ _ (n16.kp _ _ (s15 _ _ hqa12)), ?_, fun semi h1 h2 => ?_⟩
                    · rw [n17.at_, cutV_pre, cutV_suf, List.map_append, List.map_cons, List.map_take, List.map_drop, List.append_assoc]
                      rfl
                    · simp only [List.length_append, List.length_cons, List.length_take, List.length_drop]
                      omega
                    · subst ek
                      exact flt_bad_in g et hj h1 h2 bs
            · rintro σ H9 ⟨M, qa, LS, nf, l, wd, v5, v7, v9, v10, v11, v12, rfl, bx9, Mb, hM, hqa, hle, hf⟩
              walk_at "wp"
              refine ⟨fun σ H' => ∃ (LS : List Ln), σ = [some (.ref a), some (.ref b), some (.ref pp), some (.ref M), some (.int v1.length), v5, some (.int nf), v7, some (.ref qa), v9, v10, v11, v12] ∧ H' M = some (.lst (LS.map lnV)) ∧ H' qa = some (.tup [lnV l, .str wd]) ∧ Flt LS nf wd, draw_ (by decide) bx9 fun d5 H10 _ _ g10 => ⟨rfl, iteV (fun c => ?_) (fun c => ?_)⟩, ?_⟩
              · have hM10 := g10.kp _ _ Mb hM
                have hqa10 := g10.tup bx9 hqa
                refine ⟨⟨_, hM10⟩, _, hM10, lt_line (by rw [List.length_map]; omega), fun H11 g11 => ⟨LS ++ [[B ";"]], rfl, ?_, ?_, hf _ (fun l hl => by rw [List.mem_singleton.mp hl]; exact semi_ok.1) (by simp)⟩⟩
                · rw [g11.at_, List.map_append, List.map_singleton, semi_ok.2]
                · exact g11.kp _ _ (ne_of hqa10 hM10 (by intro z; cases z)) hqa10
              · have f := hf [] (fun l hl => by cases hl) (by simp)
                rw [List.append_nil] at f
                exact ⟨LS, rfl, g10.kp _ _ Mb hM, g10.tup bx9 hqa, f⟩
              · rintro σ H10 ⟨LS2, rfl, hM10, hqa10, f1⟩
                walk_at "wp"
                refine ⟨LS2.map lnS, by rw [hM10, lnV_map], f1.join, _, _, _, _, rfl, f1.pre, fun r H11 fr hr11 s11 => ⟨_, s11 _ _ hqa10, _, at1, fun p12 H12 n12 => ⟨r, p12, nf, wd, rfl, n12.kp _ _ hr11, n12.at_, q _⟩⟩⟩
end
end K10
set_option linter.all false
set_option maxRecDepth 100000
set_option maxHeartbeats 4000000
namespace K10
open PySem PySem.Spec PyProof.Rows L2
/-! ### ProgramFault.__init__: a def with a cell for its class, super().__init__(..) ahead of two fields -/
abbrev qPF : Str := "ProgramFault.__init__"
abbrev scPF : Scope := defScope s_PF_init
abbrev eInit : Expr := match defBody s_PF_init with | .Expr e _ :: _ => e | _ => .Constant .none 0 ⟨0, 0, 0, 0⟩
/-- what the top has laid for it -/
structure PFt (P : Program) (K : PySem.W.Frag) (C f : Addr) : Prop where
  ex : ∃ (oc : Value) (od : Option Addr) (osl : Array (Option Value)) (kV doc pm ct : Value) (an : Option Addr) (cda cc : Addr) (ccl cl : Value) (cdd cld : Option Addr) (vs : Array Value) (ccs csl : Array (Option Value)) (file : Str) (tf : PySem.Tok) (cdD : ClassData),
    K.lookup f = some ⟨oc, od, .func (PySem.W.ksFn "__init__" qPF (defArgs s_PF_init) (defBody s_PF_init) scPF .none kV doc pm an (.ref cda) ct cc), osl⟩ ∧ PySem.W.codeIn K (.ref cda) qPF = true ∧
    K.lookup cda = some ⟨ccl, cdd, .fields vs, ccs⟩ ∧ vs[2]? = some (.str file tf) ∧ ((P.main.file : Str) == file) = true ∧ K.lookup cc = some ⟨cl, cld, .cell (some (.ref C)), csl⟩ ∧ PySem.W.clsIn K C = some cdD
  ox : OexC K C
  mro : PySem.W.mroIn K C (.ref C) = some true
  sup : PySem.W.ks_superIn K C C "__init__" = some (some (.builtin "ValueError.__init__"))
  ve : PySem.W.subIn K (.ref C) (.type "ValueError") = some true
  opq : PySem.W.nsIn K cStatics "thirdparty.any" = some none
  nsup : PySem.W.nsIn K mainGlobals "super" = some none
  f_line : PySem.W.findIn K (.ref C) "line" = some none
  f_word : PySem.W.findIn K (.ref C) "word" = some none
  topn : (P.main.scope.names.lookup ("super" : Str)).isSome = false
/-- its body's context -/
def cxC (P : Program) (w : World) (K : PySem.W.Frag) (mg : Str → Option Value) (base : Heap) (cdv : Value) (cc f : Addr) (A : Around) (outer : List Env) (s : Shared) (H : Hp) (E : XK) : Cx where
  prog := P
  w := w
  K := K
  mg := mg
  base := base
  A := A.deeper (PySem.W.ksEnv qPF scPF s.heap.objs.size f cdv cc)
  N := ["self", "line", "word"]
  s_0 := s
  H_0 := H
  env := PySem.W.ksEnv qPF scPF s.heap.objs.size f cdv cc
  outer := outer
  stack := PySem.W.ksEnv qPF scPF s.heap.objs.size f cdv cc :: outer
  ex := []
  calm := true
  fn := fun _ => false
  pn := []
  xe := fun e s' => wpAny (model P w) (A.deeper (PySem.W.ksEnv qPF scPF s.heap.objs.size f cdv cc)) (leaving (PySem.W.ksEnv qPF scPF s.heap.objs.size f cdv cc) e) (fun _ s'' => L2.CX0 outer H s E e s'') (fun e' s'' => L2.CX0 outer H s E e' s'') s'
section
variable {P : Program} {w : World} {K : PySem.W.Frag} {mg : Str → Option Value} {base : Heap} {C f : Addr}
theorem cell1 {cc c : Addr} {x : Str} (h : ([("__class__", cc)] : List (Str × Addr)).lookup x = some c) : x = "__class__" ∧ c = cc := by
  rw [List.lookup_cons] at h
  cases q : x == ("__class__" : Str) with
  | true => rw [q] at h; exact ⟨eq_of_beq q, (Option.some.inj h).symm⟩
  | false => rw [q] at h; cases h
theorem inv_pf {cdv : Value} {cc : Addr} {A : Around} {outer : List Env} {s : Shared} {H : Hp} {E : XK} {us : List Value} {a : Addr} {n : Int} {x : Str} {h0 : Heap} {tk : Nat} {cl : Value} {cld : Option Addr} {csl : Array (Option Value)}
    (hd : A.handled = none) (e0 : Env0 P w K mg base A outer s H) (r : Vals [.ref a, .int n, .str x] us) (hcc : K.lookup cc = some ⟨cl, cld, .cell (some (.ref C)), csl⟩)
    (hns : h0.Ns s.heap.objs.size (fun y => ((["self", "line", "word"] : List Str).zip us).reverse.lookup y)) (hk : ∀ b o, s.heap.get? b = some o → h0.get? b = some o) :
    Inv (cxC P w K mg base cdv cc f A outer s H E) [] [some (.ref a), some (.int n), some (.str x)] H { s with heap := h0, toks := tk } := by
  have bcc := e0.mod.kin _ _ hcc
  have kcc := e0.bs _ _ bcc
  have noA : ∀ b : Addr, b ∉ (cxC P w K mg base cdv cc f A outer s H E).ex := fun b z => absurd (show b ∈ ([] : List Addr) from z) (by simp)
  refine ⟨⟨e0.mod, rfl, rfl, rfl, Nat.le_refl _, fun y z c h1 h2 => ?_, fun y hy => ?_, fun y c h _ => (Bool.noConfusion (show false = true from h)), fun _ => hd, Around.frames_deeper e0.frames, .inr ⟨rfl, rfl⟩, fun b z => absurd z (noA b), e0.bs, e0.bsz, fun b _ _ => noA b, fun b z => absurd z (noA b), e0.funs, e0.frf⟩,
    rfl, e0.bare, Un.kept hk, ⟨_, hns, fun i y v h1 h2 h3 => ?_⟩, fun y c h => ?_, e0.hok.fresh (Nat.le_refl _), fun y c h => ?_, fun p hp => absurd (show p ∈ ([] : List (Addr × Obj)) from hp) (by simp), e0.hok.kept hk, rfl⟩
  · rw [(cell1 h1).1, (cell1 h2).1]
  · refine ⟨cc, ?_⟩
    have hy' : scPF.names.lookup y = some .cell ∨ scPF.names.lookup y = some .free := hy
    have e : y = "__class__" := by
      rcases hy' with q | q
      · have m := PySem.mem_of_lookup q
        have all : ∀ z ∈ scPF.names, z.2 ≠ .cell := by decide +kernel
        exact absurd rfl (all _ m)
      · have m := PySem.mem_of_lookup q
        have all : ∀ z ∈ scPF.names, z.2 = .free → z.1 = "__class__" := by decide +kernel
        exact all _ m rfl
    subst e
    rfl
  · cases r with
    | @cons _ u0 _ _ r0 r =>
    cases r with
    | @cons _ u1 _ _ r1 r =>
    cases r with
    | @cons _ u2 _ _ r2 r =>
    cases r
    match i, h1, h2 with
    | 0, h1, h2 =>
      cases Option.some.inj h1
      cases Option.some.inj (Option.some.inj h2)
      exact ⟨u0, r0, .inl ⟨by first | rfl | decide +kernel, by first | rfl | decide +kernel⟩⟩
    | 1, h1, h2 =>
      cases Option.some.inj h1
      cases Option.some.inj (Option.some.inj h2)
      exact ⟨u1, r1, .inl ⟨by first | rfl | decide +kernel, by first | rfl | decide +kernel⟩⟩
    | 2, h1, h2 =>
      cases Option.some.inj h1
      cases Option.some.inj (Option.some.inj h2)
      exact ⟨u2, r2, .inl ⟨by first | rfl | decide +kernel, by first | rfl | decide +kernel⟩⟩
    | i + 3, h1, h2 => cases h2
  · obtain ⟨rfl, rfl⟩ := cell1 h
    exact ⟨_, _, hk _ _ kcc.1, rfl⟩
  · obtain ⟨rfl, rfl⟩ := cell1 h
    exact kcc.2
theorem call_mw {X : Cx} {pins : List (Addr × Obj)} {σ : L2.St} {H : Hp} {s : Shared} {a u : Addr} {us : List Value} {Q : Value → Shared → Prop} {E : Value → Shared → Prop} {A : Around} (T : OexC X.K C) (I : Inv X pins σ H s) (e : H a = some (exo a C none)) (hu : s.heap.get? u = some (PySem.W.kxs_mw "ValueError.__init__" a))
    (hl : us.length ≤ sizeLine) (h : ∀ s', Inv X pins σ H s' → Q .none s') : wpAny (model X.prog X.w) A (call (.ref u) us) Q E s := by
  obtain ⟨nm, q, N, bs, bm, sn, sub, ab, col, dd, k0, k1, k2, k3, k5, hC, hbm⟩ := T.cls
  obtain ⟨t1, ho⟩ := exo_at I.hok e
  obtain ⟨hp, g, d, t, os⟩ := s
  refine wpAny_call (codeAny_of_tree ?_)
  show wpAny _ A.in1 (callAny (.ref u) ⟨us, []⟩) _ _ _
  simp only [callAny]
  refine wpAny_bind (wpAny_load hu ?_)
  simp only [PySem.W.kxs_mw, show (Value.type "method-wrapper" == Value.type "method" || Value.type "method-wrapper" == Value.type "builtin_function_or_method" || Value.type "method-wrapper" == Value.type "method-wrapper") = true by decide, if_true]
  refine PySem.W.KFB.if_so (by decide) ?_
  refine wpAny_bind (PySem.W.check_bound_init F.excBase_ValueError.toExcCallFacts (I.kIn _ _ hC) ho rfl ?_)
  refine wpAny_bind (wpAny_pure (wpAny_pure ?_))
  refine ⟨plainId_quiet F.excBase_ValueError.init.plain _, codeAny_builtin F.excBase_ValueError.initEntry ?_⟩
  refine PySem.W.exc_init_tree (cls := .ref C) (t0 := t1) (dv := none) (c2 := .none) (c3 := .none) (b4 := .bool false) ho hl fun h' k hx ht => ?_
  have J := I.write (t' := t) (x := a) (e := a) (o := exo a C none) (by rw [e]; exact True.intro) (.inl rfl) k ⟨_, hx⟩ (exo_ok hx)
  have eu : upd H a (exo a C none) = H := by
    funext b
    by_cases hb : b = a
    · rw [hb, upd_same, e]
    · rw [upd_ne hb]
  rw [eu] at J
  exact h _ J
/-- the body -/
theorem body_pf {cda cc : Addr} {A : Around} {outer : List Env} {s0 s : Shared} {H H0 : Hp} {E : XK} {a : Addr} {n : Int} {x : Str} {oc : Value} {od : Option Addr} {osl : Array (Option Value)} {kV doc pm ct : Value} {an : Option Addr} {ccl cl : Value} {cdd cld : Option Addr} {vs : Array Value} {ccs csl : Array (Option Value)} {file : Str} {tf : PySem.Tok} {cdD : ClassData}
    (T : PFt P K C f) (lk : K.lookup f = some ⟨oc, od, .func (PySem.W.ksFn "__init__" qPF (defArgs s_PF_init) (defBody s_PF_init) scPF .none kV doc pm an (.ref cda) ct cc), osl⟩) (lkc : K.lookup cda = some ⟨ccl, cdd, .fields vs, ccs⟩) (hvs : vs[2]? = some (.str file tf)) (hfile : ((P.main.file : Str) == file) = true)
    (lcc : K.lookup cc = some ⟨cl, cld, .cell (some (.ref C)), csl⟩) (hcl : PySem.W.clsIn K C = some cdD)
    (I : Inv (cxC P w K mg base (.ref cda) cc f A outer s0 H0 E) [] [some (.ref a), some (.int n), some (.str x)] H s) (ha : H a = some (exo a C none)) (hn : n.natAbs.log2 < 1920) (hx : x.length ≤ 1000) (hs : (toString n : Str).length ≤ 1000) :
    PySem.wpAt (model P w) (A.deeper (PySem.W.ksEnv qPF scPF s0.heap.objs.size f (.ref cda) cc)) (.func (defBody s_PF_init) (PySem.W.ksEnv qPF scPF s0.heap.objs.size f (.ref cda) cc)) (execs (defBody s_PF_init) (PySem.W.ksEnv qPF scPF s0.heap.objs.size f (.ref cda) cc))
      (fun fl s' => fl = .next ∧ ∃ d, H d = none ∧ d ≠ a ∧ ∃ pins σ, Inv (cxC P w K mg base (.ref cda) cc f A outer s0 H0 E) pins σ (upd (upd (upd H d (exd d [("line", .int n)])) a (exo a C (some d))) d (exd d [("word", .str x), ("line", .int n)])) s')
      (cxC P w K mg base (.ref cda) cc f A outer s0 H0 E).xe s := by
  have KX := I.kIn
  obtain ⟨oD, hD1, hD2⟩ : ∃ oD, s.heap.get? C = some oD ∧ oD.data = .cls cdD := by
    have hD := hcl
    unfold PySem.W.clsIn at hD
    split at hD
    · rename_i c d cd' sl ho
      cases hD
      exact ⟨_, KX _ _ ho, rfl⟩
    · cases hD
  obtain ⟨t1, hax⟩ := exo_at I.hok ha
  have mgs : mg "super" = none := PySem.W.mg_none_of I.mod.kin I.mod.glob T.nsup
  refine ks_wpAt_execs_cons ?_
  refine ks_wpAt_Expr_any ?_
  refine ks_wpAt_MethodCall ?_
  refine ks_wpAt_super_base rfl rfl (by decide +kernel) rfl (KX _ _ lk) rfl rfl rfl (KX _ _ lkc) rfl hvs hfile T.topn ?_
  obtain ⟨mb, hb1, hb2⟩ := I.mod.blt
  refine PySem.W.ks_loadName_global rfl rfl (Calls.loadGlobal_builtin (I.mod.glob.keeps I.bk) mgs (hb1.keeps I.bk) ((hb2 "super" (by decide +kernel)).trans PyProof.Rows.Boot.«super») ⟨rfl, ?_⟩)
  refine wpAny_loadName_free rfl rfl rfl ⟨_, KX _ _ lcc, rfl⟩ ?_
  have hself : ∃ m, s.heap.Ns s0.heap.objs.size m ∧ m "self" = some (.ref a) := by
    obtain ⟨m, hns, hl⟩ := I.loc
    obtain ⟨u, r, l⟩ := hl 0 "self" (.ref a) rfl rfl (.inl rfl)
    cases (show u = Value.ref a from r)
    rcases l with ⟨_, q⟩ | ⟨z, _⟩
    · exact ⟨m, hns, q⟩
    · rcases z with z | z
      · exact absurd (show List.lookup ("self" : Str) scPF.names = some NameKind.cell from z) (by decide +kernel)
      · exact absurd (show List.lookup ("self" : Str) scPF.names = some NameKind.free from z) (by decide +kernel)
  obtain ⟨m, hns, hms⟩ := hself
  refine wpAny_loadName_local rfl rfl hns hms ?_
  refine ks_wpAny_isType_cls hD1 hD2 ⟨rfl, ?_⟩
  obtain ⟨hh, g, d, t, os⟩ := s
  refine ks_wpAny_call_super hD1 hD2 hax rfl (fun c e => by cases e) (PySem.W.looks_mroIn KX T.mro) (fun h1 e1 k1 => ?_)
  have I1 := I.kept (t' := t) (h' := h1) k1
  have X1 : K.In h1 := I1.kIn
  have hsup := T.sup
  unfold PySem.W.ks_superIn at hsup
  rw [hcl] at hsup
  have Iat : PySem.W.InstAt h1 a _ C none := ⟨k1 _ _ hax, rfl, rfl, trivial⟩
  refine PySem.W.kxs_getMethod PySem.W.kxs_ValueError e1 (PySem.W.looks_opaque X1 T.opq) (l₀ := cdD.mro) (fun A Q E s k q => wpAny_bind ((PySem.W.looks_clsIn X1 hcl) A _ E s k (wpAny_pure q))) rfl X1 hsup (Iat.type.andThen (PySem.W.looks_subIn X1 T.ve)) (PySem.W.ks_ne X1 Iat hcl) (by decide +kernel) ?_
  have I2 := I1.kept (t' := t + 1) (h' := h1.push (PySem.W.kxs_mw "ValueError.__init__" a)) (fun b u e => Heap.get?_push_of_some _ e)
  have mwat : (h1.push (PySem.W.kxs_mw "ValueError.__init__" a)).get? h1.objs.size = some (PySem.W.kxs_mw "ValueError.__init__" a) := Heap.get?_push_at rfl rfl
  have I3 := I2.pins_of (pins' := [(h1.objs.size, PySem.W.kxs_mw "ValueError.__init__" a)]) (fun p hp => by
    obtain rfl := List.mem_singleton.mp hp
    refine ⟨mwat, I1.hok.fresh (Nat.le_refl _), fun z => ?_, I1.nofs (Nat.le_refl _), fun v z => by cases z⟩
    have := I1.lt
    rw [← z] at this
    exact absurd this (Nat.lt_irrefl _))
  have fm : PE (cxC P w K mg base (.ref cda) cc f A outer s0 H0 E) (match eInit with | .Call _ (e :: _) _ _ => e | e => e) _ := pe_joined (.cons (pe_fmt (pv 2)) (.cons pe_str (.cons (pe_fmt (pv 1)) .nil)))
  refine PySem.W.kxs_callWith (i := "ValueError.__init__") (x := a) rfl (Calls.evalArgs_plain ?_)
  refine thn ((pa_cons fm pa_nil).run _ [(h1.objs.size, PySem.W.kxs_mw "ValueError.__init__" a)] _ _ _ (fun vs H1 => H1 = H ∧ vs.length ≤ 1) I3 ?_) fun us s4 ⟨ws, H4, I4, r4, q4⟩ => ?_
  · simp only [tCons, tNil, tJs, tFmt, tVar, tC, exists_eq_left', List.getElem?_cons_zero, List.getElem?_cons_succ, Option.some.injEq]
    have l0 : (Str.empty).length = 0 := by decide +kernel
    have l1 : ("" ++ " in line " : Str).length = 9 := by decide +kernel
    have l2 : (" in line " : Str).length = 9 := by decide +kernel
    have ap : ∀ p q : Str, (p ++ q).length = p.length + q.length := fun p q => by rw [TL.len_tl, TL.tl_append, List.length_append, ← TL.len_tl, ← TL.len_tl]
    refine .inl ⟨x, rfl, le_line (by omega), x, rfl, le_line (by rw [ap, l0]; omega), _, rfl, le_line (by rw [ap, ap, l0, l2]; omega), .inr ⟨n, rfl, hn, _, rfl, le_line (by rw [ap, ap, ap, l0, l2]; omega), True.intro, by simp⟩⟩
  · obtain ⟨rfl, hlen⟩ := q4
    refine ⟨(I4.pin _ (List.mem_append_right _ (List.mem_singleton.mpr rfl))).1, ?_⟩
    have hl4 : us.length ≤ sizeLine := by
      rw [← Paired.length r4]
      exact le_line (by omega)
    rw [List.nil_append]
    refine call_mw T.ox I4 ha (I4.pin _ (List.mem_append_right _ (List.mem_singleton.mpr rfl))).1 hl4 fun s5 I5 => ?_
    refine wpAt_of_wpAny ?_
    have rest : PSs (cxC P w K mg base (.ref cda) cc f A outer s0 H0 E) ((defBody s_PF_init).drop 1) _ := pss_cons (ps_ost (pv 0) (pv 1)) (pss_one (ps_ost (pv 0) (pv 2)))
    refine thn (rest.run [(h1.objs.size, PySem.W.kxs_mw "ValueError.__init__" a)] s5 _ _ { nx := fun σ H' => ∃ d, H4 d = none ∧ d ≠ a ∧ H' = upd (upd (upd H4 d (exd d [("line", .int n)])) a (exo a C (some d))) d (exd d [("word", .str x), ("line", .int n)]), rt := fun _ _ => False } I5 ?_) fun fl s6 h6 => ?_
    · refine ⟨_, rfl, _, rfl, a, C, rfl, T.ox, T.f_line, .inl ⟨ha, fun d hd dn => ⟨_, rfl, _, rfl, a, C, rfl, T.ox, T.f_word, .inr ⟨d, _, upd_same, ?_, by simp, d, hd, dn, rfl⟩⟩⟩⟩
      rw [upd_ne dn, upd_same]
    · cases fl with
      | next =>
        obtain ⟨σ', H', I6, d, hd, dn, rfl⟩ := h6
        exact ⟨rfl, d, hd, dn, _, _, I6⟩
      | ret u =>
        obtain ⟨_, _, _, _, _, q⟩ := h6
        exact q.elim
      | brk =>
        obtain ⟨_, _, _, q⟩ := h6
        exact q.elim
      | cont =>
        obtain ⟨_, _, _, q⟩ := h6
        exact q.elim
theorem ok_pf (T : PFt P K C f) : ∃ fd, FnOk P w K mg base L2.CX0 1 f fd ["self", "line", "word"] (spPF C) ∧ Binds K fd ["self", "line", "word"] [] := by
  obtain ⟨oc, od, osl, kV, doc, pm, ct, an, cda, cc, ccl, cl, cdd, cld, vs, ccs, csl, file, tf, cdD, lk, hcd, lkc, hvs, hfile, lcc, hcl⟩ := T.ex
  refine ⟨_, ⟨fun vs H Q E h => ?_, fun A outer s H args us vals Q E hr e0 hb r hsp => ?_⟩, Binds.all (fd := PySem.W.ksFn "__init__" qPF (defArgs s_PF_init) (defBody s_PF_init) scPF .none kV doc pm an (.ref cda) ct cc) fun us hl => match us, hl with | [_, _, _], _ => rfl⟩
  · obtain ⟨_, _, _, rfl, _⟩ := h
    rfl
  obtain ⟨a, n, x, rfl, ha, n0, n1, hw, q⟩ := hsp
  have KX : K.In s.heap := e0.mod.kin.keeps fun b o e => (e0.bs b o e).1
  have lim : s.heap.NoLimit := e0.mod.nolimit.keeps fun b o e => (e0.bs b o e).1
  have hloc : ∀ y ∈ (["self", "line", "word"] : List Str).zip us, scPF.names.lookup y.1 = some .local := fun ⟨m, v⟩ hy => by
    have all : ∀ z ∈ (["self", "line", "word"] : List Str), scPF.names.lookup z = some .local := by decide +kernel
    exact all m (List.of_mem_zip hy).1
  have hcell : ∀ y ∈ scPF.names, y.2 ≠ .cell := by decide +kernel
  refine ks_codeAny_call_defAt (fd := PySem.W.ksFn "__init__" qPF (defArgs s_PF_init) (defBody s_PF_init) scPF .none kV doc pm an (.ref cda) ct cc) (body := defBody s_PF_init) hr.depth (KX _ _ lk) rfl lim (PySem.W.codeRec_of KX hcd) rfl hb hcell hloc (fun h0 hns hk => ?_) rfl rfl rfl
  have I : Inv (cxC P w K mg base (.ref cda) cc f A outer s H E) [] [some (.ref a), some (.int n), some (.str x)] H { s with heap := h0, toks := s.toks + ((["self", "line", "word"] : List Str).zip us).length } := inv_pf hr.hd e0 r lcc hns hk
  have hlog : n.natAbs.log2 < 1920 := by
    by_cases h0 : n.natAbs = 0
    · rw [h0]
      decide
    · exact Nat.lt_of_lt_of_le ((Nat.log2_lt h0 (k := 1000)).mpr (by omega)) (by decide)
  have hlen : (toString n : Str).length ≤ 1000 := by
    obtain ⟨k, rfl⟩ : ∃ k : Nat, n = (k : Int) := ⟨n.toNat, by omega⟩
    have all : ∀ k : Nat, k < 1000 → (Str.ofString (toString (Int.ofNat k))).length ≤ 1000 := by decide +kernel
    exact all k (by omega)
  refine ks_wpAt_mono (body_pf T lk lkc hvs hfile lcc hcl I ha hlog (by omega) hlen) (fun fl s' hs => ?_) fun e s' hs => hs
  obtain ⟨rfl, d, hd, dn, pins, σ, J⟩ := hs
  exact ⟨V.non, _, J.os, J.bare, J.base, J.hok, rfl, q d _ (by rw [upd_ne (Ne.symm dn), upd_same]) upd_same hd fun b o hb e => by
    have hbd := ne_of_none e hd
    rw [upd_ne hbd, upd_ne hb, upd_ne hbd]
    exact e⟩
end
end K10
set_option linter.all false
set_option maxRecDepth 100000
set_option maxHeartbeats 4000000
namespace K10
open PySem PySem.Spec PyProof.Rows L2
/-- all that the top has written -/
structure Fc (P : Program) (w : World) (K : PySem.W.Frag) (mg : Str → Option Value) (Ax : Ad) : Prop where
  T : Tx w K mg Ax
  rd : RdT K Ax.rd
  dr : DrT K Ax.dr
  pf : ∃ f, PFt P K Ax.pf f ∧ PySem.W.findIn K (.ref Ax.pf) "__init__" = some (some (.ref f)) ∧ PySem.W.typeIn K (.ref f) = some (.type "function")
  fa : FaT K Ax.pf
  d01 : Df K mg "_law_draw" s_law_draw ["_law_box", "_law_many"]
  d02 : Df K mg "_law_cell" s_law_cell ["_law_script", "_law_k"]
  d03 : Df K mg "_law_digits" s_law_digits ["_law_script", "_law_first", "_law_last"]
  d04 : Df K mg "_law_same" s_law_same ["_law_actual", "_law_due"]
  d05 : Df K mg "_law_tree" s_law_tree ["_law_box", "_law_depth"]
  d06 : Df K mg "_law_level" s_law_level ["_law_tree_here"]
  d07 : Df K mg "_law_around" s_law_around ["_law_tree_here", "_law_least"]
  d08 : Df K mg "_law_texts" s_law_texts ["_law_tree_here"]
  d09 : Df K mg "_law_name" s_law_name ["_law_box", "_law_taken"]
  d10 : Df K mg "_law_of_kind" s_law_of_kind ["_law_shared_here", "_law_kind"]
  d11 : Df K mg "_law_shared" s_law_shared ["_law_box"]
  d12 : Df K mg "_law_instruction" s_law_instruction ["_law_box", "_law_shared_here", "_law_size", "_law_depth"]
  d13 : Df K mg "_law_thread" s_law_thread ["_law_box", "_law_shared_here", "_law_most", "_law_depth"]
  d14 : Df K mg "_law_program" s_law_program ["_law_box", "_law_threads", "_law_most", "_law_depth"]
  d15 : Df K mg "_law_line" s_law_line ["_law_item"]
  d16 : Df K mg "_law_lines" s_law_lines ["_law_program_here"]
  d17 : Df K mg "_law_texts_of" s_law_texts_of ["_law_program_here"]
  d18 : Df K mg "_law_is_open" s_law_is_open ["_law_thread_here", "_law_at"]
  d19 : Df K mg "_law_bad_shared" s_law_bad_shared ["_law_box", "_law_shared_here"]
  d20 : Df K mg "_law_bad_instruction" s_law_bad_instruction ["_law_box", "_law_size"]
  d21 : Df K mg "_law_too_many" s_law_too_many ["_law_box", "_law_program_here", "_law_lines_here"]
  d22 : Df K mg "_law_fault" s_law_fault ["_law_text"]
  d23 : Df K mg "_run_end" s_run_end ["line", "at", "chars"]
  d24 : Df K mg "_token" s_token ["line", "at"]
  d25 : Df K mg "tokens" s_tokens ["line"]
  d26 : Df K mg "is_name" s_is_name ["text"]
  d27 : Df K mg "_fits" s_fits ["parts", "form"]
  d28 : Df K mg "_shared" s_shared ["parts"]
  d29 : Df K mg "_simple" s_simple ["parts"]
  d30 : Df K mg "read_expression" s_read_expression ["parts"]
  d31 : Df K mg "_with_tree" s_with_tree ["head", "parts"]
  d32 : Df K mg "_instruction" s_instruction ["parts"]
  d33 : Df K mg "read_program" s_read_program ["text"]
  d34 : ∃ f fd, L2.Fun K "law" "law" s_law f fd ∧ mg "law" = some (.ref f)
  k1 : Dk K mg "Reader" Ax.rd "Reader.__init__" s_Reader___init__ ["self", "parts"]
  k2 : Dk K mg "Draft" Ax.dr "Draft.__init__" s_Draft___init__ ["self", "lines"]
  m1 : Dm K Ax.rd "sees" "Reader.sees" s_Reader_sees ["self", "texts"]
  m2 : Dm K Ax.rd "take" "Reader.take" s_Reader_take ["self"]
  m3 : Dm K Ax.rd "factor" "Reader.factor" s_Reader_factor ["self"]
  m4 : Dm K Ax.rd "level" "Reader.level" s_Reader_level ["self", "depth"]
  m5 : Dm K Ax.rd "group" "Reader.group" s_Reader_group ["self"]
  m6 : Dm K Ax.dr "kind" "Draft.kind" s_Draft_kind ["self", "name"]
  m7 : Dm K Ax.dr "size" "Draft.size" s_Draft_size ["self", "at"]
  m8 : Dm K Ax.dr "add_shared" "Draft.add_shared" s_Draft_add_shared ["self", "at", "thing"]
  m9 : Dm K Ax.dr "add_thread" "Draft.add_thread" s_Draft_add_thread ["self", "at"]
  n1 : Dm K Ax.dr "add_instruction" "Draft.add_instruction" s_Draft_add_instruction ["self", "at", "instruction"]
  n2 : Dm K Ax.dr "add_line" "Draft.add_line" s_Draft_add_line ["self", "at", "parts"]
  n3 : Dm K Ax.dr "program" "Draft.program" s_Draft_program ["self"]
section
variable {P : Program} {w : World} {K : PySem.W.Frag} {mg : Str → Option Value} {base : Heap} {Ax : Ad}
theorem law_all {f : Addr} {fd : FuncData} (F : L2.Fun K "law" "law" s_law f fd) (Z : Fc P w K mg Ax) : FnOk P w K mg base L2.CX0 16 f fd ["_law_script"] (spLaw K) := by
  have T := Z.T
  have draw : Cl P w K mg base L2.CX0 1 "_law_draw" spDraw := by
    obtain ⟨f, fd, F, hm, b⟩ := Z.d01.ex
    exact ⟨f, fd, _, ok_law_draw F T, hm, F.kp, b⟩
  have pf : PF P w K mg base Ax.pf := by
    obtain ⟨f, h1, h2, h3⟩ := Z.pf
    obtain ⟨fd, h4, h5⟩ := ok_pf (w := w) (mg := mg) (base := base) h1
    exact ⟨f, fd, _, h1.ox, h2, h3, h4, h5, T.g_ProgramFault⟩
  have run_end := ok_run_end (P := P) (w := w) (base := base) Z.d23 T
  have token := ok_token Z.d24 T run_end
  have tokens := ok_tokens Z.d25 T token
  have is_name := ok_is_name Z.d26 T tokens
  have fits := ok_fits (P := P) (w := w) (base := base) Z.d27 T
  have shared := ok_shared Z.d28 T fits
  have simple := ok_simple Z.d29 T fits
  have rd_init := ok_rd_init (P := P) (w := w) (base := base) Z.k1 T Z.rd
  have take := ok_rd_take (P := P) (w := w) (base := base) Z.m2 T Z.rd
  have sees := ok_rd_sees (P := P) (w := w) (base := base) Z.m1 T Z.rd
  have group : Me P w K mg base L2.CX0 0 Ax.rd "group" spNo := Z.m5.no
  have f0 : Me P w K mg base L2.CX0 2 Ax.rd "factor" (spFactor Ax.rd 0) := ok_rd_factor 0 Z.m3 T Z.rd take group Z.m3.no
  have f1 : Me P w K mg base L2.CX0 3 Ax.rd "factor" (spFactor Ax.rd 1) := ok_rd_factor 1 Z.m3 T Z.rd take group f0
  have l0 : Me P w K mg base L2.CX0 4 Ax.rd "level" (spLvl Ax.rd 0) := ok_rd_level 0 (by decide) Z.m4 T Z.rd take sees f1 Z.m4.no
  have l1 : Me P w K mg base L2.CX0 5 Ax.rd "level" (spLvl Ax.rd 1) := ok_rd_level 1 (by decide) Z.m4 T Z.rd take sees f1 l0
  have l2 : Me P w K mg base L2.CX0 6 Ax.rd "level" (spLvl Ax.rd 2) := ok_rd_level 2 (by decide) Z.m4 T Z.rd take sees f1 l1
  have l3 : Me P w K mg base L2.CX0 7 Ax.rd "level" (spLvl Ax.rd 3) := ok_rd_level 3 (by decide) Z.m4 T Z.rd take sees f1 l2
  have l4 : Me P w K mg base L2.CX0 8 Ax.rd "level" (spLvl Ax.rd 4) := ok_rd_level 4 (by decide) Z.m4 T Z.rd take sees f1 l3
  have l5 : Me P w K mg base L2.CX0 9 Ax.rd "level" (spLvl Ax.rd 5) := ok_rd_level 5 (by decide) Z.m4 T Z.rd take sees f1 l4
  have read_expression := ok_read_expression Z.d30 T Z.rd rd_init l5
  have with_tree := ok_with_tree Z.d31 T read_expression
  have instruction := ok_instruction Z.d32 T fits simple with_tree
  have dr_init := ok_dr_init (P := P) (w := w) (base := base) Z.k2 T Z.dr
  have kind := ok_dr_kind (P := P) (w := w) (base := base) Z.m6 T Z.dr
  have size := ok_dr_size (P := P) (w := w) (base := base) Z.m7 T Z.dr
  have add_shared := ok_dr_add_shared Z.m8 T Z.dr pf is_name kind
  have add_thread := ok_dr_add_thread Z.m9 T Z.dr pf
  have add_instruction := ok_dr_add_instruction Z.n1 T Z.dr pf kind size
  have add_line := ok_dr_add_line Z.n2 T Z.dr pf shared instruction add_thread add_shared add_instruction
  have program : Me P w K mg base L2.CX0 0 Ax.dr "program" spNo := Z.n3.no
  have read_program := ok_read_program Z.d33 T Z.dr pf tokens dr_init add_line program
  have fault := ok_law_fault Z.d22 T Z.fa read_program
  have cell := ok_law_cell (P := P) (w := w) (base := base) Z.d02 T
  have digits := ok_law_digits Z.d03 T cell
  have same := ok_law_same2 (P := P) (w := w) (base := base) Z.d04 T
  have t0 : Cl P w K mg base L2.CX0 2 "_law_tree" (spTree 1) := ok_law_tree 0 (by decide) Z.d05 T draw Z.d05.no
  have t1 : Cl P w K mg base L2.CX0 3 "_law_tree" (spTree 2) := ok_law_tree 1 (by decide) Z.d05 T draw t0
  have level := ok_law_level (P := P) (w := w) (base := base) Z.d06 T
  have texts1 := ok_law_texts1 (P := P) (w := w) (base := base) Z.d08 T Z.d06.no Z.d07.no
  have around := ok_law_around Z.d07 T level texts1
  have texts := ok_law_texts Z.d08 T level around
  have name := ok_law_name Z.d09 T draw
  have of_kind := ok_law_of_kind (P := P) (w := w) (base := base) Z.d10 T
  have shared_ := ok_law_shared Z.d11 T draw name
  have instruction_ := ok_law_instruction Z.d12 T draw t1 of_kind
  have thread_ := ok_law_thread Z.d13 T draw instruction_
  have program_ := ok_law_program Z.d14 T draw shared_ thread_
  have line := ok_law_line Z.d15 T texts
  have lines := ok_law_lines Z.d16 T line
  have texts_of := ok_law_texts_of Z.d17 T lines
  have is_open := ok_law_is_open (P := P) (w := w) (base := base) Z.d18 T
  have bad_shared := ok_law_bad_shared Z.d19 T draw
  have bad_instruction := ok_law_bad_instruction Z.d20 T draw
  have too_many := ok_law_too_many Z.d21 T draw is_open
  exact ok_law F T digits draw program_ texts_of too_many bad_shared bad_instruction fault same
theorem law_fn {fa : Addr} (h : mg "law" = some (.ref fa)) (Z : Fc P w K mg Ax) : ∃ fd : FuncData, (∀ (s : Shared) (u : Value), BindsTo s fd ⟨[u], []⟩ [("_law_script", u)]) ∧ ∀ base : Heap, K.In base → base.Ns mainGlobals mg → FnOk P w K mg base L2.CX0 16 fa fd ["_law_script"] (spLaw K) := by
  obtain ⟨f, fd, F, hm⟩ := Z.d34
  have e := h.symm.trans hm
  cases e
  have b : ∀ (s : Shared) (u : Value), BindsTo s fd ⟨[u], []⟩ [("_law_script", u)] := by
    obtain ⟨oc, od, kV, doc, pm, an, cdv, ct, osl, rfl, _⟩ := F.ex
    exact fun s u => .of_eq rfl
  exact ⟨fd, b, fun base _ _ => law_all F Z⟩
end
theorem walk {l : PySem.W.OpenLaw} {q : Program} {loose : List Str} {XP : (Str → Option Value) → Heap → Prop} {YP : World → Heap → Prop} {d : DefRec} {K : Params → PySem.W.Frag} (hn : l.most = some 63) (hdf : d.params.defaults = []) (hd : d.name = "law")
    (hY : ∀ (w : World) (h : Heap), YP w h → (K w.params).In h)
    (F : ∀ (w : World) (mg : Str → Option Value) (h : Heap), (K w.params).In h → h.Ns mainGlobals mg → ∃ Ax, Fc l.prog w (K w.params) mg Ax) :
    PySem.W.WalkO q loose XP YP l.row.toRowW d [] (fun f vs => PySem.call f vs) :=
  L2.walk_of (n := 63) (k := 16) (x := "_law_script") (CX := fun _ => L2.CX0) (sp := fun w => spLaw (K w.params)) hn (by decide) hdf ⟨rfl, by decide, by decide⟩ hY (fun w mg fa h KX G hmg => by
    obtain ⟨Ax, Z⟩ := F w mg h KX G
    rw [hd] at hmg
    exact law_fn hmg Z) (fun _ _ a ns hl _ hS => ⟨a, ns, rfl, hS, fun _ => rfl⟩) fun _ _ _ _ _ z => z
/-! ### what is written, put together -/
section
variable {P : Program} {w : World} {K : PySem.W.Frag} {mg : Str → Option Value} {h : Heap}
theorem df_mk (X : K.In h) (G : h.Ns mainGlobals mg) {x : Str} {st : Stmt} {ps : List Str} {f : Addr} {oc : Value} {od an : Option Addr} {osl : Array (Option Value)} {kV doc pm cdv ct : Value}
    (b : ∀ (kV doc pm : Value) (an : Option Addr) (cdv ct : Value) (us : List Value), us.length = ps.length → bindArgs (PySem.W.fnOf x x (defArgs st) (defBody st) (defScope st) .none kV doc pm an cdv ct) ⟨us, []⟩ = pure (ps.zip us))
    (a : PySem.W.nsIn K mainGlobals x = some (some (.ref f))) (l : K.lookup f = some ⟨oc, od, .func (PySem.W.fnOf x x (defArgs st) (defBody st) (defScope st) .none kV doc pm an cdv ct), osl⟩)
    (c : PySem.W.codeIn K cdv x = true) (k : PySem.W.keepIn K (.ref f) = true) : Df K mg x st ps := by
  have F := L2.fun_mk (st := st) l c k
  exact ⟨f, _, F, PySem.W.mg_of X G a, F.binds b⟩
theorem dm_mk {C : Addr} (Z : Cls K C) {m q : Str} {st : Stmt} {ps : List Str} {f : Addr} {oc : Value} {od an : Option Addr} {osl : Array (Option Value)} {kV doc pm cdv ct : Value}
    (b : ∀ (kV doc pm : Value) (an : Option Addr) (cdv ct : Value) (us : List Value), us.length = ps.length → bindArgs (PySem.W.fnOf m q (defArgs st) (defBody st) (defScope st) .none kV doc pm an cdv ct) ⟨us, []⟩ = pure (ps.zip us))
    (a : PySem.W.findIn K (.ref C) m = some (some (.ref f))) (l : K.lookup f = some ⟨oc, od, .func (PySem.W.fnOf m q (defArgs st) (defBody st) (defScope st) .none kV doc pm an cdv ct), osl⟩)
    (c : PySem.W.codeIn K cdv q = true) (k : PySem.W.keepIn K (.ref f) = true) (fn : PySem.W.isFn K (.ref f) = true) : Dm K C m q st ps := by
  have F := L2.fun_mk (st := st) l c k
  exact ⟨f, _, Z, ⟨a, fn, k⟩, F, F.binds b⟩
theorem dk_mk (X : K.In h) (G : h.Ns mainGlobals mg) {x : Str} {C : Addr} {q : Str} {st : Stmt} {ps : List Str} {f : Addr} {oc : Value} {od an : Option Addr} {osl : Array (Option Value)} {kV doc pm cdv ct : Value}
    (b : ∀ (kV doc pm : Value) (an : Option Addr) (cdv ct : Value) (us : List Value), us.length = ps.length → bindArgs (PySem.W.fnOf "__init__" q (defArgs st) (defBody st) (defScope st) .none kV doc pm an cdv ct) ⟨us, []⟩ = pure (ps.zip us))
    (g : PySem.W.nsIn K mainGlobals x = some (some (.ref C))) (mk : PySem.W.makesIn K C = true) (a : PySem.W.findIn K (.ref C) "__init__" = some (some (.ref f))) (l : K.lookup f = some ⟨oc, od, .func (PySem.W.fnOf "__init__" q (defArgs st) (defBody st) (defScope st) .none kV doc pm an cdv ct), osl⟩)
    (c : PySem.W.codeIn K cdv q = true) (k : PySem.W.keepIn K (.ref f) = true) (fn : PySem.W.isFn K (.ref f) = true) (kC : PySem.W.keepIn K (.ref C) = true) : Dk K mg x C q st ps := by
  have F := L2.fun_mk (st := st) l c k
  exact ⟨f, _, ⟨mk, a, fn, kC⟩, F, PySem.W.mg_of X G g, F.binds b⟩
theorem law_mk (X : K.In h) (G : h.Ns mainGlobals mg) {f : Addr} {oc : Value} {od an : Option Addr} {osl : Array (Option Value)} {kV doc pm cdv ct : Value}
    (a : PySem.W.nsIn K mainGlobals "law" = some (some (.ref f))) (l : K.lookup f = some ⟨oc, od, .func (PySem.W.fnOf "law" "law" (defArgs s_law) (defBody s_law) (defScope s_law) .none kV doc pm an cdv ct), osl⟩)
    (c : PySem.W.codeIn K cdv "law" = true) (k : PySem.W.keepIn K (.ref f) = true) : ∃ f fd, L2.Fun K "law" "law" s_law f fd ∧ mg "law" = some (.ref f) :=
  ⟨f, _, L2.fun_mk (st := s_law) l c k, PySem.W.mg_of X G a⟩
end
end K10
set_option linter.all false
set_option maxRecDepth 100000
set_option maxHeartbeats 4000000
namespace K10
open PySem PySem.Spec PyProof.Rows L2
section
variable {P : Program} {w : World} {K : PySem.W.Frag} {mg : Str → Option Value} {h : Heap}
theorem vs_mk (X : K.In h) (G : h.Ns mainGlobals mg) {x s : Str} {t : PySem.Tok} (a : PySem.W.nsIn K mainGlobals x = some (some (.str s t))) : IsV mg x (.str s) := ⟨_, PySem.W.mg_of X G a, t, rfl⟩
theorem vi_mk (X : K.In h) (G : h.Ns mainGlobals mg) {x : Str} {i : Int} {t : PySem.Tok} (a : PySem.W.nsIn K mainGlobals x = some (some (.int i t))) : IsV mg x (.int i) := ⟨_, PySem.W.mg_of X G a, t, rfl⟩
theorem sq_mk {a : Addr} {od : Option Addr} {its : Array Value} {n : Nat} {sl : Array (Option Value)} {xs : List V} (l : K.lookup a = some ⟨.type "tuple", od, .seq its n, sl⟩) (hz : its.size ≤ 100) (v : Vals xs its.toList) : ∀ H, SqT K H a xs :=
  fun _ => .inr ⟨_, its, n, l, rfl, rfl, Nat.le_trans hz (by decide), v⟩
theorem ka_mk {a : Addr} {x s : Str} {es : Array DictEntry} {n : Nat} {t : PySem.Tok} (l : K.lookup a = some ⟨.type "dict", none, .dict es n, #[]⟩) (kl : PySem.W.KeysLit w.params es.toList) (e : (a == sysModules) = false) (g : PySem.W.nsIn K a x = some (some (.str s t))) : KAt K w a x (some s) :=
  ⟨es, n, _, l, kl, g, e, _, rfl, t, rfl⟩
theorem kn_mk {a : Addr} {x : Str} {es : Array DictEntry} {n : Nat} (l : K.lookup a = some ⟨.type "dict", none, .dict es n, #[]⟩) (kl : PySem.W.KeysLit w.params es.toList) (e : (a == sysModules) = false) (g : PySem.W.nsIn K a x = some none) : KAt K w a x none :=
  ⟨es, n, _, l, kl, g, e, rfl⟩
theorem kin_mk {a : Addr} (k0 : KAt K w a "get" (some ("var" : Str))) (k1 : KAt K w a "put" (some ("var" : Str))) (k2 : KAt K w a "add" (some ("var" : Str))) (k3 : KAt K w a "lock" (some ("lock" : Str))) (k4 : KAt K w a "unlock" (some ("lock" : Str))) (k5 : KAt K w a "wait" (some ("cond" : Str))) (k6 : KAt K w a "notify" (some ("cond" : Str))) (k7 : KAt K w a "notifyall" (some ("cond" : Str))) (k8 : KAt K w a "send" (some ("queue" : Str))) (k9 : KAt K w a "take" (some ("queue" : Str))) :
    ∀ x y, (x, y) ∈ kinds → KAt K w a (Str.ofString x) (some (Str.ofString y)) := fun x y hx => by
  simp only [kinds, List.mem_cons, Prod.mk.injEq, List.not_mem_nil, or_false] at hx
  rcases hx with ⟨rfl, rfl⟩ | ⟨rfl, rfl⟩ | ⟨rfl, rfl⟩ | ⟨rfl, rfl⟩ | ⟨rfl, rfl⟩ | ⟨rfl, rfl⟩ | ⟨rfl, rfl⟩ | ⟨rfl, rfl⟩ | ⟨rfl, rfl⟩ | ⟨rfl, rfl⟩
  · exact k0
  · exact k1
  · exact k2
  · exact k3
  · exact k4
  · exact k5
  · exact k6
  · exact k7
  · exact k8
  · exact k9
theorem kno_mk {a : Addr} (k0 : KAt K w a "let" none) (k1 : KAt K w a "check" none) (k2 : KAt K w a "go" none) (k3 : KAt K w a "begin" none) (k4 : KAt K w a "end" none) (k5 : KAt K w a "stop" none) : ∀ x, x ∈ ["let", "check", "go", "begin", "end", "stop"] → KAt K w a (Str.ofString x) none := fun x hx => by
  simp only [List.mem_cons, List.not_mem_nil, or_false] at hx
  rcases hx with rfl | rfl | rfl | rfl | rfl | rfl
  · exact k0
  · exact k1
  · exact k2
  · exact k3
  · exact k4
  · exact k5
def axN : Ad := { reg := 49, lev := 55, lv := fun i => 50 + i, res := 140, kin := 148, pf := 46, rd := 107, dr := 239 }
theorem lv_mk (s0 : ∀ H, SqT K H 50 (lvV 0)) (s1 : ∀ H, SqT K H 51 (lvV 1)) (s2 : ∀ H, SqT K H 52 (lvV 2)) (s3 : ∀ H, SqT K H 53 (lvV 3)) (s4 : ∀ H, SqT K H 54 (lvV 4)) : ∀ H i, i < 5 → SqT K H (axN.lv i) (lvV i) := fun H i hi => by
  match i, hi with
  | 0, _ => exact s0 H
  | 1, _ => exact s1 H
  | 2, _ => exact s2 H
  | 3, _ => exact s3 H
  | 4, _ => exact s4 H
theorem rd_mk {C : Addr} (c : Cls K C) (n0 : PySem.W.findIn K (.ref C) "parts" = some none) (n1 : PySem.W.findIn K (.ref C) "at" = some none) (n2 : PySem.W.findIn K (.ref C) "depth" = some none) (n3 : PySem.W.findIn K (.ref C) "failed" = some none) : RdT K C := ⟨c, fun f hf => by
  simp only [List.mem_cons, List.not_mem_nil, or_false] at hf
  rcases hf with rfl | rfl | rfl | rfl
  · exact n0
  · exact n1
  · exact n2
  · exact n3⟩
theorem dr_mk {C : Addr} (c : Cls K C) (n0 : PySem.W.findIn K (.ref C) "lines" = some none) (n1 : PySem.W.findIn K (.ref C) "shared" = some none) (n2 : PySem.W.findIn K (.ref C) "threads" = some none) (n3 : PySem.W.findIn K (.ref C) "inside" = some none) (n4 : PySem.W.findIn K (.ref C) "unclosed" = some none) : DrT K C := ⟨c, fun f hf => by
  simp only [List.mem_cons, List.not_mem_nil, or_false] at hf
  rcases hf with rfl | rfl | rfl | rfl | rfl
  · exact n0
  · exact n1
  · exact n2
  · exact n3
  · exact n4⟩
theorem oc_mk {C N : Addr} {nm q : Str} {bs bm : List Value} {sn : List Str} {sub : List Value} {ab : Bool} {col : Option Bool} {dd : Option Addr} {k0 k1 k2 k3 k5 : Option Value} (l : K.lookup C = some (excClassObj nm q C N bs bm true sn sub ab col dd k0 k1 k2 k3 k5 "ValueError.__new__")) (r : PySem.HandSPX.refsVE bm = true) :
    ∃ nm q N bs bm sn sub ab col dd k0 k1 k2 k3 k5, K.lookup C = some (excClassObj nm q C N bs bm true sn sub ab col dd k0 k1 k2 k3 k5 "ValueError.__new__") ∧ PySem.HandSPX.refsVE bm = true := ⟨nm, q, N, bs, bm, sn, sub, ab, col, dd, k0, k1, k2, k3, k5, l, r⟩
theorem pf_mk {C f : Addr} {oc : Value} {od : Option Addr} {osl : Array (Option Value)} {kV doc pm ct : Value} {an : Option Addr} {cda cc : Addr} {ccl cl : Value} {cdd cld : Option Addr} {vs : Array Value} {ccs csl : Array (Option Value)} {file : Str} {tf : PySem.Tok} {cdD : ClassData}
    (l1 : K.lookup f = some ⟨oc, od, .func (PySem.W.ksFn "__init__" qPF (defArgs s_PF_init) (defBody s_PF_init) scPF .none kV doc pm an (.ref cda) ct cc), osl⟩) (c : PySem.W.codeIn K (.ref cda) qPF = true)
    (l2 : K.lookup cda = some ⟨ccl, cdd, .fields vs, ccs⟩) (v2 : vs[2]? = some (.str file tf)) (fl : ((P.main.file : Str) == file) = true) (l3 : K.lookup cc = some ⟨cl, cld, .cell (some (.ref C)), csl⟩) (ci : PySem.W.clsIn K C = some cdD)
    (ox : OexC K C) (mro : PySem.W.mroIn K C (.ref C) = some true) (sup : PySem.W.ks_superIn K C C "__init__" = some (some (.builtin "ValueError.__init__"))) (ve : PySem.W.subIn K (.ref C) (.type "ValueError") = some true) (opq : PySem.W.nsIn K cStatics "thirdparty.any" = some none) (nsup : PySem.W.nsIn K mainGlobals "super" = some none)
    (f_line : PySem.W.findIn K (.ref C) "line" = some none) (f_word : PySem.W.findIn K (.ref C) "word" = some none) (topn : (P.main.scope.names.lookup ("super" : Str)).isSome = false) : PFt P K C f :=
  ⟨⟨oc, od, osl, kV, doc, pm, ct, an, cda, cc, ccl, cl, cdd, cld, vs, ccs, csl, file, tf, cdD, l1, c, l2, v2, fl, l3, ci⟩, ox, mro, sup, ve, opq, nsup, f_line, f_word, topn⟩
end
end K10
open PySem PySem.W PyProof.Rows
set_option maxRecDepth 100000
set_option maxHeartbeats 0
open_top k10_head for PySem.Challenge.rw_everyturn_k10_faults_of_programs
theorem PySem.Challenge.cw_everyturn_k10_faults_of_programs_holds : PySem.Challenge.rw_everyturn_k10_faults_of_programs.Holds := by
  exact k10_head (by
    k_fill
    refine K10.walk (l := PySem.Challenge.rw_everyturn_k10_faults_of_programs) rfl rfl rfl (fun w h Y => PySem.W.kIn_of Y) ?F
    case F =>
      intro w mg h KX G
      have d01 : K10.Df (k10_head.heap_39 w.params) mg "_law_draw" K10.s_law_draw ["_law_box", "_law_many"] := by
        refine' K10.df_mk KX G (fun _ _ _ _ _ _ us hl => match us, hl with | [_, _], _ => rfl) ?a ?l ?c ?k
        (case a => k_is); (case l => k_is); (case c => k_is); (case k => k_is)
      have d02 : K10.Df (k10_head.heap_39 w.params) mg "_law_cell" K10.s_law_cell ["_law_script", "_law_k"] := by
        refine' K10.df_mk KX G (fun _ _ _ _ _ _ us hl => match us, hl with | [_, _], _ => rfl) ?a ?l ?c ?k
        (case a => k_is); (case l => k_is); (case c => k_is); (case k => k_is)
      have d03 : K10.Df (k10_head.heap_39 w.params) mg "_law_digits" K10.s_law_digits ["_law_script", "_law_first", "_law_last"] := by
        refine' K10.df_mk KX G (fun _ _ _ _ _ _ us hl => match us, hl with | [_, _, _], _ => rfl) ?a ?l ?c ?k
        (case a => k_is); (case l => k_is); (case c => k_is); (case k => k_is)
      have d04 : K10.Df (k10_head.heap_39 w.params) mg "_law_same" K10.s_law_same ["_law_actual", "_law_due"] := by
        refine' K10.df_mk KX G (fun _ _ _ _ _ _ us hl => match us, hl with | [_, _], _ => rfl) ?a ?l ?c ?k
        (case a => k_is); (case l => k_is); (case c => k_is); (case k => k_is)
      have d05 : K10.Df (k10_head.heap_39 w.params) mg "_law_tree" K10.s_law_tree ["_law_box", "_law_depth"] := by
        refine' K10.df_mk KX G (fun _ _ _ _ _ _ us hl => match us, hl with | [_, _], _ => rfl) ?a ?l ?c ?k
        (case a => k_is); (case l => k_is); (case c => k_is); (case k => k_is)
      have d06 : K10.Df (k10_head.heap_39 w.params) mg "_law_level" K10.s_law_level ["_law_tree_here"] := by
        refine' K10.df_mk KX G (fun _ _ _ _ _ _ us hl => match us, hl with | [_], _ => rfl) ?a ?l ?c ?k
        (case a => k_is); (case l => k_is); (case c => k_is); (case k => k_is)
      have d07 : K10.Df (k10_head.heap_39 w.params) mg "_law_around" K10.s_law_around ["_law_tree_here", "_law_least"] := by
        refine' K10.df_mk KX G (fun _ _ _ _ _ _ us hl => match us, hl with | [_, _], _ => rfl) ?a ?l ?c ?k
        (case a => k_is); (case l => k_is); (case c => k_is); (case k => k_is)
      have d08 : K10.Df (k10_head.heap_39 w.params) mg "_law_texts" K10.s_law_texts ["_law_tree_here"] := by
        refine' K10.df_mk KX G (fun _ _ _ _ _ _ us hl => match us, hl with | [_], _ => rfl) ?a ?l ?c ?k
        (case a => k_is); (case l => k_is); (case c => k_is); (case k => k_is)
      have d09 : K10.Df (k10_head.heap_39 w.params) mg "_law_name" K10.s_law_name ["_law_box", "_law_taken"] := by
        refine' K10.df_mk KX G (fun _ _ _ _ _ _ us hl => match us, hl with | [_, _], _ => rfl) ?a ?l ?c ?k
        (case a => k_is); (case l => k_is); (case c => k_is); (case k => k_is)
      have d10 : K10.Df (k10_head.heap_39 w.params) mg "_law_of_kind" K10.s_law_of_kind ["_law_shared_here", "_law_kind"] := by
        refine' K10.df_mk KX G (fun _ _ _ _ _ _ us hl => match us, hl with | [_, _], _ => rfl) ?a ?l ?c ?k
        (case a => k_is); (case l => k_is); (case c => k_is); (case k => k_is)
      have d11 : K10.Df (k10_head.heap_39 w.params) mg "_law_shared" K10.s_law_shared ["_law_box"] := by
        refine' K10.df_mk KX G (fun _ _ _ _ _ _ us hl => match us, hl with | [_], _ => rfl) ?a ?l ?c ?k
        (case a => k_is); (case l => k_is); (case c => k_is); (case k => k_is)
      have d12 : K10.Df (k10_head.heap_39 w.params) mg "_law_instruction" K10.s_law_instruction ["_law_box", "_law_shared_here", "_law_size", "_law_depth"] := by
        refine' K10.df_mk KX G (fun _ _ _ _ _ _ us hl => match us, hl with | [_, _, _, _], _ => rfl) ?a ?l ?c ?k
        (case a => k_is); (case l => k_is); (case c => k_is); (case k => k_is)
      have d13 : K10.Df (k10_head.heap_39 w.params) mg "_law_thread" K10.s_law_thread ["_law_box", "_law_shared_here", "_law_most", "_law_depth"] := by
        refine' K10.df_mk KX G (fun _ _ _ _ _ _ us hl => match us, hl with | [_, _, _, _], _ => rfl) ?a ?l ?c ?k
        (case a => k_is); (case l => k_is); (case c => k_is); (case k => k_is)
      have d14 : K10.Df (k10_head.heap_39 w.params) mg "_law_program" K10.s_law_program ["_law_box", "_law_threads", "_law_most", "_law_depth"] := by
        refine' K10.df_mk KX G (fun _ _ _ _ _ _ us hl => match us, hl with | [_, _, _, _], _ => rfl) ?a ?l ?c ?k
        (case a => k_is); (case l => k_is); (case c => k_is); (case k => k_is)
      have d15 : K10.Df (k10_head.heap_39 w.params) mg "_law_line" K10.s_law_line ["_law_item"] := by
        refine' K10.df_mk KX G (fun _ _ _ _ _ _ us hl => match us, hl with | [_], _ => rfl) ?a ?l ?c ?k
        (case a => k_is); (case l => k_is); (case c => k_is); (case k => k_is)
      have d16 : K10.Df (k10_head.heap_39 w.params) mg "_law_lines" K10.s_law_lines ["_law_program_here"] := by
        refine' K10.df_mk KX G (fun _ _ _ _ _ _ us hl => match us, hl with | [_], _ => rfl) ?a ?l ?c ?k
        (case a => k_is); (case l => k_is); (case c => k_is); (case k => k_is)
      have d17 : K10.Df (k10_head.heap_39 w.params) mg "_law_texts_of" K10.s_law_texts_of ["_law_program_here"] := by
        refine' K10.df_mk KX G (fun _ _ _ _ _ _ us hl => match us, hl with | [_], _ => rfl) ?a ?l ?c ?k
        (case a => k_is); (case l => k_is); (case c => k_is); (case k => k_is)
      have d18 : K10.Df (k10_head.heap_39 w.params) mg "_law_is_open" K10.s_law_is_open ["_law_thread_here", "_law_at"] := by
        refine' K10.df_mk KX G (fun _ _ _ _ _ _ us hl => match us, hl with | [_, _], _ => rfl) ?a ?l ?c ?k
        (case a => k_is); (case l => k_is); (case c => k_is); (case k => k_is)
      have d19 : K10.Df (k10_head.heap_39 w.params) mg "_law_bad_shared" K10.s_law_bad_shared ["_law_box", "_law_shared_here"] := by
        refine' K10.df_mk KX G (fun _ _ _ _ _ _ us hl => match us, hl with | [_, _], _ => rfl) ?a ?l ?c ?k
        (case a => k_is); (case l => k_is); (case c => k_is); (case k => k_is)
      have d20 : K10.Df (k10_head.heap_39 w.params) mg "_law_bad_instruction" K10.s_law_bad_instruction ["_law_box", "_law_size"] := by
        refine' K10.df_mk KX G (fun _ _ _ _ _ _ us hl => match us, hl with | [_, _], _ => rfl) ?a ?l ?c ?k
        (case a => k_is); (case l => k_is); (case c => k_is); (case k => k_is)
      have d21 : K10.Df (k10_head.heap_39 w.params) mg "_law_too_many" K10.s_law_too_many ["_law_box", "_law_program_here", "_law_lines_here"] := by
        refine' K10.df_mk KX G (fun _ _ _ _ _ _ us hl => match us, hl with | [_, _, _], _ => rfl) ?a ?l ?c ?k
        (case a => k_is); (case l => k_is); (case c => k_is); (case k => k_is)
      have d22 : K10.Df (k10_head.heap_39 w.params) mg "_law_fault" K10.s_law_fault ["_law_text"] := by
        refine' K10.df_mk KX G (fun _ _ _ _ _ _ us hl => match us, hl with | [_], _ => rfl) ?a ?l ?c ?k
        (case a => k_is); (case l => k_is); (case c => k_is); (case k => k_is)
      have d23 : K10.Df (k10_head.heap_39 w.params) mg "_run_end" K10.s_run_end ["line", "at", "chars"] := by
        refine' K10.df_mk KX G (fun _ _ _ _ _ _ us hl => match us, hl with | [_, _, _], _ => rfl) ?a ?l ?c ?k
        (case a => k_is); (case l => k_is); (case c => k_is); (case k => k_is)
      have d24 : K10.Df (k10_head.heap_39 w.params) mg "_token" K10.s_token ["line", "at"] := by
        refine' K10.df_mk KX G (fun _ _ _ _ _ _ us hl => match us, hl with | [_, _], _ => rfl) ?a ?l ?c ?k
        (case a => k_is); (case l => k_is); (case c => k_is); (case k => k_is)
      have d25 : K10.Df (k10_head.heap_39 w.params) mg "tokens" K10.s_tokens ["line"] := by
        refine' K10.df_mk KX G (fun _ _ _ _ _ _ us hl => match us, hl with | [_], _ => rfl) ?a ?l ?c ?k
        (case a => k_is); (case l => k_is); (case c => k_is); (case k => k_is)
      have d26 : K10.Df (k10_head.heap_39 w.params) mg "is_name" K10.s_is_name ["text"] := by
        refine' K10.df_mk KX G (fun _ _ _ _ _ _ us hl => match us, hl with | [_], _ => rfl) ?a ?l ?c ?k
        (case a => k_is); (case l => k_is); (case c => k_is); (case k => k_is)
      have d27 : K10.Df (k10_head.heap_39 w.params) mg "_fits" K10.s_fits ["parts", "form"] := by
        refine' K10.df_mk KX G (fun _ _ _ _ _ _ us hl => match us, hl with | [_, _], _ => rfl) ?a ?l ?c ?k
        (case a => k_is); (case l => k_is); (case c => k_is); (case k => k_is)
      have d28 : K10.Df (k10_head.heap_39 w.params) mg "_shared" K10.s_shared ["parts"] := by
        refine' K10.df_mk KX G (fun _ _ _ _ _ _ us hl => match us, hl with | [_], _ => rfl) ?a ?l ?c ?k
        (case a => k_is); (case l => k_is); (case c => k_is); (case k => k_is)
      have d29 : K10.Df (k10_head.heap_39 w.params) mg "_simple" K10.s_simple ["parts"] := by
        refine' K10.df_mk KX G (fun _ _ _ _ _ _ us hl => match us, hl with | [_], _ => rfl) ?a ?l ?c ?k
        (case a => k_is); (case l => k_is); (case c => k_is); (case k => k_is)
      have d30 : K10.Df (k10_head.heap_39 w.params) mg "read_expression" K10.s_read_expression ["parts"] := by
        refine' K10.df_mk KX G (fun _ _ _ _ _ _ us hl => match us, hl with | [_], _ => rfl) ?a ?l ?c ?k
        (case a => k_is); (case l => k_is); (case c => k_is); (case k => k_is)
      have d31 : K10.Df (k10_head.heap_39 w.params) mg "_with_tree" K10.s_with_tree ["head", "parts"] := by
        refine' K10.df_mk KX G (fun _ _ _ _ _ _ us hl => match us, hl with | [_, _], _ => rfl) ?a ?l ?c ?k
        (case a => k_is); (case l => k_is); (case c => k_is); (case k => k_is)
      have d32 : K10.Df (k10_head.heap_39 w.params) mg "_instruction" K10.s_instruction ["parts"] := by
        refine' K10.df_mk KX G (fun _ _ _ _ _ _ us hl => match us, hl with | [_], _ => rfl) ?a ?l ?c ?k
        (case a => k_is); (case l => k_is); (case c => k_is); (case k => k_is)
      have d33 : K10.Df (k10_head.heap_39 w.params) mg "read_program" K10.s_read_program ["text"] := by
        refine' K10.df_mk KX G (fun _ _ _ _ _ _ us hl => match us, hl with | [_], _ => rfl) ?a ?l ?c ?k
        (case a => k_is); (case l => k_is); (case c => k_is); (case k => k_is)
      have d34 : ∃ f fd, L2.Fun (k10_head.heap_39 w.params) "law" "law" K10.s_law f fd ∧ mg "law" = some (.ref f) := by
        refine' K10.law_mk KX G ?a ?l ?c ?k
        (case a => k_is); (case l => k_is); (case c => k_is); (case k => k_is)
      have cR : L2.Cls (k10_head.heap_39 w.params) 107 := by
        refine' ⟨?a, ?b, ?c, ?d⟩
        (case a => k_is); (case b => k_is); (case c => k_is); (case d => k_is)
      have cD : L2.Cls (k10_head.heap_39 w.params) 239 := by
        refine' ⟨?a, ?b, ?c, ?d⟩
        (case a => k_is); (case b => k_is); (case c => k_is); (case d => k_is)
      have k1 : K10.Dk (k10_head.heap_39 w.params) mg "Reader" 107 "Reader.__init__" K10.s_Reader___init__ ["self", "parts"] := by
        refine' K10.dk_mk KX G (fun _ _ _ _ _ _ us hl => match us, hl with | [_, _], _ => rfl) ?g ?mk ?a ?l ?c ?k ?fn ?kC
        (case g => k_is); (case mk => k_is); (case a => k_is); (case l => k_is); (case c => k_is); (case k => k_is); (case fn => k_is); (case kC => k_is)
      have k2 : K10.Dk (k10_head.heap_39 w.params) mg "Draft" 239 "Draft.__init__" K10.s_Draft___init__ ["self", "lines"] := by
        refine' K10.dk_mk KX G (fun _ _ _ _ _ _ us hl => match us, hl with | [_, _], _ => rfl) ?g ?mk ?a ?l ?c ?k ?fn ?kC
        (case g => k_is); (case mk => k_is); (case a => k_is); (case l => k_is); (case c => k_is); (case k => k_is); (case fn => k_is); (case kC => k_is)
      have m1 : K10.Dm (k10_head.heap_39 w.params) 107 "sees" "Reader.sees" K10.s_Reader_sees ["self", "texts"] := by
        refine' K10.dm_mk cR (fun _ _ _ _ _ _ us hl => match us, hl with | [_, _], _ => rfl) ?a ?l ?c ?k ?fn
        (case a => k_is); (case l => k_is); (case c => k_is); (case k => k_is); (case fn => k_is)
      have m2 : K10.Dm (k10_head.heap_39 w.params) 107 "take" "Reader.take" K10.s_Reader_take ["self"] := by
        refine' K10.dm_mk cR (fun _ _ _ _ _ _ us hl => match us, hl with | [_], _ => rfl) ?a ?l ?c ?k ?fn
        (case a => k_is); (case l => k_is); (case c => k_is); (case k => k_is); (case fn => k_is)
      have m3 : K10.Dm (k10_head.heap_39 w.params) 107 "factor" "Reader.factor" K10.s_Reader_factor ["self"] := by
        refine' K10.dm_mk cR (fun _ _ _ _ _ _ us hl => match us, hl with | [_], _ => rfl) ?a ?l ?c ?k ?fn
        (case a => k_is); (case l => k_is); (case c => k_is); (case k => k_is); (case fn => k_is)
      have m4 : K10.Dm (k10_head.heap_39 w.params) 107 "level" "Reader.level" K10.s_Reader_level ["self", "depth"] := by
        refine' K10.dm_mk cR (fun _ _ _ _ _ _ us hl => match us, hl with | [_, _], _ => rfl) ?a ?l ?c ?k ?fn
        (case a => k_is); (case l => k_is); (case c => k_is); (case k => k_is); (case fn => k_is)
      have m5 : K10.Dm (k10_head.heap_39 w.params) 107 "group" "Reader.group" K10.s_Reader_group ["self"] := by
        refine' K10.dm_mk cR (fun _ _ _ _ _ _ us hl => match us, hl with | [_], _ => rfl) ?a ?l ?c ?k ?fn
        (case a => k_is); (case l => k_is); (case c => k_is); (case k => k_is); (case fn => k_is)
      have m6 : K10.Dm (k10_head.heap_39 w.params) 239 "kind" "Draft.kind" K10.s_Draft_kind ["self", "name"] := by
        refine' K10.dm_mk cD (fun _ _ _ _ _ _ us hl => match us, hl with | [_, _], _ => rfl) ?a ?l ?c ?k ?fn
        (case a => k_is); (case l => k_is); (case c => k_is); (case k => k_is); (case fn => k_is)
      have m7 : K10.Dm (k10_head.heap_39 w.params) 239 "size" "Draft.size" K10.s_Draft_size ["self", "at"] := by
        refine' K10.dm_mk cD (fun _ _ _ _ _ _ us hl => match us, hl with | [_, _], _ => rfl) ?a ?l ?c ?k ?fn
        (case a => k_is); (case l => k_is); (case c => k_is); (case k => k_is); (case fn => k_is)
      have m8 : K10.Dm (k10_head.heap_39 w.params) 239 "add_shared" "Draft.add_shared" K10.s_Draft_add_shared ["self", "at", "thing"] := by
        refine' K10.dm_mk cD (fun _ _ _ _ _ _ us hl => match us, hl with | [_, _, _], _ => rfl) ?a ?l ?c ?k ?fn
        (case a => k_is); (case l => k_is); (case c => k_is); (case k => k_is); (case fn => k_is)
      have m9 : K10.Dm (k10_head.heap_39 w.params) 239 "add_thread" "Draft.add_thread" K10.s_Draft_add_thread ["self", "at"] := by
        refine' K10.dm_mk cD (fun _ _ _ _ _ _ us hl => match us, hl with | [_, _], _ => rfl) ?a ?l ?c ?k ?fn
        (case a => k_is); (case l => k_is); (case c => k_is); (case k => k_is); (case fn => k_is)
      have n1 : K10.Dm (k10_head.heap_39 w.params) 239 "add_instruction" "Draft.add_instruction" K10.s_Draft_add_instruction ["self", "at", "instruction"] := by
        refine' K10.dm_mk cD (fun _ _ _ _ _ _ us hl => match us, hl with | [_, _, _], _ => rfl) ?a ?l ?c ?k ?fn
        (case a => k_is); (case l => k_is); (case c => k_is); (case k => k_is); (case fn => k_is)
      have n2 : K10.Dm (k10_head.heap_39 w.params) 239 "add_line" "Draft.add_line" K10.s_Draft_add_line ["self", "at", "parts"] := by
        refine' K10.dm_mk cD (fun _ _ _ _ _ _ us hl => match us, hl with | [_, _, _], _ => rfl) ?a ?l ?c ?k ?fn
        (case a => k_is); (case l => k_is); (case c => k_is); (case k => k_is); (case fn => k_is)
      have n3 : K10.Dm (k10_head.heap_39 w.params) 239 "program" "Draft.program" K10.s_Draft_program ["self"] := by
        refine' K10.dm_mk cD (fun _ _ _ _ _ _ us hl => match us, hl with | [_], _ => rfl) ?a ?l ?c ?k ?fn
        (case a => k_is); (case l => k_is); (case c => k_is); (case k => k_is); (case fn => k_is)
      have b_len : mg "len" = none := by
        refine' PySem.W.mg_none_of KX G ?a
        (case a => k_is)
      have b_range : mg "range" = none := by
        refine' PySem.W.mg_none_of KX G ?a
        (case a => k_is)
      have b_int : mg "int" = none := by
        refine' PySem.W.mg_none_of KX G ?a
        (case a => k_is)
      have b_isinstance : mg "isinstance" = none := by
        refine' PySem.W.mg_none_of KX G ?a
        (case a => k_is)
      have b_str : mg "str" = none := by
        refine' PySem.W.mg_none_of KX G ?a
        (case a => k_is)
      have b_list : mg "list" = none := by
        refine' PySem.W.mg_none_of KX G ?a
        (case a => k_is)
      have b_tuple : mg "tuple" = none := by
        refine' PySem.W.mg_none_of KX G ?a
        (case a => k_is)
      have b_bool : mg "bool" = none := by
        refine' PySem.W.mg_none_of KX G ?a
        (case a => k_is)
      have b_zip : mg "zip" = none := by
        refine' PySem.W.mg_none_of KX G ?a
        (case a => k_is)
      have b_enumerate : mg "enumerate" = none := by
        refine' PySem.W.mg_none_of KX G ?a
        (case a => k_is)
      have b_any : mg "any" = none := by
        refine' PySem.W.mg_none_of KX G ?a
        (case a => k_is)
      have b_max : mg "max" = none := by
        refine' PySem.W.mg_none_of KX G ?a
        (case a => k_is)
      have g_REGISTERS : mg "REGISTERS" = some (.ref 49) := by
        refine' PySem.W.mg_of KX G ?a
        (case a => k_is)
      have g_LEVELS : mg "LEVELS" = some (.ref 55) := by
        refine' PySem.W.mg_of KX G ?a
        (case a => k_is)
      have g_RESERVED : mg "RESERVED" = some (.ref 140) := by
        refine' PySem.W.mg_of KX G ?a
        (case a => k_is)
      have g_KINDS : mg "KINDS" = some (.ref 148) := by
        refine' PySem.W.mg_of KX G ?a
        (case a => k_is)
      have g_ProgramFault : mg "ProgramFault" = some (.ref 46) := by
        refine' PySem.W.mg_of KX G ?a
        (case a => k_is)
      have v_DIGITS : K10.IsV mg "DIGITS" (K10.S "0123456789") := by
        refine' K10.vs_mk KX G ?a
        (case a => k_is)
      have v_LETTERS : K10.IsV mg "LETTERS" (K10.S "abcdefghijklmnopqrstuvwxyz") := by
        refine' K10.vs_mk KX G ?a
        (case a => k_is)
      have v_SIGNS : K10.IsV mg "SIGNS" (K10.S "+-*=<()") := by
        refine' K10.vs_mk KX G ?a
        (case a => k_is)
      have v_WORD_LENGTH : K10.IsV mg "WORD_LENGTH" (.int 8) := by
        refine' K10.vi_mk KX G ?a
        (case a => k_is)
      have v_MOST_TOKENS : K10.IsV mg "MOST_TOKENS" (.int 20) := by
        refine' K10.vi_mk KX G ?a
        (case a => k_is)
      have v_CLAIM : K10.IsV mg "CLAIM" (.int 2) := by
        refine' K10.vi_mk KX G ?a
        (case a => k_is)
      have v_MOST_SHARED : K10.IsV mg "MOST_SHARED" (.int 6) := by
        refine' K10.vi_mk KX G ?a
        (case a => k_is)
      have v_MOST_THREADS : K10.IsV mg "MOST_THREADS" (.int 4) := by
        refine' K10.vi_mk KX G ?a
        (case a => k_is)
      have v_MOST_INSTRUCTIONS : K10.IsV mg "MOST_INSTRUCTIONS" (.int 12) := by
        refine' K10.vi_mk KX G ?a
        (case a => k_is)
      have reg : ∀ H, L2.SqT (k10_head.heap_39 w.params) H 49 K10.regV := by
        refine' K10.sq_mk ?l ?z ?v
        (case l => k_is)
        (case z => decide)
        (case v => repeat first | exact PySem.Paired.nil | refine PySem.Paired.cons ⟨_, rfl⟩ ?_ | refine PySem.Paired.cons rfl ?_)
      have res : ∀ H, L2.SqT (k10_head.heap_39 w.params) H 140 K10.resV := by
        refine' K10.sq_mk ?l ?z ?v
        (case l => k_is)
        (case z => decide)
        (case v => repeat first | exact PySem.Paired.nil | refine PySem.Paired.cons ⟨_, rfl⟩ ?_ | refine PySem.Paired.cons rfl ?_)
      have lev : ∀ H, L2.SqT (k10_head.heap_39 w.params) H 55 [.ref 50, .ref 51, .ref 52, .ref 53, .ref 54] := by
        refine' K10.sq_mk ?l ?z ?v
        (case l => k_is)
        (case z => decide)
        (case v => repeat first | exact PySem.Paired.nil | refine PySem.Paired.cons ⟨_, rfl⟩ ?_ | refine PySem.Paired.cons rfl ?_)
      have lv0 : ∀ H, L2.SqT (k10_head.heap_39 w.params) H 50 (K10.lvV 0) := by
        refine' K10.sq_mk ?l ?z ?v
        (case l => k_is)
        (case z => decide)
        (case v => repeat first | exact PySem.Paired.nil | refine PySem.Paired.cons ⟨_, rfl⟩ ?_ | refine PySem.Paired.cons rfl ?_)
      have lv1 : ∀ H, L2.SqT (k10_head.heap_39 w.params) H 51 (K10.lvV 1) := by
        refine' K10.sq_mk ?l ?z ?v
        (case l => k_is)
        (case z => decide)
        (case v => repeat first | exact PySem.Paired.nil | refine PySem.Paired.cons ⟨_, rfl⟩ ?_ | refine PySem.Paired.cons rfl ?_)
      have lv2 : ∀ H, L2.SqT (k10_head.heap_39 w.params) H 52 (K10.lvV 2) := by
        refine' K10.sq_mk ?l ?z ?v
        (case l => k_is)
        (case z => decide)
        (case v => repeat first | exact PySem.Paired.nil | refine PySem.Paired.cons ⟨_, rfl⟩ ?_ | refine PySem.Paired.cons rfl ?_)
      have lv3 : ∀ H, L2.SqT (k10_head.heap_39 w.params) H 53 (K10.lvV 3) := by
        refine' K10.sq_mk ?l ?z ?v
        (case l => k_is)
        (case z => decide)
        (case v => repeat first | exact PySem.Paired.nil | refine PySem.Paired.cons ⟨_, rfl⟩ ?_ | refine PySem.Paired.cons rfl ?_)
      have lv4 : ∀ H, L2.SqT (k10_head.heap_39 w.params) H 54 (K10.lvV 4) := by
        refine' K10.sq_mk ?l ?z ?v
        (case l => k_is)
        (case z => decide)
        (case v => repeat first | exact PySem.Paired.nil | refine PySem.Paired.cons ⟨_, rfl⟩ ?_ | refine PySem.Paired.cons rfl ?_)
      have ka0 : K10.KAt (k10_head.heap_39 w.params) w 148 "get" (some ("var" : Str)) := by
        refine' K10.ka_mk ?l ?kl ?e ?g
        (case l => k_is); (case kl => k_keys); (case e => decide); (case g => k_is)
      have ka1 : K10.KAt (k10_head.heap_39 w.params) w 148 "put" (some ("var" : Str)) := by
        refine' K10.ka_mk ?l ?kl ?e ?g
        (case l => k_is); (case kl => k_keys); (case e => decide); (case g => k_is)
      have ka2 : K10.KAt (k10_head.heap_39 w.params) w 148 "add" (some ("var" : Str)) := by
        refine' K10.ka_mk ?l ?kl ?e ?g
        (case l => k_is); (case kl => k_keys); (case e => decide); (case g => k_is)
      have ka3 : K10.KAt (k10_head.heap_39 w.params) w 148 "lock" (some ("lock" : Str)) := by
        refine' K10.ka_mk ?l ?kl ?e ?g
        (case l => k_is); (case kl => k_keys); (case e => decide); (case g => k_is)
      have ka4 : K10.KAt (k10_head.heap_39 w.params) w 148 "unlock" (some ("lock" : Str)) := by
        refine' K10.ka_mk ?l ?kl ?e ?g
        (case l => k_is); (case kl => k_keys); (case e => decide); (case g => k_is)
      have ka5 : K10.KAt (k10_head.heap_39 w.params) w 148 "wait" (some ("cond" : Str)) := by
        refine' K10.ka_mk ?l ?kl ?e ?g
        (case l => k_is); (case kl => k_keys); (case e => decide); (case g => k_is)
      have ka6 : K10.KAt (k10_head.heap_39 w.params) w 148 "notify" (some ("cond" : Str)) := by
        refine' K10.ka_mk ?l ?kl ?e ?g
        (case l => k_is); (case kl => k_keys); (case e => decide); (case g => k_is)
      have ka7 : K10.KAt (k10_head.heap_39 w.params) w 148 "notifyall" (some ("cond" : Str)) := by
        refine' K10.ka_mk ?l ?kl ?e ?g
        (case l => k_is); (case kl => k_keys); (case e => decide); (case g => k_is)
      have ka8 : K10.KAt (k10_head.heap_39 w.params) w 148 "send" (some ("queue" : Str)) := by
        refine' K10.ka_mk ?l ?kl ?e ?g
        (case l => k_is); (case kl => k_keys); (case e => decide); (case g => k_is)
      have ka9 : K10.KAt (k10_head.heap_39 w.params) w 148 "take" (some ("queue" : Str)) := by
        refine' K10.ka_mk ?l ?kl ?e ?g
        (case l => k_is); (case kl => k_keys); (case e => decide); (case g => k_is)
      have kn0 : K10.KAt (k10_head.heap_39 w.params) w 148 "let" none := by
        refine' K10.kn_mk ?l ?kl ?e ?g
        (case l => k_is); (case kl => k_keys); (case e => decide); (case g => k_is)
      have kn1 : K10.KAt (k10_head.heap_39 w.params) w 148 "check" none := by
        refine' K10.kn_mk ?l ?kl ?e ?g
        (case l => k_is); (case kl => k_keys); (case e => decide); (case g => k_is)
      have kn2 : K10.KAt (k10_head.heap_39 w.params) w 148 "go" none := by
        refine' K10.kn_mk ?l ?kl ?e ?g
        (case l => k_is); (case kl => k_keys); (case e => decide); (case g => k_is)
      have kn3 : K10.KAt (k10_head.heap_39 w.params) w 148 "begin" none := by
        refine' K10.kn_mk ?l ?kl ?e ?g
        (case l => k_is); (case kl => k_keys); (case e => decide); (case g => k_is)
      have kn4 : K10.KAt (k10_head.heap_39 w.params) w 148 "end" none := by
        refine' K10.kn_mk ?l ?kl ?e ?g
        (case l => k_is); (case kl => k_keys); (case e => decide); (case g => k_is)
      have kn5 : K10.KAt (k10_head.heap_39 w.params) w 148 "stop" none := by
        refine' K10.kn_mk ?l ?kl ?e ?g
        (case l => k_is); (case kl => k_keys); (case e => decide); (case g => k_is)
      have kin := K10.kin_mk ka0 ka1 ka2 ka3 ka4 ka5 ka6 ka7 ka8 ka9
      have kno := K10.kno_mk kn0 kn1 kn2 kn3 kn4 kn5
      have lv := K10.lv_mk lv0 lv1 lv2 lv3 lv4
      have T : K10.Tx w (k10_head.heap_39 w.params) mg K10.axN := ⟨b_len, b_range, b_int, b_isinstance, b_str, b_list, b_tuple, b_bool, b_zip, b_enumerate, b_any, b_max, g_REGISTERS, g_LEVELS, g_RESERVED, g_KINDS, g_ProgramFault, v_DIGITS, v_LETTERS, v_SIGNS, v_WORD_LENGTH, v_MOST_TOKENS, v_CLAIM, v_MOST_SHARED, v_MOST_THREADS, v_MOST_INSTRUCTIONS, reg, res, lev, lv, kin, kno⟩
      have rd : K10.RdT (k10_head.heap_39 w.params) 107 := by
        refine' K10.rd_mk cR ?a ?b ?c ?d
        (case a => k_is); (case b => k_is); (case c => k_is); (case d => k_is)
      have dr : K10.DrT (k10_head.heap_39 w.params) 239 := by
        refine' K10.dr_mk cD ?a ?b ?c ?d ?e
        (case a => k_is); (case b => k_is); (case c => k_is); (case d => k_is); (case e => k_is)
      have ocls : ∃ nm q N bs bm sn sub ab col dd k0 k1 k2 k3 k5, (k10_head.heap_39 w.params).lookup 46 = some (excClassObj nm q 46 N bs bm true sn sub ab col dd k0 k1 k2 k3 k5 "ValueError.__new__") ∧ PySem.HandSPX.refsVE bm = true := by
        refine' K10.oc_mk ?l ?r
        (case l => k_is)
        (case r => decide)
      have ox : L2.OexC (k10_head.heap_39 w.params) 46 := by
        refine' ⟨ocls, ?a, ?b, ?c, ?d⟩
        (case a => k_is); (case b => k_is); (case c => k_is); (case d => k_is)
      have pft : K10.PFt PySem.Challenge.rw_everyturn_k10_faults_of_programs.prog (k10_head.heap_39 w.params) 46 43 := by
        refine' K10.pf_mk ?l1 ?c ?l2 ?v2 ?fl ?l3 ?ci ox ?m1 ?m2 ?m3 ?m4 ?m5 ?m6 ?m7 ?tn
        (case l1 => k_is); (case c => k_is); (case l2 => k_is)
        (case v2 => exact rfl)
        (case fl => decide)
        (case l3 => k_is); (case ci => k_is)
        (case m1 => k_is); (case m2 => kernel_rfl); (case m3 => k_is); (case m4 => k_is); (case m5 => k_is); (case m6 => k_is); (case m7 => k_is)
        (case tn => exact rfl)
      have pi : PySem.W.findIn (k10_head.heap_39 w.params) (.ref 46) "__init__" = some (some (.ref 43)) := by k_is
      have pt : PySem.W.typeIn (k10_head.heap_39 w.params) (.ref 43) = some (.type "function") := by k_is
      have xf : L2.XfC (k10_head.heap_39 w.params) 46 := by
        refine' ⟨?a, ?b, ?c, ?d⟩
        (case a => k_is); (case b => k_is); (case c => k_is); (case d => k_is)
      have fa : K10.FaT (k10_head.heap_39 w.params) 46 := by
        refine' ⟨xf, ?a, ?b, ?c⟩
        (case a => k_is); (case b => k_is); (case c => kernel_rfl)
      exact ⟨K10.axN, { T := T, rd := rd, dr := dr, pf := ⟨43, pft, pi, pt⟩, fa := fa, d01 := d01, d02 := d02, d03 := d03, d04 := d04, d05 := d05, d06 := d06, d07 := d07, d08 := d08, d09 := d09, d10 := d10, d11 := d11, d12 := d12, d13 := d13, d14 := d14, d15 := d15, d16 := d16, d17 := d17, d18 := d18, d19 := d19, d20 := d20, d21 := d21, d22 := d22, d23 := d23, d24 := d24, d25 := d25, d26 := d26, d27 := d27, d28 := d28, d29 := d29, d30 := d30, d31 := d31, d32 := d32, d33 := d33, d34 := d34, k1 := k1, k2 := k2, m1 := m1, m2 := m2, m3 := m3, m4 := m4, m5 := m5, m6 := m6, m7 := m7, m8 := m8, m9 := m9, n1 := n1, n2 := n2, n3 := n3 }⟩)
