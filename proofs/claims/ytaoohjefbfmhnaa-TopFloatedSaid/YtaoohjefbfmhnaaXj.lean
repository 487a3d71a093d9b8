/-
  Package trial: the densities of a liquid in which all tests are right.
-/
import Derived.Test.YtaoohjefbfmhnaaXi
set_option linter.unusedVariables false
set_option linter.unusedSimpArgs false
set_option linter.deprecated false
namespace Go.Sp
open Go Go.Proofs
theorem HM.app {b : Nat} {o : Obj} : ∀ (X : List (Nat × Obj)) {Y : List (Nat × Obj)}, HM b o (X ++ (b, o) :: Y)
  | [], _ => .head
  | _ :: X, _ => .tail (HM.app X)
theorem HU.app {b : Nat} {o o' : Obj} : ∀ (X : List (Nat × Obj)) {Y : List (Nat × Obj)}, HU b o o' (X ++ (b, o) :: Y) (X ++ (b, o') :: Y)
  | [], _ => .head
  | _ :: X, _ => .tail (HU.app X)
theorem RdR.at {w : World} {b o cp : Nat} {l : List (Int × Int)} (h : RdR w (.slice (some ⟨b, o, none⟩) l.length cp) l) {i : Nat} (hi : i < l.length) : w.cell? ⟨b, o + i * 2, none⟩ = some (vi (l.getD i (0, 0)).1) ∧ w.cell? ⟨b, o + i * 2 + 1, none⟩ = some (vi (l.getD i (0, 0)).2) := by
  obtain ⟨_, _, _, _, e, had, hcell⟩ := h.open
  cases e
  cases had (by omega)
  have := hcell w [] (Fr.refl _ _) (by simp) i hi
  exact ⟨this.get 0 _ rfl, this.get 1 _ rfl⟩
theorem RdT.at {w : World} {b o cp : Nat} {l : List (Int × Int × Int)} (h : RdT w (.slice (some ⟨b, o, none⟩) l.length cp) l) {i : Nat} (hi : i < l.length) : CA (fun k => w.cell? ⟨b, k, none⟩) (o + i * 3) 3 [vi (l.getD i (0, 0, 0)).1, vi (l.getD i (0, 0, 0)).2.1, vi (l.getD i (0, 0, 0)).2.2] := by
  obtain ⟨_, _, _, _, e, had, hcell⟩ := h.open
  cases e
  cases had (by omega)
  exact hcell w [] (Fr.refl _ _) (by simp) i hi
/-- A test is passed by: it is of another liquid, or left out, or right. -/
def passF (t : Tr) (e : Int × Int × Int) (i : Nat) (out : List Int) (d : Int) (j : Nat) : Bool := decide (¬ (t.tests.getD j (0, 0, 0)).1 = i) || (decide ((j : Int) ∈ out) || rightF t e (t.tests.getD j (0, 0, 0)) d)
def passN (t : Tr) (e : Int × Int × Int) (i : Nat) (out : List Int) (d : Int) (n : Nat) : Bool := (List.range n).all (passF t e i out d)
theorem passN_succ (t : Tr) (e : Int × Int × Int) (i : Nat) (out : List Int) (d : Int) (n : Nat) : passN t e i out d (n + 1) = (passN t e i out d n && passF t e i out d n) := by simp [passN, List.range_succ, List.all_append]
def lqAt (t : Tr) (i : Nat) : Int × Int := t.liquids.getD i (0, 0)
def denseN (t : Tr) (e : Int × Int × Int) (i : Nat) (out : List Int) (n : Nat) : List Int := ((List.range n).filter fun (j : Nat) => passN t e i out ((lqAt t i).1 + j) t.tests.length).map fun (j : Nat) => (lqAt t i).1 + j
theorem denseN_succ (t : Tr) (e : Int × Int × Int) (i : Nat) (out : List Int) (n : Nat) : denseN t e i out (n + 1) = if passN t e i out ((lqAt t i).1 + n) t.tests.length = true then denseN t e i out n ++ [(lqAt t i).1 + n] else denseN t e i out n := by
  unfold denseN
  rw [List.range_succ, List.filter_append, List.map_append]
  cases h : passN t e i out ((lqAt t i).1 + n) t.tests.length <;> simp [h]
def lqC (t : Tr) (i : Nat) : Nat := ((lqAt t i).2 - (lqAt t i).1 + 1).toNat
def denseL (t : Tr) (e : Int × Int × Int) (i : Nat) (out : List Int) : List Int := denseN t e i out (lqC t i)
theorem denseN_pre (t : Tr) (e : Int × Int × Int) (i : Nat) (out : List Int) {n : Nat} : ∀ {m : Nat}, n ≤ m → ∃ r, denseN t e i out m = denseN t e i out n ++ r := by
  intro m
  induction m with
  | zero => intro h; obtain rfl : n = 0 := by omega
            exact ⟨[], by simp⟩
  | succ m ih =>
    intro h
    by_cases e1 : n = m + 1
    · subst e1; exact ⟨[], by simp⟩
    · obtain ⟨r, hr⟩ := ih (by omega)
      rw [denseN_succ]
      split
      · exact ⟨r ++ [(lqAt t i).1 + m], by rw [hr, List.append_assoc]⟩
      · exact ⟨r, hr⟩
theorem denseN_get {t : Tr} {e : Int × Int × Int} {i : Nat} {out : List Int} {n : Nat} (hn : n < lqC t i) (h : passN t e i out ((lqAt t i).1 + n) t.tests.length = true) : (denseL t e i out)[(denseN t e i out n).length]? = some ((lqAt t i).1 + n) := by
  obtain ⟨r, hr⟩ := denseN_pre t e i out (n := n + 1) (m := lqC t i) (by omega)
  unfold denseL
  rw [hr, denseN_succ, if_pos h]
  simp
theorem VT.lqb {t : Tr} (h : VT t) {i : Nat} (hi : i < t.liquids.length) : 1 ≤ (lqAt t i).1 ∧ (lqAt t i).1 ≤ (lqAt t i).2 ∧ (lqAt t i).2 ≤ 2000 ∧ (lqAt t i).2 - (lqAt t i).1 ≤ 40 := by
  have := List.all_eq_true.1 h.lq (lqAt t i) (by unfold lqAt; rw [List.getD_eq_getElem?_getD, List.getElem?_eq_getElem hi]; exact List.getElem_mem hi)
  exact of_decide_eq_true this
theorem tdense_c (e : Int × Int × Int) (i : Int) (bw : Nat) (oa : Option Addr) (on oc : Nat) (w : World) :
    CnX Try.prog 23 #[ptr bw, tsV e, vi i, .slice oa on oc] w [] (fun x : Nat × Nat × Nat × Nat => .func (.func 41) #[] #[ptr x.1, ptr x.2.1, ptr x.2.2.1, ptr x.2.2.2])
    (fun x w' => True ∧ (∀ q ∈ [(x.2.2.1, Obj.cells #[.slice oa on oc] 22 (0, 0)), (x.2.1, .cells #[vi i] 3 (0, 0)), (x.2.2.2, .cells (tsV e).cells 75 (0, 0)), (x.1, .cells #[ptr bw] 70 (0, 0))], w.heap.size ≤ q.1 ∧ w'.heap[q.1]? = some q.2) ∧ (([(x.2.2.1, Obj.cells #[.slice oa on oc] 22 (0, 0)), (x.2.1, .cells #[vi i] 3 (0, 0)), (x.2.2.2, .cells (tsV e).cells 75 (0, 0)), (x.1, .cells #[ptr bw] 70 (0, 0))] : List (Nat × Obj)).map Prod.fst).Nodup) := by
  refine cnx0 (vs := [_, _, _, _]) Try.func23 rfl rfl ?_
  all_goals refine tc_seq fun K1 hK1 => ?_
  all_goals refine tc_region ?_
  all_goals refine tl_e (e_box rfl rfl rfl) rfl (fun b4 _ => ?_)
  all_goals refine tl_e (e_box rfl rfl rfl) rfl (fun b5 _ => ?_)
  all_goals refine tl_e (e_box rfl rfl rfl) rfl (fun b6 _ => ?_)
  all_goals refine tl_e (e_box rfl rfl rfl) rfl (fun b7 _ => ?_)
  all_goals refine tl_q (y_assign rfl) rfl ?_
  all_goals refine tl_nil ?_
  all_goals (refine hK1 ?_; try (clear hK1; clear K1))
  all_goals refine tc_seq fun K2 hK2 => ?_
  all_goals refine tc_region ?_
  all_goals refine tl_q (y_fn .nil (.cons rfl (.cons rfl (.cons rfl (.cons rfl .nil))))) rfl ?_
  all_goals refine tl_q (y_assign rfl) rfl ?_
  all_goals refine tl_nil ?_
  all_goals (refine hK2 ?_; try (clear hK2; clear K2))
  all_goals refine tc_ret ?_
  all_goals (repeat (first | refine tk_then_ret ?_ | refine tk_block_ret ?_ | refine tk_scope_ret ?_))
  all_goals first | refine tk_ret rfl rfl (.cons (.tmp rfl) .nil) ?_ | refine tk_retM rfl (by repeat constructor) rfl (.cons (.tmp rfl) .nil) ?_
  all_goals (
   exact fun w' hw' => ⟨(b4, b6, b7, b5), rfl, hw'.fr (by simp), trivial, fun q hq => ⟨by
       have := hw'.own q hq (w, []) (by simp)
       simpa using this, hw'.heap q hq⟩, hw'.nodup⟩)
end Go.Sp
