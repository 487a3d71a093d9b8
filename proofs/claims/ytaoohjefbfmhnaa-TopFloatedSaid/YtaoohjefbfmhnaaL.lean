/-
  The reference: all densities, verdicts, covers, what a load leaves.
-/
import Derived.Test.YtaoohjefbfmhnaaK
set_option linter.unusedVariables false
set_option linter.unusedSimpArgs false
set_option linter.deprecated false
namespace Go.Sp
open Go Go.Proofs
def denseF (r : Int × Int) : Bool := decide (1 ≤ r.1 ∧ r.1 ≤ r.2 ∧ r.2 ≤ 2000)
theorem dense_c (r : Int × Int) (w : World) : CnV Try.prog 16 #[rV r] w (.bool (denseF r)) := by
  refine cnv (vs := [_]) Try.func16 rfl rfl ?_
  all_goals refine tc_seq fun K1 hK1 => ?_
  all_goals refine tc_region ?_
  all_goals refine tl_e (e_box rfl rfl rfl) rfl (fun _ _ => ?_)
  all_goals refine tl_q (y_assign rfl) rfl ?_
  all_goals refine tl_nil ?_
  all_goals (refine hK1 ?_; try (clear hK1; clear K1))
  all_goals refine tc_seq fun K2 hK2 => ?_
  all_goals refine tc_region ?_
  all_goals refine tl_q (y_field rfl) rfl ?_
  all_goals refine tl_q (y_load1 rfl (by repeat constructor) (by rfl)) rfl ?_
  all_goals refine tl_q (y_geq rfl rfl) rfl ?_
  all_goals refine tl_q (y_move rfl) rfl ?_
  all_goals (refine tl_gs rfl rfl (fun hc => ?_) (fun hc => ?_) <;> (try simp only [decide_eq_true_eq, decide_eq_false_iff_not, Int.not_lt, Int.not_le] at hc) <;> (first | refine tl_sk rfl rfl rfl rfl ?_ | refine tl_qg rfl rfl (y_field rfl) rfl ?_))
  all_goals (first | refine tl_sk rfl rfl rfl rfl ?_ | refine tl_qg rfl rfl (y_load1 rfl (by repeat constructor) (by rfl)) rfl ?_)
  all_goals (first | refine tl_sk rfl rfl rfl rfl ?_ | refine tl_qg rfl rfl (y_field rfl) rfl ?_)
  all_goals (first | refine tl_sk rfl rfl rfl rfl ?_ | refine tl_qg rfl rfl (y_load1 rfl (by repeat constructor) (by rfl)) rfl ?_)
  all_goals (first | refine tl_sk rfl rfl rfl rfl ?_ | refine tl_qg rfl rfl (y_leq rfl rfl) rfl ?_)
  all_goals (first | refine tl_q (y_pick_t rfl rfl) rfl ?_ | refine tl_q (y_pick_f rfl rfl) rfl ?_)
  all_goals refine tl_q (y_move rfl) rfl ?_
  all_goals (first | refine tl_sk rfl rfl rfl rfl ?_ | (refine tl_gs rfl rfl (fun hc => ?_) (fun hc => ?_) <;> (try simp only [decide_eq_true_eq, decide_eq_false_iff_not, Int.not_lt, Int.not_le] at hc) <;> (first | refine tl_sk rfl rfl rfl rfl ?_ | refine tl_qg rfl rfl (y_field rfl) rfl ?_)))
  all_goals (first | refine tl_sk rfl rfl rfl rfl ?_ | refine tl_qg rfl rfl (y_load1 rfl (by repeat constructor) (by rfl)) rfl ?_)
  all_goals (first | refine tl_sk rfl rfl rfl rfl ?_ | refine tl_qg rfl rfl (y_leq rfl rfl) rfl ?_)
  all_goals (first | refine tl_q (y_pick_t rfl rfl) rfl ?_ | refine tl_q (y_pick_f rfl rfl) rfl ?_)
  all_goals refine tl_q (y_assign rfl) rfl ?_
  all_goals refine tl_nil ?_
  all_goals (refine hK2 ?_; try (clear hK2; clear K2))
  all_goals refine tc_ret ?_
  all_goals (repeat (first | refine tk_then_ret ?_))
  all_goals first | refine tk_ret rfl rfl (.cons (.tmp rfl) .nil) ?_ | refine tk_retM rfl (by repeat constructor) rfl (.cons (.tmp rfl) .nil) ?_
  all_goals (
   refine fun w' hw' => ⟨congrArg (fun n => Ending.returned (Value.bool n)) ?_, hw'.fr (by simp)⟩
   unfold denseF
   first
   | (simp only [decide_eq_decide]; omega)
   | (symm; exact decide_eq_false (by omega)))
def outB (out : Int) (i : Nat) : Bool := decide (out / 2 ^ i % 2 = 1)
def fitB (s : Sn) (l : List (Int × Int)) (out d : Int) (i : Nat) : Bool := outB out i || rFit s (l.getD i (0, 0)) d
def fitAll (s : Sn) (l : List (Int × Int)) (out d : Int) (n : Nat) : Bool := (List.range n).all (fitB s l out d)
theorem fitAll_succ (s : Sn) (l : List (Int × Int)) (out d : Int) (n : Nat) : fitAll s l out d (n + 1) = (fitAll s l out d n && fitB s l out d n) := by simp [fitAll, List.range_succ, List.all_append]
theorem fitAll_no {s : Sn} {l : List (Int × Int)} {out d : Int} {n m : Nat} (h : fitAll s l out d n = false) (hnm : n ≤ m) : fitAll s l out d m = false := by
  obtain ⟨k, rfl⟩ : ∃ k, m = n + k := ⟨m - n, by omega⟩
  induction k with
  | zero => exact h
  | succ k ih => rw [← Nat.add_assoc, fitAll_succ, ih (by omega)]; rfl
def allStep (s : Sn) (l : List (Int × Int)) (out : Int) (a : (Int × Int) × Int) (j : Nat) : (Int × Int) × Int :=
  if fitAll s l out ((j : Int) + 1) l.length = true then ((min a.1.1 ((j : Int) + 1), max a.1.2 ((j : Int) + 1)), a.2 + 1) else a
def allN (s : Sn) (l : List (Int × Int)) (out : Int) (n : Nat) : (Int × Int) × Int := (List.range n).foldl (allStep s l out) ((2001, 0), 0)
theorem allN_succ (s : Sn) (l : List (Int × Int)) (out : Int) (n : Nat) : allN s l out (n + 1) = allStep s l out (allN s l out n) n := by simp [allN, List.range_succ]
theorem allN_bd (s : Sn) (l : List (Int × Int)) (out : Int) (n : Nat) : 0 ≤ (allN s l out n).2 ∧ (allN s l out n).2 ≤ n := by
  induction n with
  | zero => exact ⟨Int.le_refl _, Int.le_refl _⟩
  | succ n ih => rw [allN_succ]; unfold allStep; split <;> simp <;> omega
def rAll (s : Sn) (l : List (Int × Int)) (out : Int) : (Int × Int) × Int := allN s l out 2000
end Go.Sp
