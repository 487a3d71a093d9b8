/-
  The reference: all densities, verdicts, covers, what a load leaves.
-/
import Derived.Test.YtdmnmhkonfadhaaK
set_option linter.unusedVariables false
set_option linter.unusedSimpArgs false
set_option linter.deprecated false
namespace Go.Sp
open Go Go.Proofs
theorem isSeen_c (s : Sn) (n : Int) (sl : Value) (w : World) : CnV Try.prog 29 #[spV s sl, vi n] w (.bool (decide (-2 ≤ n ∧ n ≤ s.divisions))) := by
  refine cnv (vs := [_, _]) Try.func29 rfl rfl ?_
  all_goals refine tc_seq fun K1 hK1 => ?_
  all_goals refine tc_region ?_
  all_goals refine tl_e (e_box rfl rfl rfl) rfl (fun _ _ => ?_)
  all_goals refine tl_q (y_assign rfl) rfl ?_
  all_goals refine tl_nil ?_
  all_goals (refine hK1 ?_; try (clear hK1; clear K1))
  all_goals refine tc_seq fun K2 hK2 => ?_
  all_goals refine tc_region ?_
  all_goals refine tl_q (y_move rfl) rfl ?_
  all_goals refine tl_q (y_field rfl) rfl ?_
  all_goals refine tl_q (y_load1 rfl (by repeat constructor) (by rfl)) rfl ?_
  all_goals refine tl_e (e_callV rfl (.cons rfl (.cons rfl (.cons rfl .nil))) (fun w' _ => in_c _ _ _ w')) rfl (fun _ _ => ?_)
  all_goals refine tl_q (y_assign rfl) rfl ?_
  all_goals refine tl_nil ?_
  all_goals (refine hK2 ?_; try (clear hK2; clear K2))
  all_goals refine tc_ret ?_
  all_goals (repeat (first | refine tk_then_ret ?_ | refine tk_block_ret ?_ | refine tk_scope_ret ?_))
  all_goals first | refine tk_ret rfl rfl (.cons (.tmp rfl) .nil) ?_ | refine tk_retM rfl (by repeat constructor) rfl (.cons (.tmp rfl) .nil) ?_
  all_goals (
   exact fun w' hw' => ⟨rfl, hw'.fr (by simp)⟩)
def denseF (r : Int × Int) : Bool := decide (1 ≤ r.1 ∧ r.1 ≤ r.2 ∧ r.2 ≤ 2000)
theorem dense_c (r : Int × Int) (w : World) : CnV Try.prog 78 #[rV r] w (.bool (denseF r)) := by
  refine cnv (vs := [_]) Try.func78 rfl rfl ?_
  all_goals refine tc_seq fun K1 hK1 => ?_
  all_goals refine tc_region ?_
  all_goals refine tl_e (e_box rfl rfl rfl) rfl (fun _ _ => ?_)
  all_goals refine tl_q (y_assign rfl) rfl ?_
  all_goals refine tl_nil ?_
  all_goals (refine hK1 ?_; try (clear hK1; clear K1))
  all_goals refine tc_seq fun K2 hK2 => ?_
  all_goals refine tc_region ?_
  all_goals refine tl_q (y_field rfl) rfl ?_
  all_goals refine tl_q (y_load1 rfl (by repeat constructor) (by rfl)) rfl ?_
  all_goals refine tl_q (y_geq rfl rfl) rfl ?_
  all_goals refine tl_q (y_move rfl) rfl ?_
  all_goals (first | refine tl_sk rfl rfl rfl rfl ?_ | refine tl_qg rfl rfl (y_field rfl) rfl ?_ | refine tl_su rfl rfl rfl ?_ | (refine tl_gs rfl rfl (fun hc => ?_) (fun hc => ?_) <;> (try simp only [decide_eq_true_eq, decide_eq_false_iff_not, Int.not_lt, Int.not_le] at hc) <;> (first | (exfalso; omega) | refine tl_sk rfl rfl rfl rfl ?_ | refine tl_qg rfl rfl (y_field rfl) rfl ?_ | refine tl_su rfl rfl rfl ?_)))
  all_goals (first | refine tl_sk rfl rfl rfl rfl ?_ | refine tl_qg rfl rfl (y_load1 rfl (by repeat constructor) (by rfl)) rfl ?_ | refine tl_su rfl rfl rfl ?_ | (refine tl_gs rfl rfl (fun hc => ?_) (fun hc => ?_) <;> (try simp only [decide_eq_true_eq, decide_eq_false_iff_not, Int.not_lt, Int.not_le] at hc) <;> (first | (exfalso; omega) | refine tl_sk rfl rfl rfl rfl ?_ | refine tl_qg rfl rfl (y_load1 rfl (by repeat constructor) (by rfl)) rfl ?_ | refine tl_su rfl rfl rfl ?_)))
  all_goals (first | refine tl_sk rfl rfl rfl rfl ?_ | refine tl_qg rfl rfl (y_field rfl) rfl ?_ | refine tl_su rfl rfl rfl ?_ | (refine tl_gs rfl rfl (fun hc => ?_) (fun hc => ?_) <;> (try simp only [decide_eq_true_eq, decide_eq_false_iff_not, Int.not_lt, Int.not_le] at hc) <;> (first | (exfalso; omega) | refine tl_sk rfl rfl rfl rfl ?_ | refine tl_qg rfl rfl (y_field rfl) rfl ?_ | refine tl_su rfl rfl rfl ?_)))
  all_goals (first | refine tl_sk rfl rfl rfl rfl ?_ | refine tl_qg rfl rfl (y_load1 rfl (by repeat constructor) (by rfl)) rfl ?_ | refine tl_su rfl rfl rfl ?_ | (refine tl_gs rfl rfl (fun hc => ?_) (fun hc => ?_) <;> (try simp only [decide_eq_true_eq, decide_eq_false_iff_not, Int.not_lt, Int.not_le] at hc) <;> (first | (exfalso; omega) | refine tl_sk rfl rfl rfl rfl ?_ | refine tl_qg rfl rfl (y_load1 rfl (by repeat constructor) (by rfl)) rfl ?_ | refine tl_su rfl rfl rfl ?_)))
  all_goals (first | refine tl_sk rfl rfl rfl rfl ?_ | refine tl_qg rfl rfl (y_leq rfl rfl) rfl ?_ | refine tl_su rfl rfl rfl ?_ | (refine tl_gs rfl rfl (fun hc => ?_) (fun hc => ?_) <;> (try simp only [decide_eq_true_eq, decide_eq_false_iff_not, Int.not_lt, Int.not_le] at hc) <;> (first | (exfalso; omega) | refine tl_sk rfl rfl rfl rfl ?_ | refine tl_qg rfl rfl (y_leq rfl rfl) rfl ?_ | refine tl_su rfl rfl rfl ?_)))
  all_goals (first | refine tl_q (y_pick_t rfl rfl) rfl ?_ | refine tl_q (y_pick_f rfl rfl) rfl ?_)
  all_goals refine tl_q (y_move rfl) rfl ?_
  all_goals (first | refine tl_sk rfl rfl rfl rfl ?_ | refine tl_qg rfl rfl (y_field rfl) rfl ?_ | refine tl_su rfl rfl rfl ?_ | (refine tl_gs rfl rfl (fun hc => ?_) (fun hc => ?_) <;> (try simp only [decide_eq_true_eq, decide_eq_false_iff_not, Int.not_lt, Int.not_le] at hc) <;> (first | (exfalso; omega) | refine tl_sk rfl rfl rfl rfl ?_ | refine tl_qg rfl rfl (y_field rfl) rfl ?_ | refine tl_su rfl rfl rfl ?_)))
  all_goals (first | refine tl_sk rfl rfl rfl rfl ?_ | refine tl_qg rfl rfl (y_load1 rfl (by repeat constructor) (by rfl)) rfl ?_ | refine tl_su rfl rfl rfl ?_ | (refine tl_gs rfl rfl (fun hc => ?_) (fun hc => ?_) <;> (try simp only [decide_eq_true_eq, decide_eq_false_iff_not, Int.not_lt, Int.not_le] at hc) <;> (first | (exfalso; omega) | refine tl_sk rfl rfl rfl rfl ?_ | refine tl_qg rfl rfl (y_load1 rfl (by repeat constructor) (by rfl)) rfl ?_ | refine tl_su rfl rfl rfl ?_)))
  all_goals (first | refine tl_sk rfl rfl rfl rfl ?_ | refine tl_qg rfl rfl (y_leq rfl rfl) rfl ?_ | refine tl_su rfl rfl rfl ?_ | (refine tl_gs rfl rfl (fun hc => ?_) (fun hc => ?_) <;> (try simp only [decide_eq_true_eq, decide_eq_false_iff_not, Int.not_lt, Int.not_le] at hc) <;> (first | (exfalso; omega) | refine tl_sk rfl rfl rfl rfl ?_ | refine tl_qg rfl rfl (y_leq rfl rfl) rfl ?_ | refine tl_su rfl rfl rfl ?_)))
  all_goals (first | refine tl_q (y_pick_t rfl rfl) rfl ?_ | refine tl_q (y_pick_f rfl rfl) rfl ?_)
  all_goals refine tl_q (y_assign rfl) rfl ?_
  all_goals refine tl_nil ?_
  all_goals (refine hK2 ?_; try (clear hK2; clear K2))
  all_goals refine tc_ret ?_
  all_goals (repeat (first | refine tk_then_ret ?_ | refine tk_block_ret ?_ | refine tk_scope_ret ?_))
  all_goals first | refine tk_ret rfl rfl (.cons (.tmp rfl) .nil) ?_ | refine tk_retM rfl (by repeat constructor) rfl (.cons (.tmp rfl) .nil) ?_
  all_goals (
   refine fun w' hw' => ⟨congrArg (fun n => Ending.returned (Value.bool n)) ?_, hw'.fr (by simp)⟩
   unfold denseF
   first
   | (simp only [decide_eq_decide]; omega)
   | (symm; exact decide_eq_false (by omega)))
def outB (out : Int) (i : Nat) : Bool := decide (out / 2 ^ i % 2 = 1)
def fitB (s : Sn) (l : List (Int × Int)) (out d : Int) (i : Nat) : Bool := outB out i || rFit s (l.getD i (0, 0)) d
def fitAll (s : Sn) (l : List (Int × Int)) (out d : Int) (n : Nat) : Bool := (List.range n).all (fitB s l out d)
theorem fitAll_succ (s : Sn) (l : List (Int × Int)) (out d : Int) (n : Nat) : fitAll s l out d (n + 1) = (fitAll s l out d n && fitB s l out d n) := by simp [fitAll, List.range_succ, List.all_append]
theorem fitAll_no {s : Sn} {l : List (Int × Int)} {out d : Int} {n m : Nat} (h : fitAll s l out d n = false) (hnm : n ≤ m) : fitAll s l out d m = false := by
  obtain ⟨k, rfl⟩ : ∃ k, m = n + k := ⟨m - n, by omega⟩
  induction k with
  | zero => exact h
  | succ k ih => rw [← Nat.add_assoc, fitAll_succ, ih (by omega)]; rfl
def allStep (s : Sn) (l : List (Int × Int)) (out : Int) (a : (Int × Int) × Int) (j : Nat) : (Int × Int) × Int :=
  if fitAll s l out ((j : Int) + 1) l.length = true then ((min a.1.1 ((j : Int) + 1), max a.1.2 ((j : Int) + 1)), a.2 + 1) else a
def allN (s : Sn) (l : List (Int × Int)) (out : Int) (n : Nat) : (Int × Int) × Int := (List.range n).foldl (allStep s l out) ((2001, 0), 0)
theorem allN_succ (s : Sn) (l : List (Int × Int)) (out : Int) (n : Nat) : allN s l out (n + 1) = allStep s l out (allN s l out n) n := by simp [allN, List.range_succ]
theorem allN_bd (s : Sn) (l : List (Int × Int)) (out : Int) (n : Nat) : 0 ≤ (allN s l out n).2 ∧ (allN s l out n).2 ≤ n := by
  induction n with
  | zero => exact ⟨Int.le_refl _, Int.le_refl _⟩
  | succ n ih => rw [allN_succ]; unfold allStep; split <;> simp <;> omega
def rAll (s : Sn) (l : List (Int × Int)) (out : Int) : (Int × Int) × Int := allN s l out 2000
theorem rall_c (s : Sn) (hs : VS s) (l : List (Int × Int)) (hl : (l.length : Int) ≤ 60) (hok : l.all (rdOk s) = true) (out : Int) (ho : 0 ≤ out) (sl lv : Value) (w : World) (hr : RdI w sl s.weights) (hR : RdR w lv l) :
    CnV Try.prog 30 #[spV s sl, lv, vi out] w (.tuple #[rV (rAll s l out).1, vi (rAll s l out).2]) := by
  obtain ⟨ad, cp, b0, o, rfl, had, hcell⟩ := hR.open
  refine cnv (vs := [_, _, _]) Try.func30 rfl rfl ?_
  all_goals refine tc_seq fun K1 hK1 => ?_
  all_goals refine tc_region ?_
  all_goals refine tl_e (e_box rfl rfl rfl) rfl (fun b3 _ => ?_)
  all_goals refine tl_e (e_allocN rfl) rfl (fun b6 _ => ?_)
  all_goals refine tl_q (y_assign rfl) rfl ?_
  all_goals refine tl_nil ?_
  all_goals (refine hK1 ?_; try (clear hK1; clear K1))
  all_goals refine tc_seq fun K2 hK2 => ?_
  all_goals refine tc_region ?_
  all_goals refine tl_q (y_build_2 rfl rfl rfl rfl) rfl ?_
  all_goals refine tl_e (e_allocN rfl) rfl (fun b8 _ => ?_)
  all_goals refine tl_e (e_storeW rfl rfl (by repeat constructor) (by rfl) (by rfl) (by simp [Value.oneCell'])) rfl (fun _ _ => ?_)
  all_goals refine tl_nil ?_
  all_goals (refine hK2 ?_; try (clear hK2; clear K2))
  all_goals refine tc_seq fun K3 hK3 => ?_
  all_goals refine tc_region ?_
  all_goals refine tl_q (y_assign rfl) rfl ?_
  all_goals refine tl_nil ?_
  all_goals (refine hK3 ?_; try (clear hK3; clear K3))
  all_goals refine tc_seq fun K4 hK4 => ?_
  all_goals refine tc_seq fun K5 hK5 => ?_
  all_goals refine tc_region ?_
  all_goals refine tl_q (y_assign rfl) rfl ?_
  all_goals refine tl_nil ?_
  all_goals (refine hK5 ?_; try (clear hK5; clear K5))
  all_goals refine tc_block ?_
  all_goals (
   refine tc_loop (fun n : Nat => n ≤ 2000) (fun n => [(1, .slice ad l.length cp), (2, vi out), (3, ptr b3), (6, ptr b6), (8, ptr b8), (9, vi (allN s l out n).2), (10, vi ((n : Int) + 1))]) (fun _ => [(w, [])]) (fun n => [(b8, .cells #[vi (allN s l out n).1.1, vi (allN s l out n).1.2] 47 (0, 0)), (b6, .cells #[vi 0, vi 0] 47 (0, 0)), (b3, .cells (spV s sl).cells 24 (0, 0))]) (fun n => 2000 - n) ?_ ?_
   · exact tk_start 0 (Nat.zero_le _) (.cons rfl (.cons rfl (.cons rfl (.cons rfl (.cons rfl (.cons rfl (.cons rfl .nil))))))) (fun _ h => h.sub (fun _ h => h) (SB.s (by repeat constructor)))
   · intro n hn
     all_goals refine tc_seq fun K6 hK6 => ?_
     all_goals refine tc_seq fun K7 hK7 => ?_
     all_goals refine tc_region ?_
     all_goals refine tl_q (y_move rfl) rfl ?_
     all_goals refine tl_q (y_leq rfl rfl) rfl ?_
     all_goals refine tl_nil ?_
     all_goals (refine hK7 ?_; try (clear hK7; clear K7))
     all_goals (
      refine tc_cond rfl (fun hc => ?_) (fun hc => ?_)
      · try simp only [decide_eq_true_eq, decide_eq_false_iff_not, Int.not_lt, Int.not_le, Bool.not_eq_true', Bool.not_eq_false', Decidable.not_not, not_true_eq_false] at hc
        all_goals first | (exfalso; with_reducible exact bft hc) | (exfalso; with_reducible exact btf hc) | (exfalso; omega) | (exfalso; (rw [‹b = false›] at hc; cases hc; done); done) | skip
        all_goals refine tc_skip ?_
        all_goals (refine hK6 ?_; try (clear hK6; clear K6))
        all_goals refine tc_seq fun K8 hK8 => ?_
        all_goals refine tc_block ?_
        all_goals refine tc_seq fun K9 hK9 => ?_
        have hbd := allN_bd s l out n
        all_goals refine tc_region ?_
        all_goals refine tl_q (y_assign rfl) rfl ?_
        all_goals refine tl_nil ?_
        all_goals (refine hK9 ?_; try (clear hK9; clear K9))
        all_goals refine tc_seq fun K10 hK10 => ?_
        all_goals refine tc_seq fun K11 hK11 => ?_
        all_goals refine tc_region ?_
        all_goals refine tl_q (y_assign rfl) rfl ?_
        all_goals refine tl_nil ?_
        all_goals (refine hK11 ?_; try (clear hK11; clear K11))
        all_goals refine tc_block ?_
        all_goals (
         refine tc_loop (fun p : Nat × Bool => p.1 ≤ l.length ∧ p.2 = fitAll s l out ((n : Int) + 1) p.1) (fun p => [(1, .slice ad l.length cp), (2, vi out), (3, ptr b3), (6, ptr b6), (8, ptr b8), (9, vi (allN s l out n).2), (10, vi ((n : Int) + 1)), (11, .bool p.2), (12, vi p.1)]) (fun _ => [(w, [])]) (fun _ => [(b8, .cells #[vi (allN s l out n).1.1, vi (allN s l out n).1.2] 47 (0, 0)), (b6, .cells #[vi 0, vi 0] 47 (0, 0)), (b3, .cells (spV s sl).cells 24 (0, 0))]) (fun p => l.length - p.1) ?_ ?_
         · exact tk_start (0, true) ⟨Nat.zero_le _, rfl⟩ (.cons rfl (.cons rfl (.cons rfl (.cons rfl (.cons rfl (.cons rfl (.cons rfl (.cons rfl (.cons rfl .nil))))))))) (fun _ h => h)
         · rintro ⟨i, b⟩ ⟨hi, hb⟩
           dsimp only at hi hb ⊢
           all_goals refine tc_seq fun K12 hK12 => ?_
           all_goals refine tc_seq fun K13 hK13 => ?_
           all_goals refine tc_region ?_
           all_goals refine tl_q (y_move rfl) rfl ?_
           all_goals refine tl_q (y_move rfl) rfl ?_
           all_goals refine tl_q (y_len rfl) rfl ?_
           all_goals refine tl_q (y_lss rfl rfl) rfl ?_
           all_goals refine tl_q (y_move rfl) rfl ?_
           all_goals (first | refine tl_sk rfl rfl rfl rfl ?_ | refine tl_qg rfl rfl (y_move rfl) rfl ?_ | refine tl_su rfl rfl rfl ?_ | (refine tl_gs rfl rfl (fun hc => ?_) (fun hc => ?_) <;> (try simp only [decide_eq_true_eq, decide_eq_false_iff_not, Int.not_lt, Int.not_le, Bool.not_eq_true', Bool.not_eq_false', Decidable.not_not, not_true_eq_false] at hc) <;> (first | (exfalso; omega) | refine tl_sk rfl rfl rfl rfl ?_ | refine tl_qg rfl rfl (y_move rfl) rfl ?_ | refine tl_su rfl rfl rfl ?_)))
           all_goals (first | refine tl_q (y_pick_t rfl rfl) rfl ?_ | refine tl_q (y_pick_f rfl rfl) rfl ?_)
           all_goals refine tl_nil ?_
           all_goals (refine hK13 ?_; try (clear hK13; clear K13))
           all_goals (
            refine tc_cond rfl (fun hc => ?_) (fun hc => ?_)
            · try simp only [decide_eq_true_eq, decide_eq_false_iff_not, Int.not_lt, Int.not_le, Bool.not_eq_true', Bool.not_eq_false', Decidable.not_not, not_true_eq_false] at hc
              all_goals first | (exfalso; with_reducible exact bft hc) | (exfalso; with_reducible exact btf hc) | (exfalso; omega) | (exfalso; (rw [‹b = false›] at hc; cases hc; done); done) | skip
              all_goals refine tc_skip ?_
              all_goals (refine hK12 ?_; try (clear hK12; clear K12))
              all_goals refine tc_seq fun K14 hK14 => ?_
              all_goals refine tc_block ?_
              all_goals (have had' := had (by omega); have hrd := List.all_eq_true.1 hok (l.getD i (0, 0)) (by rw [List.getD_eq_getElem?_getD, List.getElem?_eq_getElem (by omega)]; exact List.getElem_mem (by omega)); have hdv : 0 ≤ out / 2 ^ (i : Int).toNat := Int.ediv_nonneg ho (Int.le_of_lt (Int.pow_pos (by decide))))
              all_goals refine tc_draw (by kernel_rfl) ?_
              all_goals refine tx_p 0 rfl (by kernel_rfl) (y_move rfl) rfl (fun _ _ _ h => h) (fun _ h => h) ?_
              all_goals refine tx_p 1 rfl (by kernel_rfl) (y_move rfl) rfl (fun _ _ _ h => h) (fun _ h => h) ?_
              all_goals (first | refine tx_p 2 rfl (by kernel_rfl) (y_conv64 rfl (by omega)) rfl (fun _ _ _ h => h) (fun _ h => h) ?_ | refine tx_p 2 rfl (by kernel_rfl) (y_conv rfl (by simp only [IntKind.wrap, IntKind.bits, IntKind.signed, Bool.false_and, Bool.true_and, Bool.false_eq_true, if_false, decide_eq_true_eq]; omega)) rfl (fun _ _ _ h => h) (fun _ h => h) ?_)
              all_goals refine tx_p 3 rfl (by kernel_rfl) (y_shr rfl rfl (by omega)) rfl (fun _ _ _ h => h) (fun _ h => h) ?_
              all_goals refine tx_p 4 rfl (by kernel_rfl) (y_rem rfl rfl (by omega) (by omega)) rfl (fun _ _ _ h => h) (fun _ h => h) ?_
              all_goals refine tx_p 5 rfl (by kernel_rfl) (y_eql rfl rfl) rfl (fun _ _ _ h => h) (fun _ h => h) ?_
              all_goals refine tx_p 6 rfl (by kernel_rfl) (y_move rfl) rfl (fun _ _ _ h => h) (fun _ h => h) ?_
              all_goals (first | refine tx_sk 7 rfl (by kernel_rfl) rfl rfl rfl rfl (fun _ _ _ h => h) (fun _ h => h) ?_ | refine tx_qg 7 rfl (by kernel_rfl) rfl rfl (y_loadW rfl (by repeat constructor) (by rfl)) rfl (fun _ _ _ h => h) (fun _ h => h) ?_ | refine tx_qg 7 rfl (by kernel_rfl) rfl rfl (y_loadN rfl (by repeat constructor) (by (repeat (first | exact .nil | apply CA.cons rfl)); done)) rfl (fun _ _ _ h => h) (fun _ h => h) ?_ | refine tx_qg 7 rfl (by kernel_rfl) rfl rfl (y_loadNo rfl (fun w' hw' => hcell w' [] (hw'.fr (by simp)) (by simp) (Int.toNat i) (by omega))) rfl (fun _ _ _ h => h) (fun _ h => h) ?_ | refine tx_su 7 rfl (by kernel_rfl) rfl rfl rfl (fun _ _ _ h => h) (fun _ h => h) ?_ | (refine tx_gs 33 rfl (fun hc => ?_) (fun hc => ?_) <;> (try simp only [decide_eq_true_eq, decide_eq_false_iff_not, Int.not_lt, Int.not_le, Bool.not_eq_true', Bool.not_eq_false', Decidable.not_not, not_true_eq_false] at hc) <;> (first | (exfalso; omega) | refine tx_sk 7 rfl (by kernel_rfl) rfl rfl rfl rfl (fun _ _ _ h => h) (fun _ h => h) ?_ | refine tx_qg 7 rfl (by kernel_rfl) rfl rfl (y_loadW rfl (by repeat constructor) (by rfl)) rfl (fun _ _ _ h => h) (fun _ h => h) ?_ | refine tx_qg 7 rfl (by kernel_rfl) rfl rfl (y_loadN rfl (by repeat constructor) (by (repeat (first | exact .nil | apply CA.cons rfl)); done)) rfl (fun _ _ _ h => h) (fun _ h => h) ?_ | refine tx_qg 7 rfl (by kernel_rfl) rfl rfl (y_loadNo rfl (fun w' hw' => hcell w' [] (hw'.fr (by simp)) (by simp) (Int.toNat i) (by omega))) rfl (fun _ _ _ h => h) (fun _ h => h) ?_ | refine tx_su 7 rfl (by kernel_rfl) rfl rfl rfl (fun _ _ _ h => h) (fun _ h => h) ?_)))
              all_goals (first | refine tx_sk 8 rfl (by kernel_rfl) rfl rfl rfl rfl (fun _ _ _ h => h) (fun _ h => h) ?_ | refine tx_pg 8 rfl (by kernel_rfl) rfl rfl (y_move rfl) rfl (fun _ _ _ h => h) (fun _ h => h) ?_ | refine tx_su 8 rfl (by kernel_rfl) rfl rfl rfl (fun _ _ _ h => h) (fun _ h => h) ?_ | (refine tx_gs 33 rfl (fun hc => ?_) (fun hc => ?_) <;> (try simp only [decide_eq_true_eq, decide_eq_false_iff_not, Int.not_lt, Int.not_le, Bool.not_eq_true', Bool.not_eq_false', Decidable.not_not, not_true_eq_false] at hc) <;> (first | (exfalso; omega) | refine tx_sk 8 rfl (by kernel_rfl) rfl rfl rfl rfl (fun _ _ _ h => h) (fun _ h => h) ?_ | refine tx_pg 8 rfl (by kernel_rfl) rfl rfl (y_move rfl) rfl (fun _ _ _ h => h) (fun _ h => h) ?_ | refine tx_su 8 rfl (by kernel_rfl) rfl rfl rfl (fun _ _ _ h => h) (fun _ h => h) ?_)))
              all_goals (first | refine tx_sk 9 rfl (by kernel_rfl) rfl rfl rfl rfl (fun _ _ _ h => h) (fun _ h => h) ?_ | refine tx_pg 9 rfl (by kernel_rfl) rfl rfl (y_move rfl) rfl (fun _ _ _ h => h) (fun _ h => h) ?_ | refine tx_su 9 rfl (by kernel_rfl) rfl rfl rfl (fun _ _ _ h => h) (fun _ h => h) ?_ | (refine tx_gs 33 rfl (fun hc => ?_) (fun hc => ?_) <;> (try simp only [decide_eq_true_eq, decide_eq_false_iff_not, Int.not_lt, Int.not_le, Bool.not_eq_true', Bool.not_eq_false', Decidable.not_not, not_true_eq_false] at hc) <;> (first | (exfalso; omega) | refine tx_sk 9 rfl (by kernel_rfl) rfl rfl rfl rfl (fun _ _ _ h => h) (fun _ h => h) ?_ | refine tx_pg 9 rfl (by kernel_rfl) rfl rfl (y_move rfl) rfl (fun _ _ _ h => h) (fun _ h => h) ?_ | refine tx_su 9 rfl (by kernel_rfl) rfl rfl rfl (fun _ _ _ h => h) (fun _ h => h) ?_)))
              all_goals (first | refine tx_sk 10 rfl (by kernel_rfl) rfl rfl rfl rfl (fun _ _ _ h => h) (fun _ h => h) ?_ | refine tx_pg 10 rfl (by kernel_rfl) rfl rfl (y_index rfl rfl (by omega) had') rfl (fun _ _ _ h => h) (fun _ h => h) ?_ | refine tx_pg 10 rfl (by kernel_rfl) rfl rfl (y_index rfl rfl (by omega) rfl) rfl (fun _ _ _ h => h) (fun _ h => h) ?_ | refine tx_pg 10 rfl (by kernel_rfl) rfl rfl (y_indexA rfl rfl (by omega)) rfl (fun _ _ _ h => h) (fun _ h => h) ?_ | refine tx_su 10 rfl (by kernel_rfl) rfl rfl rfl (fun _ _ _ h => h) (fun _ h => h) ?_ | (refine tx_gs 33 rfl (fun hc => ?_) (fun hc => ?_) <;> (try simp only [decide_eq_true_eq, decide_eq_false_iff_not, Int.not_lt, Int.not_le, Bool.not_eq_true', Bool.not_eq_false', Decidable.not_not, not_true_eq_false] at hc) <;> (first | (exfalso; omega) | refine tx_sk 10 rfl (by kernel_rfl) rfl rfl rfl rfl (fun _ _ _ h => h) (fun _ h => h) ?_ | refine tx_pg 10 rfl (by kernel_rfl) rfl rfl (y_index rfl rfl (by omega) had') rfl (fun _ _ _ h => h) (fun _ h => h) ?_ | refine tx_pg 10 rfl (by kernel_rfl) rfl rfl (y_index rfl rfl (by omega) rfl) rfl (fun _ _ _ h => h) (fun _ h => h) ?_ | refine tx_pg 10 rfl (by kernel_rfl) rfl rfl (y_indexA rfl rfl (by omega)) rfl (fun _ _ _ h => h) (fun _ h => h) ?_ | refine tx_su 10 rfl (by kernel_rfl) rfl rfl rfl (fun _ _ _ h => h) (fun _ h => h) ?_)))
              all_goals (first | refine tx_sk 11 rfl (by kernel_rfl) rfl rfl rfl rfl (fun _ _ _ h => h) (fun _ h => h) ?_ | refine tx_qg 11 rfl (by kernel_rfl) rfl rfl (y_loadW rfl (by repeat constructor) (by rfl)) rfl (fun _ _ _ h => h) (fun _ h => h) ?_ | refine tx_qg 11 rfl (by kernel_rfl) rfl rfl (y_loadN rfl (by repeat constructor) (by (repeat (first | exact .nil | apply CA.cons rfl)); done)) rfl (fun _ _ _ h => h) (fun _ h => h) ?_ | refine tx_qg 11 rfl (by kernel_rfl) rfl rfl (y_loadNo rfl (fun w' hw' => hcell w' [] (hw'.fr (by simp)) (by simp) (Int.toNat i) (by omega))) rfl (fun _ _ _ h => h) (fun _ h => h) ?_ | refine tx_su 11 rfl (by kernel_rfl) rfl rfl rfl (fun _ _ _ h => h) (fun _ h => h) ?_ | (refine tx_gs 33 rfl (fun hc => ?_) (fun hc => ?_) <;> (try simp only [decide_eq_true_eq, decide_eq_false_iff_not, Int.not_lt, Int.not_le, Bool.not_eq_true', Bool.not_eq_false', Decidable.not_not, not_true_eq_false] at hc) <;> (first | (exfalso; omega) | refine tx_sk 11 rfl (by kernel_rfl) rfl rfl rfl rfl (fun _ _ _ h => h) (fun _ h => h) ?_ | refine tx_qg 11 rfl (by kernel_rfl) rfl rfl (y_loadW rfl (by repeat constructor) (by rfl)) rfl (fun _ _ _ h => h) (fun _ h => h) ?_ | refine tx_qg 11 rfl (by kernel_rfl) rfl rfl (y_loadN rfl (by repeat constructor) (by (repeat (first | exact .nil | apply CA.cons rfl)); done)) rfl (fun _ _ _ h => h) (fun _ h => h) ?_ | refine tx_qg 11 rfl (by kernel_rfl) rfl rfl (y_loadNo rfl (fun w' hw' => hcell w' [] (hw'.fr (by simp)) (by simp) (Int.toNat i) (by omega))) rfl (fun _ _ _ h => h) (fun _ h => h) ?_ | refine tx_su 11 rfl (by kernel_rfl) rfl rfl rfl (fun _ _ _ h => h) (fun _ h => h) ?_)))
              all_goals (first | refine tx_sk 12 rfl (by kernel_rfl) rfl rfl rfl rfl (fun _ _ _ h => h) (fun _ h => h) ?_ | refine tx_pg 12 rfl (by kernel_rfl) rfl rfl (y_move rfl) rfl (fun _ _ _ h => h) (fun _ h => h) ?_ | refine tx_su 12 rfl (by kernel_rfl) rfl rfl rfl (fun _ _ _ h => h) (fun _ h => h) ?_ | (refine tx_gs 33 rfl (fun hc => ?_) (fun hc => ?_) <;> (try simp only [decide_eq_true_eq, decide_eq_false_iff_not, Int.not_lt, Int.not_le, Bool.not_eq_true', Bool.not_eq_false', Decidable.not_not, not_true_eq_false] at hc) <;> (first | (exfalso; omega) | refine tx_sk 12 rfl (by kernel_rfl) rfl rfl rfl rfl (fun _ _ _ h => h) (fun _ h => h) ?_ | refine tx_pg 12 rfl (by kernel_rfl) rfl rfl (y_move rfl) rfl (fun _ _ _ h => h) (fun _ h => h) ?_ | refine tx_su 12 rfl (by kernel_rfl) rfl rfl rfl (fun _ _ _ h => h) (fun _ h => h) ?_)))
              all_goals (first | refine tx_sk 13 rfl (by kernel_rfl) rfl rfl rfl rfl (fun _ _ _ h => h) (fun _ h => h) ?_ | refine tx_eg 13 rfl (by kernel_rfl) rfl rfl rfl (e_callV rfl (.cons rfl (.cons rfl (.cons rfl .nil))) (fun w' hw' => fits_c s hs (l.getD i (0, 0)) hrd _ (by omega) (by omega) _ w' (hr.fr (hw'.fr (by simp))))) (.inr fun _ _ h => h) (fun _ _ => ?_) | refine tx_su 13 rfl (by kernel_rfl) rfl rfl rfl (fun _ _ _ h => h) (fun _ h => h) ?_ | (refine tx_gs 33 rfl (fun hc => ?_) (fun hc => ?_) <;> (try simp only [decide_eq_true_eq, decide_eq_false_iff_not, Int.not_lt, Int.not_le, Bool.not_eq_true', Bool.not_eq_false', Decidable.not_not, not_true_eq_false] at hc) <;> (first | (exfalso; omega) | refine tx_sk 13 rfl (by kernel_rfl) rfl rfl rfl rfl (fun _ _ _ h => h) (fun _ h => h) ?_ | refine tx_eg 13 rfl (by kernel_rfl) rfl rfl rfl (e_callV rfl (.cons rfl (.cons rfl (.cons rfl .nil))) (fun w' hw' => fits_c s hs (l.getD i (0, 0)) hrd _ (by omega) (by omega) _ w' (hr.fr (hw'.fr (by simp))))) (.inr fun _ _ h => h) (fun _ _ => ?_) | refine tx_su 13 rfl (by kernel_rfl) rfl rfl rfl (fun _ _ _ h => h) (fun _ h => h) ?_)))
              all_goals (first | refine tx_p 14 rfl (by kernel_rfl) (y_pick_t rfl rfl) rfl (fun _ _ _ h => h) (fun _ h => h) ?_ | refine tx_p 14 rfl (by kernel_rfl) (y_pick_f rfl rfl) rfl (fun _ _ _ h => h) (fun _ h => h) ?_)
              all_goals refine tx_p 15 rfl (by kernel_rfl) (y_assign rfl) rfl (fun _ _ _ h => h) (fun _ h => h) ?_
              all_goals refine tx_done (by kernel_rfl) ?_
              all_goals (refine hK14 ?_; try (clear hK14; clear K14))
              all_goals refine tc_region ?_
              all_goals refine tl_q (y_move rfl) rfl ?_
              all_goals refine tl_q (y_add rfl rfl (by omega)) rfl ?_
              all_goals refine tl_q (y_assign rfl) rfl ?_
              all_goals refine tl_nil ?_
              all_goals (
               all_goals refine tk_round (i + 1, _) ⟨by omega, ?_⟩ (by dsimp only; omega) (.cons rfl (.cons rfl (.cons rfl (.cons rfl (.cons rfl (.cons rfl (.cons rfl (.cons rfl (.cons rfl .nil))))))))) (fun _ h => h)
               all_goals (have hbt : fitAll s l out ((n : Int) + 1) i = true := by rw [← hb]; assumption)
               all_goals (rw [fitAll_succ, hbt, Bool.true_and]; unfold fitB outB)
               all_goals (first | (have e1 : decide (out / 2 ^ i % 2 = 1) = true := decide_eq_true (by simpa using hc)
                                   rw [e1]; rfl) | (have e1 : decide (out / 2 ^ i % 2 = 1) = false := decide_eq_false (by simpa using hc)
                                                    rw [e1]; rfl)))
            · try simp only [decide_eq_true_eq, decide_eq_false_iff_not, Int.not_lt, Int.not_le, Bool.not_eq_true', Bool.not_eq_false', Decidable.not_not, not_true_eq_false] at hc
              all_goals first | (exfalso; with_reducible exact bft hc) | (exfalso; with_reducible exact btf hc) | (exfalso; omega) | (exfalso; (rw [‹b = false›] at hc; cases hc; done); done) | skip
              all_goals refine tc_exit ?_
              all_goals (refine hK10 ?_; try (clear hK10; clear K10))
              all_goals refine tc_seq fun K15 hK15 => ?_
              all_goals refine tc_region ?_
              all_goals refine tl_q (y_move rfl) rfl ?_
              all_goals refine tl_nil ?_
              all_goals (refine hK15 ?_; try (clear hK15; clear K15))
              all_goals (
               refine tc_cond rfl (fun hc => ?_) (fun hc => ?_)
               · try simp only [decide_eq_true_eq, decide_eq_false_iff_not, Int.not_lt, Int.not_le, Bool.not_eq_true', Bool.not_eq_false', Decidable.not_not, not_true_eq_false] at hc
                 all_goals first | (exfalso; with_reducible exact bft hc) | (exfalso; with_reducible exact btf hc) | (exfalso; omega) | (exfalso; (rw [‹b = false›] at hc; cases hc; done); done) | skip
                 all_goals refine tc_seq fun K16 hK16 => ?_
                 all_goals refine tc_region ?_
                 all_goals refine tl_q (y_field rfl) rfl ?_
                 all_goals (first | refine tl_q (y_load1 rfl (by repeat constructor) (by rfl)) rfl ?_ | refine tl_q (y_loadNo rfl (fun w' hw' => hcell w' [] (hw'.fr (by simp)) (by simp) (Int.toNat i) (by omega))) rfl ?_)
                 all_goals refine tl_q (y_move rfl) rfl ?_
                 all_goals refine tl_q (y_min rfl rfl) rfl ?_
                 all_goals refine tl_q (y_field rfl) rfl ?_
                 all_goals (first | refine tl_q (y_load1 rfl (by repeat constructor) (by rfl)) rfl ?_ | refine tl_q (y_loadNo rfl (fun w' hw' => hcell w' [] (hw'.fr (by simp)) (by simp) (Int.toNat i) (by omega))) rfl ?_)
                 all_goals refine tl_q (y_move rfl) rfl ?_
                 all_goals refine tl_q (y_max rfl rfl) rfl ?_
                 all_goals refine tl_q (y_build_2 rfl rfl rfl rfl) rfl ?_
                 all_goals refine tl_e (e_storeW rfl rfl (by repeat constructor) (by rfl) (by rfl) (by simp [Value.oneCell'])) rfl (fun _ _ => ?_)
                 all_goals refine tl_nil ?_
                 all_goals (refine hK16 ?_; try (clear hK16; clear K16))
                 all_goals refine tc_region ?_
                 all_goals refine tl_q (y_move rfl) rfl ?_
                 all_goals refine tl_q (y_add rfl rfl (by omega)) rfl ?_
                 all_goals refine tl_q (y_assign rfl) rfl ?_
                 all_goals refine tl_nil ?_
                 all_goals (refine hK8 ?_; try (clear hK8; clear K8))
                 all_goals refine tc_region ?_
                 all_goals refine tl_q (y_move rfl) rfl ?_
                 all_goals refine tl_q (y_add rfl rfl (by omega)) rfl ?_
                 all_goals refine tl_q (y_assign rfl) rfl ?_
                 all_goals refine tl_nil ?_
                 all_goals (
                  first
                  | (have hft : fitAll s l out ((n : Int) + 1) l.length = true := by rw [← show i = l.length from by omega, ← hb]; exact hc
                     have hst : allN s l out (n + 1) = ((min (allN s l out n).1.1 ((n : Int) + 1), max (allN s l out n).1.2 ((n : Int) + 1)), (allN s l out n).2 + 1) := by rw [allN_succ]; unfold allStep; rw [if_pos hft]
                     refine tk_round (n + 1) (by omega) (by omega) (.cons rfl (.cons rfl (.cons rfl (.cons rfl (.cons rfl (.cons ?_ (.cons rfl .nil))))))) (fun _ h => ?_)
                     · rw [hst]; rfl
                     · rw [hst]; exact h.sub (fun _ h => h) (SB.s (by repeat constructor)))
                  | (have hft : fitAll s l out ((n : Int) + 1) l.length = false := fitAll_no (n := i) (by rw [← hb]; exact hc) hi
                     have hst : allN s l out (n + 1) = allN s l out n := by rw [allN_succ]; unfold allStep; rw [if_neg (by rw [hft]; exact Bool.false_ne_true)]
                     refine tk_round (n + 1) (by omega) (by omega) (.cons rfl (.cons rfl (.cons rfl (.cons rfl (.cons rfl (.cons ?_ (.cons rfl .nil))))))) (fun _ h => ?_)
                     · rw [hst]; rfl
                     · rw [hst]; exact h.sub (fun _ h => h) (SB.s (by repeat constructor))))
               · try simp only [decide_eq_true_eq, decide_eq_false_iff_not, Int.not_lt, Int.not_le, Bool.not_eq_true', Bool.not_eq_false', Decidable.not_not, not_true_eq_false] at hc
                 all_goals first | (exfalso; with_reducible exact bft hc) | (exfalso; with_reducible exact btf hc) | (exfalso; omega) | (exfalso; (rw [‹b = false›] at hc; cases hc; done); done) | skip
                 all_goals refine tc_skip ?_
                 all_goals (refine hK8 ?_; try (clear hK8; clear K8))
                 all_goals refine tc_region ?_
                 all_goals refine tl_q (y_move rfl) rfl ?_
                 all_goals refine tl_q (y_add rfl rfl (by omega)) rfl ?_
                 all_goals refine tl_q (y_assign rfl) rfl ?_
                 all_goals refine tl_nil ?_
                 all_goals (
                  first
                  | (have hft : fitAll s l out ((n : Int) + 1) l.length = true := by rw [← show i = l.length from by omega, ← hb]; exact hc
                     have hst : allN s l out (n + 1) = ((min (allN s l out n).1.1 ((n : Int) + 1), max (allN s l out n).1.2 ((n : Int) + 1)), (allN s l out n).2 + 1) := by rw [allN_succ]; unfold allStep; rw [if_pos hft]
                     refine tk_round (n + 1) (by omega) (by omega) (.cons rfl (.cons rfl (.cons rfl (.cons rfl (.cons rfl (.cons ?_ (.cons rfl .nil))))))) (fun _ h => ?_)
                     · rw [hst]; rfl
                     · rw [hst]; exact h.sub (fun _ h => h) (SB.s (by repeat constructor)))
                  | (have hft : fitAll s l out ((n : Int) + 1) l.length = false := fitAll_no (n := i) (by rw [← hb]; exact hc) hi
                     have hst : allN s l out (n + 1) = allN s l out n := by rw [allN_succ]; unfold allStep; rw [if_neg (by rw [hft]; exact Bool.false_ne_true)]
                     refine tk_round (n + 1) (by omega) (by omega) (.cons rfl (.cons rfl (.cons rfl (.cons rfl (.cons rfl (.cons ?_ (.cons rfl .nil))))))) (fun _ h => ?_)
                     · rw [hst]; rfl
                     · rw [hst]; exact h.sub (fun _ h => h) (SB.s (by repeat constructor)))))))
      · try simp only [decide_eq_true_eq, decide_eq_false_iff_not, Int.not_lt, Int.not_le, Bool.not_eq_true', Bool.not_eq_false', Decidable.not_not, not_true_eq_false] at hc
        all_goals first | (exfalso; with_reducible exact bft hc) | (exfalso; with_reducible exact btf hc) | (exfalso; omega) | (exfalso; (rw [‹b = false›] at hc; cases hc; done); done) | skip
        all_goals refine tc_exit ?_
        all_goals (refine hK4 ?_; try (clear hK4; clear K4))
        all_goals refine tc_seq fun K17 hK17 => ?_
        all_goals refine tc_region ?_
        all_goals (first | refine tl_q (y_loadW rfl (by repeat constructor) (by rfl)) rfl ?_ | refine tl_q (y_loadN rfl (by repeat constructor) (by (repeat (first | exact .nil | apply CA.cons rfl)); done)) rfl ?_ | refine tl_q (y_loadNo rfl (fun w' hw' => hcell w' [] (hw'.fr (by simp)) (by simp) (Int.toNat i) (by omega))) rfl ?_)
        all_goals refine tl_q (y_move rfl) rfl ?_
        all_goals refine tl_e (e_storeW rfl rfl (by repeat constructor) (by rfl) (by rfl) (by simp [Value.oneCell'])) rfl (fun _ _ => ?_)
        all_goals refine tl_q (y_assign rfl) rfl ?_
        all_goals refine tl_nil ?_
        all_goals (refine hK17 ?_; try (clear hK17; clear K17))
        all_goals refine tc_ret ?_
        all_goals (repeat (first | refine tk_then_ret ?_ | refine tk_block_ret ?_ | refine tk_scope_ret ?_))
        all_goals first | refine tk_ret rfl rfl (.cons (.agg inferInstance rfl (by repeat constructor) (by rfl)) (.cons (.tmp rfl) .nil)) ?_ | refine tk_retM rfl (by repeat constructor) rfl (.cons (.agg inferInstance rfl (by repeat constructor) (by rfl)) (.cons (.tmp rfl) .nil)) ?_
        all_goals (
         have hnn : n = 2000 := by omega
         subst hnn
         exact fun w' hw' => ⟨by unfold rAll; rfl, hw'.fr (by simp)⟩)))
end Go.Sp
