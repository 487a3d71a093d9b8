
/-
  The reference of samples: what is valid; equality of lists. The law's helpers.
-/
import Derived.Test.YtgfpkpiigkcndaaM3
import Derived.Test.YtgfpkpiigkcndaaRows
import Derived.ProofKit
import Derived.OpenShut
import Derived.Carry
import Derived.Deep.Fields
set_option linter.unusedVariables false
set_option linter.unusedSimpArgs false
set_option linter.deprecated false
namespace Go.Sp
open Go Go.Proofs
theorem rIn_c (n lo hi : Int) (w : World) : CnV Try.prog 10 #[vi n, vi lo, vi hi] w (.bool (decide (lo ≤ n ∧ n ≤ hi))) := by
  refine cnv (vs := [_, _, _]) Try.func10 rfl rfl ?_
  all_goals refine tc_seq fun K1 hK1 => ?_; refine tc_region ?_; refine tl_q (y_assign rfl) rfl ?_; refine tl_nil ?_; ((refine hK1 ?_; try (clear hK1; clear K1)))
  all_goals refine tc_seq fun K2 hK2 => ?_; refine tc_region ?_; refine tl_q (y_move rfl) rfl ?_; refine tl_q (y_move rfl) rfl ?_; refine tl_q (y_geq rfl rfl) rfl ?_; refine tl_q (y_move rfl) rfl ?_; ((refine tl_gs rfl rfl (fun hc => ?_) (fun hc => ?_) <;> (skip) <;> (first | refine tl_sk rfl rfl rfl rfl ?_ | refine tl_qg rfl rfl (y_move rfl) rfl ?_)))
  all_goals (first | refine tl_sk rfl rfl rfl rfl ?_ | refine tl_qg rfl rfl (y_move rfl) rfl ?_); (first | refine tl_sk rfl rfl rfl rfl ?_ | refine tl_qg rfl rfl (y_leq rfl rfl) rfl ?_); (first | refine tl_q (y_pick_t rfl rfl) rfl ?_ | refine tl_q (y_pick_f rfl rfl) rfl ?_); refine tl_q (y_assign rfl) rfl ?_; refine tl_nil ?_; ((refine hK2 ?_; try (clear hK2; clear K2)))
  all_goals refine tc_ret ?_; (repeat (first | refine tk_then_ret ?_))
  all_goals (refine tk_ret rfl rfl (.cons (.tmp rfl) .nil) ?_)
  all_goals (
   refine fun w' hw' => ⟨?_, hw'.fr (by simp)⟩; simp only [outV, decide_eq_true_eq, decide_eq_false_iff_not, ge_iff_le] at *; simp [hc])
theorem rMany_c (s : Smp) (hL : s.L ≤ 9) (hpo : s.ps.all (pasOk s) = true) (h6 : s.ps.length ≤ 6) (tv pv gv : Value) (w : World) (hr : RdS 5 psE w pv s.ps) : CnV Try.prog 53 #[smV s tv pv gv] w (vi (manyS s.ps)) := by
  obtain ⟨ad2, cp2, b2, o2, rfl, had2, hcell2⟩ := hr.open psE_len pas0
  refine cnv (vs := [_]) Try.func53 rfl rfl ?_
  all_goals refine tc_seq fun K1 hK1 => ?_; refine tc_region ?_; refine tl_e (e_box rfl rfl rfl) rfl (fun b1 _ => ?_); refine tl_q (y_assign rfl) rfl ?_; refine tl_nil ?_; ((refine hK1 ?_; try (clear hK1; clear K1)))
  all_goals refine tc_seq fun K2 hK2 => ?_; refine tc_region ?_; refine tl_q (y_assign rfl) rfl ?_; refine tl_nil ?_; ((refine hK2 ?_; try (clear hK2; clear K2)))
  all_goals refine tc_seq fun K3 hK3 => ?_; refine tc_seq fun K4 hK4 => ?_; refine tc_region ?_; refine tl_q (y_assign rfl) rfl ?_; refine tl_nil ?_; ((refine hK4 ?_; try (clear hK4; clear K4)))
  all_goals refine tc_block ?_
  all_goals (
   refine tc_loop (fun n : Nat => n ≤ s.ps.length) (fun n => [(1, ptr b1), (3, vi (manyS (s.ps.take n))), (4, vi n)]) (fun _ => [(w, [])]) (fun _ => [(b1, .cells #[vi s.B, vi s.P, vi s.L, vi s.F, tv, .slice ad2 s.ps.length cp2, gv] 26 (0, 0))]) (fun n => s.ps.length - n) ?_ ?_
   · exact tk_start 0 (Nat.zero_le _) (.cons rfl (.cons rfl (.cons rfl .nil))) (fun _ h => h.subl (SB.s (by repeat constructor)) (SB.s (by repeat constructor)))
   · rintro n hn
     all_goals refine tc_seq fun K5 hK5 => ?_; refine tc_seq fun K6 hK6 => ?_; refine tc_region ?_; refine tl_q (y_move rfl) rfl ?_; refine tl_q (y_field rfl) rfl ?_; refine tl_q (y_load1 rfl (by repeat constructor) (by rfl)) rfl ?_; refine tl_q (y_len rfl) rfl ?_; refine tl_q (y_lss rfl rfl) rfl ?_; refine tl_nil ?_; ((refine hK6 ?_; try (clear hK6; clear K6)))
     all_goals (
      refine tc_cond rfl (fun hc => ?_) (fun hc => ?_)
      · try simp only [decide_eq_true_eq, decide_eq_false_iff_not, Int.not_lt, Int.not_le, Bool.not_eq_true', Bool.not_eq_false', Decidable.not_not, not_true_eq_false] at hc
        all_goals refine tc_skip ?_; ((refine hK5 ?_; try (clear hK5; clear K5)))
        all_goals refine tc_seq fun K7 hK7 => ?_; refine tc_block ?_; (have hcc := fun (w' : World) (f : Fr [] w w') => hcell2 w' [] f (by simp) n (by omega))
        all_goals ((have hp1 := pas_at hpo (n := n) (by omega); have hb1 := manyS_take (by omega) hpo (by omega) n (by omega); have hb2 := manyS_take (by omega) hpo (by omega) (n + 1) (by omega); have hsu := manyS_snoc (s.ps.take n) (s.ps.getD n pas0); rw [← takeG_succ (by omega)] at hsu; rw [hsu] at hb2))
        all_goals refine tc_draw (by kernel_rfl) ?_; refine tx_p 0 rfl (by kernel_rfl) (y_move rfl) rfl (fun _ _ _ h => h) (fun _ h => h) ?_; refine tx_p 1 rfl (by kernel_rfl) (y_field rfl) rfl (fun _ _ _ h => h) (fun _ h => h) ?_; refine tx_q 2 rfl (by kernel_rfl) (y_load1 rfl (by repeat constructor) (by rfl)) rfl (fun _ _ _ h => h) (fun _ h => h) ?_; refine tx_p 3 rfl (by kernel_rfl) (y_move rfl) rfl (fun _ _ _ h => h) (fun _ h => h) ?_; refine tx_p 4 rfl (by kernel_rfl) (y_index rfl rfl (by omega) (had2 (by omega))) rfl (fun _ _ _ h => h) (fun _ h => h) ?_; refine tx_p 5 rfl (by kernel_rfl) (y_field rfl) rfl (fun _ _ _ h => h) (fun _ h => h) ?_; refine tx_p 6 rfl (by kernel_rfl) (y_field rfl) rfl (fun _ _ _ h => h) (fun _ h => h) ?_; ((refine tx_q 7 rfl (by kernel_rfl) (y_load1o (v := vi (s.ps.getD n pas0).hi) rfl (fun w' hw' => by rw [show Int.toNat (n : Int) * 5 = n * 5 from by omega]; exact (hcc w' (hw'.fr (w0 := w) (S := []) (MI.m (by repeat constructor)))).get 4 _ rfl)) rfl (fun _ _ _ h => h) (fun _ h => h) ?_))
        all_goals refine tx_p 8 rfl (by kernel_rfl) (y_field rfl) rfl (fun _ _ _ h => h) (fun _ h => h) ?_; refine tx_q 9 rfl (by kernel_rfl) (y_load1 rfl (by repeat constructor) (by rfl)) rfl (fun _ _ _ h => h) (fun _ h => h) ?_; refine tx_p 10 rfl (by kernel_rfl) (y_move rfl) rfl (fun _ _ _ h => h) (fun _ h => h) ?_; refine tx_p 11 rfl (by kernel_rfl) (y_index rfl rfl (by omega) (had2 (by omega))) rfl (fun _ _ _ h => h) (fun _ h => h) ?_; refine tx_p 12 rfl (by kernel_rfl) (y_field rfl) rfl (fun _ _ _ h => h) (fun _ h => h) ?_; refine tx_p 13 rfl (by kernel_rfl) (y_field rfl) rfl (fun _ _ _ h => h) (fun _ h => h) ?_; ((refine tx_q 14 rfl (by kernel_rfl) (y_load1o (v := vi (s.ps.getD n pas0).lo) rfl (fun w' hw' => by rw [show Int.toNat (n : Int) * 5 = n * 5 from by omega]; exact (hcc w' (hw'.fr (w0 := w) (S := []) (MI.m (by repeat constructor)))).get 3 _ rfl)) rfl (fun _ _ _ h => h) (fun _ h => h) ?_))
        all_goals refine tx_p 15 rfl (by kernel_rfl) (y_sub rfl rfl (by omega)) rfl (fun _ _ _ h => h) (fun _ h => h) ?_; refine tx_p 16 rfl (by kernel_rfl) (y_add rfl rfl (by omega)) rfl (fun _ _ _ h => h) (fun _ h => h) ?_; refine tx_p 17 rfl (by kernel_rfl) (y_mul rfl rfl (by omega)) rfl (fun _ _ _ h => h) (fun _ h => h) ?_; refine tx_p 18 rfl (by kernel_rfl) (y_assign rfl) rfl (fun _ _ _ h => h) (fun _ h => h) ?_; refine tx_done (by kernel_rfl) ?_; ((refine hK7 ?_; try (clear hK7; clear K7)))
        all_goals refine tc_region ?_; refine tl_q (y_move rfl) rfl ?_; refine tl_q (y_add rfl rfl (by omega)) rfl ?_; refine tl_q (y_assign rfl) rfl ?_; refine tl_nil ?_
        all_goals (
         exact tk_round (n + 1) (by omega) (by omega) (.cons rfl (.cons (by rw [hsu]; rfl) (.cons rfl .nil))) (fun _ h => h.subl (SB.s (by repeat constructor)) (SB.s (by repeat constructor))))
      · try simp only [decide_eq_true_eq, decide_eq_false_iff_not, Int.not_lt, Int.not_le, Bool.not_eq_true', Bool.not_eq_false', Decidable.not_not, not_true_eq_false] at hc
        all_goals refine tc_exit ?_; ((refine hK3 ?_; try (clear hK3; clear K3)))
        all_goals refine tc_seq fun K8 hK8 => ?_; refine tc_region ?_; refine tl_q (y_move rfl) rfl ?_; refine tl_q (y_assign rfl) rfl ?_; refine tl_nil ?_; ((refine hK8 ?_; try (clear hK8; clear K8)))
        all_goals refine tc_ret ?_; (repeat (first | refine tk_then_ret ?_))
        all_goals (refine tk_ret rfl rfl (.cons (.tmp rfl) .nil) ?_)
        all_goals (
         obtain rfl : n = s.ps.length := by omega
         rw [List.take_length]
         exact fun w' hw' => ⟨rfl, hw'.fr (by simp)⟩)))
theorem pasOk_iff {s : Smp} {p : Pas} : pasOk s p = true ↔ (0 ≤ p.b ∧ p.b ≤ s.B - 1) ∧ (0 ≤ p.fr ∧ p.fr ≤ s.P - 1) ∧ (0 ≤ p.to ∧ p.to ≤ s.P - 1) ∧ ¬ p.fr = p.to ∧ 0 ≤ p.lo ∧ p.lo ≤ p.hi ∧ p.hi ≤ s.L := by
  unfold pasOk; rw [decide_eq_true_eq]; omega
theorem sgtOk_iff {s : Smp} {g : Sgt} : sgtOk s g = true ↔ (0 ≤ g.b ∧ g.b ≤ s.B - 1) ∧ 0 ≤ g.h ∧ g.h ≤ s.L := by
  unfold sgtOk; rw [decide_eq_true_eq]
theorem all_upto {α : Type} {d : α} {l : List α} {p : α → Bool} {n : Nat} (hn : n = l.length) (h : ∀ j, j < n → p (l.getD j d) = true) : l.all p = true := List.all_eq_true.2 fun x hx => by
  obtain ⟨j, hj, rfl⟩ := List.getElem_of_mem hx
  have := h j (by omega)
  rwa [List.getD_eq_getElem?_getD, List.getElem?_eq_getElem hj] at this
theorem all_not {α : Type} {d : α} {l : List α} {p : α → Bool} {n : Nat} (hn : n < l.length) (h : ¬ p (l.getD n d) = true) : l.all p = false := by
  cases hg : l.all p
  · rfl
  · exact absurd (List.all_eq_true.1 hg _ (getD_memG (d := d) hn)) h
set_option maxHeartbeats 2000000 in
theorem rFault_c (s : Smp) (tv pv gv : Value) (w : World) (hr : RdSm w s tv pv gv) (hf : Few s) : CnV Try.prog 32 #[smV s tv pv gv] w (vi (chkS s)) := by
  have hr0 := hr
  have hf1 := hf.st
  have hf2 := hf.ps
  have hf3 := hf.sg
  obtain ⟨ad1, cp1, _, _, rfl, _, _⟩ := hr.st.open boE_len false
  obtain ⟨ad2, cp2, b2, o2, rfl, had2, hcell2⟩ := hr.ps.open psE_len pas0
  obtain ⟨ad3, cp3, b3, o3, rfl, had3, hcell3⟩ := hr.sg.open sgE_len sgt0
  refine cnv (vs := [_]) Try.func32 rfl rfl ?_
  all_goals refine tc_seq fun K1 hK1 => ?_; refine tc_region ?_; refine tl_e (e_box rfl rfl rfl) rfl (fun b1 _ => ?_); refine tl_q (y_assign rfl) rfl ?_; refine tl_nil ?_; ((refine hK1 ?_; try (clear hK1; clear K1)))
  all_goals refine tc_seq fun K2 hK2 => ?_; refine tc_seq fun K3 hK3 => ?_; refine tc_region ?_; refine tl_q (y_field rfl) rfl ?_; refine tl_q (y_load1 rfl (by repeat constructor) (by rfl)) rfl ?_; refine tl_q (y_gtr rfl rfl) rfl ?_; refine tl_q (y_move rfl) rfl ?_; ((refine tl_gs rfl rfl (fun hc => ?_) (fun hc => ?_) <;> (try simp only [decide_eq_true_eq, decide_eq_false_iff_not, Int.not_lt, Int.not_le, Bool.not_eq_true', Bool.not_eq_false', Decidable.not_not, not_true_eq_false] at hc) <;> (first | refine tl_sk rfl rfl rfl rfl ?_ | refine tl_qg rfl rfl (y_field rfl) rfl ?_)))
  all_goals (first | refine tl_sk rfl rfl rfl rfl ?_ | refine tl_qg rfl rfl (y_load1 rfl (by repeat constructor) (by rfl)) rfl ?_); (first | refine tl_sk rfl rfl rfl rfl ?_ | refine tl_qg rfl rfl (y_gtr rfl rfl) rfl ?_); (first | refine tl_q (y_pick_t rfl rfl) rfl ?_ | refine tl_q (y_pick_f rfl rfl) rfl ?_); refine tl_q (y_move rfl) rfl ?_; ((first | refine tl_sk rfl rfl rfl rfl ?_ | (refine tl_gs rfl rfl (fun hc => ?_) (fun hc => ?_) <;> (try simp only [decide_eq_true_eq, decide_eq_false_iff_not, Int.not_lt, Int.not_le, Bool.not_eq_true', Bool.not_eq_false', Decidable.not_not, not_true_eq_false] at hc) <;> (first | refine tl_sk rfl rfl rfl rfl ?_ | refine tl_qg rfl rfl (y_field rfl) rfl ?_))))
  all_goals (first | refine tl_sk rfl rfl rfl rfl ?_ | refine tl_qg rfl rfl (y_load1 rfl (by repeat constructor) (by rfl)) rfl ?_); (first | refine tl_sk rfl rfl rfl rfl ?_ | refine tl_qg rfl rfl (y_len rfl) rfl ?_); (first | refine tl_sk rfl rfl rfl rfl ?_ | refine tl_qg rfl rfl (y_gtr rfl rfl) rfl ?_); (first | refine tl_q (y_pick_t rfl rfl) rfl ?_ | refine tl_q (y_pick_f rfl rfl) rfl ?_); refine tl_q (y_move rfl) rfl ?_; ((first | refine tl_sk rfl rfl rfl rfl ?_ | (refine tl_gs rfl rfl (fun hc => ?_) (fun hc => ?_) <;> (try simp only [decide_eq_true_eq, decide_eq_false_iff_not, Int.not_lt, Int.not_le, Bool.not_eq_true', Bool.not_eq_false', Decidable.not_not, not_true_eq_false] at hc) <;> (first | refine tl_sk rfl rfl rfl rfl ?_ | refine tl_qg rfl rfl (y_field rfl) rfl ?_))))
  all_goals (first | refine tl_sk rfl rfl rfl rfl ?_ | refine tl_qg rfl rfl (y_load1 rfl (by repeat constructor) (by rfl)) rfl ?_); (first | refine tl_sk rfl rfl rfl rfl ?_ | refine tl_qg rfl rfl (y_len rfl) rfl ?_); (first | refine tl_sk rfl rfl rfl rfl ?_ | refine tl_qg rfl rfl (y_gtr rfl rfl) rfl ?_); (first | refine tl_q (y_pick_t rfl rfl) rfl ?_ | refine tl_q (y_pick_f rfl rfl) rfl ?_); refine tl_nil ?_; ((refine hK3 ?_; try (clear hK3; clear K3)))
  all_goals (
   refine tc_cond rfl (fun hc => ?_) (fun hc => ?_)
   · try simp only [decide_eq_true_eq, decide_eq_false_iff_not, Int.not_lt, Int.not_le, Bool.not_eq_true', Bool.not_eq_false', Decidable.not_not, not_true_eq_false] at hc
     all_goals refine tc_seq fun K4 hK4 => ?_; refine tc_region ?_; refine tl_q (y_assign rfl) rfl ?_; refine tl_nil ?_; ((refine hK4 ?_; try (clear hK4; clear K4)))
     all_goals refine tc_ret ?_; (repeat (refine tk_then_ret ?_))
     all_goals (refine tk_ret rfl rfl (.cons (.tmp rfl) .nil) ?_)
     all_goals (
      refine fun w' hw' => ⟨congrArg (fun n => Ending.returned (Value.int .i64 n)) ?_, hw'.fr (by simp)⟩
      unfold chkS
      first
      | (rw [if_pos (by omega)])
      | (have hng := all_not (p := sgtOk s) (d := sgt0) (n := j) (l := s.sg) (by omega) (fun h => by rw [sgtOk_iff] at h; omega)
         rw [if_neg (by omega), if_pos (.inr (.inr (.inr (.inr (.inr (.inr hng))))))])
      | (have hallg' := hallg
         rw [if_neg (by omega), if_neg (by rintro (h | h | h | h | h | h | h) <;> first | omega | (rw [h] at hall; cases hall; done) | (rw [h] at hallg'; cases hallg')), if_pos (by omega)])
      | (have hallg' := hallg
         rw [if_neg (by omega), if_neg (by rintro (h | h | h | h | h | h | h) <;> first | omega | (rw [h] at hall; cases hall; done) | (rw [h] at hallg'; cases hallg')), if_neg (by omega)])
      | (have hng := all_not (p := pasOk s) (d := pas0) (n := n) (l := s.ps) (by omega) (fun h => by rw [pasOk_iff] at h; omega)
         rw [if_neg (by omega), if_pos (.inr (.inr (.inr (.inr (.inr (.inl hng))))))])
      | (rw [if_neg (by omega)]
         refine (if_pos ?_).symm
         first
         | exact .inl (by omega)
         | exact .inr (.inl (by omega))
         | exact .inr (.inr (.inl (by omega)))
         | exact .inr (.inr (.inr (.inl (by omega))))
         | exact .inr (.inr (.inr (.inr (.inl (by omega)))))))
   · try simp only [decide_eq_true_eq, decide_eq_false_iff_not, Int.not_lt, Int.not_le, Bool.not_eq_true', Bool.not_eq_false', Decidable.not_not, not_true_eq_false] at hc
     all_goals ((first | (exfalso; with_reducible exact btf hc) | skip))
     all_goals refine tc_skip ?_; ((refine hK2 ?_; try (clear hK2; clear K2)))
     all_goals refine tc_seq fun K5 hK5 => ?_; refine tc_seq fun K6 hK6 => ?_; refine tc_region ?_; refine tl_q (y_field rfl) rfl ?_; refine tl_q (y_load1 rfl (by repeat constructor) (by rfl)) rfl ?_; refine tl_q (y_lss rfl rfl) rfl ?_; refine tl_q (y_move rfl) rfl ?_; ((refine tl_gs rfl rfl (fun hc => ?_) (fun hc => ?_) <;> (try simp only [decide_eq_true_eq, decide_eq_false_iff_not, Int.not_lt, Int.not_le, Bool.not_eq_true', Bool.not_eq_false', Decidable.not_not, not_true_eq_false] at hc) <;> (first | refine tl_sk rfl rfl rfl rfl ?_ | refine tl_qg rfl rfl (y_field rfl) rfl ?_)))
     all_goals (first | refine tl_sk rfl rfl rfl rfl ?_ | refine tl_qg rfl rfl (y_load1 rfl (by repeat constructor) (by rfl)) rfl ?_); (first | refine tl_sk rfl rfl rfl rfl ?_ | refine tl_qg rfl rfl (y_lss rfl rfl) rfl ?_); (first | refine tl_q (y_pick_t rfl rfl) rfl ?_ | refine tl_q (y_pick_f rfl rfl) rfl ?_); refine tl_q (y_move rfl) rfl ?_; ((first | refine tl_sk rfl rfl rfl rfl ?_ | (refine tl_gs rfl rfl (fun hc => ?_) (fun hc => ?_) <;> (try simp only [decide_eq_true_eq, decide_eq_false_iff_not, Int.not_lt, Int.not_le, Bool.not_eq_true', Bool.not_eq_false', Decidable.not_not, not_true_eq_false] at hc) <;> (first | refine tl_sk rfl rfl rfl rfl ?_ | refine tl_qg rfl rfl (y_field rfl) rfl ?_))))
     all_goals (first | refine tl_sk rfl rfl rfl rfl ?_ | refine tl_qg rfl rfl (y_load1 rfl (by repeat constructor) (by rfl)) rfl ?_); (first | refine tl_sk rfl rfl rfl rfl ?_ | refine tl_eg rfl rfl rfl (e_callV rfl (.cons rfl (.cons rfl (.cons rfl .nil))) (fun w' _ => rIn_c _ _ _ w')) (fun _ _ => ?_)); (first | refine tl_sk rfl rfl rfl rfl ?_ | refine tl_qg rfl rfl (y_not_dec rfl) rfl ?_); (first | refine tl_q (y_pick_t rfl rfl) rfl ?_ | refine tl_q (y_pick_f rfl rfl) rfl ?_); refine tl_q (y_move rfl) rfl ?_; ((first | refine tl_sk rfl rfl rfl rfl ?_ | (refine tl_gs rfl rfl (fun hc => ?_) (fun hc => ?_) <;> (try simp only [decide_eq_true_eq, decide_eq_false_iff_not, Int.not_lt, Int.not_le, Bool.not_eq_true', Bool.not_eq_false', Decidable.not_not, not_true_eq_false] at hc) <;> (first | refine tl_sk rfl rfl rfl rfl ?_ | refine tl_qg rfl rfl (y_field rfl) rfl ?_))))
     all_goals (first | refine tl_sk rfl rfl rfl rfl ?_ | refine tl_qg rfl rfl (y_load1 rfl (by repeat constructor) (by rfl)) rfl ?_); (first | refine tl_sk rfl rfl rfl rfl ?_ | refine tl_qg rfl rfl (y_len rfl) rfl ?_); (first | refine tl_sk rfl rfl rfl rfl ?_ | refine tl_qg rfl rfl (y_field rfl) rfl ?_); (first | refine tl_sk rfl rfl rfl rfl ?_ | refine tl_qg rfl rfl (y_load1 rfl (by repeat constructor) (by rfl)) rfl ?_); (first | refine tl_sk rfl rfl rfl rfl ?_ | refine tl_qg rfl rfl (y_neq rfl rfl) rfl ?_); (first | refine tl_q (y_pick_t rfl rfl) rfl ?_ | refine tl_q (y_pick_f rfl rfl) rfl ?_); refine tl_q (y_move rfl) rfl ?_; ((first | refine tl_sk rfl rfl rfl rfl ?_ | (refine tl_gs rfl rfl (fun hc => ?_) (fun hc => ?_) <;> (try simp only [decide_eq_true_eq, decide_eq_false_iff_not, Int.not_lt, Int.not_le, Bool.not_eq_true', Bool.not_eq_false', Decidable.not_not, not_true_eq_false] at hc) <;> (first | refine tl_sk rfl rfl rfl rfl ?_ | refine tl_qg rfl rfl (y_field rfl) rfl ?_))))
     all_goals (first | refine tl_sk rfl rfl rfl rfl ?_ | refine tl_qg rfl rfl (y_load1 rfl (by repeat constructor) (by rfl)) rfl ?_); (first | refine tl_sk rfl rfl rfl rfl ?_ | refine tl_qg rfl rfl (y_field rfl) rfl ?_); (first | refine tl_sk rfl rfl rfl rfl ?_ | refine tl_qg rfl rfl (y_load1 rfl (by repeat constructor) (by rfl)) rfl ?_); (first | refine tl_sk rfl rfl rfl rfl ?_ | refine tl_qg rfl rfl (y_sub rfl rfl (by omega)) rfl ?_); (first | refine tl_sk rfl rfl rfl rfl ?_ | refine tl_eg rfl rfl rfl (e_callV rfl (.cons rfl (.cons rfl (.cons rfl .nil))) (fun w' _ => rIn_c _ _ _ w')) (fun _ _ => ?_)); (first | refine tl_sk rfl rfl rfl rfl ?_ | refine tl_qg rfl rfl (y_not_dec rfl) rfl ?_); (first | refine tl_q (y_pick_t rfl rfl) rfl ?_ | refine tl_q (y_pick_f rfl rfl) rfl ?_); refine tl_nil ?_; ((refine hK6 ?_; try (clear hK6; clear K6)))
     all_goals (
      refine tc_cond rfl (fun hc => ?_) (fun hc => ?_)
      · try simp only [decide_eq_true_eq, decide_eq_false_iff_not, Int.not_lt, Int.not_le, Bool.not_eq_true', Bool.not_eq_false', Decidable.not_not, not_true_eq_false] at hc
        all_goals refine tc_seq fun K7 hK7 => ?_; refine tc_region ?_; refine tl_q (y_assign rfl) rfl ?_; refine tl_nil ?_; ((refine hK7 ?_; try (clear hK7; clear K7)))
        all_goals refine tc_ret ?_; (repeat (refine tk_then_ret ?_))
        all_goals (refine tk_ret rfl rfl (.cons (.tmp rfl) .nil) ?_)
        all_goals (
         refine fun w' hw' => ⟨congrArg (fun n => Ending.returned (Value.int .i64 n)) ?_, hw'.fr (by simp)⟩
         unfold chkS
         first
         | (rw [if_pos (by omega)])
         | (have hng := all_not (p := sgtOk s) (d := sgt0) (n := j) (l := s.sg) (by omega) (fun h => by rw [sgtOk_iff] at h; omega)
            rw [if_neg (by omega), if_pos (.inr (.inr (.inr (.inr (.inr (.inr hng))))))])
         | (have hallg' := hallg
            rw [if_neg (by omega), if_neg (by rintro (h | h | h | h | h | h | h) <;> first | omega | (rw [h] at hall; cases hall; done) | (rw [h] at hallg'; cases hallg')), if_pos (by omega)])
         | (have hallg' := hallg
            rw [if_neg (by omega), if_neg (by rintro (h | h | h | h | h | h | h) <;> first | omega | (rw [h] at hall; cases hall; done) | (rw [h] at hallg'; cases hallg')), if_neg (by omega)])
         | (have hng := all_not (p := pasOk s) (d := pas0) (n := n) (l := s.ps) (by omega) (fun h => by rw [pasOk_iff] at h; omega)
            rw [if_neg (by omega), if_pos (.inr (.inr (.inr (.inr (.inr (.inl hng))))))])
         | (rw [if_neg (by omega)]
            refine (if_pos ?_).symm
            first
            | exact .inl (by omega)
            | exact .inr (.inl (by omega))
            | exact .inr (.inr (.inl (by omega)))
            | exact .inr (.inr (.inr (.inl (by omega))))
            | exact .inr (.inr (.inr (.inr (.inl (by omega)))))))
      · try simp only [decide_eq_true_eq, decide_eq_false_iff_not, Int.not_lt, Int.not_le, Bool.not_eq_true', Bool.not_eq_false', Decidable.not_not, not_true_eq_false] at hc
        all_goals ((first | (exfalso; with_reducible exact btf hc) | skip))
        all_goals refine tc_skip ?_; ((refine hK5 ?_; try (clear hK5; clear K5)))
        all_goals refine tc_seq fun K8 hK8 => ?_; refine tc_seq fun K9 hK9 => ?_; refine tc_region ?_; refine tl_q (y_assign rfl) rfl ?_; refine tl_nil ?_; ((refine hK9 ?_; try (clear hK9; clear K9)))
        all_goals refine tc_block ?_
        all_goals (
         refine tc_loop (fun n : Nat => n ≤ s.ps.length ∧ ∀ j, j < n → pasOk s (s.ps.getD j pas0) = true) (fun n => [(1, ptr b1), (3, vi n)]) (fun _ => [(w, [])]) (fun _ => [(b1, .cells #[vi s.B, vi s.P, vi s.L, vi s.F, .slice ad1 s.st.length cp1, .slice ad2 s.ps.length cp2, .slice ad3 s.sg.length cp3] 26 (0, 0))]) (fun n => s.ps.length - n) ?_ ?_
         · exact tk_start 0 ⟨Nat.zero_le _, fun j hj => absurd hj (Nat.not_lt_zero j)⟩ (.cons rfl (.cons rfl .nil)) (fun _ h => h.subl (SB.s (by repeat constructor)) (SB.s (by repeat constructor)))
         · rintro n ⟨hn, hpj⟩
           all_goals refine tc_seq fun K10 hK10 => ?_; refine tc_seq fun K11 hK11 => ?_; refine tc_region ?_; refine tl_q (y_move rfl) rfl ?_; refine tl_q (y_field rfl) rfl ?_; refine tl_q (y_load1 rfl (by repeat constructor) (by rfl)) rfl ?_; refine tl_q (y_len rfl) rfl ?_; refine tl_q (y_lss rfl rfl) rfl ?_; refine tl_nil ?_; ((refine hK11 ?_; try (clear hK11; clear K11)))
           all_goals (
            refine tc_cond rfl (fun hc => ?_) (fun hc => ?_)
            · try simp only [decide_eq_true_eq, decide_eq_false_iff_not, Int.not_lt, Int.not_le, Bool.not_eq_true', Bool.not_eq_false', Decidable.not_not, not_true_eq_false] at hc
              all_goals refine tc_skip ?_; ((refine hK10 ?_; try (clear hK10; clear K10)))
              all_goals refine tc_seq fun K12 hK12 => ?_; refine tc_block ?_; refine tc_seq fun K13 hK13 => ?_; refine tc_region ?_; refine tl_q (y_field rfl) rfl ?_; refine tl_q (y_load1 rfl (by repeat constructor) (by rfl)) rfl ?_; refine tl_q (y_move rfl) rfl ?_; refine tl_q (y_index rfl rfl (by omega) (had2 (by omega))) rfl ?_; ((refine tl_q (y_loadNo (n := 5) (vs := [vi (s.ps.getD n pas0).b, vi (s.ps.getD n pas0).fr, vi (s.ps.getD n pas0).to, vi (s.ps.getD n pas0).lo, vi (s.ps.getD n pas0).hi]) rfl (fun w' hw' => by rw [show Int.toNat (n : Int) * 5 = n * 5 from by omega]; exact hcell2 w' [] (hw'.fr (by simp)) (by simp) n (by omega))) rfl ?_))
              all_goals refine tl_e (e_allocN rfl) rfl (fun _ _ => ?_); refine tl_e (e_storeW rfl rfl (by repeat constructor) (by rfl) (by rfl) (by simp [Value.oneCell'])) rfl (fun _ _ => ?_); refine tl_nil ?_; ((refine hK13 ?_; try (clear hK13; clear K13)))
              all_goals refine tc_seq fun K14 hK14 => ?_; refine tc_region ?_; refine tl_q (y_field rfl) rfl ?_; refine tl_q (y_load1 rfl (by repeat constructor) (by rfl)) rfl ?_; refine tl_q (y_field rfl) rfl ?_; refine tl_q (y_load1 rfl (by repeat constructor) (by rfl)) rfl ?_; refine tl_q (y_sub rfl rfl (by omega)) rfl ?_; refine tl_e (e_callV rfl (.cons rfl (.cons rfl (.cons rfl .nil))) (fun w' _ => rIn_c _ _ _ w')) rfl (fun _ _ => ?_); refine tl_q (y_not_dec rfl) rfl ?_; refine tl_q (y_move rfl) rfl ?_; ((refine tl_gs rfl rfl (fun hc => ?_) (fun hc => ?_) <;> (try simp only [decide_eq_true_eq, decide_eq_false_iff_not, Int.not_lt, Int.not_le, Bool.not_eq_true', Bool.not_eq_false', Decidable.not_not, not_true_eq_false] at hc) <;> (first | refine tl_sk rfl rfl rfl rfl ?_ | refine tl_qg rfl rfl (y_field rfl) rfl ?_)))
              all_goals (first | refine tl_sk rfl rfl rfl rfl ?_ | refine tl_qg rfl rfl (y_load1 rfl (by repeat constructor) (by rfl)) rfl ?_); (first | refine tl_sk rfl rfl rfl rfl ?_ | refine tl_qg rfl rfl (y_field rfl) rfl ?_); (first | refine tl_sk rfl rfl rfl rfl ?_ | refine tl_qg rfl rfl (y_load1 rfl (by repeat constructor) (by rfl)) rfl ?_); (first | refine tl_sk rfl rfl rfl rfl ?_ | refine tl_qg rfl rfl (y_sub rfl rfl (by omega)) rfl ?_); (first | refine tl_sk rfl rfl rfl rfl ?_ | refine tl_eg rfl rfl rfl (e_callV rfl (.cons rfl (.cons rfl (.cons rfl .nil))) (fun w' _ => rIn_c _ _ _ w')) (fun _ _ => ?_)); (first | refine tl_sk rfl rfl rfl rfl ?_ | refine tl_qg rfl rfl (y_not_dec rfl) rfl ?_); (first | refine tl_q (y_pick_t rfl rfl) rfl ?_ | refine tl_q (y_pick_f rfl rfl) rfl ?_); refine tl_q (y_move rfl) rfl ?_; ((first | refine tl_sk rfl rfl rfl rfl ?_ | (refine tl_gs rfl rfl (fun hc => ?_) (fun hc => ?_) <;> (try simp only [decide_eq_true_eq, decide_eq_false_iff_not, Int.not_lt, Int.not_le, Bool.not_eq_true', Bool.not_eq_false', Decidable.not_not, not_true_eq_false] at hc) <;> (first | refine tl_sk rfl rfl rfl rfl ?_ | refine tl_qg rfl rfl (y_field rfl) rfl ?_))))
              all_goals (first | refine tl_sk rfl rfl rfl rfl ?_ | refine tl_qg rfl rfl (y_load1 rfl (by repeat constructor) (by rfl)) rfl ?_); (first | refine tl_sk rfl rfl rfl rfl ?_ | refine tl_qg rfl rfl (y_field rfl) rfl ?_); (first | refine tl_sk rfl rfl rfl rfl ?_ | refine tl_qg rfl rfl (y_load1 rfl (by repeat constructor) (by rfl)) rfl ?_); (first | refine tl_sk rfl rfl rfl rfl ?_ | refine tl_qg rfl rfl (y_sub rfl rfl (by omega)) rfl ?_); (first | refine tl_sk rfl rfl rfl rfl ?_ | refine tl_eg rfl rfl rfl (e_callV rfl (.cons rfl (.cons rfl (.cons rfl .nil))) (fun w' _ => rIn_c _ _ _ w')) (fun _ _ => ?_)); (first | refine tl_sk rfl rfl rfl rfl ?_ | refine tl_qg rfl rfl (y_not_dec rfl) rfl ?_); (first | refine tl_q (y_pick_t rfl rfl) rfl ?_ | refine tl_q (y_pick_f rfl rfl) rfl ?_); refine tl_q (y_move rfl) rfl ?_; ((first | refine tl_sk rfl rfl rfl rfl ?_ | (refine tl_gs rfl rfl (fun hc => ?_) (fun hc => ?_) <;> (try simp only [decide_eq_true_eq, decide_eq_false_iff_not, Int.not_lt, Int.not_le, Bool.not_eq_true', Bool.not_eq_false', Decidable.not_not, not_true_eq_false] at hc) <;> (first | refine tl_sk rfl rfl rfl rfl ?_ | refine tl_qg rfl rfl (y_field rfl) rfl ?_))))
              all_goals (first | refine tl_sk rfl rfl rfl rfl ?_ | refine tl_qg rfl rfl (y_load1 rfl (by repeat constructor) (by rfl)) rfl ?_); (first | refine tl_sk rfl rfl rfl rfl ?_ | refine tl_qg rfl rfl (y_field rfl) rfl ?_); (first | refine tl_sk rfl rfl rfl rfl ?_ | refine tl_qg rfl rfl (y_load1 rfl (by repeat constructor) (by rfl)) rfl ?_); (first | refine tl_sk rfl rfl rfl rfl ?_ | refine tl_qg rfl rfl (y_eql rfl rfl) rfl ?_); (first | refine tl_q (y_pick_t rfl rfl) rfl ?_ | refine tl_q (y_pick_f rfl rfl) rfl ?_); refine tl_q (y_move rfl) rfl ?_; ((first | refine tl_sk rfl rfl rfl rfl ?_ | (refine tl_gs rfl rfl (fun hc => ?_) (fun hc => ?_) <;> (try simp only [decide_eq_true_eq, decide_eq_false_iff_not, Int.not_lt, Int.not_le, Bool.not_eq_true', Bool.not_eq_false', Decidable.not_not, not_true_eq_false] at hc) <;> (first | refine tl_sk rfl rfl rfl rfl ?_ | refine tl_qg rfl rfl (y_field rfl) rfl ?_))))
              all_goals (first | refine tl_sk rfl rfl rfl rfl ?_ | refine tl_qg rfl rfl (y_field rfl) rfl ?_); (first | refine tl_sk rfl rfl rfl rfl ?_ | refine tl_qg rfl rfl (y_load1 rfl (by repeat constructor) (by rfl)) rfl ?_); (first | refine tl_sk rfl rfl rfl rfl ?_ | refine tl_qg rfl rfl (y_lss rfl rfl) rfl ?_); (first | refine tl_q (y_pick_t rfl rfl) rfl ?_ | refine tl_q (y_pick_f rfl rfl) rfl ?_); refine tl_q (y_move rfl) rfl ?_; ((first | refine tl_sk rfl rfl rfl rfl ?_ | (refine tl_gs rfl rfl (fun hc => ?_) (fun hc => ?_) <;> (try simp only [decide_eq_true_eq, decide_eq_false_iff_not, Int.not_lt, Int.not_le, Bool.not_eq_true', Bool.not_eq_false', Decidable.not_not, not_true_eq_false] at hc) <;> (first | refine tl_sk rfl rfl rfl rfl ?_ | refine tl_qg rfl rfl (y_field rfl) rfl ?_))))
              all_goals (first | refine tl_sk rfl rfl rfl rfl ?_ | refine tl_qg rfl rfl (y_field rfl) rfl ?_); (first | refine tl_sk rfl rfl rfl rfl ?_ | refine tl_qg rfl rfl (y_load1 rfl (by repeat constructor) (by rfl)) rfl ?_); (first | refine tl_sk rfl rfl rfl rfl ?_ | refine tl_qg rfl rfl (y_field rfl) rfl ?_); (first | refine tl_sk rfl rfl rfl rfl ?_ | refine tl_qg rfl rfl (y_field rfl) rfl ?_); (first | refine tl_sk rfl rfl rfl rfl ?_ | refine tl_qg rfl rfl (y_load1 rfl (by repeat constructor) (by rfl)) rfl ?_); (first | refine tl_sk rfl rfl rfl rfl ?_ | refine tl_qg rfl rfl (y_gtr rfl rfl) rfl ?_); (first | refine tl_q (y_pick_t rfl rfl) rfl ?_ | refine tl_q (y_pick_f rfl rfl) rfl ?_); refine tl_q (y_move rfl) rfl ?_; ((first | refine tl_sk rfl rfl rfl rfl ?_ | (refine tl_gs rfl rfl (fun hc => ?_) (fun hc => ?_) <;> (try simp only [decide_eq_true_eq, decide_eq_false_iff_not, Int.not_lt, Int.not_le, Bool.not_eq_true', Bool.not_eq_false', Decidable.not_not, not_true_eq_false] at hc) <;> (first | refine tl_sk rfl rfl rfl rfl ?_ | refine tl_qg rfl rfl (y_field rfl) rfl ?_))))
              all_goals (first | refine tl_sk rfl rfl rfl rfl ?_ | refine tl_qg rfl rfl (y_field rfl) rfl ?_); (first | refine tl_sk rfl rfl rfl rfl ?_ | refine tl_qg rfl rfl (y_load1 rfl (by repeat constructor) (by rfl)) rfl ?_); (first | refine tl_sk rfl rfl rfl rfl ?_ | refine tl_qg rfl rfl (y_field rfl) rfl ?_); (first | refine tl_sk rfl rfl rfl rfl ?_ | refine tl_qg rfl rfl (y_load1 rfl (by repeat constructor) (by rfl)) rfl ?_); (first | refine tl_sk rfl rfl rfl rfl ?_ | refine tl_qg rfl rfl (y_gtr rfl rfl) rfl ?_); (first | refine tl_q (y_pick_t rfl rfl) rfl ?_ | refine tl_q (y_pick_f rfl rfl) rfl ?_); refine tl_nil ?_; ((refine hK14 ?_; try (clear hK14; clear K14)))
              all_goals (
               refine tc_cond rfl (fun hc => ?_) (fun hc => ?_)
               · try simp only [decide_eq_true_eq, decide_eq_false_iff_not, Int.not_lt, Int.not_le, Bool.not_eq_true', Bool.not_eq_false', Decidable.not_not, not_true_eq_false] at hc
                 all_goals refine tc_seq fun K15 hK15 => ?_; refine tc_region ?_; refine tl_q (y_assign rfl) rfl ?_; refine tl_nil ?_; ((refine hK15 ?_; try (clear hK15; clear K15)))
                 all_goals refine tc_ret ?_; (repeat (first | refine tk_then_ret ?_ | refine tk_block_ret ?_))
                 all_goals (refine tk_ret rfl rfl (.cons (.tmp rfl) .nil) ?_)
                 all_goals (
                  refine fun w' hw' => ⟨congrArg (fun n => Ending.returned (Value.int .i64 n)) ?_, hw'.fr (by simp)⟩
                  unfold chkS
                  first
                  | (rw [if_pos (by omega)])
                  | (have hng := all_not (p := sgtOk s) (d := sgt0) (n := j) (l := s.sg) (by omega) (fun h => by rw [sgtOk_iff] at h; omega)
                     rw [if_neg (by omega), if_pos (.inr (.inr (.inr (.inr (.inr (.inr hng))))))])
                  | (have hallg' := hallg
                     rw [if_neg (by omega), if_neg (by rintro (h | h | h | h | h | h | h) <;> first | omega | (rw [h] at hall; cases hall; done) | (rw [h] at hallg'; cases hallg')), if_pos (by omega)])
                  | (have hallg' := hallg
                     rw [if_neg (by omega), if_neg (by rintro (h | h | h | h | h | h | h) <;> first | omega | (rw [h] at hall; cases hall; done) | (rw [h] at hallg'; cases hallg')), if_neg (by omega)])
                  | (have hng := all_not (p := pasOk s) (d := pas0) (n := n) (l := s.ps) (by omega) (fun h => by rw [pasOk_iff] at h; omega)
                     rw [if_neg (by omega), if_pos (.inr (.inr (.inr (.inr (.inr (.inl hng))))))])
                  | (rw [if_neg (by omega)]
                     refine (if_pos ?_).symm
                     first
                     | exact .inl (by omega)
                     | exact .inr (.inl (by omega))
                     | exact .inr (.inr (.inl (by omega)))
                     | exact .inr (.inr (.inr (.inl (by omega))))
                     | exact .inr (.inr (.inr (.inr (.inl (by omega)))))))
               · try simp only [decide_eq_true_eq, decide_eq_false_iff_not, Int.not_lt, Int.not_le, Bool.not_eq_true', Bool.not_eq_false', Decidable.not_not, not_true_eq_false] at hc
                 all_goals ((first | (exfalso; with_reducible exact btf hc) | skip))
                 all_goals refine tc_skip ?_; ((refine hK12 ?_; try (clear hK12; clear K12)))
                 all_goals refine tc_region ?_; refine tl_q (y_move rfl) rfl ?_; refine tl_q (y_add rfl rfl (by omega)) rfl ?_; refine tl_q (y_assign rfl) rfl ?_; refine tl_nil ?_
                 all_goals (
                  exact tk_round (n + 1) ⟨by omega, fun j hj => by rcases Nat.lt_succ_iff_lt_or_eq.1 hj with h | rfl; exact hpj j h; exact pasOk_iff.2 (by omega)⟩ (by omega) (.cons rfl (.cons rfl .nil)) (fun _ h => h.subl (SB.s (by repeat constructor)) (SB.s (by repeat constructor)))))
            · try simp only [decide_eq_true_eq, decide_eq_false_iff_not, Int.not_lt, Int.not_le, Bool.not_eq_true', Bool.not_eq_false', Decidable.not_not, not_true_eq_false] at hc
              all_goals refine tc_exit ?_; ((refine hK8 ?_; try (clear hK8; clear K8)))
              all_goals refine tc_seq fun K16 hK16 => ?_; refine tc_seq fun K17 hK17 => ?_; refine tc_region ?_; refine tl_q (y_assign rfl) rfl ?_; refine tl_nil ?_; ((refine hK17 ?_; try (clear hK17; clear K17)))
              all_goals refine tc_block ?_
              all_goals (
               have hall : s.ps.all (pasOk s) = true := all_upto (by omega) hpj
               refine tc_loop (fun n : Nat => n ≤ s.sg.length ∧ ∀ j, j < n → sgtOk s (s.sg.getD j sgt0) = true) (fun n => [(1, ptr b1), (5, vi n)]) (fun _ => [(w, [])]) (fun _ => [(b1, .cells #[vi s.B, vi s.P, vi s.L, vi s.F, .slice ad1 s.st.length cp1, .slice ad2 s.ps.length cp2, .slice ad3 s.sg.length cp3] 26 (0, 0))]) (fun n => s.sg.length - n) ?_ ?_
               · exact tk_start 0 ⟨Nat.zero_le _, fun j hj => absurd hj (Nat.not_lt_zero j)⟩ (.cons rfl (.cons rfl .nil)) (fun _ h => h.subl (SB.s (by repeat constructor)) (SB.s (by repeat constructor)))
               · rintro j ⟨hj, hgj⟩
                 all_goals refine tc_seq fun K18 hK18 => ?_; refine tc_seq fun K19 hK19 => ?_; refine tc_region ?_; refine tl_q (y_move rfl) rfl ?_; refine tl_q (y_field rfl) rfl ?_; refine tl_q (y_load1 rfl (by repeat constructor) (by rfl)) rfl ?_; refine tl_q (y_len rfl) rfl ?_; refine tl_q (y_lss rfl rfl) rfl ?_; refine tl_nil ?_; ((refine hK19 ?_; try (clear hK19; clear K19)))
                 all_goals (
                  refine tc_cond rfl (fun hc => ?_) (fun hc => ?_)
                  · try simp only [decide_eq_true_eq, decide_eq_false_iff_not, Int.not_lt, Int.not_le, Bool.not_eq_true', Bool.not_eq_false', Decidable.not_not, not_true_eq_false] at hc
                    all_goals refine tc_skip ?_; ((refine hK18 ?_; try (clear hK18; clear K18)))
                    all_goals refine tc_seq fun K20 hK20 => ?_; refine tc_block ?_; refine tc_seq fun K21 hK21 => ?_; refine tc_draw (by kernel_rfl) ?_; refine tx_p 0 rfl (by kernel_rfl) (y_field rfl) rfl (fun _ _ _ h => h) (fun _ h => h) ?_; refine tx_q 1 rfl (by kernel_rfl) (y_load1 rfl (by repeat constructor) (by rfl)) rfl (fun _ _ _ h => h) (fun _ h => h) ?_; refine tx_p 2 rfl (by kernel_rfl) (y_move rfl) rfl (fun _ _ _ h => h) (fun _ h => h) ?_; refine tx_p 3 rfl (by kernel_rfl) (y_index rfl rfl (by omega) (had3 (by omega))) rfl (fun _ _ _ h => h) (fun _ h => h) ?_; refine tx_p 4 rfl (by kernel_rfl) (y_field rfl) rfl (fun _ _ _ h => h) (fun _ h => h) ?_; ((refine tx_q 5 rfl (by kernel_rfl) (y_load1o (v := vi (s.sg.getD j sgt0).b) rfl (fun w' hw' => by rw [show Int.toNat (j : Int) * 3 = j * 3 from by omega]; exact (hcell3 w' [] (hw'.fr (w0 := w) (S := []) (MI.m (by repeat constructor))) (by simp) j (by omega)).get 0 _ rfl)) rfl (fun _ _ _ h => h) (fun _ h => h) ?_))
                    all_goals refine tx_p 6 rfl (by kernel_rfl) (y_field rfl) rfl (fun _ _ _ h => h) (fun _ h => h) ?_; refine tx_q 7 rfl (by kernel_rfl) (y_load1 rfl (by repeat constructor) (by rfl)) rfl (fun _ _ _ h => h) (fun _ h => h) ?_; refine tx_p 8 rfl (by kernel_rfl) (y_sub rfl rfl (by omega)) rfl (fun _ _ _ h => h) (fun _ h => h) ?_; refine tx_e 9 rfl (by kernel_rfl) rfl (e_callV rfl (.cons rfl (.cons rfl (.cons rfl .nil))) (fun w' _ => rIn_c _ _ _ w')) (.inr fun _ _ h => h) (fun _ _ => ?_); refine tx_p 10 rfl (by kernel_rfl) (y_not_dec rfl) rfl (fun _ _ _ h => h) (fun _ h => h) ?_; refine tx_p 11 rfl (by kernel_rfl) (y_move rfl) rfl (fun _ _ _ h => h) (fun _ h => h) ?_; ((refine tx_gs 142 rfl (fun hc => ?_) (fun hc => ?_) <;> (try simp only [decide_eq_true_eq, decide_eq_false_iff_not, Int.not_lt, Int.not_le, Bool.not_eq_true', Bool.not_eq_false', Decidable.not_not, not_true_eq_false] at hc) <;> (first | refine tx_sk 12 rfl (by kernel_rfl) rfl rfl rfl rfl (fun _ _ _ h => h) (fun _ h => h) ?_ | refine tx_pg 12 rfl (by kernel_rfl) rfl rfl (y_field rfl) rfl (fun _ _ _ h => h) (fun _ h => h) ?_)))
                    all_goals (first | refine tx_sk 13 rfl (by kernel_rfl) rfl rfl rfl rfl (fun _ _ _ h => h) (fun _ h => h) ?_ | refine tx_qg 13 rfl (by kernel_rfl) rfl rfl (y_load1 rfl (by repeat constructor) (by rfl)) rfl (fun _ _ _ h => h) (fun _ h => h) ?_); (first | refine tx_sk 14 rfl (by kernel_rfl) rfl rfl rfl rfl (fun _ _ _ h => h) (fun _ h => h) ?_ | refine tx_pg 14 rfl (by kernel_rfl) rfl rfl (y_move rfl) rfl (fun _ _ _ h => h) (fun _ h => h) ?_); (first | refine tx_sk 15 rfl (by kernel_rfl) rfl rfl rfl rfl (fun _ _ _ h => h) (fun _ h => h) ?_ | refine tx_pg 15 rfl (by kernel_rfl) rfl rfl (y_index rfl rfl (by omega) (had3 (by omega))) rfl (fun _ _ _ h => h) (fun _ h => h) ?_); (first | refine tx_sk 16 rfl (by kernel_rfl) rfl rfl rfl rfl (fun _ _ _ h => h) (fun _ h => h) ?_ | refine tx_pg 16 rfl (by kernel_rfl) rfl rfl (y_field rfl) rfl (fun _ _ _ h => h) (fun _ h => h) ?_); ((first | refine tx_sk 17 rfl (by kernel_rfl) rfl rfl rfl rfl (fun _ _ _ h => h) (fun _ h => h) ?_ | refine tx_qg 17 rfl (by kernel_rfl) rfl rfl (y_load1o (v := vi (s.sg.getD j sgt0).h) rfl (fun w' hw' => by rw [show Int.toNat (j : Int) * 3 = j * 3 from by omega]; exact (hcell3 w' [] (hw'.fr (w0 := w) (S := []) (MI.m (by repeat constructor))) (by simp) j (by omega)).get 1 _ rfl)) rfl (fun _ _ _ h => h) (fun _ h => h) ?_))
                    all_goals (first | refine tx_sk 18 rfl (by kernel_rfl) rfl rfl rfl rfl (fun _ _ _ h => h) (fun _ h => h) ?_ | refine tx_pg 18 rfl (by kernel_rfl) rfl rfl (y_field rfl) rfl (fun _ _ _ h => h) (fun _ h => h) ?_); (first | refine tx_sk 19 rfl (by kernel_rfl) rfl rfl rfl rfl (fun _ _ _ h => h) (fun _ h => h) ?_ | refine tx_qg 19 rfl (by kernel_rfl) rfl rfl (y_load1 rfl (by repeat constructor) (by rfl)) rfl (fun _ _ _ h => h) (fun _ h => h) ?_); (first | refine tx_sk 20 rfl (by kernel_rfl) rfl rfl rfl rfl (fun _ _ _ h => h) (fun _ h => h) ?_ | refine tx_eg 20 rfl (by kernel_rfl) rfl rfl rfl (e_callV rfl (.cons rfl (.cons rfl (.cons rfl .nil))) (fun w' _ => rIn_c _ _ _ w')) (.inr fun _ _ h => h) (fun _ _ => ?_)); (first | refine tx_sk 21 rfl (by kernel_rfl) rfl rfl rfl rfl (fun _ _ _ h => h) (fun _ h => h) ?_ | refine tx_pg 21 rfl (by kernel_rfl) rfl rfl (y_not_dec rfl) rfl (fun _ _ _ h => h) (fun _ h => h) ?_); (first | refine tx_p 22 rfl (by kernel_rfl) (y_pick_t rfl rfl) rfl (fun _ _ _ h => h) (fun _ h => h) ?_ | refine tx_p 22 rfl (by kernel_rfl) (y_pick_f rfl rfl) rfl (fun _ _ _ h => h) (fun _ h => h) ?_); refine tx_done (by kernel_rfl) ?_; ((refine hK21 ?_; try (clear hK21; clear K21)))
                    all_goals (
                     refine tc_cond rfl (fun hc => ?_) (fun hc => ?_)
                     · try simp only [decide_eq_true_eq, decide_eq_false_iff_not, Int.not_lt, Int.not_le, Bool.not_eq_true', Bool.not_eq_false', Decidable.not_not, not_true_eq_false] at hc
                       all_goals refine tc_seq fun K22 hK22 => ?_; refine tc_region ?_; refine tl_q (y_assign rfl) rfl ?_; refine tl_nil ?_; ((refine hK22 ?_; try (clear hK22; clear K22)))
                       all_goals refine tc_ret ?_; (repeat (first | refine tk_then_ret ?_ | refine tk_block_ret ?_))
                       all_goals (refine tk_ret rfl rfl (.cons (.tmp rfl) .nil) ?_)
                       all_goals (
                        refine fun w' hw' => ⟨congrArg (fun n => Ending.returned (Value.int .i64 n)) ?_, hw'.fr (by simp)⟩
                        unfold chkS
                        first
                        | (rw [if_pos (by omega)])
                        | (have hng := all_not (p := sgtOk s) (d := sgt0) (n := j) (l := s.sg) (by omega) (fun h => by rw [sgtOk_iff] at h; omega)
                           rw [if_neg (by omega), if_pos (.inr (.inr (.inr (.inr (.inr (.inr hng))))))])
                        | (have hallg' := hallg
                           rw [if_neg (by omega), if_neg (by rintro (h | h | h | h | h | h | h) <;> first | omega | (rw [h] at hall; cases hall; done) | (rw [h] at hallg'; cases hallg')), if_pos (by omega)])
                        | (have hallg' := hallg
                           rw [if_neg (by omega), if_neg (by rintro (h | h | h | h | h | h | h) <;> first | omega | (rw [h] at hall; cases hall; done) | (rw [h] at hallg'; cases hallg')), if_neg (by omega)])
                        | (have hng := all_not (p := pasOk s) (d := pas0) (n := n) (l := s.ps) (by omega) (fun h => by rw [pasOk_iff] at h; omega)
                           rw [if_neg (by omega), if_pos (.inr (.inr (.inr (.inr (.inr (.inl hng))))))])
                        | (rw [if_neg (by omega)]
                           refine (if_pos ?_).symm
                           first
                           | exact .inl (by omega)
                           | exact .inr (.inl (by omega))
                           | exact .inr (.inr (.inl (by omega)))
                           | exact .inr (.inr (.inr (.inl (by omega))))
                           | exact .inr (.inr (.inr (.inr (.inl (by omega)))))))
                     · try simp only [decide_eq_true_eq, decide_eq_false_iff_not, Int.not_lt, Int.not_le, Bool.not_eq_true', Bool.not_eq_false', Decidable.not_not, not_true_eq_false] at hc
                       all_goals ((first | (exfalso; with_reducible exact btf hc) | skip))
                       all_goals refine tc_skip ?_; ((refine hK20 ?_; try (clear hK20; clear K20)))
                       all_goals refine tc_region ?_; refine tl_q (y_move rfl) rfl ?_; refine tl_q (y_add rfl rfl (by omega)) rfl ?_; refine tl_q (y_assign rfl) rfl ?_; refine tl_nil ?_
                       all_goals (
                        exact tk_round (j + 1) ⟨by omega, fun i hi => by rcases Nat.lt_succ_iff_lt_or_eq.1 hi with h | rfl; exact hgj i h; exact sgtOk_iff.2 (by omega)⟩ (by omega) (.cons rfl (.cons rfl .nil)) (fun _ h => h.subl (SB.s (by repeat constructor)) (SB.s (by repeat constructor)))))
                  · try simp only [decide_eq_true_eq, decide_eq_false_iff_not, Int.not_lt, Int.not_le, Bool.not_eq_true', Bool.not_eq_false', Decidable.not_not, not_true_eq_false] at hc
                    all_goals refine tc_exit ?_; ((refine hK16 ?_; try (clear hK16; clear K16)))
                    all_goals refine tc_seq fun K23 hK23 => ?_; refine tc_seq fun K24 hK24 => ?_; (have hallg : s.sg.all (sgtOk s) = true := all_upto (by omega) hgj)
                    all_goals refine tc_region ?_; refine tl_q (y_loadW rfl (by repeat constructor) (by rfl)) rfl ?_; refine tl_e (e_callV rfl (.cons rfl .nil) (fun w' hw' => rMany_c s (by omega) hall (by omega) _ _ _ w' (hr0.ps.fr (hw'.fr (by simp))))) rfl (fun _ _ => ?_); refine tl_q (y_gtr rfl rfl) rfl ?_; refine tl_nil ?_; ((refine hK24 ?_; try (clear hK24; clear K24)))
                    all_goals (
                     refine tc_cond rfl (fun hc => ?_) (fun hc => ?_)
                     · try simp only [decide_eq_true_eq, decide_eq_false_iff_not, Int.not_lt, Int.not_le, Bool.not_eq_true', Bool.not_eq_false', Decidable.not_not, not_true_eq_false] at hc
                       all_goals refine tc_seq fun K25 hK25 => ?_; refine tc_region ?_; refine tl_q (y_assign rfl) rfl ?_; refine tl_nil ?_; ((refine hK25 ?_; try (clear hK25; clear K25)))
                       all_goals refine tc_ret ?_; (repeat (refine tk_then_ret ?_))
                       all_goals (refine tk_ret rfl rfl (.cons (.tmp rfl) .nil) ?_)
                       all_goals (
                        refine fun w' hw' => ⟨congrArg (fun n => Ending.returned (Value.int .i64 n)) ?_, hw'.fr (by simp)⟩
                        unfold chkS
                        first
                        | (rw [if_pos (by omega)])
                        | (have hng := all_not (p := sgtOk s) (d := sgt0) (n := j) (l := s.sg) (by omega) (fun h => by rw [sgtOk_iff] at h; omega)
                           rw [if_neg (by omega), if_pos (.inr (.inr (.inr (.inr (.inr (.inr hng))))))])
                        | (have hallg' := hallg
                           rw [if_neg (by omega), if_neg (by rintro (h | h | h | h | h | h | h) <;> first | omega | (rw [h] at hall; cases hall; done) | (rw [h] at hallg'; cases hallg')), if_pos (by omega)])
                        | (have hallg' := hallg
                           rw [if_neg (by omega), if_neg (by rintro (h | h | h | h | h | h | h) <;> first | omega | (rw [h] at hall; cases hall; done) | (rw [h] at hallg'; cases hallg')), if_neg (by omega)])
                        | (have hng := all_not (p := pasOk s) (d := pas0) (n := n) (l := s.ps) (by omega) (fun h => by rw [pasOk_iff] at h; omega)
                           rw [if_neg (by omega), if_pos (.inr (.inr (.inr (.inr (.inr (.inl hng))))))])
                        | (rw [if_neg (by omega)]
                           refine (if_pos ?_).symm
                           first
                           | exact .inl (by omega)
                           | exact .inr (.inl (by omega))
                           | exact .inr (.inr (.inl (by omega)))
                           | exact .inr (.inr (.inr (.inl (by omega))))
                           | exact .inr (.inr (.inr (.inr (.inl (by omega)))))))
                     · try simp only [decide_eq_true_eq, decide_eq_false_iff_not, Int.not_lt, Int.not_le, Bool.not_eq_true', Bool.not_eq_false', Decidable.not_not, not_true_eq_false] at hc
                       all_goals refine tc_skip ?_; ((refine hK23 ?_; try (clear hK23; clear K23)))
                       all_goals refine tc_seq fun K26 hK26 => ?_; refine tc_region ?_; refine tl_q (y_assign rfl) rfl ?_; refine tl_nil ?_; ((refine hK26 ?_; try (clear hK26; clear K26)))
                       all_goals refine tc_ret ?_; (repeat (first | refine tk_then_ret ?_))
                       all_goals (refine tk_ret rfl rfl (.cons (.tmp rfl) .nil) ?_)
                       all_goals (
                        refine fun w' hw' => ⟨congrArg (fun n => Ending.returned (Value.int .i64 n)) ?_, hw'.fr (by simp)⟩
                        unfold chkS
                        first
                        | (rw [if_pos (by omega)])
                        | (have hng := all_not (p := sgtOk s) (d := sgt0) (n := j) (l := s.sg) (by omega) (fun h => by rw [sgtOk_iff] at h; omega)
                           rw [if_neg (by omega), if_pos (.inr (.inr (.inr (.inr (.inr (.inr hng))))))])
                        | (have hallg' := hallg
                           rw [if_neg (by omega), if_neg (by rintro (h | h | h | h | h | h | h) <;> first | omega | (rw [h] at hall; cases hall; done) | (rw [h] at hallg'; cases hallg')), if_pos (by omega)])
                        | (have hallg' := hallg
                           rw [if_neg (by omega), if_neg (by rintro (h | h | h | h | h | h | h) <;> first | omega | (rw [h] at hall; cases hall; done) | (rw [h] at hallg'; cases hallg')), if_neg (by omega)])
                        | (have hng := all_not (p := pasOk s) (d := pas0) (n := n) (l := s.ps) (by omega) (fun h => by rw [pasOk_iff] at h; omega)
                           rw [if_neg (by omega), if_pos (.inr (.inr (.inr (.inr (.inr (.inl hng))))))])
                        | (rw [if_neg (by omega)]
                           refine (if_pos ?_).symm
                           first
                           | exact .inl (by omega)
                           | exact .inr (.inl (by omega))
                           | exact .inr (.inr (.inl (by omega)))
                           | exact .inr (.inr (.inr (.inl (by omega))))
                           | exact .inr (.inr (.inr (.inr (.inl (by omega))))))))))))))
def thinS (s : Smp) : Prop := s.st.length ≤ 7 ∧ s.ps.length ≤ 9 ∧ s.sg.length ≤ 9
instance (s : Smp) : Decidable (thinS s) := by unfold thinS; infer_instance
theorem thinS.few {s : Smp} (h : thinS s) : Few s := ⟨by have := h.1; omega, h.2.1, h.2.2⟩
theorem thin_c (s : Smp) (tv pv gv : Value) (w : World) (hr : RdSm w s tv pv gv) : CnV Try.prog 15 #[smV s tv pv gv] w (.bool (decide (thinS s))) := by
  obtain ⟨ad1, cp1, _, _, rfl, _, _⟩ := hr.st.open boE_len false
  obtain ⟨ad2, cp2, b2, o2, rfl, had2, hcell2⟩ := hr.ps.open psE_len pas0
  obtain ⟨ad3, cp3, b3, o3, rfl, had3, hcell3⟩ := hr.sg.open sgE_len sgt0
  refine cnv (vs := [_]) Try.func15 rfl rfl ?_
  all_goals refine tc_seq fun K1 hK1 => ?_; refine tc_region ?_; refine tl_e (e_box rfl rfl rfl) rfl (fun b1 _ => ?_); refine tl_q (y_assign rfl) rfl ?_; refine tl_nil ?_; ((refine hK1 ?_; try (clear hK1; clear K1)))
  all_goals refine tc_seq fun K2 hK2 => ?_; refine tc_region ?_; refine tl_q (y_field rfl) rfl ?_; refine tl_q (y_load1 rfl (by repeat constructor) (by rfl)) rfl ?_; refine tl_q (y_len rfl) rfl ?_; refine tl_q (y_leq rfl rfl) rfl ?_; refine tl_q (y_move rfl) rfl ?_; ((refine tl_gs rfl rfl (fun hc => ?_) (fun hc => ?_) <;> (try simp only [decide_eq_true_eq, decide_eq_false_iff_not, Int.not_lt, Int.not_le, Bool.not_eq_true', Bool.not_eq_false', Decidable.not_not, not_true_eq_false] at hc) <;> (first | refine tl_sk rfl rfl rfl rfl ?_ | refine tl_qg rfl rfl (y_field rfl) rfl ?_)))
  all_goals (first | refine tl_sk rfl rfl rfl rfl ?_ | refine tl_qg rfl rfl (y_load1 rfl (by repeat constructor) (by rfl)) rfl ?_); (first | refine tl_sk rfl rfl rfl rfl ?_ | refine tl_qg rfl rfl (y_len rfl) rfl ?_); (first | refine tl_sk rfl rfl rfl rfl ?_ | refine tl_qg rfl rfl (y_leq rfl rfl) rfl ?_); (first | refine tl_q (y_pick_t rfl rfl) rfl ?_ | refine tl_q (y_pick_f rfl rfl) rfl ?_); refine tl_q (y_move rfl) rfl ?_; ((first | refine tl_sk rfl rfl rfl rfl ?_ | (refine tl_gs rfl rfl (fun hc => ?_) (fun hc => ?_) <;> (try simp only [decide_eq_true_eq, decide_eq_false_iff_not, Int.not_lt, Int.not_le, Bool.not_eq_true', Bool.not_eq_false', Decidable.not_not, not_true_eq_false] at hc) <;> (first | refine tl_sk rfl rfl rfl rfl ?_ | refine tl_qg rfl rfl (y_field rfl) rfl ?_))))
  all_goals (first | refine tl_sk rfl rfl rfl rfl ?_ | refine tl_qg rfl rfl (y_load1 rfl (by repeat constructor) (by rfl)) rfl ?_); (first | refine tl_sk rfl rfl rfl rfl ?_ | refine tl_qg rfl rfl (y_len rfl) rfl ?_); (first | refine tl_sk rfl rfl rfl rfl ?_ | refine tl_qg rfl rfl (y_leq rfl rfl) rfl ?_); (first | refine tl_q (y_pick_t rfl rfl) rfl ?_ | refine tl_q (y_pick_f rfl rfl) rfl ?_); refine tl_q (y_assign rfl) rfl ?_; refine tl_nil ?_; ((refine hK2 ?_; try (clear hK2; clear K2)))
  all_goals refine tc_ret ?_; (repeat (first | refine tk_then_ret ?_))
  all_goals (refine tk_ret rfl rfl (.cons (.tmp rfl) .nil) ?_)
  all_goals (
   refine fun w' hw' => ⟨congrArg (fun b => Ending.returned (Value.bool b)) ?_, hw'.fr (by simp)⟩
   unfold thinS
   first
   | exact (decide_eq_true (by omega)).symm
   | exact (decide_eq_false (by omega)).symm
   | exact decide_eq_decide.2 (by omega))
theorem fault_c (s : Smp) (tv pv gv : Value) (w : World) (hr : RdSm w s tv pv gv) (hf : Few s) : CnV Try.prog 16 #[smV s tv pv gv] w (vi (chkS s)) := by
  refine cnv (vs := [_]) Try.func16 rfl rfl ?_
  all_goals refine tc_seq fun K1 hK1 => ?_; refine tc_region ?_; refine tl_e (e_box rfl rfl rfl) rfl (fun b1 _ => ?_); refine tl_q (y_assign rfl) rfl ?_; refine tl_nil ?_; ((refine hK1 ?_; try (clear hK1; clear K1)))
  all_goals refine tc_seq fun K2 hK2 => ?_; refine tc_region ?_; refine tl_q (y_loadW rfl (by repeat constructor) (by rfl)) rfl ?_; refine tl_e (e_callV rfl (.cons rfl .nil) (fun w' hw' => rFault_c s tv pv gv w' (hr.fr (hw'.fr (by simp))) hf)) rfl (fun _ _ => ?_); refine tl_q (y_assign rfl) rfl ?_; refine tl_nil ?_; ((refine hK2 ?_; try (clear hK2; clear K2)))
  all_goals refine tc_ret ?_; (repeat (first | refine tk_then_ret ?_))
  all_goals (refine tk_ret rfl rfl (.cons (.tmp rfl) .nil) ?_)
  all_goals (
   exact fun w' hw' => ⟨rfl, hw'.fr (by simp)⟩)
def readyS (s : Smp) : Prop := thinS s ∧ chkS s = 0
instance (s : Smp) : Decidable (readyS s) := by unfold readyS; infer_instance
theorem ready_c (s : Smp) (tv pv gv : Value) (w : World) (hr : RdSm w s tv pv gv) : CnV Try.prog 5 #[smV s tv pv gv] w (.bool (decide (readyS s))) := by
  refine cnv (vs := [_]) Try.func5 rfl rfl ?_
  all_goals refine tc_seq fun K1 hK1 => ?_; refine tc_region ?_; refine tl_e (e_box rfl rfl rfl) rfl (fun b1 _ => ?_); refine tl_q (y_assign rfl) rfl ?_; refine tl_nil ?_; ((refine hK1 ?_; try (clear hK1; clear K1)))
  all_goals refine tc_seq fun K2 hK2 => ?_; refine tc_region ?_; refine tl_q (y_loadW rfl (by repeat constructor) (by rfl)) rfl ?_; refine tl_e (e_callV rfl (.cons rfl .nil) (fun w' hw' => thin_c s tv pv gv w' (hr.fr (hw'.fr (by simp))))) rfl (fun _ _ => ?_); refine tl_q (y_move rfl) rfl ?_; ((refine tl_gs rfl rfl (fun hc => ?_) (fun hc => ?_) <;> (try simp only [decide_eq_true_eq, decide_eq_false_iff_not, Int.not_lt, Int.not_le, Bool.not_eq_true', Bool.not_eq_false', Decidable.not_not, not_true_eq_false] at hc) <;> (first | refine tl_sk rfl rfl rfl rfl ?_ | refine tl_qg rfl rfl (y_loadW rfl (by repeat constructor) (by rfl)) rfl ?_)))
  all_goals (first | refine tl_sk rfl rfl rfl rfl ?_ | refine tl_eg rfl rfl rfl (e_callV rfl (.cons rfl .nil) (fun w' hw' => fault_c s tv pv gv w' (hr.fr (hw'.fr (by simp))) (thinS.few (by assumption)))) (fun _ _ => ?_)); (first | refine tl_sk rfl rfl rfl rfl ?_ | refine tl_qg rfl rfl (y_eql rfl rfl) rfl ?_); (first | refine tl_q (y_pick_t rfl rfl) rfl ?_ | refine tl_q (y_pick_f rfl rfl) rfl ?_); refine tl_q (y_assign rfl) rfl ?_; refine tl_nil ?_; ((refine hK2 ?_; try (clear hK2; clear K2)))
  all_goals refine tc_ret ?_; (repeat (first | refine tk_then_ret ?_))
  all_goals (refine tk_ret rfl rfl (.cons (.tmp rfl) .nil) ?_)
  all_goals (
   refine fun w' hw' => ⟨congrArg (fun b => Ending.returned (Value.bool b)) ?_, hw'.fr (by simp)⟩
   by_cases ht : thinS s
   · first
     | contradiction
     | exact decide_eq_decide.2 ⟨fun h => ⟨ht, h⟩, fun h => h.2⟩
   · first
     | contradiction
     | exact (decide_eq_false (fun h => ht h.1)).symm)
def befF : List Int → List Int → Bool
  | [], [] => false
  | [], _ :: _ => true
  | _ :: _, [] => false
  | x :: a, y :: b => if x = y then befF a b else decide (x < y)
theorem befF_eq : ∀ {a b : List Int}, a.length = b.length → befF a b = false → befF b a = false → a = b
  | [], [], _, _, _ => rfl
  | x :: a, y :: b, hl, h1, h2 => by
    rw [befF] at h1 h2
    by_cases h : x = y
    · rw [if_pos h] at h1; rw [if_pos h.symm] at h2
      rw [h, befF_eq (by simpa using hl) h1 h2]
    · rw [if_neg h, decide_eq_false_iff_not] at h1; rw [if_neg (fun g => h g.symm), decide_eq_false_iff_not] at h2; omega
theorem befF_self : ∀ a : List Int, befF a a = false
  | [] => rfl
  | x :: a => by rw [befF, if_pos rfl]; exact befF_self a
theorem befF_drop {a b : List Int} {n : Nat} (ha : n < a.length) (hb : n < b.length) : befF (a.drop n) (b.drop n) = if a.getD n 0 = b.getD n 0 then befF (a.drop (n + 1)) (b.drop (n + 1)) else decide (a.getD n 0 < b.getD n 0) := by
  rw [List.drop_eq_getElem_cons ha, List.drop_eq_getElem_cons hb, befF, List.getD_eq_getElem?_getD, List.getElem?_eq_getElem ha, List.getD_eq_getElem?_getD, List.getElem?_eq_getElem hb]; rfl
theorem rBefore_c (a b : List Int) (ha : (a.length : Int) ≤ 9000000000000000000) (hb : (b.length : Int) ≤ 9000000000000000000) (av bv : Value) (w : World) (hra : RdI w av a) (hrb : RdI w bv b) : CnV Try.prog 31 #[av, bv] w (.bool (befF a b)) := by
  obtain ⟨ad1, cp1, b1, o1, rfl, had1, hc1⟩ := hra.open
  obtain ⟨ad2, cp2, b2, o2, rfl, had2, hc2⟩ := hrb.open
  refine cnv (vs := [_, _]) Try.func31 rfl rfl ?_
  all_goals refine tc_seq fun K1 hK1 => ?_; refine tc_region ?_; refine tl_q (y_assign rfl) rfl ?_; refine tl_nil ?_; ((refine hK1 ?_; try (clear hK1; clear K1)))
  all_goals refine tc_seq fun K2 hK2 => ?_; refine tc_seq fun K3 hK3 => ?_; refine tc_region ?_; refine tl_q (y_assign rfl) rfl ?_; refine tl_nil ?_; ((refine hK3 ?_; try (clear hK3; clear K3)))
  all_goals refine tc_block ?_
  all_goals (
   refine tc_loop (fun n : Nat => (n ≤ a.length ∧ n ≤ b.length) ∧ befF a b = befF (a.drop n) (b.drop n)) (fun n => [(0, .slice ad1 a.length cp1), (1, .slice ad2 b.length cp2), (5, vi n)]) (fun _ => [(w, [])]) (fun _ => []) (fun n => a.length - n) ?_ ?_
   · exact tk_start 0 ⟨⟨Nat.zero_le _, Nat.zero_le _⟩, rfl⟩ (.cons rfl (.cons rfl (.cons rfl .nil))) (fun _ h => h.subl (SB.s (by repeat constructor)) (SB.s (by repeat constructor)))
   · rintro n ⟨⟨hn1, hn2⟩, hbe⟩
     all_goals refine tc_seq fun K4 hK4 => ?_; refine tc_seq fun K5 hK5 => ?_; refine tc_region ?_; refine tl_q (y_move rfl) rfl ?_; refine tl_q (y_move rfl) rfl ?_; refine tl_q (y_len rfl) rfl ?_; refine tl_q (y_lss rfl rfl) rfl ?_; refine tl_q (y_move rfl) rfl ?_; ((refine tl_gs rfl rfl (fun hc => ?_) (fun hc => ?_) <;> (try simp only [decide_eq_true_eq, decide_eq_false_iff_not, Int.not_lt, Int.not_le, Bool.not_eq_true', Bool.not_eq_false', Decidable.not_not, not_true_eq_false] at hc) <;> (first | refine tl_sk rfl rfl rfl rfl ?_ | refine tl_qg rfl rfl (y_move rfl) rfl ?_)))
     all_goals (first | refine tl_sk rfl rfl rfl rfl ?_ | refine tl_qg rfl rfl (y_move rfl) rfl ?_); (first | refine tl_sk rfl rfl rfl rfl ?_ | refine tl_qg rfl rfl (y_len rfl) rfl ?_); (first | refine tl_sk rfl rfl rfl rfl ?_ | refine tl_qg rfl rfl (y_lss rfl rfl) rfl ?_); (first | refine tl_q (y_pick_t rfl rfl) rfl ?_ | refine tl_q (y_pick_f rfl rfl) rfl ?_); refine tl_nil ?_; ((refine hK5 ?_; try (clear hK5; clear K5)))
     all_goals (
      refine tc_cond rfl (fun hc => ?_) (fun hc => ?_)
      · try simp only [decide_eq_true_eq, decide_eq_false_iff_not, Int.not_lt, Int.not_le, Bool.not_eq_true', Bool.not_eq_false', Decidable.not_not, not_true_eq_false] at hc
        all_goals ((first | (exfalso; with_reducible exact bft hc) | skip))
        all_goals refine tc_skip ?_; ((refine hK4 ?_; try (clear hK4; clear K4)))
        all_goals refine tc_seq fun K6 hK6 => ?_; refine tc_block ?_; refine tc_seq fun K7 hK7 => ?_; refine tc_draw (by kernel_rfl) ?_; refine tx_p 0 rfl (by kernel_rfl) (y_move rfl) rfl (fun _ _ _ h => h) (fun _ h => h) ?_; refine tx_p 1 rfl (by kernel_rfl) (y_move rfl) rfl (fun _ _ _ h => h) (fun _ h => h) ?_; refine tx_p 2 rfl (by kernel_rfl) (y_index rfl rfl (by omega) (had1 (by omega))) rfl (fun _ _ _ h => h) (fun _ h => h) ?_; ((refine tx_q 3 rfl (by kernel_rfl) (y_load1o (v := vi (a.getD n 0)) rfl (fun w' hw' => by rw [show Int.toNat (n : Int) * 1 = n from by omega]; exact hc1 w' (hw'.fr (by simp)) n (by omega))) rfl (fun _ _ _ h => h) (fun _ h => h) ?_))
        all_goals refine tx_p 4 rfl (by kernel_rfl) (y_move rfl) rfl (fun _ _ _ h => h) (fun _ h => h) ?_; refine tx_p 5 rfl (by kernel_rfl) (y_move rfl) rfl (fun _ _ _ h => h) (fun _ h => h) ?_; refine tx_p 6 rfl (by kernel_rfl) (y_index rfl rfl (by omega) (had2 (by omega))) rfl (fun _ _ _ h => h) (fun _ h => h) ?_; ((refine tx_q 7 rfl (by kernel_rfl) (y_load1o (v := vi (b.getD n 0)) rfl (fun w' hw' => by rw [show Int.toNat (n : Int) * 1 = n from by omega]; exact hc2 w' (hw'.fr (by simp)) n (by omega))) rfl (fun _ _ _ h => h) (fun _ h => h) ?_))
        all_goals refine tx_p 8 rfl (by kernel_rfl) (y_neq rfl rfl) rfl (fun _ _ _ h => h) (fun _ h => h) ?_; refine tx_done (by kernel_rfl) ?_; ((refine hK7 ?_; try (clear hK7; clear K7)))
        all_goals (
         refine tc_cond rfl (fun hc => ?_) (fun hc => ?_)
         · try simp only [decide_eq_true_eq, decide_eq_false_iff_not, Int.not_lt, Int.not_le, Bool.not_eq_true', Bool.not_eq_false', Decidable.not_not, not_true_eq_false] at hc
           all_goals refine tc_seq fun K8 hK8 => ?_; refine tc_draw (by kernel_rfl) ?_; refine tx_p 0 rfl (by kernel_rfl) (y_move rfl) rfl (fun _ _ _ h => h) (fun _ h => h) ?_; refine tx_p 1 rfl (by kernel_rfl) (y_move rfl) rfl (fun _ _ _ h => h) (fun _ h => h) ?_; refine tx_p 2 rfl (by kernel_rfl) (y_index rfl rfl (by omega) (had1 (by omega))) rfl (fun _ _ _ h => h) (fun _ h => h) ?_; ((refine tx_q 3 rfl (by kernel_rfl) (y_load1o (v := vi (a.getD n 0)) rfl (fun w' hw' => by rw [show Int.toNat (n : Int) * 1 = n from by omega]; exact hc1 w' (hw'.fr (by simp)) n (by omega))) rfl (fun _ _ _ h => h) (fun _ h => h) ?_))
           all_goals refine tx_p 4 rfl (by kernel_rfl) (y_move rfl) rfl (fun _ _ _ h => h) (fun _ h => h) ?_; refine tx_p 5 rfl (by kernel_rfl) (y_move rfl) rfl (fun _ _ _ h => h) (fun _ h => h) ?_; refine tx_p 6 rfl (by kernel_rfl) (y_index rfl rfl (by omega) (had2 (by omega))) rfl (fun _ _ _ h => h) (fun _ h => h) ?_; ((refine tx_q 7 rfl (by kernel_rfl) (y_load1o (v := vi (b.getD n 0)) rfl (fun w' hw' => by rw [show Int.toNat (n : Int) * 1 = n from by omega]; exact hc2 w' (hw'.fr (by simp)) n (by omega))) rfl (fun _ _ _ h => h) (fun _ h => h) ?_))
           all_goals refine tx_p 8 rfl (by kernel_rfl) (y_lss rfl rfl) rfl (fun _ _ _ h => h) (fun _ h => h) ?_; refine tx_p 9 rfl (by kernel_rfl) (y_assign rfl) rfl (fun _ _ _ h => h) (fun _ h => h) ?_; refine tx_done (by kernel_rfl) ?_; ((refine hK8 ?_; try (clear hK8; clear K8)))
           all_goals refine tc_ret ?_; (repeat (first | refine tk_then_ret ?_ | refine tk_block_ret ?_))
           all_goals (refine tk_ret rfl rfl (.cons (.tmp rfl) .nil) ?_)
           all_goals (
            refine fun w' hw' => ⟨congrArg (fun b => Ending.returned (Value.bool b)) ?_, hw'.fr (by simp)⟩
            first
            | (rw [hbe, befF_drop (by omega) (by omega), if_neg (by omega)])
            | (rw [hbe]
               rcases (by omega : n = a.length ∨ n = b.length) with rfl | rfl
               · rw [List.drop_length]
                 cases hd : b.drop a.length with
                 | nil => rw [befF]; exact decide_eq_false (by have := congrArg List.length hd; simp at this; omega)
                 | cons y t => rw [befF]; exact decide_eq_true (by have := congrArg List.length hd; simp at this; omega)
               · rw [List.drop_length]
                 cases hd : a.drop b.length with
                 | nil => rw [befF]; exact decide_eq_false (by omega)
                 | cons y t => rw [befF]; exact decide_eq_false (by have := congrArg List.length hd; simp at this; omega)))
         · try simp only [decide_eq_true_eq, decide_eq_false_iff_not, Int.not_lt, Int.not_le, Bool.not_eq_true', Bool.not_eq_false', Decidable.not_not, not_true_eq_false] at hc
           all_goals refine tc_skip ?_; ((refine hK6 ?_; try (clear hK6; clear K6)))
           all_goals refine tc_region ?_; refine tl_q (y_move rfl) rfl ?_; refine tl_q (y_add rfl rfl (by omega)) rfl ?_; refine tl_q (y_assign rfl) rfl ?_; refine tl_nil ?_
           all_goals (
            exact tk_round (n + 1) ⟨⟨by omega, by omega⟩, by rw [hbe, befF_drop (by omega) (by omega), if_pos (by omega)]⟩ (by omega) (.cons rfl (.cons rfl (.cons rfl .nil))) (fun _ h => h.subl (SB.s (by repeat constructor)) (SB.s (by repeat constructor)))))
      · try simp only [decide_eq_true_eq, decide_eq_false_iff_not, Int.not_lt, Int.not_le, Bool.not_eq_true', Bool.not_eq_false', Decidable.not_not, not_true_eq_false] at hc
        all_goals refine tc_exit ?_; ((refine hK2 ?_; try (clear hK2; clear K2)))
        all_goals refine tc_seq fun K9 hK9 => ?_; refine tc_region ?_; refine tl_q (y_move rfl) rfl ?_; refine tl_q (y_len rfl) rfl ?_; refine tl_q (y_move rfl) rfl ?_; refine tl_q (y_len rfl) rfl ?_; refine tl_q (y_lss rfl rfl) rfl ?_; refine tl_q (y_assign rfl) rfl ?_; refine tl_nil ?_; ((refine hK9 ?_; try (clear hK9; clear K9)))
        all_goals refine tc_ret ?_; (repeat (first | refine tk_then_ret ?_))
        all_goals (refine tk_ret rfl rfl (.cons (.tmp rfl) .nil) ?_)
        all_goals (
         refine fun w' hw' => ⟨congrArg (fun b => Ending.returned (Value.bool b)) ?_, hw'.fr (by simp)⟩
         first
         | (rw [hbe, befF_drop (by omega) (by omega), if_neg (by omega)])
         | (rw [hbe]
            rcases (by omega : n = a.length ∨ n = b.length) with rfl | rfl
            · rw [List.drop_length]
              cases hd : b.drop a.length with
              | nil => rw [befF]; exact decide_eq_false (by have := congrArg List.length hd; simp at this; omega)
              | cons y t => rw [befF]; exact decide_eq_true (by have := congrArg List.length hd; simp at this; omega)
            · rw [List.drop_length]
              cases hd : a.drop b.length with
              | nil => rw [befF]; exact decide_eq_false (by omega)
              | cons y t => rw [befF]; exact decide_eq_false (by have := congrArg List.length hd; simp at this; omega)))))
theorem rSame_c (a b : List Int) (ha : (a.length : Int) ≤ 9000000000000000000) (hb : (b.length : Int) ≤ 9000000000000000000) (av bv : Value) (w : World) (hra : RdI w av a) (hrb : RdI w bv b) : CnV Try.prog 22 #[av, bv] w (.bool (decide (a = b))) := by
  have hra0 := hra
  have hrb0 := hrb
  obtain ⟨ad1, cp1, b1, o1, rfl, had1, hc1⟩ := hra.open
  obtain ⟨ad2, cp2, b2, o2, rfl, had2, hc2⟩ := hrb.open
  refine cnv (vs := [_, _]) Try.func22 rfl rfl ?_
  all_goals refine tc_seq fun K1 hK1 => ?_; refine tc_region ?_; refine tl_q (y_assign rfl) rfl ?_; refine tl_nil ?_; ((refine hK1 ?_; try (clear hK1; clear K1)))
  all_goals refine tc_seq fun K2 hK2 => ?_; refine tc_region ?_; refine tl_q (y_move rfl) rfl ?_; refine tl_q (y_len rfl) rfl ?_; refine tl_q (y_move rfl) rfl ?_; refine tl_q (y_len rfl) rfl ?_; refine tl_q (y_eql rfl rfl) rfl ?_; refine tl_q (y_move rfl) rfl ?_; ((refine tl_gs rfl rfl (fun hc => ?_) (fun hc => ?_) <;> (try simp only [decide_eq_true_eq, decide_eq_false_iff_not, Int.not_lt, Int.not_le, Bool.not_eq_true', Bool.not_eq_false', Decidable.not_not, not_true_eq_false] at hc) <;> (first | refine tl_sk rfl rfl rfl rfl ?_ | refine tl_qg rfl rfl (y_move rfl) rfl ?_)))
  all_goals (first | refine tl_sk rfl rfl rfl rfl ?_ | refine tl_qg rfl rfl (y_move rfl) rfl ?_); (first | refine tl_sk rfl rfl rfl rfl ?_ | refine tl_eg rfl rfl rfl (e_callV rfl (.cons rfl (.cons rfl .nil)) (fun w' hw' => rBefore_c a b ha hb _ _ w' (hra0.fr (hw'.fr (by simp))) (hrb0.fr (hw'.fr (by simp))))) (fun _ _ => ?_)); (first | refine tl_sk rfl rfl rfl rfl ?_ | refine tl_qg rfl rfl (y_not rfl) rfl ?_); (first | refine tl_q (y_pick_t rfl rfl) rfl ?_ | refine tl_q (y_pick_f rfl rfl) rfl ?_); refine tl_q (y_move rfl) rfl ?_; ((first | refine tl_sk rfl rfl rfl rfl ?_ | (refine tl_gs rfl rfl (fun hc => ?_) (fun hc => ?_) <;> (try simp only [decide_eq_true_eq, decide_eq_false_iff_not, Int.not_lt, Int.not_le, Bool.not_eq_true', Bool.not_eq_false', Decidable.not_not, not_true_eq_false] at hc) <;> (first | refine tl_sk rfl rfl rfl rfl ?_ | refine tl_qg rfl rfl (y_move rfl) rfl ?_))))
  all_goals (first | refine tl_sk rfl rfl rfl rfl ?_ | refine tl_qg rfl rfl (y_move rfl) rfl ?_); (first | refine tl_sk rfl rfl rfl rfl ?_ | refine tl_eg rfl rfl rfl (e_callV rfl (.cons rfl (.cons rfl .nil)) (fun w' hw' => rBefore_c b a hb ha _ _ w' (hrb0.fr (hw'.fr (by simp))) (hra0.fr (hw'.fr (by simp))))) (fun _ _ => ?_)); (first | refine tl_sk rfl rfl rfl rfl ?_ | refine tl_qg rfl rfl (y_not rfl) rfl ?_); (first | refine tl_q (y_pick_t rfl rfl) rfl ?_ | refine tl_q (y_pick_f rfl rfl) rfl ?_); refine tl_q (y_assign rfl) rfl ?_; refine tl_nil ?_; ((refine hK2 ?_; try (clear hK2; clear K2)))
  all_goals refine tc_ret ?_; (repeat (first | refine tk_then_ret ?_))
  all_goals (refine tk_ret rfl rfl (.cons (.tmp rfl) .nil) ?_)
  all_goals (
   refine fun w' hw' => ⟨congrArg (fun b => Ending.returned (Value.bool b)) ?_, hw'.fr (by simp)⟩
   by_cases hab : a = b
   · subst hab
     have hs := befF_self a
     simp_all
   · refine Eq.trans ?_ (decide_eq_false hab).symm
     first
     | rfl
     | (cases h2 : befF b a
        · exact absurd (befF_eq (by omega) (by assumption) h2) hab
        · rfl))
end Go.Sp
/-
  The law's helpers: samples for the program; the reference's Kept.
-/
namespace Go.Sp
open Go Go.Proofs
theorem take_all2 {α : Type} {l : List α} {n : Nat} (h : l.length ≤ n) : l.take n = l := List.take_of_length_le h
set_option maxHeartbeats 4000000 in
theorem lawSample_c (s : Smp) (hf : Few s) (tv pv gv : Value) (w : World) (hr : RdSm w s tv pv gv) :
    CnX Try.prog 8 #[smV s tv pv gv] w [] (fun y : (Option Addr × Nat) × (Option Addr × Nat) × (Option Addr × Nat) => smV s (slV s.st.length y.1) (slV s.ps.length y.2.1) (slV s.sg.length y.2.2)) (fun y w' => RdSm w' s (slV s.st.length y.1) (slV s.ps.length y.2.1) (slV s.sg.length y.2.2)) := by
  have hr0 := hr
  have hft := hf.st
  have hfp := hf.ps
  have hfg := hf.sg
  obtain ⟨adt, cpt, bt, ot, rfl, hadt, hct⟩ := hr.st.open boE_len false
  obtain ⟨adp, cpp, bp, op, rfl, hadp, hcp⟩ := hr.ps.open psE_len pas0
  obtain ⟨adg, cpg, bg, og, rfl, hadg, hcg⟩ := hr.sg.open sgE_len sgt0
  refine cnx0 (vs := [_]) Try.func8 rfl rfl ?_
  all_goals refine tc_seq fun K1 hK1 => ?_; refine tc_region ?_; refine tl_e (e_box rfl rfl rfl) rfl (fun b1 _ => ?_); refine tl_e (e_allocN rfl) rfl (fun b2 _ => ?_); refine tl_nil ?_; ((refine hK1 ?_; try (clear hK1; clear K1)))
  all_goals (
   refine tc_join (fun q : Nat × Nat × Nat × List Value => s.st.length ≤ q.2.2.1) (fun q => [(1, ptr b1), (2, ptr b2), (3, ptr q.1)]) (fun _ => [(w, [])]) (fun q => [(q.1, .cells #[vi s.B, vi s.P, vi s.L, vi s.F, .slice (some ⟨q.2.1, 0, none⟩) s.st.length q.2.2.1, .slice none 0 0, .slice none 0 0] 35 (0, 0)), (q.2.1, .cells (s.st.flatMap boE ++ q.2.2.2).toArray 4 (0, 0)), (b2, .cells #[vi 0, vi 0, vi 0, vi 0, .slice none 0 0, .slice none 0 0, .slice none 0 0] 35 (0, 0)), (b1, .cells #[vi s.B, vi s.P, vi s.L, vi s.F, .slice adt s.st.length cpt, .slice adp s.ps.length cpp, .slice adg s.sg.length cpg] 26 (0, 0))]) ?_ ?_
   · skip
     all_goals refine tc_drawS ([(b2, .cells #[vi 0, vi 0, vi 0, vi 0, .slice none 0 0, .slice none 0 0, .slice none 0 0] 35 (0, 0)), (b1, .cells #[vi s.B, vi s.P, vi s.L, vi s.F, .slice adt s.st.length cpt, .slice adp s.ps.length cpp, .slice adg s.sg.length cpg] 26 (0, 0))]) (by kernel_rfl) ?_; refine tx_p 0 rfl (by kernel_rfl) (y_field rfl) rfl (fun _ _ _ h => h) (fun _ h => h.subl (SB.s (by repeat constructor)) (SB.s (by repeat constructor))) ?_; refine tx_qS 1 rfl (by kernel_rfl) (y_load1 rfl (by repeat constructor) (by rfl)) rfl (fun _ _ _ h => h) (fun _ h => h.subl (SB.s (by repeat constructor)) (SB.s (by repeat constructor))) ?_; refine tx_p 2 rfl (by kernel_rfl) (y_field rfl) rfl (fun _ _ _ h => h) (fun _ h => h.subl (SB.s (by repeat constructor)) (SB.s (by repeat constructor))) ?_; refine tx_qS 3 rfl (by kernel_rfl) (y_load1 rfl (by repeat constructor) (by rfl)) rfl (fun _ _ _ h => h) (fun _ h => h.subl (SB.s (by repeat constructor)) (SB.s (by repeat constructor))) ?_; refine tx_p 4 rfl (by kernel_rfl) (y_field rfl) rfl (fun _ _ _ h => h) (fun _ h => h.subl (SB.s (by repeat constructor)) (SB.s (by repeat constructor))) ?_; refine tx_qS 5 rfl (by kernel_rfl) (y_load1 rfl (by repeat constructor) (by rfl)) rfl (fun _ _ _ h => h) (fun _ h => h.subl (SB.s (by repeat constructor)) (SB.s (by repeat constructor))) ?_; refine tx_p 6 rfl (by kernel_rfl) (y_field rfl) rfl (fun _ _ _ h => h) (fun _ h => h.subl (SB.s (by repeat constructor)) (SB.s (by repeat constructor))) ?_; refine tx_qS 7 rfl (by kernel_rfl) (y_load1 rfl (by repeat constructor) (by rfl)) rfl (fun _ _ _ h => h) (fun _ h => h.subl (SB.s (by repeat constructor)) (SB.s (by repeat constructor))) ?_; refine tx_p 9 rfl (by kernel_rfl) (y_field rfl) rfl (fun _ _ _ h => h) (fun _ h => h.subl (SB.s (by repeat constructor)) (SB.s (by repeat constructor))) ?_; refine tx_qS 10 rfl (by kernel_rfl) (y_load1 rfl (by repeat constructor) (by rfl)) rfl (fun _ _ _ h => h) (fun _ h => h.subl (SB.s (by repeat constructor)) (SB.s (by repeat constructor))) ?_
     all_goals (
      refine tx_pair 8 13 (by kernel_rfl) ?_ ?_
      rotate_left
      focus (
       (refine to_e rfl rfl (e_allocN rfl) (.inr ⟨fun _ _ h => h.subl (SB.s (by repeat constructor)) (SB.s (by repeat constructor)), fun _ h => h⟩) (fun b3 _ => ?_))
       all_goals ((refine tx_single 8 (by kernel_rfl) (to_e rfl rfl (e_bslice rfl (by (repeat (exact .nil)); done) rfl rfl) (.inr ⟨fun _ _ h => h.subl (SB.s (by repeat constructor)) (SB.s (by repeat constructor)), fun _ h => h⟩) (fun b16 _ => ?_))))
       all_goals (refine tx_single 11 (by kernel_rfl) (to_e rfl rfl (e_append_own (old := []) (junk := []) rfl rfl rfl (by repeat constructor) rfl rfl (Nat.le_refl 0) (fun w' hw' => hr0.st.fr (hw'.fr (w0 := w) (S := []) (MI.m (by repeat constructor)))) (one_flat boE_one _) (by omega) rfl) (.inr ⟨fun _ _ h => h.subl (SB.s (by repeat constructor)) (SB.s (by repeat constructor)), fun _ h => h⟩) (fun rt hrt => ?_))); refine tx_p 12 rfl (by kernel_rfl) (y_build_g (by repeat constructor)) rfl (fun _ _ _ h => h) (fun _ h => h.subl (SB.s (by repeat constructor)) (SB.s (by repeat constructor))) ?_; refine tx_single 14 (by kernel_rfl) (to_e (S' := HG [] []) rfl rfl (e_storeW rfl rfl (by repeat constructor) (by rfl) (by rfl) (by simp [Value.oneCell'])) (.inl (by kernel_rfl)) (fun _ _ => ?_))
       all_goals refine tx_done (by kernel_rfl) ?_)
      rotate_right
      focus (
       (refine to_e rfl rfl (e_bslice rfl (by (repeat (exact .nil)); done) rfl rfl) (.inr ⟨fun _ _ h => h.subl (SB.s (by repeat constructor)) (SB.s (by repeat constructor)), fun _ h => h⟩) (fun b16 _ => ?_))
       all_goals (
        refine tx_pair 11 13 (by kernel_rfl) ?_ ?_
        rotate_left
        focus (
         (refine to_e rfl rfl (e_allocN rfl) (.inr ⟨fun _ _ h => h.subl (SB.s (by repeat constructor)) (SB.s (by repeat constructor)), fun _ h => h⟩) (fun b3 _ => ?_))
         all_goals (refine tx_single 11 (by kernel_rfl) (to_e rfl rfl (e_append_own (old := []) (junk := []) rfl rfl rfl (by repeat constructor) rfl rfl (Nat.le_refl 0) (fun w' hw' => hr0.st.fr (hw'.fr (w0 := w) (S := []) (MI.m (by repeat constructor)))) (one_flat boE_one _) (by omega) rfl) (.inr ⟨fun _ _ h => h.subl (SB.s (by repeat constructor)) (SB.s (by repeat constructor)), fun _ h => h⟩) (fun rt hrt => ?_))); refine tx_p 12 rfl (by kernel_rfl) (y_build_g (by repeat constructor)) rfl (fun _ _ _ h => h) (fun _ h => h.subl (SB.s (by repeat constructor)) (SB.s (by repeat constructor))) ?_; refine tx_single 14 (by kernel_rfl) (to_e (S' := HG [] []) rfl rfl (e_storeW rfl rfl (by repeat constructor) (by rfl) (by rfl) (by simp [Value.oneCell'])) (.inl (by kernel_rfl)) (fun _ _ => ?_))
         all_goals refine tx_done (by kernel_rfl) ?_)
        rotate_right
        focus (
         (refine to_e rfl rfl (e_append_own (old := []) (junk := []) rfl rfl rfl (by repeat constructor) rfl rfl (Nat.le_refl 0) (fun w' hw' => hr0.st.fr (hw'.fr (w0 := w) (S := []) (MI.m (by repeat constructor)))) (one_flat boE_one _) (by omega) rfl) (.inr ⟨fun _ _ h => h.subl (SB.s (by repeat constructor)) (SB.s (by repeat constructor)), fun _ h => h⟩) (fun rt hrt => ?_))
         all_goals refine tx_p 12 rfl (by kernel_rfl) (y_build_g (by repeat constructor)) rfl (fun _ _ _ h => h) (fun _ h => h.subl (SB.s (by repeat constructor)) (SB.s (by repeat constructor))) ?_; refine tx_single 13 (by kernel_rfl) (to_e rfl rfl (e_allocN rfl) (.inr ⟨fun _ _ h => h.subl (SB.s (by repeat constructor)) (SB.s (by repeat constructor)), fun _ h => h⟩) (fun b3 _ => ?_)); refine tx_single 14 (by kernel_rfl) (to_e (S' := HG [] []) rfl rfl (e_storeW rfl rfl (by repeat constructor) (by rfl) (by rfl) (by simp [Value.oneCell'])) (.inl (by kernel_rfl)) (fun _ _ => ?_))
         all_goals refine tx_done (by kernel_rfl) ?_))))
     all_goals (
      refine tk_start (b3, rt.1, rt.2.1, rt.2.2) (by simpa using hrt.1) (.cons rfl (.cons rfl (.cons rfl .nil))) (fun _ h => ?_)
      rw [Nat.zero_add] at h
      first
      | (refine h.subl (SB.s ?_) (SB.s ?_)
         all_goals ((repeat constructor); done))
      | (refine HG.sw (h.subl (SB.s ?_) (SB.s ?_))
         all_goals ((repeat constructor); done)))
   · rintro ⟨b3, rb, rc, rj⟩ hrc
     dsimp only at hrc ⊢
     all_goals refine tc_seq fun K2 hK2 => ?_; refine tc_seq fun K3 hK3 => ?_; refine tc_region ?_; refine tl_q (y_assign rfl) rfl ?_; refine tl_nil ?_; ((refine hK3 ?_; try (clear hK3; clear K3)))
     all_goals refine tc_block ?_
     all_goals (
      refine tc_loop (fun p : Nat × OwnB => p.1 ≤ s.ps.length ∧ okE 5 (s.ps.take p.1) p.2) (fun p => [(1, ptr b1), (2, ptr b2), (3, ptr b3), (4, vi p.1)]) (fun _ => [(w, [])]) (fun p => (b3, .cells #[vi s.B, vi s.P, vi s.L, vi s.F, .slice (some ⟨rb, 0, none⟩) s.st.length rc, ouV (s.ps.take p.1).length p.2, .slice none 0 0] 35 (0, 0)) :: (rb, .cells (s.st.flatMap boE ++ rj).toArray 4 (0, 0)) :: (b2, .cells #[vi 0, vi 0, vi 0, vi 0, .slice none 0 0, .slice none 0 0, .slice none 0 0] 35 (0, 0)) :: (b1, .cells #[vi s.B, vi s.P, vi s.L, vi s.F, .slice adt s.st.length cpt, .slice adp s.ps.length cpp, .slice adg s.sg.length cpg] 26 (0, 0)) :: slE 61 psE (s.ps.take p.1) p.2) (fun p => s.ps.length - p.1) ?_ ?_
      · exact tk_start (0, none) ⟨Nat.zero_le _, rfl⟩ (.cons rfl (.cons rfl (.cons rfl (.cons rfl .nil)))) (fun _ h => by rw [slE_none]; exact h.subl (SB.s (by repeat constructor)) (SB.s (by repeat constructor)))
      · rintro ⟨k, oo⟩ ⟨hk, hok⟩
        dsimp only at hk hok ⊢
        have hkl : (s.ps.take k).length ≤ k := by rw [List.length_take]; omega
        all_goals refine tc_seq fun K4 hK4 => ?_; refine tc_seq fun K5 hK5 => ?_; refine tc_region ?_; refine tl_q (y_move rfl) rfl ?_; refine tl_q (y_field rfl) rfl ?_; refine tl_q (y_load1 rfl (by repeat constructor) (by rfl)) rfl ?_; refine tl_q (y_len rfl) rfl ?_; refine tl_q (y_lss rfl rfl) rfl ?_; refine tl_nil ?_; ((refine hK5 ?_; try (clear hK5; clear K5)))
        all_goals (
         refine tc_cond rfl (fun hc => ?_) (fun hc => ?_)
         · try simp only [decide_eq_true_eq, decide_eq_false_iff_not, Int.not_lt, Int.not_le, Bool.not_eq_true', Bool.not_eq_false', Decidable.not_not, not_true_eq_false] at hc
           all_goals refine tc_skip ?_; ((refine hK4 ?_; try (clear hK4; clear K4)))
           all_goals refine tc_seq fun K6 hK6 => ?_; refine tc_block ?_; refine tc_seq fun K7 hK7 => ?_; refine tc_region ?_; refine tl_q (y_field rfl) rfl ?_; refine tl_q (y_load1 rfl (by repeat constructor) (by rfl)) rfl ?_; refine tl_q (y_move rfl) rfl ?_; refine tl_q (y_index rfl rfl (by omega) (hadp (by omega))) rfl ?_; ((refine tl_q (y_loadNo (n := 5) (vs := [vi (s.ps.getD k pas0).b, vi (s.ps.getD k pas0).fr, vi (s.ps.getD k pas0).to, vi (s.ps.getD k pas0).lo, vi (s.ps.getD k pas0).hi]) rfl (fun w' hw' => by rw [show Int.toNat (k : Int) * 5 = k * 5 from by omega]; exact hcp w' [] (hw'.fr (w0 := w) (S := []) (MI.m (by repeat constructor))) (by simp) k (by omega))) rfl ?_))
           all_goals refine tl_e (e_allocN rfl) rfl (fun b5 _ => ?_); refine tl_e (e_storeW rfl rfl (by repeat constructor) (by rfl) (by rfl) (by simp [Value.oneCell'])) rfl (fun _ _ => ?_); refine tl_nil ?_; ((refine hK7 ?_; try (clear hK7; clear K7)))
           all_goals refine tc_region ?_; refine tl_q (y_field rfl) rfl ?_; refine tl_q (y_load1 rfl (by repeat constructor) (by rfl)) rfl ?_; refine tl_q (y_field rfl) rfl ?_; refine tl_q (y_load1 rfl (by repeat constructor) (by rfl)) rfl ?_; refine tl_q (y_field rfl) rfl ?_; refine tl_q (y_load1 rfl (by repeat constructor) (by rfl)) rfl ?_; refine tl_q (y_field rfl) rfl ?_; refine tl_q (y_load1 rfl (by repeat constructor) (by rfl)) rfl ?_; refine tl_q (y_field rfl) rfl ?_; refine tl_q (y_field rfl) rfl ?_; refine tl_q (y_load1 rfl (by repeat constructor) (by rfl)) rfl ?_; refine tl_q (y_field rfl) rfl ?_; refine tl_q (y_field rfl) rfl ?_; refine tl_q (y_load1 rfl (by repeat constructor) (by rfl)) rfl ?_; refine tl_q (y_build_g (by repeat constructor)) rfl ?_; refine tl_q (y_build_g (by repeat constructor)) rfl ?_; refine tl_e (e_bsliceG rfl (.agg rfl rfl .nil) rfl rfl) rfl (fun _ _ => ?_); ((refine tl_e (e_appendE (enc := psE) (xs := s.ps.take k) (ys := [s.ps.getD k pas0]) psE_len psE_one rfl rfl rfl hok (fun _ => by repeat constructor) (fun w' hw' => RdS.own0 psE_len hw' (by repeat constructor)) (by simp only [List.length_cons, List.length_nil]; omega) rfl) rfl (fun oo' hok' => ?_)))
           all_goals refine tl_q (y_field rfl) rfl ?_; refine tl_e (e_store1 rfl rfl (by repeat constructor) (by repeat constructor) (by rfl) (by rfl)) rfl (fun _ _ => ?_); refine tl_nil ?_; ((refine hK6 ?_; try (clear hK6; clear K6)))
           all_goals refine tc_region ?_; refine tl_q (y_move rfl) rfl ?_; refine tl_q (y_add rfl rfl (by omega)) rfl ?_; refine tl_q (y_assign rfl) rfl ?_; refine tl_nil ?_
           all_goals (
            have hs := takeG_succ (d := pas0) (l := s.ps) (n := k) (by omega)
            exact tk_round (k + 1, oo') ⟨by dsimp only; omega, by dsimp only; rw [hs]; exact hok'⟩ (by dsimp only; omega) (.cons rfl (.cons rfl (.cons rfl (.cons rfl .nil)))) (fun _ h => by dsimp only; rw [hs]; exact h.subl (SB.s (by repeat constructor)) (SB.s (by repeat constructor))))
         · try simp only [decide_eq_true_eq, decide_eq_false_iff_not, Int.not_lt, Int.not_le, Bool.not_eq_true', Bool.not_eq_false', Decidable.not_not, not_true_eq_false] at hc
           all_goals refine tc_exit ?_; ((refine hK2 ?_; try (clear hK2; clear K2)))
           all_goals refine tc_seq fun K8 hK8 => ?_; refine tc_seq fun K9 hK9 => ?_; refine tc_region ?_; refine tl_q (y_assign rfl) rfl ?_; refine tl_nil ?_; ((refine hK9 ?_; try (clear hK9; clear K9)))
           all_goals refine tc_block ?_
           all_goals (
            refine tc_loop (fun p : Nat × OwnB => p.1 ≤ s.sg.length ∧ okE 3 (s.sg.take p.1) p.2) (fun p => [(1, ptr b1), (2, ptr b2), (3, ptr b3), (6, vi p.1)]) (fun _ => [(w, [])]) (fun p => (b3, .cells #[vi s.B, vi s.P, vi s.L, vi s.F, .slice (some ⟨rb, 0, none⟩) s.st.length rc, ouV (s.ps.take k).length oo, ouV (s.sg.take p.1).length p.2] 35 (0, 0)) :: (rb, .cells (s.st.flatMap boE ++ rj).toArray 4 (0, 0)) :: (b2, .cells #[vi 0, vi 0, vi 0, vi 0, .slice none 0 0, .slice none 0 0, .slice none 0 0] 35 (0, 0)) :: (b1, .cells #[vi s.B, vi s.P, vi s.L, vi s.F, .slice adt s.st.length cpt, .slice adp s.ps.length cpp, .slice adg s.sg.length cpg] 26 (0, 0)) :: (slE 52 sgE (s.sg.take p.1) p.2 ++ slE 61 psE (s.ps.take k) oo)) (fun p => s.sg.length - p.1) ?_ ?_
            · exact tk_start (0, none) ⟨Nat.zero_le _, rfl⟩ (.cons rfl (.cons rfl (.cons rfl (.cons rfl .nil)))) (fun _ h => by rw [slE_none]; exact h.subl (SB.s (by repeat constructor)) (SB.s (by repeat constructor)))
            · rintro ⟨j, oo2⟩ ⟨hj, hok2⟩
              dsimp only at hj hok2 ⊢
              have hjl : (s.sg.take j).length ≤ j := by rw [List.length_take]; omega
              all_goals refine tc_seq fun K10 hK10 => ?_; refine tc_seq fun K11 hK11 => ?_; refine tc_region ?_; refine tl_q (y_move rfl) rfl ?_; refine tl_q (y_field rfl) rfl ?_; refine tl_q (y_load1 rfl (by repeat constructor) (by rfl)) rfl ?_; refine tl_q (y_len rfl) rfl ?_; refine tl_q (y_lss rfl rfl) rfl ?_; refine tl_nil ?_; ((refine hK11 ?_; try (clear hK11; clear K11)))
              all_goals (
               refine tc_cond rfl (fun hc => ?_) (fun hc => ?_)
               · try simp only [decide_eq_true_eq, decide_eq_false_iff_not, Int.not_lt, Int.not_le, Bool.not_eq_true', Bool.not_eq_false', Decidable.not_not, not_true_eq_false] at hc
                 all_goals refine tc_skip ?_; ((refine hK10 ?_; try (clear hK10; clear K10)))
                 all_goals refine tc_seq fun K12 hK12 => ?_; refine tc_block ?_; refine tc_seq fun K13 hK13 => ?_; refine tc_region ?_; refine tl_q (y_field rfl) rfl ?_; refine tl_q (y_load1 rfl (by repeat constructor) (by rfl)) rfl ?_; refine tl_q (y_move rfl) rfl ?_; refine tl_q (y_index rfl rfl (by omega) (hadg (by omega))) rfl ?_; ((refine tl_q (y_loadNo (n := 3) (vs := [vi (s.sg.getD j sgt0).b, vi (s.sg.getD j sgt0).h, .bool (s.sg.getD j sgt0).wh]) rfl (fun w' hw' => by rw [show Int.toNat (j : Int) * 3 = j * 3 from by omega]; exact hcg w' [] (hw'.fr (w0 := w) (S := []) (MI.m (by repeat constructor))) (by simp) j (by omega))) rfl ?_))
                 all_goals refine tl_e (e_allocN rfl) rfl (fun b7 _ => ?_); refine tl_e (e_storeW rfl rfl (by repeat constructor) (by rfl) (by rfl) (by simp [Value.oneCell'])) rfl (fun _ _ => ?_); refine tl_nil ?_; ((refine hK13 ?_; try (clear hK13; clear K13)))
                 all_goals refine tc_region ?_; refine tl_q (y_field rfl) rfl ?_; refine tl_q (y_load1 rfl (by repeat constructor) (by rfl)) rfl ?_; refine tl_q (y_field rfl) rfl ?_; refine tl_q (y_load1 rfl (by repeat constructor) (by rfl)) rfl ?_; refine tl_q (y_field rfl) rfl ?_; refine tl_q (y_load1 rfl (by repeat constructor) (by rfl)) rfl ?_; refine tl_q (y_field rfl) rfl ?_; refine tl_q (y_load1 rfl (by repeat constructor) (by rfl)) rfl ?_; refine tl_q (y_build_g (by repeat constructor)) rfl ?_; refine tl_e (e_bsliceG rfl (.agg rfl rfl .nil) rfl rfl) rfl (fun _ _ => ?_); ((refine tl_e (e_appendE (enc := sgE) (xs := s.sg.take j) (ys := [s.sg.getD j sgt0]) sgE_len sgE_one rfl rfl rfl hok2 (fun _ => by repeat constructor) (fun w' hw' => RdS.own0 sgE_len hw' (by repeat constructor)) (by simp only [List.length_cons, List.length_nil]; omega) rfl) rfl (fun oo' hok' => ?_)))
                 all_goals refine tl_q (y_field rfl) rfl ?_; refine tl_e (e_store1 rfl rfl (by repeat constructor) (by repeat constructor) (by rfl) (by rfl)) rfl (fun _ _ => ?_); refine tl_nil ?_; ((refine hK12 ?_; try (clear hK12; clear K12)))
                 all_goals refine tc_region ?_; refine tl_q (y_move rfl) rfl ?_; refine tl_q (y_add rfl rfl (by omega)) rfl ?_; refine tl_q (y_assign rfl) rfl ?_; refine tl_nil ?_
                 all_goals (
                  have hs := takeG_succ (d := sgt0) (l := s.sg) (n := j) (by omega)
                  exact tk_round (j + 1, oo') ⟨by dsimp only; omega, by dsimp only; rw [hs]; exact hok'⟩ (by dsimp only; omega) (.cons rfl (.cons rfl (.cons rfl (.cons rfl .nil)))) (fun _ h => by dsimp only; rw [hs]; exact h.subl (SB.s (by repeat constructor)) (SB.s (by repeat constructor))))
               · try simp only [decide_eq_true_eq, decide_eq_false_iff_not, Int.not_lt, Int.not_le, Bool.not_eq_true', Bool.not_eq_false', Decidable.not_not, not_true_eq_false] at hc
                 all_goals refine tc_exit ?_; ((refine hK8 ?_; try (clear hK8; clear K8)))
                 all_goals refine tc_seq fun K14 hK14 => ?_; refine tc_region ?_; refine tl_q (y_loadW rfl (by repeat constructor) (by rfl)) rfl ?_; refine tl_e (e_storeW rfl rfl (by repeat constructor) (by rfl) (by rfl) (smV_ones (s := s) rfl rfl rfl)) rfl (fun _ _ => ?_); refine tl_nil ?_; ((refine hK14 ?_; try (clear hK14; clear K14)))
                 all_goals refine tc_ret ?_; (repeat (first | refine tk_then_ret ?_))
                 all_goals (refine tk_ret rfl rfl (.cons (.agg inferInstance rfl (by repeat constructor) (by rfl)) .nil) ?_)
                 all_goals (
                  have e1 := take_all2 (l := s.ps) (n := k) (by omega)
                  have e2 := take_all2 (l := s.sg) (n := j) (by omega)
                  refine fun w' hw' => ?_
                  have h1 := RdS.ofO psE_len hok hw' (by repeat constructor)
                  have h2 := RdS.ofO sgE_len hok2 hw' (by repeat constructor)
                  have h3 := RdS.own (xs := s.st) (cap := rc) (junk := rj) boE_len hw' (b := rb) (by repeat constructor)
                  rw [e1] at h1 ⊢
                  rw [e2] at h2 ⊢
                  exact ⟨((some ⟨rb, 0, none⟩, rc), ouA oo, ouA oo2), rfl, hw'.fr (w0 := w) (S := []) (MI.m (by repeat constructor)), h3, h1, h2⟩))))))
def kbI (bits e : Int) : Bool := decide (bits / 2 ^ e.toNat % 2 = 0)
def kpN (s : Smp) (bits : Int) (n : Nat) : List Pas := ((List.range n).filter fun (i : Nat) => kbI bits (i : Int)).map fun i => s.ps.getD i pas0
def kgN (s : Smp) (bits : Int) (n : Nat) : List Sgt := ((List.range n).filter fun (i : Nat) => kbI bits ((s.ps.length : Int) + (i : Int))).map fun i => s.sg.getD i sgt0
def kptF (s : Smp) (bits : Int) : Smp := { s with ps := kpN s bits s.ps.length, sg := kgN s bits s.sg.length }
theorem kpN_len (s : Smp) (bits : Int) (n : Nat) : (kpN s bits n).length ≤ n := filt_len
theorem kgN_len (s : Smp) (bits : Int) (n : Nat) : (kgN s bits n).length ≤ n := filt_len
theorem Few.kpt {s : Smp} (h : Few s) (bits : Int) : Few (kptF s bits) := ⟨h.st, Nat.le_trans (kpN_len s bits _) h.ps, Nat.le_trans (kgN_len s bits _) h.sg⟩
theorem VSm.kpt {s : Smp} (hv : VSm s) (bits : Int) : VSm (kptF s bits) := hv.sub (filt_sub s.ps pas0 _) (filt_sub s.sg sgt0 _)
set_option maxHeartbeats 4000000 in
theorem kept_c (s : Smp) (hf : Few s) (bits : Int) (hb : 0 ≤ bits) (tv pv gv : Value) (w : World) (hr : RdSm w s tv pv gv) :
    CnX Try.prog 11 #[smV s tv pv gv, vi bits] w [] (fun y : (Option Addr × Nat) × (Option Addr × Nat) => smV (kptF s bits) tv (slV (kptF s bits).ps.length y.1) (slV (kptF s bits).sg.length y.2)) (fun y w' => RdSm w' (kptF s bits) tv (slV (kptF s bits).ps.length y.1) (slV (kptF s bits).sg.length y.2)) := by
  have hr0 := hr
  have hfp := hf.ps
  have hfg := hf.sg
  have hot := hr.st.one
  have hsh : ∀ e : Int, 0 ≤ bits / 2 ^ e.toNat := fun e => Int.ediv_nonneg hb (Int.le_of_lt (Int.pow_pos (by omega)))
  obtain ⟨adp, cpp, bp, op, rfl, hadp, hcp⟩ := hr.ps.open psE_len pas0
  obtain ⟨adg, cpg, bg, og, rfl, hadg, hcg⟩ := hr.sg.open sgE_len sgt0
  refine cnx0 (vs := [_, _]) Try.func11 rfl rfl ?_
  all_goals refine tc_seq fun K1 hK1 => ?_; refine tc_region ?_; refine tl_e (e_box rfl rfl rfl) rfl (fun b2 _ => ?_); refine tl_e (e_allocN rfl) rfl (fun b4 _ => ?_); refine tl_nil ?_; ((refine hK1 ?_; try (clear hK1; clear K1)))
  all_goals refine tc_seq fun K2 hK2 => ?_; refine tc_region ?_; refine tl_q (y_loadW rfl (by repeat constructor) (by rfl)) rfl ?_; refine tl_e (e_allocN rfl) rfl (fun b5 _ => ?_); refine tl_e (e_storeW rfl rfl (by repeat constructor) (by rfl) (by rfl) (smV_ones hot rfl rfl)) rfl (fun _ _ => ?_); refine tl_nil ?_; ((refine hK2 ?_; try (clear hK2; clear K2)))
  all_goals refine tc_seq fun K3 hK3 => ?_; refine tc_region ?_; refine tl_q (y_field rfl) rfl ?_; refine tl_e (e_store1 rfl rfl (by repeat constructor) (by repeat constructor) (by rfl) (by rfl)) rfl (fun _ _ => ?_); refine tl_q (y_field rfl) rfl ?_; refine tl_e (e_store1 rfl rfl (by repeat constructor) (by repeat constructor) (by rfl) (by rfl)) rfl (fun _ _ => ?_); refine tl_nil ?_; ((refine hK3 ?_; try (clear hK3; clear K3)))
  all_goals refine tc_seq fun K4 hK4 => ?_; refine tc_seq fun K5 hK5 => ?_; refine tc_region ?_; refine tl_q (y_assign rfl) rfl ?_; refine tl_nil ?_; ((refine hK5 ?_; try (clear hK5; clear K5)))
  all_goals refine tc_block ?_
  all_goals (
   refine tc_loop (fun p : Nat × OwnB => p.1 ≤ s.ps.length ∧ okE 5 (kpN s bits p.1) p.2) (fun p => [(1, vi bits), (2, ptr b2), (4, ptr b4), (5, ptr b5), (6, vi p.1)]) (fun _ => [(w, [])]) (fun p => (b5, .cells #[vi s.B, vi s.P, vi s.L, vi s.F, tv, ouV (kpN s bits p.1).length p.2, .slice none 0 0] 26 (0, 0)) :: (b4, .cells #[vi 0, vi 0, vi 0, vi 0, .slice none 0 0, .slice none 0 0, .slice none 0 0] 26 (0, 0)) :: (b2, .cells #[vi s.B, vi s.P, vi s.L, vi s.F, tv, .slice adp s.ps.length cpp, .slice adg s.sg.length cpg] 26 (0, 0)) :: slE 58 psE (kpN s bits p.1) p.2) (fun p => s.ps.length - p.1) ?_ ?_
   · exact tk_start (0, none) ⟨Nat.zero_le _, rfl⟩ (.cons rfl (.cons rfl (.cons rfl (.cons rfl (.cons rfl .nil))))) (fun _ h => by rw [slE_none]; exact h.subl (SB.s (by repeat constructor)) (SB.s (by repeat constructor)))
   · rintro ⟨k, oo⟩ ⟨hk, hok⟩
     dsimp only at hk hok ⊢
     have hkl := kpN_len s bits k
     all_goals refine tc_seq fun K6 hK6 => ?_; refine tc_seq fun K7 hK7 => ?_; refine tc_region ?_; refine tl_q (y_move rfl) rfl ?_; refine tl_q (y_field rfl) rfl ?_; refine tl_q (y_load1 rfl (by repeat constructor) (by rfl)) rfl ?_; refine tl_q (y_len rfl) rfl ?_; refine tl_q (y_lss rfl rfl) rfl ?_; refine tl_nil ?_; ((refine hK7 ?_; try (clear hK7; clear K7)))
     all_goals (
      refine tc_cond rfl (fun hc => ?_) (fun hc => ?_)
      · try simp only [decide_eq_true_eq, decide_eq_false_iff_not, Int.not_lt, Int.not_le, Bool.not_eq_true', Bool.not_eq_false', Decidable.not_not, not_true_eq_false] at hc
        all_goals refine tc_skip ?_; ((refine hK6 ?_; try (clear hK6; clear K6)))
        all_goals refine tc_seq fun K8 hK8 => ?_; refine tc_block ?_; refine tc_seq fun K9 hK9 => ?_; (have hsk := hsh (k : Int))
        all_goals refine tc_region ?_; refine tl_q (y_move rfl) rfl ?_; refine tl_q (y_move rfl) rfl ?_; ((refine tl_q (y_conv rfl (by simp only [IntKind.wrap, IntKind.bits, IntKind.signed, Bool.false_and, Bool.true_and, Bool.false_eq_true, if_false, decide_eq_true_eq]; omega)) rfl ?_))
        all_goals refine tl_q (y_shr rfl rfl (by omega)) rfl ?_; refine tl_q (y_rem rfl rfl (by omega) (by omega)) rfl ?_; refine tl_q (y_eql rfl rfl) rfl ?_; refine tl_nil ?_; ((refine hK9 ?_; try (clear hK9; clear K9)))
        all_goals (
         refine tc_cond rfl (fun hc => ?_) (fun hc => ?_)
         · try simp only [decide_eq_true_eq, decide_eq_false_iff_not, Int.not_lt, Int.not_le, Bool.not_eq_true', Bool.not_eq_false', Decidable.not_not, not_true_eq_false] at hc
           all_goals refine tc_drawS ([(b4, .cells #[vi 0, vi 0, vi 0, vi 0, .slice none 0 0, .slice none 0 0, .slice none 0 0] 26 (0, 0)), (b2, .cells #[vi s.B, vi s.P, vi s.L, vi s.F, tv, .slice adp s.ps.length cpp, .slice adg s.sg.length cpg] 26 (0, 0))]) (by kernel_rfl) ?_; refine tx_p 0 rfl (by kernel_rfl) (y_field rfl) rfl (fun _ _ _ h => h) (fun _ h => h.subl (SB.s (by repeat constructor)) (SB.s (by repeat constructor))) ?_; refine tx_p 2 rfl (by kernel_rfl) (y_field rfl) rfl (fun _ _ _ h => h) (fun _ h => h.subl (SB.s (by repeat constructor)) (SB.s (by repeat constructor))) ?_; refine tx_qS 3 rfl (by kernel_rfl) (y_load1 rfl (by repeat constructor) (by rfl)) rfl (fun _ _ _ h => h) (fun _ h => h.subl (SB.s (by repeat constructor)) (SB.s (by repeat constructor))) ?_; refine tx_p 4 rfl (by kernel_rfl) (y_move rfl) rfl (fun _ _ _ h => h) (fun _ h => h.subl (SB.s (by repeat constructor)) (SB.s (by repeat constructor))) ?_; refine tx_p 5 rfl (by kernel_rfl) (y_index rfl rfl (by omega) (hadp (by omega))) rfl (fun _ _ _ h => h) (fun _ h => h.subl (SB.s (by repeat constructor)) (SB.s (by repeat constructor))) ?_; ((refine tx_qS 6 rfl (by kernel_rfl) (y_loadNo (n := 5) (vs := [vi (s.ps.getD k pas0).b, vi (s.ps.getD k pas0).fr, vi (s.ps.getD k pas0).to, vi (s.ps.getD k pas0).lo, vi (s.ps.getD k pas0).hi]) rfl (fun w' hw' => by rw [show Int.toNat (k : Int) * 5 = k * 5 from by omega]; exact hcp w' [] (hw'.fr (w0 := w) (S := []) (MI.m (by repeat constructor))) (by simp) k (by omega))) rfl (fun _ _ _ h => h) (fun _ h => h.subl (SB.s (by repeat constructor)) (SB.s (by repeat constructor))) ?_))
           all_goals (
            refine tx_pair 1 7 (by kernel_rfl) ?_ ?_
            rotate_left
            focus (
             (refine to_e rfl rfl (e_bsliceG rfl (.agg rfl rfl .nil) rfl rfl) (.inr ⟨fun _ _ h => h.subl (SB.s (by repeat constructor)) (SB.s (by repeat constructor)), fun _ h => h⟩) (fun _ _ => ?_))
             all_goals (refine tx_single 1 (by kernel_rfl) (to_e rfl rfl (e_y rfl (y_load1 rfl (by repeat constructor) (by rfl))) (.inr ⟨fun _ _ h => h.subl (SB.s (by repeat constructor)) (SB.s (by repeat constructor)), fun _ h => h⟩) (fun _ _ => ?_))); ((refine tx_single 8 (by kernel_rfl) (to_e rfl rfl (e_appendE (enc := psE) (xs := kpN s bits k) (ys := [s.ps.getD k pas0]) psE_len psE_one rfl rfl rfl hok (fun _ => by repeat constructor) (fun w' hw' => RdS.own0 psE_len hw' (by repeat constructor)) (by simp only [List.length_cons, List.length_nil]; omega) rfl) (.inr ⟨fun _ _ h => h.subl (SB.s (by repeat constructor)) (SB.s (by repeat constructor)), fun _ h => h⟩) (fun oo' hok' => ?_))))
             all_goals refine tx_p 9 rfl (by kernel_rfl) (y_field rfl) rfl (fun _ _ _ h => h) (fun _ h => h.subl (SB.s (by repeat constructor)) (SB.s (by repeat constructor))) ?_; refine tx_single 10 (by kernel_rfl) (to_e (S' := HG [] []) rfl rfl (e_store1 rfl rfl (by repeat constructor) (by repeat constructor) (by rfl) (by rfl)) (.inl (by kernel_rfl)) (fun _ _ => ?_))
             all_goals refine tx_done (by kernel_rfl) ?_)
            rotate_right
            focus (
             (refine to_e rfl rfl (e_y rfl (y_load1 rfl (by repeat constructor) (by rfl))) (.inr ⟨fun _ _ h => h.subl (SB.s (by repeat constructor)) (SB.s (by repeat constructor)), fun _ h => h⟩) (fun _ _ => ?_))
             all_goals refine tx_single 7 (by kernel_rfl) (to_e rfl rfl (e_bsliceG rfl (.agg rfl rfl .nil) rfl rfl) (.inr ⟨fun _ _ h => h.subl (SB.s (by repeat constructor)) (SB.s (by repeat constructor)), fun _ h => h⟩) (fun _ _ => ?_)); ((refine tx_single 8 (by kernel_rfl) (to_e rfl rfl (e_appendE (enc := psE) (xs := kpN s bits k) (ys := [s.ps.getD k pas0]) psE_len psE_one rfl rfl rfl hok (fun _ => by repeat constructor) (fun w' hw' => RdS.own0 psE_len hw' (by repeat constructor)) (by simp only [List.length_cons, List.length_nil]; omega) rfl) (.inr ⟨fun _ _ h => h.subl (SB.s (by repeat constructor)) (SB.s (by repeat constructor)), fun _ h => h⟩) (fun oo' hok' => ?_))))
             all_goals refine tx_p 9 rfl (by kernel_rfl) (y_field rfl) rfl (fun _ _ _ h => h) (fun _ h => h.subl (SB.s (by repeat constructor)) (SB.s (by repeat constructor))) ?_; refine tx_single 10 (by kernel_rfl) (to_e (S' := HG [] []) rfl rfl (e_store1 rfl rfl (by repeat constructor) (by repeat constructor) (by rfl) (by rfl)) (.inl (by kernel_rfl)) (fun _ _ => ?_))
             all_goals refine tx_done (by kernel_rfl) ?_))
           all_goals ((refine hK8 ?_; try (clear hK8; clear K8)))
           all_goals refine tc_region ?_; refine tl_q (y_move rfl) rfl ?_; refine tl_q (y_add rfl rfl (by omega)) rfl ?_; refine tl_q (y_assign rfl) rfl ?_; refine tl_nil ?_
           all_goals (
            first
            | (have hs : kpN s bits (k + 1) = kpN s bits k := filt_no (decide_eq_false hc)
               exact tk_round (k + 1, oo) ⟨by dsimp only; omega, by dsimp only; rw [hs]; exact hok⟩ (by dsimp only; omega) (.cons rfl (.cons rfl (.cons rfl (.cons rfl (.cons rfl .nil))))) (fun _ h => by dsimp only; rw [hs]; exact h.subl (SB.s (by repeat constructor)) (SB.s (by repeat constructor))))
            | (have hs : kpN s bits (k + 1) = kpN s bits k ++ [s.ps.getD k pas0] := filt_yes (decide_eq_true hc)
               exact tk_round (k + 1, oo') ⟨by dsimp only; omega, by dsimp only; rw [hs]; exact hok'⟩ (by dsimp only; omega) (.cons rfl (.cons rfl (.cons rfl (.cons rfl (.cons rfl .nil))))) (fun _ h => by dsimp only; rw [hs]; exact h.subl (SB.s (by repeat constructor)) (SB.s (by repeat constructor)))))
         · try simp only [decide_eq_true_eq, decide_eq_false_iff_not, Int.not_lt, Int.not_le, Bool.not_eq_true', Bool.not_eq_false', Decidable.not_not, not_true_eq_false] at hc
           all_goals refine tc_skip ?_; ((refine hK8 ?_; try (clear hK8; clear K8)))
           all_goals refine tc_region ?_; refine tl_q (y_move rfl) rfl ?_; refine tl_q (y_add rfl rfl (by omega)) rfl ?_; refine tl_q (y_assign rfl) rfl ?_; refine tl_nil ?_
           all_goals (
            first
            | (have hs : kpN s bits (k + 1) = kpN s bits k := filt_no (decide_eq_false hc)
               exact tk_round (k + 1, oo) ⟨by dsimp only; omega, by dsimp only; rw [hs]; exact hok⟩ (by dsimp only; omega) (.cons rfl (.cons rfl (.cons rfl (.cons rfl (.cons rfl .nil))))) (fun _ h => by dsimp only; rw [hs]; exact h.subl (SB.s (by repeat constructor)) (SB.s (by repeat constructor))))
            | (have hs : kpN s bits (k + 1) = kpN s bits k ++ [s.ps.getD k pas0] := filt_yes (decide_eq_true hc)
               exact tk_round (k + 1, oo') ⟨by dsimp only; omega, by dsimp only; rw [hs]; exact hok'⟩ (by dsimp only; omega) (.cons rfl (.cons rfl (.cons rfl (.cons rfl (.cons rfl .nil))))) (fun _ h => by dsimp only; rw [hs]; exact h.subl (SB.s (by repeat constructor)) (SB.s (by repeat constructor))))))
      · try simp only [decide_eq_true_eq, decide_eq_false_iff_not, Int.not_lt, Int.not_le, Bool.not_eq_true', Bool.not_eq_false', Decidable.not_not, not_true_eq_false] at hc
        all_goals refine tc_exit ?_; ((refine hK4 ?_; try (clear hK4; clear K4)))
        all_goals refine tc_seq fun K10 hK10 => ?_; refine tc_seq fun K11 hK11 => ?_; refine tc_region ?_; refine tl_q (y_assign rfl) rfl ?_; refine tl_nil ?_; ((refine hK11 ?_; try (clear hK11; clear K11)))
        all_goals refine tc_block ?_
        all_goals (
         refine tc_loop (fun p : Nat × OwnB => p.1 ≤ s.sg.length ∧ okE 3 (kgN s bits p.1) p.2) (fun p => [(1, vi bits), (2, ptr b2), (4, ptr b4), (5, ptr b5), (7, vi p.1)]) (fun _ => [(w, [])]) (fun p => (b5, .cells #[vi s.B, vi s.P, vi s.L, vi s.F, tv, ouV (kpN s bits k).length oo, ouV (kgN s bits p.1).length p.2] 26 (0, 0)) :: (b4, .cells #[vi 0, vi 0, vi 0, vi 0, .slice none 0 0, .slice none 0 0, .slice none 0 0] 26 (0, 0)) :: (b2, .cells #[vi s.B, vi s.P, vi s.L, vi s.F, tv, .slice adp s.ps.length cpp, .slice adg s.sg.length cpg] 26 (0, 0)) :: (slE 62 sgE (kgN s bits p.1) p.2 ++ slE 58 psE (kpN s bits k) oo)) (fun p => s.sg.length - p.1) ?_ ?_
         · exact tk_start (0, none) ⟨Nat.zero_le _, rfl⟩ (.cons rfl (.cons rfl (.cons rfl (.cons rfl (.cons rfl .nil))))) (fun _ h => by rw [slE_none]; exact h.subl (SB.s (by repeat constructor)) (SB.s (by repeat constructor)))
         · rintro ⟨j, oo2⟩ ⟨hj, hok2⟩
           dsimp only at hj hok2 ⊢
           have hjl := kgN_len s bits j
           all_goals refine tc_seq fun K12 hK12 => ?_; refine tc_seq fun K13 hK13 => ?_; refine tc_region ?_; refine tl_q (y_move rfl) rfl ?_; refine tl_q (y_field rfl) rfl ?_; refine tl_q (y_load1 rfl (by repeat constructor) (by rfl)) rfl ?_; refine tl_q (y_len rfl) rfl ?_; refine tl_q (y_lss rfl rfl) rfl ?_; refine tl_nil ?_; ((refine hK13 ?_; try (clear hK13; clear K13)))
           all_goals (
            refine tc_cond rfl (fun hc => ?_) (fun hc => ?_)
            · try simp only [decide_eq_true_eq, decide_eq_false_iff_not, Int.not_lt, Int.not_le, Bool.not_eq_true', Bool.not_eq_false', Decidable.not_not, not_true_eq_false] at hc
              all_goals refine tc_skip ?_; ((refine hK12 ?_; try (clear hK12; clear K12)))
              all_goals refine tc_seq fun K14 hK14 => ?_; refine tc_block ?_; refine tc_seq fun K15 hK15 => ?_; (have hsk := hsh ((s.ps.length : Int) + (j : Int)))
              all_goals refine tc_region ?_; refine tl_q (y_move rfl) rfl ?_; refine tl_q (y_field rfl) rfl ?_; refine tl_q (y_load1 rfl (by repeat constructor) (by rfl)) rfl ?_; refine tl_q (y_len rfl) rfl ?_; refine tl_q (y_move rfl) rfl ?_; refine tl_q (y_add rfl rfl (by omega)) rfl ?_; ((refine tl_q (y_conv rfl (by simp only [IntKind.wrap, IntKind.bits, IntKind.signed, Bool.false_and, Bool.true_and, Bool.false_eq_true, if_false, decide_eq_true_eq]; omega)) rfl ?_))
              all_goals refine tl_q (y_shr rfl rfl (by omega)) rfl ?_; refine tl_q (y_rem rfl rfl (by omega) (by omega)) rfl ?_; refine tl_q (y_eql rfl rfl) rfl ?_; refine tl_nil ?_; ((refine hK15 ?_; try (clear hK15; clear K15)))
              all_goals (
               refine tc_cond rfl (fun hc => ?_) (fun hc => ?_)
               · try simp only [decide_eq_true_eq, decide_eq_false_iff_not, Int.not_lt, Int.not_le, Bool.not_eq_true', Bool.not_eq_false', Decidable.not_not, not_true_eq_false] at hc
                 all_goals refine tc_drawS ([(b4, .cells #[vi 0, vi 0, vi 0, vi 0, .slice none 0 0, .slice none 0 0, .slice none 0 0] 26 (0, 0)), (b2, .cells #[vi s.B, vi s.P, vi s.L, vi s.F, tv, .slice adp s.ps.length cpp, .slice adg s.sg.length cpg] 26 (0, 0))]) (by kernel_rfl) ?_; refine tx_p 0 rfl (by kernel_rfl) (y_field rfl) rfl (fun _ _ _ h => h) (fun _ h => h.subl (SB.s (by repeat constructor)) (SB.s (by repeat constructor))) ?_; refine tx_p 2 rfl (by kernel_rfl) (y_field rfl) rfl (fun _ _ _ h => h) (fun _ h => h.subl (SB.s (by repeat constructor)) (SB.s (by repeat constructor))) ?_; refine tx_qS 3 rfl (by kernel_rfl) (y_load1 rfl (by repeat constructor) (by rfl)) rfl (fun _ _ _ h => h) (fun _ h => h.subl (SB.s (by repeat constructor)) (SB.s (by repeat constructor))) ?_; refine tx_p 4 rfl (by kernel_rfl) (y_move rfl) rfl (fun _ _ _ h => h) (fun _ h => h.subl (SB.s (by repeat constructor)) (SB.s (by repeat constructor))) ?_; refine tx_p 5 rfl (by kernel_rfl) (y_index rfl rfl (by omega) (hadg (by omega))) rfl (fun _ _ _ h => h) (fun _ h => h.subl (SB.s (by repeat constructor)) (SB.s (by repeat constructor))) ?_; ((refine tx_qS 6 rfl (by kernel_rfl) (y_loadNo (n := 3) (vs := [vi (s.sg.getD j sgt0).b, vi (s.sg.getD j sgt0).h, .bool (s.sg.getD j sgt0).wh]) rfl (fun w' hw' => by rw [show Int.toNat (j : Int) * 3 = j * 3 from by omega]; exact hcg w' [] (hw'.fr (w0 := w) (S := []) (MI.m (by repeat constructor))) (by simp) j (by omega))) rfl (fun _ _ _ h => h) (fun _ h => h.subl (SB.s (by repeat constructor)) (SB.s (by repeat constructor))) ?_))
                 all_goals (
                  refine tx_pair 1 7 (by kernel_rfl) ?_ ?_
                  rotate_left
                  focus (
                   (refine to_e rfl rfl (e_bsliceG rfl (.agg rfl rfl .nil) rfl rfl) (.inr ⟨fun _ _ h => h.subl (SB.s (by repeat constructor)) (SB.s (by repeat constructor)), fun _ h => h⟩) (fun _ _ => ?_))
                   all_goals (refine tx_single 1 (by kernel_rfl) (to_e rfl rfl (e_y rfl (y_load1 rfl (by repeat constructor) (by rfl))) (.inr ⟨fun _ _ h => h.subl (SB.s (by repeat constructor)) (SB.s (by repeat constructor)), fun _ h => h⟩) (fun _ _ => ?_))); ((refine tx_single 8 (by kernel_rfl) (to_e rfl rfl (e_appendE (enc := sgE) (xs := kgN s bits j) (ys := [s.sg.getD j sgt0]) sgE_len sgE_one rfl rfl rfl hok2 (fun _ => by repeat constructor) (fun w' hw' => RdS.own0 sgE_len hw' (by repeat constructor)) (by simp only [List.length_cons, List.length_nil]; omega) rfl) (.inr ⟨fun _ _ h => h.subl (SB.s (by repeat constructor)) (SB.s (by repeat constructor)), fun _ h => h⟩) (fun oo' hok' => ?_))))
                   all_goals refine tx_p 9 rfl (by kernel_rfl) (y_field rfl) rfl (fun _ _ _ h => h) (fun _ h => h.subl (SB.s (by repeat constructor)) (SB.s (by repeat constructor))) ?_; refine tx_single 10 (by kernel_rfl) (to_e (S' := HG [] []) rfl rfl (e_store1 rfl rfl (by repeat constructor) (by repeat constructor) (by rfl) (by rfl)) (.inl (by kernel_rfl)) (fun _ _ => ?_))
                   all_goals refine tx_done (by kernel_rfl) ?_)
                  rotate_right
                  focus (
                   (refine to_e rfl rfl (e_y rfl (y_load1 rfl (by repeat constructor) (by rfl))) (.inr ⟨fun _ _ h => h.subl (SB.s (by repeat constructor)) (SB.s (by repeat constructor)), fun _ h => h⟩) (fun _ _ => ?_))
                   all_goals refine tx_single 7 (by kernel_rfl) (to_e rfl rfl (e_bsliceG rfl (.agg rfl rfl .nil) rfl rfl) (.inr ⟨fun _ _ h => h.subl (SB.s (by repeat constructor)) (SB.s (by repeat constructor)), fun _ h => h⟩) (fun _ _ => ?_)); ((refine tx_single 8 (by kernel_rfl) (to_e rfl rfl (e_appendE (enc := sgE) (xs := kgN s bits j) (ys := [s.sg.getD j sgt0]) sgE_len sgE_one rfl rfl rfl hok2 (fun _ => by repeat constructor) (fun w' hw' => RdS.own0 sgE_len hw' (by repeat constructor)) (by simp only [List.length_cons, List.length_nil]; omega) rfl) (.inr ⟨fun _ _ h => h.subl (SB.s (by repeat constructor)) (SB.s (by repeat constructor)), fun _ h => h⟩) (fun oo' hok' => ?_))))
                   all_goals refine tx_p 9 rfl (by kernel_rfl) (y_field rfl) rfl (fun _ _ _ h => h) (fun _ h => h.subl (SB.s (by repeat constructor)) (SB.s (by repeat constructor))) ?_; refine tx_single 10 (by kernel_rfl) (to_e (S' := HG [] []) rfl rfl (e_store1 rfl rfl (by repeat constructor) (by repeat constructor) (by rfl) (by rfl)) (.inl (by kernel_rfl)) (fun _ _ => ?_))
                   all_goals refine tx_done (by kernel_rfl) ?_))
                 all_goals ((refine hK14 ?_; try (clear hK14; clear K14)))
                 all_goals refine tc_region ?_; refine tl_q (y_move rfl) rfl ?_; refine tl_q (y_add rfl rfl (by omega)) rfl ?_; refine tl_q (y_assign rfl) rfl ?_; refine tl_nil ?_
                 all_goals (
                  first
                  | (have hs : kgN s bits (j + 1) = kgN s bits j := filt_no (decide_eq_false hc)
                     exact tk_round (j + 1, oo2) ⟨by dsimp only; omega, by dsimp only; rw [hs]; exact hok2⟩ (by dsimp only; omega) (.cons rfl (.cons rfl (.cons rfl (.cons rfl (.cons rfl .nil))))) (fun _ h => by dsimp only; rw [hs]; exact h.subl (SB.s (by repeat constructor)) (SB.s (by repeat constructor))))
                  | (have hs : kgN s bits (j + 1) = kgN s bits j ++ [s.sg.getD j sgt0] := filt_yes (decide_eq_true hc)
                     exact tk_round (j + 1, oo') ⟨by dsimp only; omega, by dsimp only; rw [hs]; exact hok'⟩ (by dsimp only; omega) (.cons rfl (.cons rfl (.cons rfl (.cons rfl (.cons rfl .nil))))) (fun _ h => by dsimp only; rw [hs]; exact h.subl (SB.s (by repeat constructor)) (SB.s (by repeat constructor)))))
               · try simp only [decide_eq_true_eq, decide_eq_false_iff_not, Int.not_lt, Int.not_le, Bool.not_eq_true', Bool.not_eq_false', Decidable.not_not, not_true_eq_false] at hc
                 all_goals refine tc_skip ?_; ((refine hK14 ?_; try (clear hK14; clear K14)))
                 all_goals refine tc_region ?_; refine tl_q (y_move rfl) rfl ?_; refine tl_q (y_add rfl rfl (by omega)) rfl ?_; refine tl_q (y_assign rfl) rfl ?_; refine tl_nil ?_
                 all_goals (
                  first
                  | (have hs : kgN s bits (j + 1) = kgN s bits j := filt_no (decide_eq_false hc)
                     exact tk_round (j + 1, oo2) ⟨by dsimp only; omega, by dsimp only; rw [hs]; exact hok2⟩ (by dsimp only; omega) (.cons rfl (.cons rfl (.cons rfl (.cons rfl (.cons rfl .nil))))) (fun _ h => by dsimp only; rw [hs]; exact h.subl (SB.s (by repeat constructor)) (SB.s (by repeat constructor))))
                  | (have hs : kgN s bits (j + 1) = kgN s bits j ++ [s.sg.getD j sgt0] := filt_yes (decide_eq_true hc)
                     exact tk_round (j + 1, oo') ⟨by dsimp only; omega, by dsimp only; rw [hs]; exact hok'⟩ (by dsimp only; omega) (.cons rfl (.cons rfl (.cons rfl (.cons rfl (.cons rfl .nil))))) (fun _ h => by dsimp only; rw [hs]; exact h.subl (SB.s (by repeat constructor)) (SB.s (by repeat constructor))))))
            · try simp only [decide_eq_true_eq, decide_eq_false_iff_not, Int.not_lt, Int.not_le, Bool.not_eq_true', Bool.not_eq_false', Decidable.not_not, not_true_eq_false] at hc
              all_goals refine tc_exit ?_; ((refine hK10 ?_; try (clear hK10; clear K10)))
              all_goals refine tc_seq fun K16 hK16 => ?_; refine tc_region ?_; refine tl_q (y_loadW rfl (by repeat constructor) (by rfl)) rfl ?_; refine tl_e (e_storeW rfl rfl (by repeat constructor) (by rfl) (by rfl) (smV_ones (s := kptF s bits) hot rfl rfl)) rfl (fun _ _ => ?_); refine tl_nil ?_; ((refine hK16 ?_; try (clear hK16; clear K16)))
              all_goals refine tc_ret ?_; (repeat (first | refine tk_then_ret ?_))
              all_goals (refine tk_ret rfl rfl (.cons (.agg inferInstance rfl (by repeat constructor) (by rfl)) .nil) ?_)
              all_goals (
               obtain rfl : k = s.ps.length := by omega
               obtain rfl : j = s.sg.length := by omega
               exact fun w' hw' => ⟨(ouA oo, ouA oo2), rfl, hw'.fr (w0 := w) (S := []) (MI.m (by repeat constructor)), hr0.st.fr (hw'.fr (w0 := w) (S := []) (MI.m (by repeat constructor))), RdS.ofO psE_len hok hw' (by repeat constructor), RdS.ofO sgE_len hok2 hw' (by repeat constructor)⟩)))))
end Go.Sp
/-
  What is so of a bottle depends on its own entries alone.
-/
namespace Go.Sp
open Go Go.Proofs
abbrev psO (s : Smp) (b : Int) : List Pas := s.ps.filter fun p => decide (p.b = b)
abbrev sgO (s : Smp) (b : Int) : List Sgt := s.sg.filter fun g => decide (g.b = b)
/-- Two samples are the same as to a bottle. -/
structure SamB (s s' : Smp) (b : Int) : Prop where
  L : s.L = s'.L
  F : s.F = s'.F
  st : s.st = s'.st
  ps : psO s b = psO s' b
  sg : sgO s b = sgO s' b
def zStp (b h : Int) (acc : Option Int) (q : Pas × Int) : Option Int := match acc with
  | none => none
  | some a => if q.1.b = b ∧ q.2 = h then (if q.1.fr = a then some q.1.to else none) else some a
theorem zStp_no {b h : Int} {acc : Option Int} {q : Pas × Int} (hq : ¬ q.1.b = b) : zStp b h acc q = acc := by
  cases acc with
  | none => rfl
  | some a =>
    show (if q.1.b = b ∧ q.2 = h then (if q.1.fr = a then some q.1.to else none) else some a) = some a
    exact if_neg (fun g => hq g.1)
theorem zStp_filt (b h : Int) : ∀ (l : List (Pas × Int)) (acc : Option Int), l.foldl (zStp b h) acc = (l.filter fun q => decide (q.1.b = b)).foldl (zStp b h) acc
  | [], _ => rfl
  | q :: l, acc => by
    rw [List.foldl_cons, List.filter_cons]
    by_cases hq : q.1.b = b
    · rw [if_pos (by simpa using hq), List.foldl_cons]; exact zStp_filt b h l _
    · rw [if_neg (by simpa using hq), zStp_no hq]; exact zStp_filt b h l _
theorem pasN_fold (s : Smp) (b : Int) (ts : List Int) (hts : ts.length = s.ps.length) (h a0 : Int) : ∀ n, n ≤ s.ps.length → pasN s b ts h a0 n = ((s.ps.zip ts).take n).foldl (zStp b h) (some a0)
  | 0, _ => rfl
  | n + 1, hn => by
    have hz : n < (s.ps.zip ts).length := by rw [List.length_zip]; omega
    have e : (s.ps.zip ts).take (n + 1) = (s.ps.zip ts).take n ++ [(s.ps.getD n pas0, ts.getD n 0)] := by
      rw [List.take_succ, List.getElem?_eq_getElem hz]
      simp [List.getElem?_eq_getElem (show n < s.ps.length by omega), List.getElem?_eq_getElem (show n < ts.length by omega)]
    rw [pasN, e, List.foldl_append, ← pasN_fold s b ts hts h a0 n (by omega)]
    cases pasN s b ts h a0 n <;> rfl
def zch (F b : Int) (z : List (Pas × Int)) : Nat → Option (List Int × Int)
  | 0 => some ([], F)
  | h + 1 => match zch F b z h with
    | none => none
    | some (c, a) => match z.foldl (zStp b h) (some a) with
      | none => none
      | some a' => some (c ++ [a'], a')
abbrev zOwn (b : Int) (ps : List Pas) (ts : List Int) : List (Pas × Int) := (ps.zip ts).filter fun q => decide (q.1.b = b)
theorem chN_z (s : Smp) (b : Int) (ts : List Int) (hts : ts.length = s.ps.length) : ∀ n, chN s b ts n = zch s.F b (zOwn b s.ps ts) n
  | 0 => rfl
  | n + 1 => by
    rw [chN, zch, chN_z s b ts hts n]
    cases zch s.F b (zOwn b s.ps ts) n with
    | none => rfl
    | some q =>
      obtain ⟨c, a⟩ := q
      simp only
      rw [pasN_fold s b ts hts n a _ (Nat.le_refl _), List.take_of_length_le (by rw [List.length_zip]; omega), zStp_filt]
      rfl
def zchF (L F b : Int) (z : List (Pas × Int)) : Option (List Int) := (zch F b z (L + 1).toNat).map fun q => padC q.1
theorem genT_pre (b : Int) : ∀ (ps : List Pas) (pre : List Int), genT b ps pre = (genT b ps []).map fun x => pre ++ x
  | [], pre => by simp [genT]
  | p :: ps, pre => by
    rw [genT, genT]
    split
    · rw [List.map_flatMap]
      refine congrArg (fun f => List.flatMap f _) (funext fun j => ?_)
      rw [genT_pre b ps (pre ++ [_]), genT_pre b ps ([] ++ [_]), List.map_map]
      refine List.map_congr_left fun x _ => ?_
      simp
    · rw [genT_pre b ps (pre ++ [_]), genT_pre b ps ([] ++ [_]), List.map_map]
      refine List.map_congr_left fun x _ => ?_
      simp
def zAll (b : Int) (ps : List Pas) : List (List (Pas × Int)) := (genT b ps []).map (zOwn b ps)
theorem zAll_own {b : Int} {p : Pas} {ps : List Pas} (h : p.b = b) : zAll b (p :: ps) = (List.range (p.hi - p.lo + 1).toNat).flatMap fun (j : Nat) => (zAll b ps).map fun z => (p, p.lo + (j : Int)) :: z := by
  unfold zAll
  rw [genT, if_pos h, List.map_flatMap]
  refine congrArg (fun f => List.flatMap f _) (funext fun j => ?_)
  rw [genT_pre, List.map_map, List.map_map]
  refine List.map_congr_left fun x _ => ?_
  simp [zOwn, h]
theorem zAll_oth {b : Int} {p : Pas} {ps : List Pas} (h : ¬ p.b = b) : zAll b (p :: ps) = zAll b ps := by
  unfold zAll
  rw [genT, if_neg h, genT_pre, List.map_map]
  refine List.map_congr_left fun x _ => ?_
  simp [zOwn, h]
theorem zAll_filt (b : Int) : ∀ ps : List Pas, zAll b ps = zAll b (ps.filter fun p => decide (p.b = b))
  | [] => rfl
  | p :: ps => by
    rw [List.filter_cons]
    by_cases h : p.b = b
    · rw [if_pos (by simpa using h), zAll_own h, zAll_own h, zAll_filt b ps]
    · rw [if_neg (by simpa using h), zAll_oth h]; exact zAll_filt b ps
def zDd (L F b : Int) (l : List (List (Pas × Int))) : List (List Int) := l.foldl (fun acc z => match zchF L F b z with
  | none => acc
  | some c => if acc.getLast? = some c then acc else acc ++ [c]) []
theorem foldl_congr {α β : Type} {f g : β → α → β} : ∀ {l : List α} {z : β}, (∀ x ∈ l, ∀ a, f a x = g a x) → l.foldl f z = l.foldl g z
  | [], _, _ => rfl
  | x :: l, z, h => by
    rw [List.foldl_cons, List.foldl_cons, h x (List.mem_cons_self ..)]
    exact foldl_congr fun y hy => h y (List.mem_cons_of_mem _ hy)
theorem chF_z {s : Smp} {b : Int} {ts : List Int} (hts : ts.length = s.ps.length) : chF s b ts = zchF s.L s.F b (zOwn b s.ps ts) := by
  unfold chF zchF
  rw [chN_z s b ts hts]
theorem chainsL_z (s : Smp) (b : Int) : chainsL s b = zDd s.L s.F b (zAll b s.ps) := by
  show ddC s b (timesL s b) = _
  unfold ddC zDd zAll timesL
  rw [List.foldl_map]
  refine foldl_congr fun ts hts acc => ?_
  rw [chF_z (genT_len b s.ps [] ts hts |>.trans (by simp))]
  rfl
theorem SamB.chains {s s' : Smp} {b : Int} (h : SamB s s' b) : chainsL s b = chainsL s' b := by
  rw [chainsL_z, chainsL_z, h.L, h.F, zAll_filt, zAll_filt b s'.ps]
  exact congrArg (fun l => zDd s'.L s'.F b (zAll b l)) h.ps
theorem seen_own (s : Smp) (b h : Int) (x : Bool) : seenB s b h x = (sgO s b).all (sgB b h x) := by
  unfold seenB sgO
  rw [List.all_filter]
  refine congrArg (fun f => s.sg.all f) (funext fun g => ?_)
  unfold sgB
  by_cases hb : g.b = b
  · rw [decide_eq_true hb]; rfl
  · rw [decide_eq_true hb, decide_eq_false hb]; rfl
theorem SamB.seen {s s' : Smp} {b : Int} (h : SamB s s' b) : seenB s b = seenB s' b := funext fun hr => funext fun x => by rw [seen_own, seen_own, h.sg]
theorem SamB.step {s s' : Smp} {b : Int} (h : SamB s s' b) : stepN s b = stepN s' b := funext fun hr => funext fun st => funext fun x => funext fun n => by
  unfold stepN stp1
  rw [h.seen]
theorem SamB.stB {s s' : Smp} {b : Int} (h : SamB s s' b) : stB s = stB s' := funext fun c => funext fun hr => by unfold Go.Sp.stB; rw [h.st]
theorem SamB.rst {s s' : Smp} {b : Int} (h : SamB s s' b) (c : List Int) : ∀ k, rstF s b c k = rstF s' b c k
  | 0 => funext fun x => by rw [rstF, rstF]
  | k + 1 => funext fun x => by
    rw [rstF, rstF, SamB.rst h c k]
    show minP (stepN s b _ _ x 4) _ (stepN s b _ _ x 4).length = minP (stepN s' b _ _ x 4) _ (stepN s' b _ _ x 4).length
    rw [h.step, h.stB, h.L]
theorem SamB.can {s s' : Smp} {b : Int} (h : SamB s s' b) : canF s b = canF s' b := funext fun c => by unfold canF; rw [h.rst, h.L]
theorem SamB.poss {s s' : Smp} {b : Int} (h : SamB s s' b) : possF s b = possF s' b := by unfold possF; rw [h.chains, h.can]
theorem SamB.on {s s' : Smp} {b : Int} (h : SamB s s' b) (c : List Int) : onL s b c = onL s' b c := funext fun hr => funext fun x => funext fun n => by
  unfold onL
  show ((stepN s b _ _ x 4).take n).filter _ = ((stepN s' b _ _ x 4).take n).filter _
  rw [h.rst, h.step, h.stB, h.L]
theorem SamB.cnd {s s' : Smp} {b : Int} (h : SamB s s' b) (c : List Int) : cnd s b c = cnd s' b c := funext fun hr => funext fun now => by
  show (now.flatMap fun x => onL s b c hr x (stepN s b hr (Go.Sp.stB s c hr) x 4).length) = (now.flatMap fun x => onL s' b c hr x (stepN s' b hr (Go.Sp.stB s' c hr) x 4).length)
  rw [h.on, h.step, h.stB]
theorem SamB.now {s s' : Smp} {b : Int} (h : SamB s s' b) (c : List Int) : ∀ n, nowN s b c n = nowN s' b c n
  | 0 => rfl
  | n + 1 => by
    rw [nowN, nowN, SamB.now h c n]
    exact congrArg (fun f => ddB ((f n (nowN s' b c n)).map Prod.fst)) (h.cnd c)
theorem SamB.opn {s s' : Smp} {b : Int} (h : SamB s s' b) (c : List Int) : opnL s b c = opnL s' b c := by
  have e : opnH s b c = opnH s' b c := funext fun n => by
    unfold opnH
    rw [h.now c n]
    exact congrArg (fun f => (f n (nowN s' b c n)).any fun y => decide (y.2 = 1)) (h.cnd c)
  show outN s b c _ _ = outN s' b c _ _
  unfold outN
  rw [e, h.L]
theorem ent_ps {s : Smp} {b : Int} {i : Nat} (hi : i < s.ps.length) (hb : (s.ps.getD i pas0).b = b) : (i : Int) ∈ entL s b := List.mem_append_left _ (List.mem_map.2 ⟨i, List.mem_filter.2 ⟨List.mem_range.2 hi, decide_eq_true hb⟩, rfl⟩)
theorem ent_sg {s : Smp} {b : Int} {i : Nat} (hi : i < s.sg.length) (hb : (s.sg.getD i sgt0).b = b) : (s.ps.length : Int) + (i : Int) ∈ entL s b := List.mem_append_right _ (List.mem_map.2 ⟨i, List.mem_filter.2 ⟨List.mem_range.2 hi, decide_eq_true hb⟩, rfl⟩)
theorem filt_own {α : Type} {l : List α} {d : α} {p p' : Nat → Bool} {o : α → Bool} (h : ∀ i, i < l.length → o (l.getD i d) = true → p i = p' i) : ((((List.range l.length).filter p).map fun i => l.getD i d).filter o) = ((((List.range l.length).filter p').map fun i => l.getD i d).filter o) := by
  rw [List.filter_map, List.filter_map, List.filter_filter, List.filter_filter]
  refine congrArg _ (List.filter_congr fun i hi => ?_)
  rw [List.mem_range] at hi
  show (o (l.getD i d) && p i) = (o (l.getD i d) && p' i)
  cases ho : o (l.getD i d)
  · rfl
  · rw [h i hi ho]
theorem wth_sam {s : Smp} {b : Int} {out out' : List Int} (h : ∀ e ∈ entL s b, (e ∈ out ↔ e ∈ out')) : SamB (wthF s out) (wthF s out') b :=
  ⟨rfl, rfl, rfl,
    filt_own (l := s.ps) (d := pas0) (o := fun p => decide (p.b = b)) fun i hi ho => congrArg (fun b => !b) (decide_eq_decide.2 (h _ (ent_ps hi (by simpa using ho)))),
    filt_own (l := s.sg) (d := sgt0) (o := fun g => decide (g.b = b)) fun i hi ho => congrArg (fun b => !b) (decide_eq_decide.2 (h _ (ent_sg hi (by simpa using ho))))⟩
end Go.Sp
/-
  The document's examples, computed.
-/
namespace Go.Sp
open Go Go.Proofs
def twoS (m : List Sgt) : Smp := ⟨2, 3, 4, 0, [false, false, true], [⟨0, 0, 1, 1, 2⟩, ⟨0, 1, 2, 3, 3⟩, ⟨1, 0, 1, 2, 2⟩], [⟨0, 2, true⟩, ⟨1, 4, true⟩] ++ m⟩
abbrev badG : Sgt := ⟨0, 2, false⟩
theorem two_few (m : List Sgt) (h : m.length ≤ 1) : Few (twoS m) := ⟨by simp [twoS], by simp [twoS], by simp [twoS]; omega⟩
theorem aw_h : hdE (twoS []) 0 1 = 0 ∧ hdL (twoS []) 0 1 = [0, 1] := by decide +kernel
theorem aw_o : opE (twoS []) 0 = 0 ∧ opL (twoS []) 0 = [2] := by decide +kernel
theorem aw_v : vdE (twoS []) = 0 ∧ vdL (twoS []) = [3, 2] := by decide +kernel
theorem aw_a : alF (twoS []) = 3 := by decide +kernel
theorem aw_l : lsL (twoS []) = [0, 0] := by decide +kernel
theorem aw_f : frsE (twoS [badG]) = (5, 0) := by decide +kernel
theorem aw_x : chkS (twoS [badG]) = 0 ∧ lvN (twoS [badG]) 2 = [3] := by decide +kernel
theorem aw_x2 : levL (twoS [badG]) = [3] := by
  unfold levL lvS
  rw [if_pos aw_x.1, show (twoS [badG]).B.toNat = 2 from rfl, aw_x.2]
  simp
end Go.Sp
/-
  The document's examples, walked: two, awake.
-/
namespace Go.Sp
open Go Go.Proofs
theorem between_c (a b : Int) (w : World) : CnV Try.prog 37 #[vi a, vi b] w (.agg #[vi a, vi b]) := by
  refine cnv (vs := [_, _]) Try.func37 rfl rfl ?_
  all_goals refine tc_seq fun K1 hK1 => ?_
  all_goals refine tc_region ?_
  all_goals refine tl_e (e_allocN rfl) rfl (fun b4 _ => ?_)
  all_goals refine tl_nil ?_
  all_goals (refine hK1 ?_; try (clear hK1; clear K1))
  all_goals refine tc_seq fun K2 hK2 => ?_
  all_goals refine tc_region ?_
  all_goals refine tl_q (y_move rfl) rfl ?_
  all_goals refine tl_q (y_move rfl) rfl ?_
  all_goals (first | refine tl_q (y_build_g (by repeat constructor)) rfl ?_ | refine tl_q (y_build_2 rfl rfl rfl rfl) rfl ?_)
  all_goals refine tl_e (e_storeW rfl rfl (by repeat constructor) (by rfl) (by rfl) (by simp [Value.oneCell'])) rfl (fun _ _ => ?_)
  all_goals refine tl_nil ?_
  all_goals (refine hK2 ?_; try (clear hK2; clear K2))
  all_goals refine tc_ret ?_
  all_goals (repeat (first | refine tk_then_ret ?_ | refine tk_block_ret ?_ | refine tk_scope_ret ?_))
  all_goals first | refine tk_ret rfl rfl (.cons (.agg inferInstance rfl (by repeat constructor) (by rfl)) .nil) ?_ | refine tk_retM rfl (by repeat constructor) rfl (.cons (.agg inferInstance rfl (by repeat constructor) (by rfl)) .nil) ?_
  all_goals (
   exact fun w' hw' => ⟨rfl, hw'.fr (by simp)⟩)
set_option maxHeartbeats 1000000 in
theorem two_c (m : List Sgt) (hm : m.length ≤ 1) (mv : Value) (w : World) (hr : RdS 3 sgE w mv m) :
    CnX Try.prog 18 #[mv] w [] (fun y : Nat × Nat × Nat × Nat × List Value => smV (twoS m) (.slice (some ⟨y.1, 0, none⟩) 3 3) (.slice (some ⟨y.2.1, 0, none⟩) 3 3) (.slice (some ⟨y.2.2.1, 0, none⟩) (2 + m.length) y.2.2.2.1))
      (fun y w' => RdSm w' (twoS m) (.slice (some ⟨y.1, 0, none⟩) 3 3) (.slice (some ⟨y.2.1, 0, none⟩) 3 3) (.slice (some ⟨y.2.2.1, 0, none⟩) (2 + m.length) y.2.2.2.1)) := by
  refine cnx0 (vs := [_]) Try.func18 rfl rfl ?_
  all_goals refine tc_seq fun K1 hK1 => ?_
  all_goals refine tc_region ?_
  all_goals refine tl_e (e_allocN rfl) rfl (fun b2 _ => ?_)
  all_goals refine tl_nil ?_
  all_goals (refine hK1 ?_; try (clear hK1; clear K1))
  all_goals refine tc_seq fun K2 hK2 => ?_
  all_goals refine tc_region ?_
  all_goals (first | refine tl_e (e_bslice rfl (by (repeat (first | exact .nil | apply PV.one rfl rfl | apply PV.two rfl)); done) rfl rfl) rfl (fun b3 _ => ?_) | refine tl_e (e_bsliceG rfl (.agg rfl rfl (.agg rfl rfl (.agg rfl rfl .nil))) rfl rfl) rfl (fun b3 _ => ?_) | refine tl_e (e_bsliceG rfl (.agg rfl rfl (.agg rfl rfl .nil)) rfl rfl) rfl (fun b3 _ => ?_))
  all_goals refine tl_e (e_callV rfl (.cons rfl (.cons rfl .nil)) (fun w' _ => between_c _ _ w')) rfl (fun _ _ => ?_)
  all_goals (first | refine tl_q (y_build_g (by repeat constructor)) rfl ?_ | refine tl_q (y_build_2 rfl rfl rfl rfl) rfl ?_)
  all_goals refine tl_e (e_callV rfl (.cons rfl (.cons rfl .nil)) (fun w' _ => between_c _ _ w')) rfl (fun _ _ => ?_)
  all_goals refine tl_q (y_build_g (by repeat constructor)) rfl ?_
  all_goals refine tl_e (e_callV rfl (.cons rfl (.cons rfl .nil)) (fun w' _ => between_c _ _ w')) rfl (fun _ _ => ?_)
  all_goals refine tl_q (y_build_g (by repeat constructor)) rfl ?_
  all_goals (first | refine tl_e (e_bslice rfl (by (repeat (first | exact .nil | apply PV.one rfl rfl | apply PV.two rfl)); done) rfl rfl) rfl (fun b10 _ => ?_) | refine tl_e (e_bsliceG rfl (.agg rfl rfl (.agg rfl rfl (.agg rfl rfl .nil))) rfl rfl) rfl (fun b10 _ => ?_) | refine tl_e (e_bsliceG rfl (.agg rfl rfl (.agg rfl rfl .nil)) rfl rfl) rfl (fun b10 _ => ?_))
  all_goals (first | refine tl_q (y_build_g (by repeat constructor)) rfl ?_ | refine tl_q (y_build_2 rfl rfl rfl rfl) rfl ?_)
  all_goals refine tl_q (y_build_g (by repeat constructor)) rfl ?_
  all_goals (first | refine tl_e (e_bslice rfl (by (repeat (first | exact .nil | apply PV.one rfl rfl | apply PV.two rfl)); done) rfl rfl) rfl (fun b13 _ => ?_) | refine tl_e (e_bsliceG rfl (.agg rfl rfl (.agg rfl rfl (.agg rfl rfl .nil))) rfl rfl) rfl (fun b13 _ => ?_) | refine tl_e (e_bsliceG rfl (.agg rfl rfl (.agg rfl rfl .nil)) rfl rfl) rfl (fun b13 _ => ?_))
  all_goals refine tl_q (y_move rfl) rfl ?_
  all_goals refine tl_e (e_append_own (old := [vi 0, vi 2, .bool true, vi 1, vi 4, .bool true]) (junk := []) rfl rfl rfl (by repeat constructor) rfl rfl (Nat.le_refl 2) (fun w' hw' => hr.fr (hw'.fr (w0 := w) (S := []) (MI.m (by repeat constructor)))) (one_flat sgE_one _) (by omega) rfl) rfl (fun r hq => ?_)
  all_goals (first | refine tl_q (y_build_g (by repeat constructor)) rfl ?_ | refine tl_q (y_build_6 rfl rfl rfl rfl rfl rfl rfl rfl rfl rfl rfl rfl) rfl ?_)
  all_goals refine tl_e (e_storeW rfl rfl (by repeat constructor) (by rfl) (by rfl) (by simp [Value.oneCell'])) rfl (fun _ _ => ?_)
  all_goals refine tl_nil ?_
  all_goals (refine hK2 ?_; try (clear hK2; clear K2))
  all_goals refine tc_ret ?_
  all_goals (repeat (first | refine tk_then_ret ?_ | refine tk_block_ret ?_ | refine tk_scope_ret ?_))
  all_goals first | refine tk_ret rfl rfl (.cons (.agg inferInstance rfl (by repeat constructor) (by rfl)) .nil) ?_ | refine tk_retM rfl (by repeat constructor) rfl (.cons (.agg inferInstance rfl (by repeat constructor) (by rfl)) .nil) ?_
  all_goals (
   refine fun w' hw' => ⟨(b3, b10, r.1, r.2.1, r.2.2), rfl, hw'.fr (w0 := w) (S := []) (MI.m (by repeat constructor)), ?_, ?_, ?_⟩
   · exact RdS.own (xs := (twoS m).st) (cap := 3) (junk := []) boE_len hw' (b := b3) (by repeat constructor)
   · exact RdS.own (xs := (twoS m).ps) (cap := 3) (junk := []) psE_len hw' (b := b10) (by repeat constructor)
   · have := RdS.own (xs := (twoS m).sg) (cap := r.2.1) (junk := r.2.2) sgE_len hw' (b := r.1) (by repeat constructor)
     rw [show (twoS m).sg.length = 2 + m.length from by simp [twoS]; omega] at this
     exact this)
theorem two0 : Few (twoS []) := two_few [] (by simp)
theorem two1 : Few (twoS [badG]) := two_few [badG] (by simp)
theorem hold_v (tv pv gv : Value) (w : World) (hr : RdSm w (twoS []) tv pv gv) : CnX Try.prog 17 #[smV (twoS []) tv pv gv, vi 0, vi 1] w [] (fun y : Option Addr × Nat => .tuple #[slV 2 y, vi 0]) (fun y w' => RdI w' (slV 2 y) [0, 1]) := by
  have h := holders_c (twoS []) two0 0 1 tv pv gv w hr
  rw [aw_h.1, aw_h.2] at h
  exact h.imp id (fun _ => rfl) (fun _ h => h) (fun _ _ _ h => h.toI)
theorem open_v (tv pv gv : Value) (w : World) (hr : RdSm w (twoS []) tv pv gv) : CnX Try.prog 19 #[smV (twoS []) tv pv gv, vi 0] w [] (fun y : Option Addr × Nat => .tuple #[slV 1 y, vi 0]) (fun y w' => RdI w' (slV 1 y) [2]) := by
  have h := openers_c (twoS []) two0 0 tv pv gv w hr
  rw [aw_o.1, aw_o.2] at h
  exact h.imp id (fun _ => rfl) (fun _ h => h) (fun _ _ _ h => h.toI)
theorem verd_v (tv pv gv : Value) (w : World) (hr : RdSm w (twoS []) tv pv gv) : CnX Try.prog 9 #[smV (twoS []) tv pv gv] w [] (fun y : Option Addr × Nat => .tuple #[slV 2 y, vi 0]) (fun y w' => RdI w' (slV 2 y) [3, 2]) := by
  have h := verdicts_c (twoS []) two0 tv pv gv w hr
  rw [aw_v.1, aw_v.2] at h
  exact h.imp id (fun _ => rfl) (fun _ h => h) (fun _ _ _ h => h.toI)
theorem alik_v (tv pv gv : Value) (w : World) (hr : RdSm w (twoS []) tv pv gv) : CnV Try.prog 20 #[smV (twoS []) tv pv gv] w (.tuple #[vi 3, vi 0]) := by
  have h := alike_c (twoS []) two0 tv pv gv w hr
  rw [aw_a, aw_v.1] at h
  exact h
theorem leas_v (tv pv gv : Value) (w : World) (hr : RdSm w (twoS []) tv pv gv) : CnX Try.prog 21 #[smV (twoS []) tv pv gv] w [] (fun y : Option Addr × Nat => .tuple #[slV 2 y, vi 0]) (fun y w' => RdI w' (slV 2 y) [0, 0]) := by
  have h := least_c (twoS []) two0 tv pv gv w hr
  rw [aw_v.1, aw_l] at h
  exact h.imp id (fun _ => rfl) (fun _ h => h) (fun _ _ _ h => h.toI)
theorem frst_v (tv pv gv : Value) (w : World) (hr : RdSm w (twoS [badG]) tv pv gv) : CnV Try.prog 7 #[smV (twoS [badG]) tv pv gv] w (.tuple #[vi 5, vi 0]) := by
  have h := first_c (twoS [badG]) two1 tv pv gv w hr
  rw [aw_f] at h
  exact h
theorem leav_v (tv pv gv : Value) (w : World) (hr : RdSm w (twoS [badG]) tv pv gv) : CnX Try.prog 12 #[smV (twoS [badG]) tv pv gv] w [] (fun y : Option Addr × Nat => .tuple #[slV 1 y, vi 0]) (fun y w' => RdI w' (slV 1 y) [3]) := by
  have h := leaveAll_c (twoS [badG]) two1 tv pv gv w hr
  rw [aw_x.1, aw_x2] at h
  exact h
set_option maxHeartbeats 4000000 in
theorem awake_c (w : World) : CnV Try.prog 6 #[] w (.bool true) := by
  refine cnv (vs := []) Try.func6 rfl rfl ?_
  all_goals refine tc_seq fun K1 hK1 => ?_
  all_goals refine tc_region ?_
  all_goals refine tl_q (y_assign rfl) rfl ?_
  all_goals refine tl_nil ?_
  all_goals (refine hK1 ?_; try (clear hK1; clear K1))
  all_goals refine tc_seq fun K2 hK2 => ?_
  all_goals refine tc_lay ([]) (SB.s .nil) (fun wl1 hl1 => ?_)
  all_goals refine tc_region ?_
  all_goals (first | refine tl_e (e_callX rfl (.cons rfl .nil) (fun w' hw' => two_c [] (by simp) (.slice none 0 0) w' (RdS.nil _ _ _ _))) rfl (fun x1 hx1 => ?_) | refine tl_e (e_callX rfl (.cons rfl .nil) (fun w' hw' => two_c [badG] (by simp) _ w' (RdS.own0 (xs := [badG]) sgE_len hw' (by repeat constructor)))) rfl (fun x1 hx1 => ?_))
  all_goals refine tl_e (e_callX rfl (.cons rfl (.cons rfl (.cons rfl .nil))) (fun w' hw' => hold_v _ _ _ w' (hx1.1.fr (hw'.calm hx1.2 (MI.m (by repeat constructor)) (SB.s (by repeat constructor)))))) rfl (fun y1 hy1 => ?_)
  all_goals refine tl_q (y_move rfl) rfl ?_
  all_goals refine tl_q (y_extract rfl rfl) rfl ?_
  all_goals refine tl_q (y_extract rfl rfl) rfl ?_
  all_goals refine tl_q (y_assign rfl) rfl ?_
  all_goals refine tl_q (y_assign rfl) rfl ?_
  all_goals refine tl_nil ?_
  all_goals (refine hK2 ?_; try (clear hK2; clear K2))
  all_goals refine tc_seq fun K3 hK3 => ?_
  all_goals refine tc_lay ([]) (SB.s .nil) (fun wl2 hl2 => ?_)
  all_goals refine tc_region ?_
  all_goals (first | refine tl_e (e_callX rfl (.cons rfl .nil) (fun w' hw' => two_c [] (by simp) (.slice none 0 0) w' (RdS.nil _ _ _ _))) rfl (fun x2 hx2 => ?_) | refine tl_e (e_callX rfl (.cons rfl .nil) (fun w' hw' => two_c [badG] (by simp) _ w' (RdS.own0 (xs := [badG]) sgE_len hw' (by repeat constructor)))) rfl (fun x2 hx2 => ?_))
  all_goals refine tl_e (e_callX rfl (.cons rfl (.cons rfl .nil)) (fun w' hw' => open_v _ _ _ w' (hx2.1.fr (hw'.calm hx2.2 (MI.m (by repeat constructor)) (SB.s (by repeat constructor)))))) rfl (fun y2 hy2 => ?_)
  all_goals refine tl_q (y_move rfl) rfl ?_
  all_goals refine tl_q (y_extract rfl rfl) rfl ?_
  all_goals refine tl_q (y_extract rfl rfl) rfl ?_
  all_goals refine tl_q (y_assign rfl) rfl ?_
  all_goals refine tl_q (y_assign rfl) rfl ?_
  all_goals refine tl_nil ?_
  all_goals (refine hK3 ?_; try (clear hK3; clear K3))
  all_goals refine tc_seq fun K4 hK4 => ?_
  all_goals refine tc_lay ([]) (SB.s .nil) (fun wl3 hl3 => ?_)
  all_goals refine tc_region ?_
  all_goals (first | refine tl_e (e_callX rfl (.cons rfl .nil) (fun w' hw' => two_c [] (by simp) (.slice none 0 0) w' (RdS.nil _ _ _ _))) rfl (fun x3 hx3 => ?_) | refine tl_e (e_callX rfl (.cons rfl .nil) (fun w' hw' => two_c [badG] (by simp) _ w' (RdS.own0 (xs := [badG]) sgE_len hw' (by repeat constructor)))) rfl (fun x3 hx3 => ?_))
  all_goals refine tl_e (e_callX rfl (.cons rfl .nil) (fun w' hw' => verd_v _ _ _ w' (hx3.1.fr (hw'.calm hx3.2 (MI.m (by repeat constructor)) (SB.s (by repeat constructor)))))) rfl (fun y3 hy3 => ?_)
  all_goals refine tl_q (y_move rfl) rfl ?_
  all_goals refine tl_q (y_extract rfl rfl) rfl ?_
  all_goals refine tl_q (y_extract rfl rfl) rfl ?_
  all_goals refine tl_q (y_assign rfl) rfl ?_
  all_goals refine tl_q (y_assign rfl) rfl ?_
  all_goals refine tl_nil ?_
  all_goals (refine hK4 ?_; try (clear hK4; clear K4))
  all_goals refine tc_seq fun K5 hK5 => ?_
  all_goals refine tc_lay ([]) (SB.s .nil) (fun wl4 hl4 => ?_)
  all_goals refine tc_region ?_
  all_goals (first | refine tl_e (e_callX rfl (.cons rfl .nil) (fun w' hw' => two_c [] (by simp) (.slice none 0 0) w' (RdS.nil _ _ _ _))) rfl (fun x4 hx4 => ?_) | refine tl_e (e_callX rfl (.cons rfl .nil) (fun w' hw' => two_c [badG] (by simp) _ w' (RdS.own0 (xs := [badG]) sgE_len hw' (by repeat constructor)))) rfl (fun x4 hx4 => ?_))
  all_goals refine tl_e (e_callV rfl (.cons rfl .nil) (fun w' hw' => alik_v _ _ _ w' (hx4.1.fr (hw'.calm hx4.2 (MI.m (by repeat constructor)) (SB.s (by repeat constructor)))))) rfl (fun _ _ => ?_)
  all_goals refine tl_q (y_move rfl) rfl ?_
  all_goals refine tl_q (y_extract rfl rfl) rfl ?_
  all_goals refine tl_q (y_extract rfl rfl) rfl ?_
  all_goals refine tl_q (y_assign rfl) rfl ?_
  all_goals refine tl_q (y_assign rfl) rfl ?_
  all_goals refine tl_nil ?_
  all_goals (refine hK5 ?_; try (clear hK5; clear K5))
  all_goals refine tc_seq fun K6 hK6 => ?_
  all_goals refine tc_lay ([]) (SB.s .nil) (fun wl5 hl5 => ?_)
  all_goals refine tc_region ?_
  all_goals (first | refine tl_e (e_callX rfl (.cons rfl .nil) (fun w' hw' => two_c [] (by simp) (.slice none 0 0) w' (RdS.nil _ _ _ _))) rfl (fun x5 hx5 => ?_) | refine tl_e (e_callX rfl (.cons rfl .nil) (fun w' hw' => two_c [badG] (by simp) _ w' (RdS.own0 (xs := [badG]) sgE_len hw' (by repeat constructor)))) rfl (fun x5 hx5 => ?_))
  all_goals refine tl_e (e_callX rfl (.cons rfl .nil) (fun w' hw' => leas_v _ _ _ w' (hx5.1.fr (hw'.calm hx5.2 (MI.m (by repeat constructor)) (SB.s (by repeat constructor)))))) rfl (fun y5 hy5 => ?_)
  all_goals refine tl_q (y_move rfl) rfl ?_
  all_goals refine tl_q (y_extract rfl rfl) rfl ?_
  all_goals refine tl_q (y_extract rfl rfl) rfl ?_
  all_goals refine tl_q (y_assign rfl) rfl ?_
  all_goals refine tl_q (y_assign rfl) rfl ?_
  all_goals refine tl_nil ?_
  all_goals (refine hK6 ?_; try (clear hK6; clear K6))
  all_goals refine tc_seq fun K7 hK7 => ?_
  all_goals refine tc_lay ([]) (SB.s .nil) (fun wl6 hl6 => ?_)
  all_goals refine tc_region ?_
  all_goals (first | refine tl_q (y_build_g (by repeat constructor)) rfl ?_ | refine tl_q (y_build_1 rfl rfl) rfl ?_)
  all_goals (first | refine tl_e (e_bslice rfl (by (repeat (first | exact .nil | apply PV.one rfl rfl | apply PV.two rfl)); done) rfl rfl) rfl (fun b42 _ => ?_) | refine tl_e (e_bsliceG rfl (.agg rfl rfl .nil) rfl rfl) rfl (fun b42 _ => ?_))
  all_goals (first | refine tl_e (e_callX rfl (.cons rfl .nil) (fun w' hw' => two_c [] (by simp) (.slice none 0 0) w' (RdS.nil _ _ _ _))) rfl (fun x6 hx6 => ?_) | refine tl_e (e_callX rfl (.cons rfl .nil) (fun w' hw' => two_c [badG] (by simp) _ w' (RdS.own0 (xs := [badG]) sgE_len hw' (by repeat constructor)))) rfl (fun x6 hx6 => ?_))
  all_goals refine tl_e (e_callV rfl (.cons rfl .nil) (fun w' hw' => frst_v _ _ _ w' (hx6.1.fr (hw'.calm hx6.2 (MI.m (by repeat constructor)) (SB.s (by repeat constructor)))))) rfl (fun _ _ => ?_)
  all_goals refine tl_q (y_move rfl) rfl ?_
  all_goals refine tl_q (y_extract rfl rfl) rfl ?_
  all_goals refine tl_q (y_extract rfl rfl) rfl ?_
  all_goals refine tl_q (y_assign rfl) rfl ?_
  all_goals refine tl_q (y_assign rfl) rfl ?_
  all_goals refine tl_nil ?_
  all_goals (refine hK7 ?_; try (clear hK7; clear K7))
  all_goals refine tc_seq fun K8 hK8 => ?_
  all_goals refine tc_lay ([]) (SB.s .nil) (fun wl7 hl7 => ?_)
  all_goals refine tc_region ?_
  all_goals (first | refine tl_q (y_build_g (by repeat constructor)) rfl ?_ | refine tl_q (y_build_1 rfl rfl) rfl ?_)
  all_goals (first | refine tl_e (e_bslice rfl (by (repeat (first | exact .nil | apply PV.one rfl rfl | apply PV.two rfl)); done) rfl rfl) rfl (fun b49 _ => ?_) | refine tl_e (e_bsliceG rfl (.agg rfl rfl .nil) rfl rfl) rfl (fun b49 _ => ?_))
  all_goals (first | refine tl_e (e_callX rfl (.cons rfl .nil) (fun w' hw' => two_c [] (by simp) (.slice none 0 0) w' (RdS.nil _ _ _ _))) rfl (fun x7 hx7 => ?_) | refine tl_e (e_callX rfl (.cons rfl .nil) (fun w' hw' => two_c [badG] (by simp) _ w' (RdS.own0 (xs := [badG]) sgE_len hw' (by repeat constructor)))) rfl (fun x7 hx7 => ?_))
  all_goals refine tl_e (e_callX rfl (.cons rfl .nil) (fun w' hw' => leav_v _ _ _ w' (hx7.1.fr (hw'.calm hx7.2 (MI.m (by repeat constructor)) (SB.s (by repeat constructor)))))) rfl (fun y7 hy7 => ?_)
  all_goals refine tl_q (y_move rfl) rfl ?_
  all_goals refine tl_q (y_extract rfl rfl) rfl ?_
  all_goals refine tl_q (y_extract rfl rfl) rfl ?_
  all_goals refine tl_q (y_assign rfl) rfl ?_
  all_goals refine tl_q (y_assign rfl) rfl ?_
  all_goals refine tl_nil ?_
  all_goals (refine hK8 ?_; try (clear hK8; clear K8))
  all_goals refine tc_seq fun K9 hK9 => ?_
  all_goals refine tc_lay ([]) (SB.s .nil) (fun wl8 hl8 => ?_)
  all_goals refine tc_region ?_
  all_goals refine tl_q (y_move rfl) rfl ?_
  all_goals refine tl_q (y_eql rfl rfl) rfl ?_
  all_goals refine tl_q (y_move rfl) rfl ?_
  all_goals (first | refine tl_sk rfl rfl rfl rfl ?_ | refine tl_qg rfl rfl (y_move rfl) rfl ?_ | refine tl_su rfl rfl rfl ?_ | (refine tl_gs rfl rfl (fun hc => ?_) (fun hc => ?_) <;> (try simp only [decide_eq_true_eq, decide_eq_false_iff_not, Int.not_lt, Int.not_le, Bool.not_eq_true', Bool.not_eq_false', Decidable.not_not, not_true_eq_false] at hc) <;> (first | (exfalso; omega) | refine tl_sk rfl rfl rfl rfl ?_ | refine tl_qg rfl rfl (y_move rfl) rfl ?_ | refine tl_su rfl rfl rfl ?_)))
  all_goals (first | refine tl_sk rfl rfl rfl rfl ?_ | refine tl_eg rfl rfl rfl (e_bslice rfl (by (repeat (first | exact .nil | apply PV.one rfl rfl | apply PV.two rfl)); done) rfl rfl) (fun _ _ => ?_) | refine tl_eg rfl rfl rfl (e_bsliceG rfl (.agg rfl rfl .nil) rfl rfl) (fun _ _ => ?_) | refine tl_su rfl rfl rfl ?_ | (refine tl_gs rfl rfl (fun hc => ?_) (fun hc => ?_) <;> (try simp only [decide_eq_true_eq, decide_eq_false_iff_not, Int.not_lt, Int.not_le, Bool.not_eq_true', Bool.not_eq_false', Decidable.not_not, not_true_eq_false] at hc) <;> (first | (exfalso; omega) | refine tl_sk rfl rfl rfl rfl ?_ | refine tl_eg rfl rfl rfl (e_bslice rfl (by (repeat (first | exact .nil | apply PV.one rfl rfl | apply PV.two rfl)); done) rfl rfl) (fun _ _ => ?_) | refine tl_eg rfl rfl rfl (e_bsliceG rfl (.agg rfl rfl .nil) rfl rfl) (fun _ _ => ?_) | refine tl_su rfl rfl rfl ?_)))
  all_goals (first | refine tl_sk rfl rfl rfl rfl ?_ | refine tl_eg rfl rfl rfl (e_callV rfl (.cons rfl (.cons rfl .nil)) (fun w' hw' => rSame_c [0, 1] [0, 1] (by decide) (by decide) _ _ w' (hy1.1.fr (hw'.fr (MI.m (by repeat constructor)))) (RdI.own0 hw' (by repeat constructor)))) (fun _ _ => ?_) | refine tl_eg rfl rfl rfl (e_callV rfl (.cons rfl (.cons rfl .nil)) (fun w' hw' => rSame_c [2] [2] (by decide) (by decide) _ _ w' (hy2.1.fr (hw'.fr (MI.m (by repeat constructor)))) (RdI.own0 hw' (by repeat constructor)))) (fun _ _ => ?_) | refine tl_eg rfl rfl rfl (e_callV rfl (.cons rfl (.cons rfl .nil)) (fun w' hw' => rSame_c [3, 2] [3, 2] (by decide) (by decide) _ _ w' (hy3.1.fr (hw'.fr (MI.m (by repeat constructor)))) (RdI.own0 hw' (by repeat constructor)))) (fun _ _ => ?_) | refine tl_eg rfl rfl rfl (e_callV rfl (.cons rfl (.cons rfl .nil)) (fun w' hw' => rSame_c [0, 0] [0, 0] (by decide) (by decide) _ _ w' (hy5.1.fr (hw'.fr (MI.m (by repeat constructor)))) (RdI.own0 hw' (by repeat constructor)))) (fun _ _ => ?_) | refine tl_eg rfl rfl rfl (e_callV rfl (.cons rfl (.cons rfl .nil)) (fun w' hw' => rSame_c [3] [3] (by decide) (by decide) _ _ w' ((hy7.1.fr (hl8.calm hy7.2 (MI.m (by repeat constructor)) (SB.s (by repeat constructor)))).fr (hw'.fr (w0 := wl8) (S := []) (MI.m (by repeat constructor)))) (RdI.own0 hw' (by repeat constructor)))) (fun _ _ => ?_) | refine tl_su rfl rfl rfl ?_ | (refine tl_gs rfl rfl (fun hc => ?_) (fun hc => ?_) <;> (try simp only [decide_eq_true_eq, decide_eq_false_iff_not, Int.not_lt, Int.not_le, Bool.not_eq_true', Bool.not_eq_false', Decidable.not_not, not_true_eq_false] at hc) <;> (first | (exfalso; omega) | refine tl_sk rfl rfl rfl rfl ?_ | refine tl_eg rfl rfl rfl (e_callV rfl (.cons rfl (.cons rfl .nil)) (fun w' hw' => rSame_c [0, 1] [0, 1] (by decide) (by decide) _ _ w' (hy1.1.fr (hw'.fr (MI.m (by repeat constructor)))) (RdI.own0 hw' (by repeat constructor)))) (fun _ _ => ?_) | refine tl_eg rfl rfl rfl (e_callV rfl (.cons rfl (.cons rfl .nil)) (fun w' hw' => rSame_c [2] [2] (by decide) (by decide) _ _ w' (hy2.1.fr (hw'.fr (MI.m (by repeat constructor)))) (RdI.own0 hw' (by repeat constructor)))) (fun _ _ => ?_) | refine tl_eg rfl rfl rfl (e_callV rfl (.cons rfl (.cons rfl .nil)) (fun w' hw' => rSame_c [3, 2] [3, 2] (by decide) (by decide) _ _ w' (hy3.1.fr (hw'.fr (MI.m (by repeat constructor)))) (RdI.own0 hw' (by repeat constructor)))) (fun _ _ => ?_) | refine tl_eg rfl rfl rfl (e_callV rfl (.cons rfl (.cons rfl .nil)) (fun w' hw' => rSame_c [0, 0] [0, 0] (by decide) (by decide) _ _ w' (hy5.1.fr (hw'.fr (MI.m (by repeat constructor)))) (RdI.own0 hw' (by repeat constructor)))) (fun _ _ => ?_) | refine tl_eg rfl rfl rfl (e_callV rfl (.cons rfl (.cons rfl .nil)) (fun w' hw' => rSame_c [3] [3] (by decide) (by decide) _ _ w' ((hy7.1.fr (hl8.calm hy7.2 (MI.m (by repeat constructor)) (SB.s (by repeat constructor)))).fr (hw'.fr (w0 := wl8) (S := []) (MI.m (by repeat constructor)))) (RdI.own0 hw' (by repeat constructor)))) (fun _ _ => ?_) | refine tl_su rfl rfl rfl ?_)))
  all_goals (first | refine tl_q (y_pick_t rfl rfl) rfl ?_ | refine tl_q (y_pick_f rfl rfl) rfl ?_)
  all_goals refine tl_q (y_move rfl) rfl ?_
  all_goals (first | refine tl_sk rfl rfl rfl rfl ?_ | refine tl_qg rfl rfl (y_move rfl) rfl ?_ | refine tl_su rfl rfl rfl ?_ | (refine tl_gs rfl rfl (fun hc => ?_) (fun hc => ?_) <;> (try simp only [decide_eq_true_eq, decide_eq_false_iff_not, Int.not_lt, Int.not_le, Bool.not_eq_true', Bool.not_eq_false', Decidable.not_not, not_true_eq_false] at hc) <;> (first | (exfalso; omega) | refine tl_sk rfl rfl rfl rfl ?_ | refine tl_qg rfl rfl (y_move rfl) rfl ?_ | refine tl_su rfl rfl rfl ?_)))
  all_goals (first | refine tl_sk rfl rfl rfl rfl ?_ | refine tl_qg rfl rfl (y_eql rfl rfl) rfl ?_ | refine tl_su rfl rfl rfl ?_ | (refine tl_gs rfl rfl (fun hc => ?_) (fun hc => ?_) <;> (try simp only [decide_eq_true_eq, decide_eq_false_iff_not, Int.not_lt, Int.not_le, Bool.not_eq_true', Bool.not_eq_false', Decidable.not_not, not_true_eq_false] at hc) <;> (first | (exfalso; omega) | refine tl_sk rfl rfl rfl rfl ?_ | refine tl_qg rfl rfl (y_eql rfl rfl) rfl ?_ | refine tl_su rfl rfl rfl ?_)))
  all_goals (first | refine tl_q (y_pick_t rfl rfl) rfl ?_ | refine tl_q (y_pick_f rfl rfl) rfl ?_)
  all_goals refine tl_q (y_move rfl) rfl ?_
  all_goals (first | refine tl_sk rfl rfl rfl rfl ?_ | refine tl_qg rfl rfl (y_move rfl) rfl ?_ | refine tl_su rfl rfl rfl ?_ | (refine tl_gs rfl rfl (fun hc => ?_) (fun hc => ?_) <;> (try simp only [decide_eq_true_eq, decide_eq_false_iff_not, Int.not_lt, Int.not_le, Bool.not_eq_true', Bool.not_eq_false', Decidable.not_not, not_true_eq_false] at hc) <;> (first | (exfalso; omega) | refine tl_sk rfl rfl rfl rfl ?_ | refine tl_qg rfl rfl (y_move rfl) rfl ?_ | refine tl_su rfl rfl rfl ?_)))
  all_goals (first | refine tl_sk rfl rfl rfl rfl ?_ | refine tl_eg rfl rfl rfl (e_bslice rfl (by (repeat (first | exact .nil | apply PV.one rfl rfl | apply PV.two rfl)); done) rfl rfl) (fun _ _ => ?_) | refine tl_eg rfl rfl rfl (e_bsliceG rfl (.agg rfl rfl .nil) rfl rfl) (fun _ _ => ?_) | refine tl_su rfl rfl rfl ?_ | (refine tl_gs rfl rfl (fun hc => ?_) (fun hc => ?_) <;> (try simp only [decide_eq_true_eq, decide_eq_false_iff_not, Int.not_lt, Int.not_le, Bool.not_eq_true', Bool.not_eq_false', Decidable.not_not, not_true_eq_false] at hc) <;> (first | (exfalso; omega) | refine tl_sk rfl rfl rfl rfl ?_ | refine tl_eg rfl rfl rfl (e_bslice rfl (by (repeat (first | exact .nil | apply PV.one rfl rfl | apply PV.two rfl)); done) rfl rfl) (fun _ _ => ?_) | refine tl_eg rfl rfl rfl (e_bsliceG rfl (.agg rfl rfl .nil) rfl rfl) (fun _ _ => ?_) | refine tl_su rfl rfl rfl ?_)))
  all_goals (first | refine tl_sk rfl rfl rfl rfl ?_ | refine tl_eg rfl rfl rfl (e_callV rfl (.cons rfl (.cons rfl .nil)) (fun w' hw' => rSame_c [0, 1] [0, 1] (by decide) (by decide) _ _ w' (hy1.1.fr (hw'.fr (MI.m (by repeat constructor)))) (RdI.own0 hw' (by repeat constructor)))) (fun _ _ => ?_) | refine tl_eg rfl rfl rfl (e_callV rfl (.cons rfl (.cons rfl .nil)) (fun w' hw' => rSame_c [2] [2] (by decide) (by decide) _ _ w' (hy2.1.fr (hw'.fr (MI.m (by repeat constructor)))) (RdI.own0 hw' (by repeat constructor)))) (fun _ _ => ?_) | refine tl_eg rfl rfl rfl (e_callV rfl (.cons rfl (.cons rfl .nil)) (fun w' hw' => rSame_c [3, 2] [3, 2] (by decide) (by decide) _ _ w' (hy3.1.fr (hw'.fr (MI.m (by repeat constructor)))) (RdI.own0 hw' (by repeat constructor)))) (fun _ _ => ?_) | refine tl_eg rfl rfl rfl (e_callV rfl (.cons rfl (.cons rfl .nil)) (fun w' hw' => rSame_c [0, 0] [0, 0] (by decide) (by decide) _ _ w' (hy5.1.fr (hw'.fr (MI.m (by repeat constructor)))) (RdI.own0 hw' (by repeat constructor)))) (fun _ _ => ?_) | refine tl_eg rfl rfl rfl (e_callV rfl (.cons rfl (.cons rfl .nil)) (fun w' hw' => rSame_c [3] [3] (by decide) (by decide) _ _ w' ((hy7.1.fr (hl8.calm hy7.2 (MI.m (by repeat constructor)) (SB.s (by repeat constructor)))).fr (hw'.fr (w0 := wl8) (S := []) (MI.m (by repeat constructor)))) (RdI.own0 hw' (by repeat constructor)))) (fun _ _ => ?_) | refine tl_su rfl rfl rfl ?_ | (refine tl_gs rfl rfl (fun hc => ?_) (fun hc => ?_) <;> (try simp only [decide_eq_true_eq, decide_eq_false_iff_not, Int.not_lt, Int.not_le, Bool.not_eq_true', Bool.not_eq_false', Decidable.not_not, not_true_eq_false] at hc) <;> (first | (exfalso; omega) | refine tl_sk rfl rfl rfl rfl ?_ | refine tl_eg rfl rfl rfl (e_callV rfl (.cons rfl (.cons rfl .nil)) (fun w' hw' => rSame_c [0, 1] [0, 1] (by decide) (by decide) _ _ w' (hy1.1.fr (hw'.fr (MI.m (by repeat constructor)))) (RdI.own0 hw' (by repeat constructor)))) (fun _ _ => ?_) | refine tl_eg rfl rfl rfl (e_callV rfl (.cons rfl (.cons rfl .nil)) (fun w' hw' => rSame_c [2] [2] (by decide) (by decide) _ _ w' (hy2.1.fr (hw'.fr (MI.m (by repeat constructor)))) (RdI.own0 hw' (by repeat constructor)))) (fun _ _ => ?_) | refine tl_eg rfl rfl rfl (e_callV rfl (.cons rfl (.cons rfl .nil)) (fun w' hw' => rSame_c [3, 2] [3, 2] (by decide) (by decide) _ _ w' (hy3.1.fr (hw'.fr (MI.m (by repeat constructor)))) (RdI.own0 hw' (by repeat constructor)))) (fun _ _ => ?_) | refine tl_eg rfl rfl rfl (e_callV rfl (.cons rfl (.cons rfl .nil)) (fun w' hw' => rSame_c [0, 0] [0, 0] (by decide) (by decide) _ _ w' (hy5.1.fr (hw'.fr (MI.m (by repeat constructor)))) (RdI.own0 hw' (by repeat constructor)))) (fun _ _ => ?_) | refine tl_eg rfl rfl rfl (e_callV rfl (.cons rfl (.cons rfl .nil)) (fun w' hw' => rSame_c [3] [3] (by decide) (by decide) _ _ w' ((hy7.1.fr (hl8.calm hy7.2 (MI.m (by repeat constructor)) (SB.s (by repeat constructor)))).fr (hw'.fr (w0 := wl8) (S := []) (MI.m (by repeat constructor)))) (RdI.own0 hw' (by repeat constructor)))) (fun _ _ => ?_) | refine tl_su rfl rfl rfl ?_)))
  all_goals (first | refine tl_q (y_pick_t rfl rfl) rfl ?_ | refine tl_q (y_pick_f rfl rfl) rfl ?_)
  all_goals refine tl_q (y_move rfl) rfl ?_
  all_goals (first | refine tl_sk rfl rfl rfl rfl ?_ | refine tl_qg rfl rfl (y_move rfl) rfl ?_ | refine tl_su rfl rfl rfl ?_ | (refine tl_gs rfl rfl (fun hc => ?_) (fun hc => ?_) <;> (try simp only [decide_eq_true_eq, decide_eq_false_iff_not, Int.not_lt, Int.not_le, Bool.not_eq_true', Bool.not_eq_false', Decidable.not_not, not_true_eq_false] at hc) <;> (first | (exfalso; omega) | refine tl_sk rfl rfl rfl rfl ?_ | refine tl_qg rfl rfl (y_move rfl) rfl ?_ | refine tl_su rfl rfl rfl ?_)))
  all_goals (first | refine tl_sk rfl rfl rfl rfl ?_ | refine tl_qg rfl rfl (y_eql rfl rfl) rfl ?_ | refine tl_su rfl rfl rfl ?_ | (refine tl_gs rfl rfl (fun hc => ?_) (fun hc => ?_) <;> (try simp only [decide_eq_true_eq, decide_eq_false_iff_not, Int.not_lt, Int.not_le, Bool.not_eq_true', Bool.not_eq_false', Decidable.not_not, not_true_eq_false] at hc) <;> (first | (exfalso; omega) | refine tl_sk rfl rfl rfl rfl ?_ | refine tl_qg rfl rfl (y_eql rfl rfl) rfl ?_ | refine tl_su rfl rfl rfl ?_)))
  all_goals (first | refine tl_q (y_pick_t rfl rfl) rfl ?_ | refine tl_q (y_pick_f rfl rfl) rfl ?_)
  all_goals refine tl_q (y_move rfl) rfl ?_
  all_goals (first | refine tl_sk rfl rfl rfl rfl ?_ | refine tl_qg rfl rfl (y_move rfl) rfl ?_ | refine tl_su rfl rfl rfl ?_ | (refine tl_gs rfl rfl (fun hc => ?_) (fun hc => ?_) <;> (try simp only [decide_eq_true_eq, decide_eq_false_iff_not, Int.not_lt, Int.not_le, Bool.not_eq_true', Bool.not_eq_false', Decidable.not_not, not_true_eq_false] at hc) <;> (first | (exfalso; omega) | refine tl_sk rfl rfl rfl rfl ?_ | refine tl_qg rfl rfl (y_move rfl) rfl ?_ | refine tl_su rfl rfl rfl ?_)))
  all_goals (first | refine tl_sk rfl rfl rfl rfl ?_ | refine tl_eg rfl rfl rfl (e_bslice rfl (by (repeat (first | exact .nil | apply PV.one rfl rfl | apply PV.two rfl)); done) rfl rfl) (fun _ _ => ?_) | refine tl_eg rfl rfl rfl (e_bsliceG rfl (.agg rfl rfl .nil) rfl rfl) (fun _ _ => ?_) | refine tl_su rfl rfl rfl ?_ | (refine tl_gs rfl rfl (fun hc => ?_) (fun hc => ?_) <;> (try simp only [decide_eq_true_eq, decide_eq_false_iff_not, Int.not_lt, Int.not_le, Bool.not_eq_true', Bool.not_eq_false', Decidable.not_not, not_true_eq_false] at hc) <;> (first | (exfalso; omega) | refine tl_sk rfl rfl rfl rfl ?_ | refine tl_eg rfl rfl rfl (e_bslice rfl (by (repeat (first | exact .nil | apply PV.one rfl rfl | apply PV.two rfl)); done) rfl rfl) (fun _ _ => ?_) | refine tl_eg rfl rfl rfl (e_bsliceG rfl (.agg rfl rfl .nil) rfl rfl) (fun _ _ => ?_) | refine tl_su rfl rfl rfl ?_)))
  all_goals (first | refine tl_sk rfl rfl rfl rfl ?_ | refine tl_eg rfl rfl rfl (e_callV rfl (.cons rfl (.cons rfl .nil)) (fun w' hw' => rSame_c [0, 1] [0, 1] (by decide) (by decide) _ _ w' (hy1.1.fr (hw'.fr (MI.m (by repeat constructor)))) (RdI.own0 hw' (by repeat constructor)))) (fun _ _ => ?_) | refine tl_eg rfl rfl rfl (e_callV rfl (.cons rfl (.cons rfl .nil)) (fun w' hw' => rSame_c [2] [2] (by decide) (by decide) _ _ w' (hy2.1.fr (hw'.fr (MI.m (by repeat constructor)))) (RdI.own0 hw' (by repeat constructor)))) (fun _ _ => ?_) | refine tl_eg rfl rfl rfl (e_callV rfl (.cons rfl (.cons rfl .nil)) (fun w' hw' => rSame_c [3, 2] [3, 2] (by decide) (by decide) _ _ w' (hy3.1.fr (hw'.fr (MI.m (by repeat constructor)))) (RdI.own0 hw' (by repeat constructor)))) (fun _ _ => ?_) | refine tl_eg rfl rfl rfl (e_callV rfl (.cons rfl (.cons rfl .nil)) (fun w' hw' => rSame_c [0, 0] [0, 0] (by decide) (by decide) _ _ w' (hy5.1.fr (hw'.fr (MI.m (by repeat constructor)))) (RdI.own0 hw' (by repeat constructor)))) (fun _ _ => ?_) | refine tl_eg rfl rfl rfl (e_callV rfl (.cons rfl (.cons rfl .nil)) (fun w' hw' => rSame_c [3] [3] (by decide) (by decide) _ _ w' ((hy7.1.fr (hl8.calm hy7.2 (MI.m (by repeat constructor)) (SB.s (by repeat constructor)))).fr (hw'.fr (w0 := wl8) (S := []) (MI.m (by repeat constructor)))) (RdI.own0 hw' (by repeat constructor)))) (fun _ _ => ?_) | refine tl_su rfl rfl rfl ?_ | (refine tl_gs rfl rfl (fun hc => ?_) (fun hc => ?_) <;> (try simp only [decide_eq_true_eq, decide_eq_false_iff_not, Int.not_lt, Int.not_le, Bool.not_eq_true', Bool.not_eq_false', Decidable.not_not, not_true_eq_false] at hc) <;> (first | (exfalso; omega) | refine tl_sk rfl rfl rfl rfl ?_ | refine tl_eg rfl rfl rfl (e_callV rfl (.cons rfl (.cons rfl .nil)) (fun w' hw' => rSame_c [0, 1] [0, 1] (by decide) (by decide) _ _ w' (hy1.1.fr (hw'.fr (MI.m (by repeat constructor)))) (RdI.own0 hw' (by repeat constructor)))) (fun _ _ => ?_) | refine tl_eg rfl rfl rfl (e_callV rfl (.cons rfl (.cons rfl .nil)) (fun w' hw' => rSame_c [2] [2] (by decide) (by decide) _ _ w' (hy2.1.fr (hw'.fr (MI.m (by repeat constructor)))) (RdI.own0 hw' (by repeat constructor)))) (fun _ _ => ?_) | refine tl_eg rfl rfl rfl (e_callV rfl (.cons rfl (.cons rfl .nil)) (fun w' hw' => rSame_c [3, 2] [3, 2] (by decide) (by decide) _ _ w' (hy3.1.fr (hw'.fr (MI.m (by repeat constructor)))) (RdI.own0 hw' (by repeat constructor)))) (fun _ _ => ?_) | refine tl_eg rfl rfl rfl (e_callV rfl (.cons rfl (.cons rfl .nil)) (fun w' hw' => rSame_c [0, 0] [0, 0] (by decide) (by decide) _ _ w' (hy5.1.fr (hw'.fr (MI.m (by repeat constructor)))) (RdI.own0 hw' (by repeat constructor)))) (fun _ _ => ?_) | refine tl_eg rfl rfl rfl (e_callV rfl (.cons rfl (.cons rfl .nil)) (fun w' hw' => rSame_c [3] [3] (by decide) (by decide) _ _ w' ((hy7.1.fr (hl8.calm hy7.2 (MI.m (by repeat constructor)) (SB.s (by repeat constructor)))).fr (hw'.fr (w0 := wl8) (S := []) (MI.m (by repeat constructor)))) (RdI.own0 hw' (by repeat constructor)))) (fun _ _ => ?_) | refine tl_su rfl rfl rfl ?_)))
  all_goals (first | refine tl_q (y_pick_t rfl rfl) rfl ?_ | refine tl_q (y_pick_f rfl rfl) rfl ?_)
  all_goals refine tl_q (y_move rfl) rfl ?_
  all_goals (first | refine tl_sk rfl rfl rfl rfl ?_ | refine tl_qg rfl rfl (y_move rfl) rfl ?_ | refine tl_su rfl rfl rfl ?_ | (refine tl_gs rfl rfl (fun hc => ?_) (fun hc => ?_) <;> (try simp only [decide_eq_true_eq, decide_eq_false_iff_not, Int.not_lt, Int.not_le, Bool.not_eq_true', Bool.not_eq_false', Decidable.not_not, not_true_eq_false] at hc) <;> (first | (exfalso; omega) | refine tl_sk rfl rfl rfl rfl ?_ | refine tl_qg rfl rfl (y_move rfl) rfl ?_ | refine tl_su rfl rfl rfl ?_)))
  all_goals (first | refine tl_sk rfl rfl rfl rfl ?_ | refine tl_qg rfl rfl (y_eql rfl rfl) rfl ?_ | refine tl_su rfl rfl rfl ?_ | (refine tl_gs rfl rfl (fun hc => ?_) (fun hc => ?_) <;> (try simp only [decide_eq_true_eq, decide_eq_false_iff_not, Int.not_lt, Int.not_le, Bool.not_eq_true', Bool.not_eq_false', Decidable.not_not, not_true_eq_false] at hc) <;> (first | (exfalso; omega) | refine tl_sk rfl rfl rfl rfl ?_ | refine tl_qg rfl rfl (y_eql rfl rfl) rfl ?_ | refine tl_su rfl rfl rfl ?_)))
  all_goals (first | refine tl_q (y_pick_t rfl rfl) rfl ?_ | refine tl_q (y_pick_f rfl rfl) rfl ?_)
  all_goals refine tl_q (y_move rfl) rfl ?_
  all_goals (first | refine tl_sk rfl rfl rfl rfl ?_ | refine tl_qg rfl rfl (y_move rfl) rfl ?_ | refine tl_su rfl rfl rfl ?_ | (refine tl_gs rfl rfl (fun hc => ?_) (fun hc => ?_) <;> (try simp only [decide_eq_true_eq, decide_eq_false_iff_not, Int.not_lt, Int.not_le, Bool.not_eq_true', Bool.not_eq_false', Decidable.not_not, not_true_eq_false] at hc) <;> (first | (exfalso; omega) | refine tl_sk rfl rfl rfl rfl ?_ | refine tl_qg rfl rfl (y_move rfl) rfl ?_ | refine tl_su rfl rfl rfl ?_)))
  all_goals (first | refine tl_sk rfl rfl rfl rfl ?_ | refine tl_qg rfl rfl (y_eql rfl rfl) rfl ?_ | refine tl_su rfl rfl rfl ?_ | (refine tl_gs rfl rfl (fun hc => ?_) (fun hc => ?_) <;> (try simp only [decide_eq_true_eq, decide_eq_false_iff_not, Int.not_lt, Int.not_le, Bool.not_eq_true', Bool.not_eq_false', Decidable.not_not, not_true_eq_false] at hc) <;> (first | (exfalso; omega) | refine tl_sk rfl rfl rfl rfl ?_ | refine tl_qg rfl rfl (y_eql rfl rfl) rfl ?_ | refine tl_su rfl rfl rfl ?_)))
  all_goals (first | refine tl_q (y_pick_t rfl rfl) rfl ?_ | refine tl_q (y_pick_f rfl rfl) rfl ?_)
  all_goals refine tl_q (y_move rfl) rfl ?_
  all_goals (first | refine tl_sk rfl rfl rfl rfl ?_ | refine tl_qg rfl rfl (y_move rfl) rfl ?_ | refine tl_su rfl rfl rfl ?_ | (refine tl_gs rfl rfl (fun hc => ?_) (fun hc => ?_) <;> (try simp only [decide_eq_true_eq, decide_eq_false_iff_not, Int.not_lt, Int.not_le, Bool.not_eq_true', Bool.not_eq_false', Decidable.not_not, not_true_eq_false] at hc) <;> (first | (exfalso; omega) | refine tl_sk rfl rfl rfl rfl ?_ | refine tl_qg rfl rfl (y_move rfl) rfl ?_ | refine tl_su rfl rfl rfl ?_)))
  all_goals (first | refine tl_sk rfl rfl rfl rfl ?_ | refine tl_qg rfl rfl (y_eql rfl rfl) rfl ?_ | refine tl_su rfl rfl rfl ?_ | (refine tl_gs rfl rfl (fun hc => ?_) (fun hc => ?_) <;> (try simp only [decide_eq_true_eq, decide_eq_false_iff_not, Int.not_lt, Int.not_le, Bool.not_eq_true', Bool.not_eq_false', Decidable.not_not, not_true_eq_false] at hc) <;> (first | (exfalso; omega) | refine tl_sk rfl rfl rfl rfl ?_ | refine tl_qg rfl rfl (y_eql rfl rfl) rfl ?_ | refine tl_su rfl rfl rfl ?_)))
  all_goals (first | refine tl_q (y_pick_t rfl rfl) rfl ?_ | refine tl_q (y_pick_f rfl rfl) rfl ?_)
  all_goals refine tl_q (y_move rfl) rfl ?_
  all_goals (first | refine tl_sk rfl rfl rfl rfl ?_ | refine tl_qg rfl rfl (y_move rfl) rfl ?_ | refine tl_su rfl rfl rfl ?_ | (refine tl_gs rfl rfl (fun hc => ?_) (fun hc => ?_) <;> (try simp only [decide_eq_true_eq, decide_eq_false_iff_not, Int.not_lt, Int.not_le, Bool.not_eq_true', Bool.not_eq_false', Decidable.not_not, not_true_eq_false] at hc) <;> (first | (exfalso; omega) | refine tl_sk rfl rfl rfl rfl ?_ | refine tl_qg rfl rfl (y_move rfl) rfl ?_ | refine tl_su rfl rfl rfl ?_)))
  all_goals (first | refine tl_sk rfl rfl rfl rfl ?_ | refine tl_eg rfl rfl rfl (e_bslice rfl (by (repeat (first | exact .nil | apply PV.one rfl rfl | apply PV.two rfl)); done) rfl rfl) (fun _ _ => ?_) | refine tl_eg rfl rfl rfl (e_bsliceG rfl (.agg rfl rfl .nil) rfl rfl) (fun _ _ => ?_) | refine tl_su rfl rfl rfl ?_ | (refine tl_gs rfl rfl (fun hc => ?_) (fun hc => ?_) <;> (try simp only [decide_eq_true_eq, decide_eq_false_iff_not, Int.not_lt, Int.not_le, Bool.not_eq_true', Bool.not_eq_false', Decidable.not_not, not_true_eq_false] at hc) <;> (first | (exfalso; omega) | refine tl_sk rfl rfl rfl rfl ?_ | refine tl_eg rfl rfl rfl (e_bslice rfl (by (repeat (first | exact .nil | apply PV.one rfl rfl | apply PV.two rfl)); done) rfl rfl) (fun _ _ => ?_) | refine tl_eg rfl rfl rfl (e_bsliceG rfl (.agg rfl rfl .nil) rfl rfl) (fun _ _ => ?_) | refine tl_su rfl rfl rfl ?_)))
  all_goals (first | refine tl_sk rfl rfl rfl rfl ?_ | refine tl_eg rfl rfl rfl (e_callV rfl (.cons rfl (.cons rfl .nil)) (fun w' hw' => rSame_c [0, 1] [0, 1] (by decide) (by decide) _ _ w' (hy1.1.fr (hw'.fr (MI.m (by repeat constructor)))) (RdI.own0 hw' (by repeat constructor)))) (fun _ _ => ?_) | refine tl_eg rfl rfl rfl (e_callV rfl (.cons rfl (.cons rfl .nil)) (fun w' hw' => rSame_c [2] [2] (by decide) (by decide) _ _ w' (hy2.1.fr (hw'.fr (MI.m (by repeat constructor)))) (RdI.own0 hw' (by repeat constructor)))) (fun _ _ => ?_) | refine tl_eg rfl rfl rfl (e_callV rfl (.cons rfl (.cons rfl .nil)) (fun w' hw' => rSame_c [3, 2] [3, 2] (by decide) (by decide) _ _ w' (hy3.1.fr (hw'.fr (MI.m (by repeat constructor)))) (RdI.own0 hw' (by repeat constructor)))) (fun _ _ => ?_) | refine tl_eg rfl rfl rfl (e_callV rfl (.cons rfl (.cons rfl .nil)) (fun w' hw' => rSame_c [0, 0] [0, 0] (by decide) (by decide) _ _ w' (hy5.1.fr (hw'.fr (MI.m (by repeat constructor)))) (RdI.own0 hw' (by repeat constructor)))) (fun _ _ => ?_) | refine tl_eg rfl rfl rfl (e_callV rfl (.cons rfl (.cons rfl .nil)) (fun w' hw' => rSame_c [3] [3] (by decide) (by decide) _ _ w' ((hy7.1.fr (hl8.calm hy7.2 (MI.m (by repeat constructor)) (SB.s (by repeat constructor)))).fr (hw'.fr (w0 := wl8) (S := []) (MI.m (by repeat constructor)))) (RdI.own0 hw' (by repeat constructor)))) (fun _ _ => ?_) | refine tl_su rfl rfl rfl ?_ | (refine tl_gs rfl rfl (fun hc => ?_) (fun hc => ?_) <;> (try simp only [decide_eq_true_eq, decide_eq_false_iff_not, Int.not_lt, Int.not_le, Bool.not_eq_true', Bool.not_eq_false', Decidable.not_not, not_true_eq_false] at hc) <;> (first | (exfalso; omega) | refine tl_sk rfl rfl rfl rfl ?_ | refine tl_eg rfl rfl rfl (e_callV rfl (.cons rfl (.cons rfl .nil)) (fun w' hw' => rSame_c [0, 1] [0, 1] (by decide) (by decide) _ _ w' (hy1.1.fr (hw'.fr (MI.m (by repeat constructor)))) (RdI.own0 hw' (by repeat constructor)))) (fun _ _ => ?_) | refine tl_eg rfl rfl rfl (e_callV rfl (.cons rfl (.cons rfl .nil)) (fun w' hw' => rSame_c [2] [2] (by decide) (by decide) _ _ w' (hy2.1.fr (hw'.fr (MI.m (by repeat constructor)))) (RdI.own0 hw' (by repeat constructor)))) (fun _ _ => ?_) | refine tl_eg rfl rfl rfl (e_callV rfl (.cons rfl (.cons rfl .nil)) (fun w' hw' => rSame_c [3, 2] [3, 2] (by decide) (by decide) _ _ w' (hy3.1.fr (hw'.fr (MI.m (by repeat constructor)))) (RdI.own0 hw' (by repeat constructor)))) (fun _ _ => ?_) | refine tl_eg rfl rfl rfl (e_callV rfl (.cons rfl (.cons rfl .nil)) (fun w' hw' => rSame_c [0, 0] [0, 0] (by decide) (by decide) _ _ w' (hy5.1.fr (hw'.fr (MI.m (by repeat constructor)))) (RdI.own0 hw' (by repeat constructor)))) (fun _ _ => ?_) | refine tl_eg rfl rfl rfl (e_callV rfl (.cons rfl (.cons rfl .nil)) (fun w' hw' => rSame_c [3] [3] (by decide) (by decide) _ _ w' ((hy7.1.fr (hl8.calm hy7.2 (MI.m (by repeat constructor)) (SB.s (by repeat constructor)))).fr (hw'.fr (w0 := wl8) (S := []) (MI.m (by repeat constructor)))) (RdI.own0 hw' (by repeat constructor)))) (fun _ _ => ?_) | refine tl_su rfl rfl rfl ?_)))
  all_goals (first | refine tl_q (y_pick_t rfl rfl) rfl ?_ | refine tl_q (y_pick_f rfl rfl) rfl ?_)
  all_goals refine tl_q (y_move rfl) rfl ?_
  all_goals (first | refine tl_sk rfl rfl rfl rfl ?_ | refine tl_qg rfl rfl (y_move rfl) rfl ?_ | refine tl_su rfl rfl rfl ?_ | (refine tl_gs rfl rfl (fun hc => ?_) (fun hc => ?_) <;> (try simp only [decide_eq_true_eq, decide_eq_false_iff_not, Int.not_lt, Int.not_le, Bool.not_eq_true', Bool.not_eq_false', Decidable.not_not, not_true_eq_false] at hc) <;> (first | (exfalso; omega) | refine tl_sk rfl rfl rfl rfl ?_ | refine tl_qg rfl rfl (y_move rfl) rfl ?_ | refine tl_su rfl rfl rfl ?_)))
  all_goals (first | refine tl_sk rfl rfl rfl rfl ?_ | refine tl_qg rfl rfl (y_eql rfl rfl) rfl ?_ | refine tl_su rfl rfl rfl ?_ | (refine tl_gs rfl rfl (fun hc => ?_) (fun hc => ?_) <;> (try simp only [decide_eq_true_eq, decide_eq_false_iff_not, Int.not_lt, Int.not_le, Bool.not_eq_true', Bool.not_eq_false', Decidable.not_not, not_true_eq_false] at hc) <;> (first | (exfalso; omega) | refine tl_sk rfl rfl rfl rfl ?_ | refine tl_qg rfl rfl (y_eql rfl rfl) rfl ?_ | refine tl_su rfl rfl rfl ?_)))
  all_goals (first | refine tl_q (y_pick_t rfl rfl) rfl ?_ | refine tl_q (y_pick_f rfl rfl) rfl ?_)
  all_goals refine tl_q (y_move rfl) rfl ?_
  all_goals (first | refine tl_sk rfl rfl rfl rfl ?_ | refine tl_qg rfl rfl (y_move rfl) rfl ?_ | refine tl_su rfl rfl rfl ?_ | (refine tl_gs rfl rfl (fun hc => ?_) (fun hc => ?_) <;> (try simp only [decide_eq_true_eq, decide_eq_false_iff_not, Int.not_lt, Int.not_le, Bool.not_eq_true', Bool.not_eq_false', Decidable.not_not, not_true_eq_false] at hc) <;> (first | (exfalso; omega) | refine tl_sk rfl rfl rfl rfl ?_ | refine tl_qg rfl rfl (y_move rfl) rfl ?_ | refine tl_su rfl rfl rfl ?_)))
  all_goals (first | refine tl_sk rfl rfl rfl rfl ?_ | refine tl_qg rfl rfl (y_eql rfl rfl) rfl ?_ | refine tl_su rfl rfl rfl ?_ | (refine tl_gs rfl rfl (fun hc => ?_) (fun hc => ?_) <;> (try simp only [decide_eq_true_eq, decide_eq_false_iff_not, Int.not_lt, Int.not_le, Bool.not_eq_true', Bool.not_eq_false', Decidable.not_not, not_true_eq_false] at hc) <;> (first | (exfalso; omega) | refine tl_sk rfl rfl rfl rfl ?_ | refine tl_qg rfl rfl (y_eql rfl rfl) rfl ?_ | refine tl_su rfl rfl rfl ?_)))
  all_goals (first | refine tl_q (y_pick_t rfl rfl) rfl ?_ | refine tl_q (y_pick_f rfl rfl) rfl ?_)
  all_goals refine tl_q (y_move rfl) rfl ?_
  all_goals (first | refine tl_sk rfl rfl rfl rfl ?_ | refine tl_qg rfl rfl (y_move rfl) rfl ?_ | refine tl_su rfl rfl rfl ?_ | (refine tl_gs rfl rfl (fun hc => ?_) (fun hc => ?_) <;> (try simp only [decide_eq_true_eq, decide_eq_false_iff_not, Int.not_lt, Int.not_le, Bool.not_eq_true', Bool.not_eq_false', Decidable.not_not, not_true_eq_false] at hc) <;> (first | (exfalso; omega) | refine tl_sk rfl rfl rfl rfl ?_ | refine tl_qg rfl rfl (y_move rfl) rfl ?_ | refine tl_su rfl rfl rfl ?_)))
  all_goals (first | refine tl_sk rfl rfl rfl rfl ?_ | refine tl_qg rfl rfl (y_eql rfl rfl) rfl ?_ | refine tl_su rfl rfl rfl ?_ | (refine tl_gs rfl rfl (fun hc => ?_) (fun hc => ?_) <;> (try simp only [decide_eq_true_eq, decide_eq_false_iff_not, Int.not_lt, Int.not_le, Bool.not_eq_true', Bool.not_eq_false', Decidable.not_not, not_true_eq_false] at hc) <;> (first | (exfalso; omega) | refine tl_sk rfl rfl rfl rfl ?_ | refine tl_qg rfl rfl (y_eql rfl rfl) rfl ?_ | refine tl_su rfl rfl rfl ?_)))
  all_goals (first | refine tl_q (y_pick_t rfl rfl) rfl ?_ | refine tl_q (y_pick_f rfl rfl) rfl ?_)
  all_goals refine tl_q (y_move rfl) rfl ?_
  all_goals (first | refine tl_sk rfl rfl rfl rfl ?_ | refine tl_qg rfl rfl (y_move rfl) rfl ?_ | refine tl_su rfl rfl rfl ?_ | (refine tl_gs rfl rfl (fun hc => ?_) (fun hc => ?_) <;> (try simp only [decide_eq_true_eq, decide_eq_false_iff_not, Int.not_lt, Int.not_le, Bool.not_eq_true', Bool.not_eq_false', Decidable.not_not, not_true_eq_false] at hc) <;> (first | (exfalso; omega) | refine tl_sk rfl rfl rfl rfl ?_ | refine tl_qg rfl rfl (y_move rfl) rfl ?_ | refine tl_su rfl rfl rfl ?_)))
  all_goals (first | refine tl_sk rfl rfl rfl rfl ?_ | refine tl_eg rfl rfl rfl (e_bslice rfl (by (repeat (first | exact .nil | apply PV.one rfl rfl | apply PV.two rfl)); done) rfl rfl) (fun _ _ => ?_) | refine tl_eg rfl rfl rfl (e_bsliceG rfl (.agg rfl rfl .nil) rfl rfl) (fun _ _ => ?_) | refine tl_su rfl rfl rfl ?_ | (refine tl_gs rfl rfl (fun hc => ?_) (fun hc => ?_) <;> (try simp only [decide_eq_true_eq, decide_eq_false_iff_not, Int.not_lt, Int.not_le, Bool.not_eq_true', Bool.not_eq_false', Decidable.not_not, not_true_eq_false] at hc) <;> (first | (exfalso; omega) | refine tl_sk rfl rfl rfl rfl ?_ | refine tl_eg rfl rfl rfl (e_bslice rfl (by (repeat (first | exact .nil | apply PV.one rfl rfl | apply PV.two rfl)); done) rfl rfl) (fun _ _ => ?_) | refine tl_eg rfl rfl rfl (e_bsliceG rfl (.agg rfl rfl .nil) rfl rfl) (fun _ _ => ?_) | refine tl_su rfl rfl rfl ?_)))
  all_goals (first | refine tl_sk rfl rfl rfl rfl ?_ | refine tl_eg rfl rfl rfl (e_callV rfl (.cons rfl (.cons rfl .nil)) (fun w' hw' => rSame_c [0, 1] [0, 1] (by decide) (by decide) _ _ w' (hy1.1.fr (hw'.fr (MI.m (by repeat constructor)))) (RdI.own0 hw' (by repeat constructor)))) (fun _ _ => ?_) | refine tl_eg rfl rfl rfl (e_callV rfl (.cons rfl (.cons rfl .nil)) (fun w' hw' => rSame_c [2] [2] (by decide) (by decide) _ _ w' (hy2.1.fr (hw'.fr (MI.m (by repeat constructor)))) (RdI.own0 hw' (by repeat constructor)))) (fun _ _ => ?_) | refine tl_eg rfl rfl rfl (e_callV rfl (.cons rfl (.cons rfl .nil)) (fun w' hw' => rSame_c [3, 2] [3, 2] (by decide) (by decide) _ _ w' (hy3.1.fr (hw'.fr (MI.m (by repeat constructor)))) (RdI.own0 hw' (by repeat constructor)))) (fun _ _ => ?_) | refine tl_eg rfl rfl rfl (e_callV rfl (.cons rfl (.cons rfl .nil)) (fun w' hw' => rSame_c [0, 0] [0, 0] (by decide) (by decide) _ _ w' (hy5.1.fr (hw'.fr (MI.m (by repeat constructor)))) (RdI.own0 hw' (by repeat constructor)))) (fun _ _ => ?_) | refine tl_eg rfl rfl rfl (e_callV rfl (.cons rfl (.cons rfl .nil)) (fun w' hw' => rSame_c [3] [3] (by decide) (by decide) _ _ w' ((hy7.1.fr (hl8.calm hy7.2 (MI.m (by repeat constructor)) (SB.s (by repeat constructor)))).fr (hw'.fr (w0 := wl8) (S := []) (MI.m (by repeat constructor)))) (RdI.own0 hw' (by repeat constructor)))) (fun _ _ => ?_) | refine tl_su rfl rfl rfl ?_ | (refine tl_gs rfl rfl (fun hc => ?_) (fun hc => ?_) <;> (try simp only [decide_eq_true_eq, decide_eq_false_iff_not, Int.not_lt, Int.not_le, Bool.not_eq_true', Bool.not_eq_false', Decidable.not_not, not_true_eq_false] at hc) <;> (first | (exfalso; omega) | refine tl_sk rfl rfl rfl rfl ?_ | refine tl_eg rfl rfl rfl (e_callV rfl (.cons rfl (.cons rfl .nil)) (fun w' hw' => rSame_c [0, 1] [0, 1] (by decide) (by decide) _ _ w' (hy1.1.fr (hw'.fr (MI.m (by repeat constructor)))) (RdI.own0 hw' (by repeat constructor)))) (fun _ _ => ?_) | refine tl_eg rfl rfl rfl (e_callV rfl (.cons rfl (.cons rfl .nil)) (fun w' hw' => rSame_c [2] [2] (by decide) (by decide) _ _ w' (hy2.1.fr (hw'.fr (MI.m (by repeat constructor)))) (RdI.own0 hw' (by repeat constructor)))) (fun _ _ => ?_) | refine tl_eg rfl rfl rfl (e_callV rfl (.cons rfl (.cons rfl .nil)) (fun w' hw' => rSame_c [3, 2] [3, 2] (by decide) (by decide) _ _ w' (hy3.1.fr (hw'.fr (MI.m (by repeat constructor)))) (RdI.own0 hw' (by repeat constructor)))) (fun _ _ => ?_) | refine tl_eg rfl rfl rfl (e_callV rfl (.cons rfl (.cons rfl .nil)) (fun w' hw' => rSame_c [0, 0] [0, 0] (by decide) (by decide) _ _ w' (hy5.1.fr (hw'.fr (MI.m (by repeat constructor)))) (RdI.own0 hw' (by repeat constructor)))) (fun _ _ => ?_) | refine tl_eg rfl rfl rfl (e_callV rfl (.cons rfl (.cons rfl .nil)) (fun w' hw' => rSame_c [3] [3] (by decide) (by decide) _ _ w' ((hy7.1.fr (hl8.calm hy7.2 (MI.m (by repeat constructor)) (SB.s (by repeat constructor)))).fr (hw'.fr (w0 := wl8) (S := []) (MI.m (by repeat constructor)))) (RdI.own0 hw' (by repeat constructor)))) (fun _ _ => ?_) | refine tl_su rfl rfl rfl ?_)))
  all_goals (first | refine tl_q (y_pick_t rfl rfl) rfl ?_ | refine tl_q (y_pick_f rfl rfl) rfl ?_)
  all_goals refine tl_q (y_assign rfl) rfl ?_
  all_goals refine tl_nil ?_
  all_goals (refine hK9 ?_; try (clear hK9; clear K9))
  all_goals refine tc_ret ?_
  all_goals (repeat (first | refine tk_then_ret ?_ | refine tk_block_ret ?_ | refine tk_scope_ret ?_))
  all_goals first | refine tk_ret rfl rfl (.cons (.tmp rfl) .nil) ?_ | refine tk_retM rfl (by repeat constructor) rfl (.cons (.tmp rfl) .nil) ?_
  all_goals (
   exact fun w' hw' => ⟨rfl, hw'.fr (w0 := w) (S := []) (MI.m (by repeat constructor))⟩)
end Go.Sp
/-
  The sample before, and with, an entry: plainly.
-/
namespace Go.Sp
open Go Go.Proofs
theorem y_orn {P : Program} {F : List (Nat × Value)} {bs : List (World × List Nat)} {H : List (Nat × Obj)} {d : Option Tmp} {ty : TypeId} {pos : String} {after : Array Edge} {g : Option (Nat × Bool)} {x y : Operand} {t t' : TypeId} {a b : Nat} (hx : evalO F x = some (.int .i64 a)) (hy : evalO F y = some (.int .i64 b)) (ha : a < 2 ^ 62) (hb : b < 2 ^ 62) :
    OpY P ⟨d, .binOp .or t x y t', ty, pos, after, g⟩ F bs H (.int .i64 ((a ||| b : Nat) : Int)) := by
  unfold OpY
  intro N a' w ht _
  have hab : a ||| b < 2 ^ 62 := Nat.or_lt_two_pow ha hb
  have e : (BitVec.ofInt 64 (a : Int) ||| BitVec.ofInt 64 (b : Int)).toNat = a ||| b := by
    rw [BitVec.toNat_or, BitVec.ofInt_natCast, BitVec.ofInt_natCast, BitVec.toNat_ofNat, BitVec.toNat_ofNat, Nat.mod_eq_of_lt (by omega), Nat.mod_eq_of_lt (by omega)]
  have hw : IntKind.i64.wrap ((a ||| b : Nat) : Int) = ((a ||| b : Nat) : Int) := IntWalk.i64_in _ (by omega)
  simp only [execOp, ht.eval hx, ht.eval hy, Sem.run_bind, eqGuard_int, binOp_or, Op.intBits, IntKind.bits, e, hw, Result.andThen, Sem.run_pure, binOp, ne_eq, not_true, if_false]
  have e2 : IntKind.i64.wrap ((BitVec.ofInt IntKind.i64.bits (a : Int) ||| BitVec.ofInt IntKind.i64.bits (b : Int)).toNat : Int) = ((a ||| b : Nat) : Int) := by
    rw [← hw]; exact congrArg (fun n : Nat => IntKind.i64.wrap (n : Int)) e
  exact congrArg (fun n => Result.ok (Next.value (Value.int .i64 n)) w) e2
theorem y_shl1 {P : Program} {F : List (Nat × Value)} {bs : List (World × List Nat)} {H : List (Nat × Obj)} {d : Option Tmp} {ty : TypeId} {pos : String} {after : Array Edge} {g : Option (Nat × Bool)} {x y : Operand} {t t' : TypeId} {k' : IntKind} {n : Int} (hx : evalO F x = some (.int .i64 1)) (hy : evalO F y = some (.int k' n)) (hn : 0 ≤ n ∧ n ≤ 60) :
    OpY P ⟨d, .binOp .shl t x y t', ty, pos, after, g⟩ F bs H (.int .i64 ((2 ^ n.toNat : Nat) : Int)) := by
  have hp : 2 ^ n.toNat ≤ 2 ^ 60 := Nat.pow_le_pow_right (by omega) (by omega)
  have e : (1 : Int) * 2 ^ n.toNat = ((2 ^ n.toNat : Nat) : Int) := by simp
  have h : OpY P ⟨d, .binOp .shl t x y t', ty, pos, after, g⟩ F bs H (.int .i64 (1 * 2 ^ n.toNat)) := y_shl hx hy (by omega) (by rw [e]; generalize 2 ^ n.toNat = q at hp ⊢; omega)
  rw [e] at h; exact h
/-- The first entries. -/
def fstK (s : Smp) (k : Nat) : Smp := { s with ps := s.ps.take k, sg := s.sg.take (k - s.ps.length) }
theorem kbI_bit (B e : Nat) : kbI (B : Int) (e : Int) = !B.testBit e := by
  unfold kbI
  have h : (B : Int) / 2 ^ (e : Int).toNat % 2 = ((B / 2 ^ e % 2 : Nat) : Int) := by
    rw [Int.toNat_natCast, Int.natCast_emod, Int.natCast_ediv, Int.natCast_pow]; rfl
  rw [h, Nat.testBit_eq_decide_div_mod_eq]
  have := Nat.mod_lt (B / 2 ^ e) (show 0 < 2 by omega)
  by_cases h0 : B / 2 ^ e % 2 = 0
  · rw [h0]; rfl
  · rw [show B / 2 ^ e % 2 = 1 from by omega]; rfl
theorem VSm.fst {s : Smp} (hv : VSm s) (k : Nat) : VSm (fstK s k) := hv.sub (List.take_sublist _ _) (List.take_sublist _ _)
theorem Few.fst {s : Smp} (h : Few s) (k : Nat) : Few (fstK s k) := ⟨h.st, by have := h.ps; simp [fstK]; omega, by have := h.sg; simp [fstK]; omega⟩
theorem vdE_v {s : Smp} (hv : VSm s) : vdE s = if consF s = true then 0 else 9 := by
  unfold vdE sureE
  rw [if_neg (fun h => h (chkS_0.2 hv)), if_neg (by decide)]
  cases consF s <;> rfl
end Go.Sp
/-
  The smallest set of entries, plainly.
-/
namespace Go.Sp
open Go Go.Proofs
abbrev Inc (l : List Int) : Prop := l.Pairwise (· < ·)
/-- One list is before another one at the smallest number that is in one of them alone. -/
def Dif (T L : List Int) : Prop := ∃ e, e ∈ T ∧ e ∉ L ∧ ∀ x, x < e → (x ∈ T ↔ x ∈ L)
theorem drop_cons {l : List Int} {i : Nat} (h : i < l.length) : l.drop i = l.getD i 0 :: l.drop (i + 1) := by
  rw [List.drop_eq_getElem_cons h, List.getD_eq_getElem?_getD, List.getElem?_eq_getElem h]; rfl
theorem inc_drop {l : List Int} (hl : Inc l) {i : Nat} (h : i < l.length) {z : Int} (hz : z ∈ l.drop (i + 1)) : l.getD i 0 < z := by
  have h1 : Inc (l.drop i) := hl.sublist (List.drop_sublist _ _)
  rw [drop_cons h] at h1
  exact (List.pairwise_cons.1 h1).1 z hz
theorem srchL_get {p : List Int → Bool} {own : List Int} : ∀ (m : Nat) (l : List Int) (fr : Nat) (r : List Int), srchL p own m l fr = some r → p r = true ∧ ∃ r', r = l ++ r' ∧ r'.Sublist (own.drop fr)
  | 0, l, fr, r, h => by
    unfold srchL at h
    split at h
    · rename_i hp; cases h; exact ⟨hp, [], by simp, List.nil_sublist _⟩
    · cases h
  | m + 1, l, fr, r, h => by
    rw [srchL] at h
    obtain ⟨j, hj, hr⟩ := List.exists_of_findSome?_eq_some h
    rw [List.mem_range] at hj
    obtain ⟨h1, r', rfl, h3⟩ := srchL_get m _ _ r hr
    refine ⟨h1, own.getD (fr + j) 0 :: r', by simp, ?_⟩
    have h4 : (own.drop (fr + j)).Sublist (own.drop fr) := by
      rw [← List.drop_drop]; exact List.drop_sublist _ _
    rw [drop_cons (by omega)] at h4
    exact (h3.cons_cons _).trans h4
theorem least_some {α : Type} {f : Nat → Option α} : ∀ {k : Nat}, (f k).isSome = true → ∃ j, j ≤ k ∧ (f j).isSome = true ∧ ∀ i, i < j → f i = none := by
  intro k
  induction k using Nat.strongRecOn with
  | _ k ih =>
    intro h
    by_cases hx : ∃ i, i < k ∧ (f i).isSome = true
    · obtain ⟨i, hi, hs⟩ := hx
      obtain ⟨j, h1, h2, h3⟩ := ih i hi hs
      exact ⟨j, by omega, h2, h3⟩
    · refine ⟨k, Nat.le_refl _, h, fun i hi => ?_⟩
      cases hf : f i with
      | none => rfl
      | some v => exact absurd ⟨i, hi, by rw [hf]; rfl⟩ hx
theorem sub_cons {x : Int} {t : List Int} : ∀ {l : List Int}, (x :: t).Sublist l → ∃ k, k < l.length ∧ l.getD k 0 = x ∧ t.Sublist (l.drop (k + 1))
  | [], h => by cases h
  | y :: l, h => by
    cases h with
    | cons _ h =>
      obtain ⟨k, h1, h2, h3⟩ := sub_cons h
      exact ⟨k + 1, by simpa using h1, h2, h3⟩
    | cons_cons _ h => exact ⟨0, by simp, rfl, h⟩
theorem srchL_min {p : List Int → Bool} {own : List Int} (hown : Inc own) : ∀ (m : Nat) (l : List Int) (fr : Nat) (t : List Int), t.Sublist (own.drop fr) → t.length = m → p (l ++ t) = true → ∃ r', srchL p own m l fr = some (l ++ r') ∧ ¬ Dif t r'
  | 0, l, fr, t, h1, h2, h3 => by
    obtain rfl := List.length_eq_zero_iff.1 h2
    rw [List.append_nil] at h3
    refine ⟨[], ?_, fun ⟨e, he, _⟩ => by cases he⟩
    unfold srchL
    rw [if_pos h3, List.append_nil]
  | m + 1, l, fr, [], h1, h2, h3 => by cases h2
  | m + 1, l, fr, x :: t, h1, h2, h3 => by
    obtain ⟨k, hk, hx, ht⟩ := sub_cons h1
    rw [List.length_drop] at hk
    rw [List.drop_drop, show fr + (k + 1) = fr + k + 1 from by omega] at ht
    have hx' : own.getD (fr + k) 0 = x := by rw [← hx, List.getD_eq_getElem?_getD, List.getD_eq_getElem?_getD, List.getElem?_drop]
    have htm : t.length = m := by simpa using h2
    have htl := ht.length_le
    rw [List.length_drop] at htl
    obtain ⟨r1, hr1, hd1⟩ := srchL_min hown m (l ++ [x]) (fr + k + 1) t ht htm (by rw [List.append_assoc]; exact h3)
    have hxi : Inc (x :: t) := (hown.sublist (List.drop_sublist fr own)).sublist h1
    have hxt := (List.pairwise_cons.1 hxi).1
    obtain ⟨j, hj, hs, hno⟩ := least_some (f := fun (j : Nat) => srchL p own m (l ++ [own.getD (fr + j) 0]) (fr + j + 1)) (k := k) (by rw [hx', hr1]; rfl)
    obtain ⟨r, hr⟩ := Option.isSome_iff_exists.1 hs
    have e : srchL p own (m + 1) l fr = some r := by
      rw [srchL]
      exact fs_hit (j := j) (by omega) hr hno
    rw [e]
    rcases Nat.lt_or_eq_of_le hj with hlt | rfl
    · obtain ⟨_, r', rfl, hsub⟩ := srchL_get _ _ _ _ hr
      refine ⟨own.getD (fr + j) 0 :: r', by simp, fun ⟨z, hz, hzn, hall⟩ => ?_⟩
      have hyx : own.getD (fr + j) 0 < x := by
        rw [← hx']
        refine inc_drop hown (by omega) ?_
        have : own.drop (fr + k) = (own.drop (fr + j + 1)).drop (k - j - 1) := by rw [List.drop_drop]; congr 1; omega
        refine (List.drop_sublist (k - j - 1) _).subset ?_
        rw [← this, drop_cons (by omega)]
        exact List.mem_cons_self ..
      have hzx : x ≤ z := by
        rcases List.mem_cons.1 hz with rfl | hz
        · exact Int.le_refl _
        · exact Int.le_of_lt (hxt z hz)
      have := (hall (own.getD (fr + j) 0) (by omega)).2 (List.mem_cons_self ..)
      rcases List.mem_cons.1 this with h | h
      · omega
      · have := hxt _ h; omega
    · rw [hx', hr1] at hr
      cases hr
      refine ⟨x :: r1, by simp, fun ⟨z, hz, hzn, hall⟩ => ?_⟩
      obtain ⟨_, r', he, hsub⟩ := srchL_get _ _ _ _ hr1
      obtain rfl : r1 = r' := List.append_cancel_left he
      have hxr : ∀ y ∈ r1, x < y := fun y hy => by rw [← hx']; exact inc_drop hown (by omega) (hsub.subset hy)
      have hzx : z ≠ x := fun h => hzn (by rw [h]; exact List.mem_cons_self ..)
      refine hd1 ⟨z, (List.mem_cons.1 hz).resolve_left hzx, fun h => hzn (List.mem_cons_of_mem _ h), fun y hy => ?_⟩
      have := hall y hy
      constructor
      · intro h
        refine (List.mem_cons.1 (this.1 (List.mem_cons_of_mem _ h))).resolve_left (fun g => ?_)
        have := hxt y h; omega
      · intro h
        refine (List.mem_cons.1 (this.2 (List.mem_cons_of_mem _ h))).resolve_left (fun g => ?_)
        have := hxr y h; omega
def ownE (s : Smp) (i : Nat) : Int := if i < s.ps.length then (s.ps.getD i pas0).b else (s.sg.getD (i - s.ps.length) sgt0).b
theorem entL_filt (s : Smp) (b : Int) : entL s b = ((List.range (mnyE s)).filter fun i => decide (ownE s i = b)).map fun (i : Nat) => (i : Int) := by
  show epN s b s.ps.length ++ egN s b s.sg.length = _
  unfold mnyE
  rw [List.range_add, List.filter_append, List.map_append, List.filter_map, List.map_map]
  unfold epN egN
  congr 1
  · refine congrArg _ (List.filter_congr fun i hi => ?_)
    rw [List.mem_range] at hi
    unfold ownE
    rw [if_pos hi]
  · have e : ((fun i => decide (ownE s i = b)) ∘ fun x => s.ps.length + x) = fun i => decide ((s.sg.getD i sgt0).b = b) := funext fun i => by
      show decide (ownE s (s.ps.length + i) = b) = _
      unfold ownE
      rw [if_neg (by omega), Nat.add_sub_cancel_left]
    rw [e]
    refine List.map_congr_left fun i _ => ?_
    simp
theorem range_inc : ∀ {l : List Nat}, l.Pairwise (· < ·) → Inc (l.map fun (i : Nat) => (i : Int)) := fun h => List.Pairwise.map _ (fun _ _ h => by omega) h
theorem filt_inc (n : Nat) (p : Nat → Bool) : Inc (((List.range n).filter p).map fun (i : Nat) => (i : Int)) := range_inc (List.pairwise_lt_range.sublist List.filter_sublist)
theorem entL_inc (s : Smp) (b : Int) : Inc (entL s b) := by rw [entL_filt]; exact filt_inc _ _
theorem entL_mem {s : Smp} {b e : Int} : e ∈ entL s b ↔ ∃ i : Nat, i < mnyE s ∧ ownE s i = b ∧ e = i := by
  rw [entL_filt]
  constructor
  · intro h
    obtain ⟨i, hi, rfl⟩ := List.mem_map.1 h
    obtain ⟨h1, h2⟩ := List.mem_filter.1 hi
    exact ⟨i, List.mem_range.1 h1, by simpa using h2, rfl⟩
  · rintro ⟨i, h1, h2, rfl⟩
    exact List.mem_map.2 ⟨i, List.mem_filter.2 ⟨List.mem_range.2 h1, by simpa using h2⟩, rfl⟩
theorem ownE_ok {s : Smp} (hv : VSm s) {i : Nat} (hi : i < mnyE s) : 0 ≤ ownE s i ∧ ownE s i < s.B := by
  unfold ownE
  unfold mnyE at hi
  split
  · rename_i h; exact (hv.ps _ (getD_memG h)).1
  · exact (hv.sg _ (getD_memG (by omega))).1
theorem lvF_min (s : Smp) (b : Int) : possF (wthF s (lvF s b)) b = true ∧ (lvF s b).Sublist (entL s b) ∧ ∀ t : List Int, t.Sublist (entL s b) → possF (wthF s t) b = true → (lvF s b).length ≤ t.length ∧ (t.length = (lvF s b).length → ¬ Dif t (lvF s b)) := by
  obtain ⟨j, hj, hs, hno⟩ := least_some (f := fun (n : Nat) => srchL (wpB s b) (entL s b) n [] 0) (k := (entL s b).length) (by rw [srchL_own]; rfl)
  obtain ⟨r, hr⟩ := Option.isSome_iff_exists.1 hs
  have e : lvF s b = r := by
    unfold lvF
    rw [fs_hit (j := j) (by omega) hr hno]; rfl
  rw [e]
  obtain ⟨h1, r', h2, h3⟩ := srchL_get _ _ _ _ hr
  rw [List.nil_append] at h2
  subst h2
  have hl : r.length = j := by have := srchL_len _ _ _ _ hr; simpa using this
  refine ⟨h1, h3, fun t ht hp => ?_⟩
  obtain ⟨r', h4, h5⟩ := srchL_min (p := wpB s b) (entL_inc s b) t.length [] 0 t ht rfl hp
  refine ⟨?_, fun heq => ?_⟩
  · rw [hl]
    refine Nat.le_of_not_lt fun hlt => ?_
    rw [hno _ hlt] at h4; cases h4
  · rw [heq, hl, hr] at h4
    cases h4; exact h5
theorem lvF_own {s : Smp} {b e : Int} (h : e ∈ lvF s b) : ∃ i : Nat, i < mnyE s ∧ ownE s i = b ∧ e = i := entL_mem.1 ((lvF_min s b).2.1.subset h)
theorem lvN_mem {s : Smp} {n : Nat} {e : Int} : e ∈ lvN s n ↔ ∃ b : Nat, b < n ∧ e ∈ lvF s (b : Int) := by
  unfold lvN
  rw [List.mem_flatMap]
  exact ⟨fun ⟨b, h1, h2⟩ => ⟨b, List.mem_range.1 h1, h2⟩, fun ⟨b, h1, h2⟩ => ⟨b, List.mem_range.2 h1, h2⟩⟩
theorem lvN_nd (s : Smp) : ∀ n, (lvN s n).Nodup
  | 0 => by simp [lvN]
  | n + 1 => by
    rw [lvN_succ]
    refine List.nodup_append.2 ⟨lvN_nd s n, ?_, fun a ha b hb => ?_⟩
    · exact (List.Pairwise.imp (fun h => Int.ne_of_lt h) (entL_inc s n)).sublist (lvF_min s n).2.1
    · obtain ⟨k, hk, hm⟩ := lvN_mem.1 ha
      obtain ⟨i, _, hi, rfl⟩ := lvF_own hm
      obtain ⟨i', _, hi', rfl⟩ := lvF_own hb
      intro h
      obtain rfl : i = i' := by omega
      omega
theorem levL_v {s : Smp} (hv : VSm s) : levL s = (lvN s s.B.toNat).mergeSort fun x y => decide (x ≤ y) := by
  unfold levL lvS
  rw [if_pos (chkS_0.2 hv)]
theorem levL_mem {s : Smp} (hv : VSm s) {e : Int} : e ∈ levL s ↔ ∃ b : Nat, b < s.B.toNat ∧ e ∈ lvF s (b : Int) := by
  rw [levL_v hv, List.mem_mergeSort]; exact lvN_mem
theorem levL_len {s : Smp} (hv : VSm s) : (levL s).length = (lvN s s.B.toNat).length := by rw [levL_v hv, List.length_mergeSort]
theorem levL_inc {s : Smp} (hv : VSm s) : Inc (levL s) := by
  rw [levL_v hv]
  have h1 : ((lvN s s.B.toNat).mergeSort fun x y => decide (x ≤ y)).Pairwise fun x y => decide (x ≤ y) = true :=
    List.pairwise_mergeSort (fun a b c h1 h2 => by simp at *; omega) (fun a b => by simp; omega) _
  have h2 : ((lvN s s.B.toNat).mergeSort fun x y => decide (x ≤ y)).Nodup := (List.mergeSort_perm _ _).nodup_iff.2 (lvN_nd s _)
  exact (h1.and h2).imp fun ⟨h, hn⟩ => by
    have : _ := of_decide_eq_true h
    omega
theorem levL_in {s : Smp} (hv : VSm s) {e : Int} (h : e ∈ levL s) : 0 ≤ e ∧ e < mnyE s := by
  obtain ⟨b, _, hm⟩ := (levL_mem hv).1 h
  obtain ⟨i, hi, _, rfl⟩ := lvF_own hm
  omega
theorem levL_own {s : Smp} (hv : VSm s) {b : Nat} (hb : b < s.B.toNat) {e : Int} (h : e ∈ entL s (b : Int)) : e ∈ levL s ↔ e ∈ lvF s (b : Int) := by
  rw [levL_mem hv]
  constructor
  · rintro ⟨b', hb', hm⟩
    obtain ⟨i, hi, hi1, rfl⟩ := entL_mem.1 h
    obtain ⟨i', hi', hi1', he⟩ := lvF_own hm
    obtain rfl : i = i' := by omega
    obtain rfl : b = b' := by omega
    exact hm
  · exact fun h => ⟨b, hb, h⟩
theorem lev_cons {s : Smp} (hv : VSm s) : consF (wthF s (levL s)) = true := by
  refine consF_yes fun k hk => ?_
  rw [(wth_sam (b := (k : Int)) (out := levL s) (out' := lvF s k) fun e he => levL_own hv hk he).poss]
  exact (lvF_min s k).1
def bitN (B n : Nat) : List Int := ((List.range n).filter fun i => B.testBit i).map fun (i : Nat) => (i : Int)
theorem bitN_mem {B n : Nat} {e : Int} : e ∈ bitN B n ↔ ∃ i : Nat, i < n ∧ B.testBit i = true ∧ e = i := by
  unfold bitN
  constructor
  · intro h
    obtain ⟨i, hi, rfl⟩ := List.mem_map.1 h
    obtain ⟨h1, h2⟩ := List.mem_filter.1 hi
    exact ⟨i, List.mem_range.1 h1, h2, rfl⟩
  · rintro ⟨i, h1, h2, rfl⟩
    exact List.mem_map.2 ⟨i, List.mem_filter.2 ⟨List.mem_range.2 h1, h2⟩, rfl⟩
theorem bitN_at {B n i : Nat} (hi : i < n) : B.testBit i = true ↔ (i : Int) ∈ bitN B n := by
  rw [bitN_mem]
  constructor
  · exact fun h => ⟨i, hi, h, rfl⟩
  · rintro ⟨j, _, h2, h3⟩
    obtain rfl : i = j := by omega
    exact h2
def bitO (s : Smp) (B : Nat) (b : Int) : List Int := ((List.range (mnyE s)).filter fun i => B.testBit i && decide (ownE s i = b)).map fun (i : Nat) => (i : Int)
theorem bitO_sub (s : Smp) (B : Nat) (b : Int) : (bitO s B b).Sublist (entL s b) := by
  rw [entL_filt]
  unfold bitO
  rw [← List.filter_filter]
  exact List.Sublist.map _ List.filter_sublist
theorem bitO_mem {s : Smp} {B : Nat} {b e : Int} : e ∈ bitO s B b ↔ ∃ i : Nat, i < mnyE s ∧ (B.testBit i = true ∧ ownE s i = b) ∧ e = i := by
  unfold bitO
  constructor
  · intro h
    obtain ⟨i, hi, rfl⟩ := List.mem_map.1 h
    obtain ⟨h1, h2⟩ := List.mem_filter.1 hi
    exact ⟨i, List.mem_range.1 h1, by simpa using h2, rfl⟩
  · rintro ⟨i, h1, h2, rfl⟩
    exact List.mem_map.2 ⟨i, List.mem_filter.2 ⟨List.mem_range.2 h1, by simpa using h2⟩, rfl⟩
theorem kpt_wth (s : Smp) (B : Nat) {out : List Int} (h : ∀ i, i < mnyE s → (B.testBit i = true ↔ (i : Int) ∈ out)) : kptF s (B : Int) = wthF s out := by
  unfold mnyE at h
  unfold kptF wthF kpN kgN wpN wgN
  congr 1
  · refine congrArg _ (List.filter_congr fun i hi => ?_)
    rw [List.mem_range] at hi
    rw [kbI_bit]
    have := h i (by omega)
    cases hb : B.testBit i <;> simp_all
  · refine congrArg _ (List.filter_congr fun i hi => ?_)
    rw [List.mem_range] at hi
    rw [show (s.ps.length : Int) + (i : Int) = ((s.ps.length + i : Nat) : Int) from by omega, kbI_bit]
    have := h (s.ps.length + i) (by omega)
    cases hb : B.testBit (s.ps.length + i) <;> simp_all
theorem cnt_succ {p : Nat → Bool} {o : Nat → Int} (n : Int) : ∀ l : List Nat, (l.filter fun i => p i && decide (o i < n + 1)).length = (l.filter fun i => p i && decide (o i < n)).length + (l.filter fun i => p i && decide (o i = n)).length
  | [] => rfl
  | i :: l => by
    have ih := cnt_succ (p := p) (o := o) n l
    rw [List.filter_cons, List.filter_cons, List.filter_cons]
    cases hp : p i
    · simpa using ih
    · rcases Int.lt_trichotomy (o i) n with h | h | h
      · rw [decide_eq_true (show o i < n + 1 by omega), decide_eq_true h, decide_eq_false (show ¬ o i = n by omega)]
        simp; omega
      · rw [decide_eq_true (show o i < n + 1 by omega), decide_eq_false (show ¬ o i < n by omega), decide_eq_true h]
        simp; omega
      · rw [decide_eq_false (show ¬ o i < n + 1 by omega), decide_eq_false (show ¬ o i < n by omega), decide_eq_false (show ¬ o i = n by omega)]
        simp; omega
theorem bit_cnt {s : Smp} {B : Nat} : ∀ n : Nat, (∀ b : Nat, b < n → (lvF s (b : Int)).length ≤ (bitO s B b).length) → (lvN s n).length ≤ ((List.range (mnyE s)).filter fun i => B.testBit i && decide (ownE s i < n)).length ∧ ((lvN s n).length = ((List.range (mnyE s)).filter fun i => B.testBit i && decide (ownE s i < n)).length → ∀ b : Nat, b < n → (bitO s B b).length = (lvF s (b : Int)).length)
  | 0, _ => ⟨by simp [lvN], fun _ b hb => absurd hb (Nat.not_lt_zero b)⟩
  | n + 1, h => by
    obtain ⟨h1, h2⟩ := bit_cnt (s := s) (B := B) n (fun b hb => h b (by omega))
    have h3 := h n (by omega)
    have e := cnt_succ (p := fun i => B.testBit i) (o := ownE s) (n : Int) (List.range (mnyE s))
    have e2 : (bitO s B n).length = ((List.range (mnyE s)).filter fun i => B.testBit i && decide (ownE s i = (n : Int))).length := by unfold bitO; rw [List.length_map]
    rw [show ((n + 1 : Nat) : Int) = (n : Int) + 1 from by omega, e, lvN_succ, List.length_append, ← e2]
    refine ⟨by omega, fun h4 b hb => ?_⟩
    by_cases hbn : b < n
    · exact h2 (by omega) b hbn
    · obtain rfl : b = n := by omega
      omega
theorem befF_dif : ∀ {T L : List Int}, Inc T → Inc L → T.length = L.length → befF T L = true → Dif T L
  | [], [], _, _, _, h => by cases h
  | [], _ :: _, _, _, hl, _ => by cases hl
  | _ :: _, [], _, _, hl, _ => by cases hl
  | a :: T, c :: L, hT, hL, hl, h => by
    obtain ⟨hT1, hT2⟩ := List.pairwise_cons.1 hT
    obtain ⟨hL1, hL2⟩ := List.pairwise_cons.1 hL
    rw [befF] at h
    split at h
    · rename_i hac
      subst hac
      obtain ⟨e, h1, h2, h3⟩ := befF_dif hT2 hL2 (by simpa using hl) h
      have hae := hT1 e h1
      refine ⟨e, List.mem_cons_of_mem _ h1, fun g => ?_, fun x hx => ?_⟩
      · rcases List.mem_cons.1 g with g | g
        · omega
        · exact h2 g
      · rw [List.mem_cons, List.mem_cons, h3 x hx]
    · have hac := of_decide_eq_true h
      refine ⟨a, List.mem_cons_self .., fun g => ?_, fun x hx => ?_⟩
      · rcases List.mem_cons.1 g with g | g
        · omega
        · have := hL1 a g; omega
      · constructor
        · intro g
          rcases List.mem_cons.1 g with g | g
          · omega
          · have := hT1 x g; omega
        · intro g
          rcases List.mem_cons.1 g with g | g
          · omega
          · have := hL1 x g; omega
def shF (a b : List Int) : Bool := decide (a.length < b.length) || (decide (a.length = b.length) && befF a b)
theorem tried_no {s : Smp} (hv : VSm s) (B : Nat) (hc : consF (kptF s (B : Int)) = true) : shF (bitN B (mnyE s)) (levL s) = false := by
  have hb0 : ∀ b : Nat, b < s.B.toNat → possF (wthF s (bitO s B b)) b = true := fun b hb => by
    have h1 : possF (kptF s (B : Int)) b = true := List.all_eq_true.1 hc b (List.mem_range.2 hb)
    rw [kpt_wth s B (out := bitN B (mnyE s)) (fun i hi => bitN_at hi)] at h1
    rw [(wth_sam (b := (b : Int)) (out := bitN B (mnyE s)) (out' := bitO s B b) fun e he => ?_).poss] at h1
    · exact h1
    · obtain ⟨i, hi, hi1, rfl⟩ := entL_mem.1 he
      rw [bitN_mem, bitO_mem]
      constructor
      · rintro ⟨j, h1, h2, h3⟩
        obtain rfl : i = j := by omega
        exact ⟨i, hi, ⟨h2, hi1⟩, rfl⟩
      · rintro ⟨j, h1, h2, h3⟩
        exact ⟨j, h1, h2.1, h3⟩
  have hmin : ∀ b : Nat, b < s.B.toNat → _ := fun b hb => (lvF_min s b).2.2 _ (bitO_sub s B b) (hb0 b hb)
  obtain ⟨h1, h2⟩ := bit_cnt (s := s) (B := B) s.B.toNat (fun b hb => (hmin b hb).1)
  have hb1 := hv.b1
  have e : ((List.range (mnyE s)).filter fun i => B.testBit i && decide (ownE s i < (s.B.toNat : Int))) = (List.range (mnyE s)).filter fun i => B.testBit i := List.filter_congr fun i hi => by
    have := ownE_ok hv (List.mem_range.1 hi)
    rw [decide_eq_true (by omega), Bool.and_true]
  have el : (bitN B (mnyE s)).length = ((List.range (mnyE s)).filter fun i => B.testBit i).length := by unfold bitN; rw [List.length_map]
  rw [e, ← el, ← levL_len hv] at h1 h2
  unfold shF
  rw [decide_eq_false (by omega), Bool.false_or]
  by_cases hl : (bitN B (mnyE s)).length = (levL s).length
  · rw [decide_eq_true hl, Bool.true_and]
    cases hbf : befF (bitN B (mnyE s)) (levL s) with
    | false => rfl
    | true =>
      exfalso
      obtain ⟨z, hz1, hz2, hz3⟩ := befF_dif (filt_inc _ _) (levL_inc hv) hl hbf
      obtain ⟨i, hi, hit, rfl⟩ := bitN_mem.1 hz1
      have ho := ownE_ok hv hi
      obtain ⟨b, hb⟩ : ∃ b : Nat, ownE s i = b := ⟨(ownE s i).toNat, by omega⟩
      have hbB : b < s.B.toNat := by omega
      have hent : (i : Int) ∈ entL s (b : Int) := entL_mem.2 ⟨i, hi, hb, rfl⟩
      refine (hmin b hbB).2 (h2 hl.symm b hbB) ⟨i, bitO_mem.2 ⟨i, hi, ⟨hit, hb⟩, rfl⟩, fun g => hz2 ((levL_own hv hbB hent).2 g), fun x hx => ?_⟩
      have hz := hz3 x hx
      constructor
      · intro g
        obtain ⟨j, hj, ⟨hjt, hjo⟩, rfl⟩ := bitO_mem.1 g
        exact (levL_own hv hbB (entL_mem.2 ⟨j, hj, hjo, rfl⟩)).1 (hz.1 (bitN_mem.2 ⟨j, hj, hjt, rfl⟩))
      · intro g
        obtain ⟨j, hj, hjo, rfl⟩ := lvF_own g
        have := hz.2 ((levL_own hv hbB (entL_mem.2 ⟨j, hj, hjo, rfl⟩)).2 g)
        obtain ⟨j', _, hjt, hjj⟩ := bitN_mem.1 this
        obtain rfl : j = j' := by omega
        exact bitO_mem.2 ⟨j, hj, ⟨hjt, hjo⟩, rfl⟩
  · rw [decide_eq_false hl, Bool.false_and]
def setK (l : List Int) : Nat := l.foldl (fun acc e => acc ||| 2 ^ e.toNat) 0
theorem setK_snoc (l : List Int) (e : Int) : setK (l ++ [e]) = setK l ||| 2 ^ e.toNat := by unfold setK; rw [List.foldl_append]; rfl
theorem setK_bit (l : List Int) (hl : ∀ e ∈ l, 0 ≤ e) : ∀ i : Nat, (setK l).testBit i = true ↔ (i : Int) ∈ l := by
  obtain ⟨r, rfl⟩ : ∃ r : List Int, l = r.reverse := ⟨l.reverse, by simp⟩
  induction r with
  | nil => intro i; simp [setK]
  | cons e r ih =>
    intro i
    rw [List.reverse_cons] at hl ⊢
    rw [setK_snoc, Nat.testBit_or, Bool.or_eq_true, ih (fun e he => hl e (by simp at he ⊢; exact .inl he)), Nat.testBit_two_pow]
    have := hl e (by simp)
    simp only [List.mem_append, List.mem_singleton, decide_eq_true_eq]
    constructor
    · rintro (h | h)
      · exact .inl h
      · exact .inr (by omega)
    · rintro (h | h)
      · exact .inl h
      · exact .inr (by omega)
theorem setK_lt {M : Nat} (l : List Int) (hl : ∀ e ∈ l, 0 ≤ e ∧ e < M) : setK l < 2 ^ M := by
  obtain ⟨r, rfl⟩ : ∃ r : List Int, l = r.reverse := ⟨l.reverse, by simp⟩
  induction r with
  | nil => exact Nat.pow_pos (by omega)
  | cons e r ih =>
    rw [List.reverse_cons] at hl ⊢
    rw [setK_snoc]
    have := hl e (by simp)
    exact Nat.or_lt_two_pow (ih (fun e he => hl e (by simp at he ⊢; exact .inl he))) (Nat.pow_lt_pow_right (by omega) (by omega))
theorem lev_set {s : Smp} (hv : VSm s) : vdE (kptF s (setK (levL s) : Nat)) = 0 := by
  rw [vdE_v (hv.kpt _), kpt_wth s (setK (levL s)) (out := levL s) (fun i _ => setK_bit _ (fun e he => (levL_in hv he).1) i), if_pos (lev_cons hv)]
theorem lev_tried {s : Smp} (hv : VSm s) (B : Nat) : vdE (kptF s (B : Int)) = 9 ∨ vdE (kptF s (B : Int)) = 0 ∧ shF (bitN B (mnyE s)) (levL s) = false := by
  rw [vdE_v (hv.kpt _)]
  cases hc : consF (kptF s (B : Int)) with
  | false => exact .inl (if_neg (by decide))
  | true => exact .inr ⟨if_pos rfl, tried_no hv B hc⟩
end Go.Sp
/-
  SampleLeft, walked.
-/
namespace Go.Sp
open Go Go.Proofs
theorem bitN_yes {B p : Nat} (h : (B : Int) / 2 ^ (p : Int).toNat % 2 = 1) : bitN B (p + 1) = bitN B p ++ [(p : Int)] := by
  refine filt_yes ?_
  have := kbI_bit B p
  unfold kbI at this
  rw [h] at this
  cases hb : B.testBit p with
  | true => rfl
  | false => rw [hb] at this; cases this
theorem bitN_no {B p : Nat} (h : ¬ (B : Int) / 2 ^ (p : Int).toNat % 2 = 1) : bitN B (p + 1) = bitN B p := by
  refine filt_no ?_
  have := kbI_bit B p
  unfold kbI at this
  cases hb : B.testBit p with
  | false => rfl
  | true => rw [hb] at this; exfalso; have := of_decide_eq_false this; omega
theorem bitN_len (B n : Nat) : (bitN B n).length ≤ n := filt_len
theorem bitN_up {B p : Nat} (h : B < 2 ^ p) : ∀ d, bitN B (p + d) = bitN B p
  | 0 => rfl
  | d + 1 => by
    rw [← bitN_up h d]
    refine filt_no ?_
    exact Nat.testBit_lt_two_pow (Nat.lt_of_lt_of_le h (Nat.pow_le_pow_right (by omega) (Nat.le_add_right p d)))
theorem bit_pos {B p M : Nat} (hB : B < 2 ^ M) (h : 0 < (B : Int) / 2 ^ (p : Int).toNat) : p < M := by
  refine Nat.lt_of_not_le fun hle => ?_
  have h1 : B < 2 ^ p := Nat.lt_of_lt_of_le hB (Nat.pow_le_pow_right (by omega) hle)
  rw [Int.toNat_natCast, show ((2 : Int) ^ p) = ((2 ^ p : Nat) : Int) from by simp, Int.ediv_eq_zero_of_lt (by omega) (by omega)] at h
  omega
theorem bit_end {B p M : Nat} (hB : B < 2 ^ M) (hp : p ≤ M) (h : ¬ 0 < (B : Int) / 2 ^ (p : Int).toNat) : bitN B p = bitN B M := by
  have h1 : B < 2 ^ p := by
    refine Nat.lt_of_not_le fun hle => h ?_
    rw [Int.toNat_natCast, show ((2 : Int) ^ p) = ((2 ^ p : Nat) : Int) from by simp]
    have hp := Nat.two_pow_pos p
    generalize 2 ^ p = q at hle hp ⊢
    rw [← Int.natCast_ediv]
    have := Nat.div_pos hle hp
    omega
  obtain ⟨d, rfl⟩ : ∃ d, M = p + d := ⟨M - p, by omega⟩
  exact (bitN_up h1 d).symm
theorem bits_c (B M : Nat) (hB : B < 2 ^ M) (hM : M ≤ 20) (w : World) :
    CnX Try.prog 14 #[vi B] w [] (fun y : Option Addr × Nat => slV (bitN B M).length y) (fun y w' => RdI w' (slV (bitN B M).length y) (bitN B M)) := by
  have hsh : ∀ e : Int, 0 ≤ (B : Int) / 2 ^ e.toNat := fun e => Int.ediv_nonneg (by omega) (Int.le_of_lt (Int.pow_pos (by omega)))
  refine cnx0 (vs := [_]) Try.func14 rfl rfl ?_
  all_goals refine tc_seq fun K1 hK1 => ?_; refine tc_region ?_; refine tl_q (y_assign rfl) rfl ?_; refine tl_nil ?_; ((refine hK1 ?_; try (clear hK1; clear K1)))
  all_goals refine tc_seq fun K2 hK2 => ?_; refine tc_region ?_; refine tl_q (y_assign rfl) rfl ?_; refine tl_nil ?_; ((refine hK2 ?_; try (clear hK2; clear K2)))
  all_goals refine tc_seq fun K3 hK3 => ?_; refine tc_seq fun K4 hK4 => ?_; refine tc_region ?_; refine tl_q (y_assign rfl) rfl ?_; refine tl_nil ?_; ((refine hK4 ?_; try (clear hK4; clear K4)))
  all_goals refine tc_block ?_
  all_goals (
   refine tc_loop (fun p : Nat × OwnB => p.1 ≤ M ∧ okE 1 (bitN B p.1) p.2) (fun p => [(0, vi B), (3, ouV (bitN B p.1).length p.2), (4, vi p.1)]) (fun _ => [(w, [])]) (fun p => slE 3 inE (bitN B p.1) p.2) (fun p => M - p.1) ?_ ?_
   · exact tk_start (0, none) ⟨Nat.zero_le _, rfl⟩ (.cons rfl (.cons rfl (.cons rfl .nil))) (fun _ h => by rw [slE_none]; exact h.subl (SB.s (by repeat constructor)) (SB.s (by repeat constructor)))
   · rintro ⟨k, oo⟩ ⟨hk, hok⟩
     dsimp only at hk hok ⊢
     have hkl := bitN_len B k
     have hsk := hsh (k : Int)
     all_goals refine tc_seq fun K5 hK5 => ?_; refine tc_seq fun K6 hK6 => ?_; refine tc_region ?_; refine tl_q (y_move rfl) rfl ?_; refine tl_q (y_move rfl) rfl ?_; ((refine tl_q (y_conv rfl (by simp only [IntKind.wrap, IntKind.bits, IntKind.signed, Bool.false_and, Bool.true_and, Bool.false_eq_true, if_false, decide_eq_true_eq]; omega)) rfl ?_))
     all_goals refine tl_q (y_shr rfl rfl (by omega)) rfl ?_; refine tl_q (y_gtr rfl rfl) rfl ?_; refine tl_nil ?_; ((refine hK6 ?_; try (clear hK6; clear K6)))
     all_goals (
      refine tc_cond rfl (fun hc => ?_) (fun hc => ?_)
      · try simp only [decide_eq_true_eq, decide_eq_false_iff_not, Int.not_lt, Int.not_le, Bool.not_eq_true', Bool.not_eq_false', Decidable.not_not, not_true_eq_false] at hc
        all_goals refine tc_skip ?_; ((refine hK5 ?_; try (clear hK5; clear K5)))
        all_goals refine tc_seq fun K7 hK7 => ?_; refine tc_block ?_; refine tc_seq fun K8 hK8 => ?_; (have hkM := bit_pos hB hc)
        all_goals refine tc_region ?_; refine tl_q (y_move rfl) rfl ?_; refine tl_q (y_move rfl) rfl ?_; ((refine tl_q (y_conv rfl (by simp only [IntKind.wrap, IntKind.bits, IntKind.signed, Bool.false_and, Bool.true_and, Bool.false_eq_true, if_false, decide_eq_true_eq]; omega)) rfl ?_))
        all_goals refine tl_q (y_shr rfl rfl (by omega)) rfl ?_; refine tl_q (y_rem rfl rfl (by omega) (by omega)) rfl ?_; refine tl_q (y_eql rfl rfl) rfl ?_; refine tl_nil ?_; ((refine hK8 ?_; try (clear hK8; clear K8)))
        all_goals (
         refine tc_cond rfl (fun hc => ?_) (fun hc => ?_)
         · try simp only [decide_eq_true_eq, decide_eq_false_iff_not, Int.not_lt, Int.not_le, Bool.not_eq_true', Bool.not_eq_false', Decidable.not_not, not_true_eq_false] at hc
           all_goals refine tc_region ?_; refine tl_q (y_move rfl) rfl ?_; refine tl_q (y_move rfl) rfl ?_; (refine tl_e (e_bslice rfl (by (repeat (first | exact .nil | apply PV.one rfl rfl)); done) rfl rfl) rfl (fun _ _ => ?_))
           all_goals (refine tl_e (e_appendE (enc := inE) (xs := bitN B k) (ys := [(k : Int)]) inE_len inE_one rfl rfl rfl hok (fun _ => by repeat constructor) (fun w' hw' => RdS.own0 inE_len hw' (by repeat constructor)) (by simp only [List.length_cons, List.length_nil]; omega) rfl) rfl (fun oo' hok' => ?_))
           all_goals refine tl_q (y_assign rfl) rfl ?_; refine tl_nil ?_; ((refine hK7 ?_; try (clear hK7; clear K7)))
           all_goals refine tc_region ?_; refine tl_q (y_move rfl) rfl ?_; refine tl_q (y_add rfl rfl (by omega)) rfl ?_; refine tl_q (y_assign rfl) rfl ?_; refine tl_nil ?_
           all_goals (
            first
            | (have hs := bitN_yes hc
               exact tk_round (k + 1, oo') ⟨by dsimp only; omega, by dsimp only; rw [hs]; exact hok'⟩ (by dsimp only; omega) (.cons rfl (.cons (by dsimp only; rw [hs]; rfl) (.cons rfl .nil))) (fun _ h => by dsimp only; rw [hs]; exact h.subl (SB.s (by repeat constructor)) (SB.s (by repeat constructor))))
            | (have hs := bitN_no hc
               exact tk_round (k + 1, oo) ⟨by dsimp only; omega, by dsimp only; rw [hs]; exact hok⟩ (by dsimp only; omega) (.cons rfl (.cons (by dsimp only; rw [hs]; rfl) (.cons rfl .nil))) (fun _ h => by dsimp only; rw [hs]; exact h.subl (SB.s (by repeat constructor)) (SB.s (by repeat constructor)))))
         · try simp only [decide_eq_true_eq, decide_eq_false_iff_not, Int.not_lt, Int.not_le, Bool.not_eq_true', Bool.not_eq_false', Decidable.not_not, not_true_eq_false] at hc
           all_goals refine tc_skip ?_; ((refine hK7 ?_; try (clear hK7; clear K7)))
           all_goals refine tc_region ?_; refine tl_q (y_move rfl) rfl ?_; refine tl_q (y_add rfl rfl (by omega)) rfl ?_; refine tl_q (y_assign rfl) rfl ?_; refine tl_nil ?_
           all_goals (
            first
            | (have hs := bitN_yes hc
               exact tk_round (k + 1, oo') ⟨by dsimp only; omega, by dsimp only; rw [hs]; exact hok'⟩ (by dsimp only; omega) (.cons rfl (.cons (by dsimp only; rw [hs]; rfl) (.cons rfl .nil))) (fun _ h => by dsimp only; rw [hs]; exact h.subl (SB.s (by repeat constructor)) (SB.s (by repeat constructor))))
            | (have hs := bitN_no hc
               exact tk_round (k + 1, oo) ⟨by dsimp only; omega, by dsimp only; rw [hs]; exact hok⟩ (by dsimp only; omega) (.cons rfl (.cons (by dsimp only; rw [hs]; rfl) (.cons rfl .nil))) (fun _ h => by dsimp only; rw [hs]; exact h.subl (SB.s (by repeat constructor)) (SB.s (by repeat constructor))))))
      · try simp only [decide_eq_true_eq, decide_eq_false_iff_not, Int.not_lt, Int.not_le, Bool.not_eq_true', Bool.not_eq_false', Decidable.not_not, not_true_eq_false] at hc
        all_goals refine tc_exit ?_; ((refine hK3 ?_; try (clear hK3; clear K3)))
        all_goals refine tc_seq fun K9 hK9 => ?_; refine tc_region ?_; refine tl_q (y_move rfl) rfl ?_; refine tl_q (y_assign rfl) rfl ?_; refine tl_nil ?_; ((refine hK9 ?_; try (clear hK9; clear K9)))
        all_goals refine tc_ret ?_; (repeat (first | refine tk_then_ret ?_))
        all_goals (refine tk_ret rfl rfl (.cons (.tmp rfl) .nil) ?_)
        all_goals (
         have he := bit_end hB hk (by omega)
         refine fun w' hw' => ?_
         have hR := (RdS.ofO inE_len hok hw' (by repeat constructor)).toI
         rw [he] at hR
         exact ⟨ouA oo, by rw [he]; rfl, hw'.fr (w0 := w) (S := []) (MI.m (by repeat constructor)), hR⟩)))
theorem shorter_c (a b : List Int) (ha : (a.length : Int) ≤ 1000) (hb : (b.length : Int) ≤ 1000) (av bv : Value) (w : World) (hra : RdI w av a) (hrb : RdI w bv b) : CnV Try.prog 13 #[av, bv] w (.bool (shF a b)) := by
  have hra0 := hra
  have hrb0 := hrb
  obtain ⟨ad1, cp1, b1, o1, rfl, had1, hc1⟩ := hra.open
  obtain ⟨ad2, cp2, b2, o2, rfl, had2, hc2⟩ := hrb.open
  refine cnv (vs := [_, _]) Try.func13 rfl rfl ?_
  all_goals refine tc_seq fun K1 hK1 => ?_; refine tc_region ?_; refine tl_q (y_assign rfl) rfl ?_; refine tl_nil ?_; ((refine hK1 ?_; try (clear hK1; clear K1)))
  all_goals refine tc_seq fun K2 hK2 => ?_; refine tc_region ?_; refine tl_q (y_move rfl) rfl ?_; refine tl_q (y_len rfl) rfl ?_; refine tl_q (y_move rfl) rfl ?_; refine tl_q (y_len rfl) rfl ?_; refine tl_q (y_lss rfl rfl) rfl ?_; refine tl_q (y_move rfl) rfl ?_; ((refine tl_gs rfl rfl (fun hc => ?_) (fun hc => ?_) <;> (try simp only [decide_eq_true_eq, decide_eq_false_iff_not, Int.not_lt, Int.not_le, Bool.not_eq_true', Bool.not_eq_false', Decidable.not_not, not_true_eq_false] at hc) <;> (first | refine tl_sk rfl rfl rfl rfl ?_ | refine tl_qg rfl rfl (y_move rfl) rfl ?_)))
  all_goals (first | refine tl_sk rfl rfl rfl rfl ?_ | refine tl_qg rfl rfl (y_len rfl) rfl ?_); (first | refine tl_sk rfl rfl rfl rfl ?_ | refine tl_qg rfl rfl (y_move rfl) rfl ?_); (first | refine tl_sk rfl rfl rfl rfl ?_ | refine tl_qg rfl rfl (y_len rfl) rfl ?_); (first | refine tl_sk rfl rfl rfl rfl ?_ | refine tl_qg rfl rfl (y_eql rfl rfl) rfl ?_); (first | refine tl_sk rfl rfl rfl rfl ?_ | refine tl_qg rfl rfl (y_move rfl) rfl ?_); ((first | refine tl_su rfl rfl rfl ?_ | (refine tl_gs rfl rfl (fun hc => ?_) (fun hc => ?_) <;> (try simp only [decide_eq_true_eq, decide_eq_false_iff_not, Int.not_lt, Int.not_le, Bool.not_eq_true', Bool.not_eq_false', Decidable.not_not, not_true_eq_false] at hc) <;> (first | refine tl_sk rfl rfl rfl rfl ?_ | refine tl_qg rfl rfl (y_move rfl) rfl ?_))))
  all_goals (first | refine tl_sk rfl rfl rfl rfl ?_ | refine tl_qg rfl rfl (y_move rfl) rfl ?_ | refine tl_su rfl rfl rfl ?_); (first | refine tl_sk rfl rfl rfl rfl ?_ | refine tl_eg rfl rfl rfl (e_callV rfl (.cons rfl (.cons rfl .nil)) (fun w' hw' => rBefore_c a b (by omega) (by omega) _ _ w' (hra0.fr (hw'.fr (w0 := w) (S := []) (MI.m (by repeat constructor)))) (hrb0.fr (hw'.fr (w0 := w) (S := []) (MI.m (by repeat constructor)))))) (fun _ _ => ?_) | refine tl_su rfl rfl rfl ?_); (first | refine tl_sk rfl rfl rfl rfl ?_ | refine tl_qg rfl rfl (y_pick_t rfl rfl) rfl ?_ | refine tl_qg rfl rfl (y_pick_f rfl rfl) rfl ?_); (first | refine tl_q (y_pick_t rfl rfl) rfl ?_ | refine tl_q (y_pick_f rfl rfl) rfl ?_); refine tl_q (y_assign rfl) rfl ?_; refine tl_nil ?_; ((refine hK2 ?_; try (clear hK2; clear K2)))
  all_goals refine tc_ret ?_; (repeat (first | refine tk_then_ret ?_))
  all_goals (refine tk_ret rfl rfl (.cons (.tmp rfl) .nil) ?_)
  all_goals (
   refine fun w' hw' => ⟨congrArg (fun b => Ending.returned (Value.bool b)) ?_, hw'.fr (w0 := w) (S := []) (MI.m (by repeat constructor))⟩
   unfold shF
   first
   | (rw [decide_eq_true (show a.length < b.length by omega)]; rfl)
   | (rw [decide_eq_false (show ¬ a.length < b.length by omega), decide_eq_true (show a.length = b.length by omega)]; rfl)
   | (rw [decide_eq_false (show ¬ a.length < b.length by omega), decide_eq_false (show ¬ a.length = b.length by omega)]; rfl))
theorem RdI.opensK {w : World} {xs : List Int} {x : Option Addr × Nat} (h : RdI w (slV xs.length x) xs) : ∃ b o, (0 < xs.length → x.1 = some ⟨b, o, none⟩) ∧ ∀ w', Fr [] w w' → ∀ i, i < xs.length → w'.cell? ⟨b, o + i, none⟩ = some (vi (xs.getD i 0)) := by
  obtain ⟨ad, cap, b, o, e, had, hcell⟩ := h.open
  injection e with e1 e2 e3
  subst e1
  exact ⟨b, o, had, hcell⟩
theorem leaveK_c {s : Smp} {L : List Int} (hv : VSm s) (hL : levL s = L) (hf : Few s) (tv pv gv : Value) (w : World) (hr : RdSm w s tv pv gv) :
    CnX Try.prog 12 #[smV s tv pv gv] w [] (fun y : Option Addr × Nat => .tuple #[slV L.length y, vi 0]) (fun y w' => RdI w' (slV L.length y) L) := by
  have h := leaveAll_c s hf tv pv gv w hr
  rw [hL, chkS_0.2 hv] at h
  exact h
theorem verdictsK_v {s : Smp} {e : Int} (hE : vdE s = e) (hf : Few s) (tv pv gv : Value) (w : World) (hr : RdSm w s tv pv gv) :
    CnX Try.prog 9 #[smV s tv pv gv] w [] (fun y : Option Addr × Nat => .tuple #[slV (vdL s).length y, vi e]) (fun y w' => RdI w' (slV (vdL s).length y) (vdL s)) := by
  have h := verdicts_c s hf tv pv gv w hr
  rw [hE] at h
  exact h.imp id (fun _ => rfl) (fun _ h => h) (fun _ _ _ h => h.toI)
def setN (L : List Int) (i : Nat) : Nat := setK (L.take i)
theorem setN_succ {L : List Int} {i : Nat} (h : i < L.length) : setN L (i + 1) = setN L i ||| 2 ^ (L.getD i 0).toNat := by
  unfold setN
  rw [takeG_succ (d := 0) h, setK_snoc]
theorem setN_all (L : List Int) : setN L L.length = setK L := by unfold setN; rw [List.take_of_length_le (Nat.le_refl _)]
theorem setN_lt {M : Nat} {L : List Int} (hl : ∀ e ∈ L, 0 ≤ e ∧ e < M) (i : Nat) : setN L i < 2 ^ M := setK_lt _ fun e he => hl e (List.mem_of_mem_take he)
theorem inc_len' : ∀ {L : List Int} {lo M : Int}, Inc L → (∀ e ∈ L, lo ≤ e ∧ e < M) → lo ≤ M → (L.length : Int) ≤ M - lo
  | [], lo, M, _, _, h => by simp; omega
  | a :: L, lo, M, hi, hl, h => by
    obtain ⟨h1, h2⟩ := List.pairwise_cons.1 hi
    have ha := hl a (List.mem_cons_self ..)
    have := inc_len' (lo := a + 1) (M := M) h2 (fun e he => ⟨by have := h1 e he; omega, (hl e (List.mem_cons_of_mem _ he)).2⟩) (by omega)
    rw [List.length_cons]; omega
theorem inc_len {M : Nat} {L : List Int} (hi : Inc L) (hl : ∀ e ∈ L, 0 ≤ e ∧ e < M) : L.length ≤ M := by
  have := inc_len' hi hl (by omega); omega
theorem pow62K {k : Int} (h : k < 12) : 2 ^ k.toNat < 2 ^ 62 := Nat.pow_lt_pow_right (by omega) (by omega)
set_option maxHeartbeats 8000000 in
theorem sleft_c (s : Smp) (on : Int) (ho : 0 ≤ on ∧ on ≤ 65535) (tv pv gv : Value) (w : World) (hr : RdSm w s tv pv gv) : CnV Try.prog 4 #[smV s tv pv gv, .int .u16 on] w (.bool true) := by
  have hr0 := hr
  obtain ⟨adt, cpt, _, _, rfl, _, _⟩ := hr.st.open boE_len false
  obtain ⟨adp, cpp, _, _, rfl, _, _⟩ := hr.ps.open psE_len pas0
  obtain ⟨adg, cpg, _, _, rfl, _, _⟩ := hr.sg.open sgE_len sgt0
  obtain ⟨M, hM⟩ : ∃ M, M = mnyE s := ⟨_, rfl⟩
  have hMi : (s.ps.length : Int) + (s.sg.length : Int) = (M : Int) := by rw [hM]; unfold mnyE; omega
  have hpp : 0 < 2 ^ (M : Int).toNat := Nat.two_pow_pos _
  obtain ⟨T, hT⟩ : ∃ T : Nat, on % ((2 ^ (M : Int).toNat : Nat) : Int) = (T : Int) := ⟨(on % ((2 ^ (M : Int).toNat : Nat) : Int)).toNat, (Int.toNat_of_nonneg (Int.emod_nonneg _ (by omega))).symm⟩
  have hTl : T < 2 ^ M := by
    have := Int.emod_lt_of_pos on (show 0 < ((2 ^ (M : Int).toNat : Nat) : Int) by omega)
    rw [hT, Int.toNat_natCast] at this
    omega
  obtain ⟨L, hL⟩ : ∃ L, levL s = L := ⟨_, rfl⟩
  obtain ⟨S, hS⟩ : ∃ S : Nat, S = setN L L.length := ⟨_, rfl⟩
  refine cnv (vs := [_, _]) Try.func4 rfl rfl ?_
  all_goals refine tc_seq fun K1 hK1 => ?_; refine tc_region ?_; refine tl_e (e_box rfl rfl rfl) rfl (fun b2 _ => ?_); refine tl_q (y_assign rfl) rfl ?_; refine tl_nil ?_; ((refine hK1 ?_; try (clear hK1; clear K1)))
  all_goals refine tc_seq fun K2 hK2 => ?_; refine tc_seq fun K3 hK3 => ?_; refine tc_lay ([]) (SB.s .nil) (fun wl1 hl1 => ?_); refine tc_region ?_; refine tl_q (y_loadWf rfl (hl1.at (by repeat constructor)) (MI.m (by repeat constructor)) (by simp) (by rfl)) rfl ?_; refine tl_e (e_callV rfl (.cons rfl .nil) (fun w' hw' => ready_c s _ _ _ w' (hr0.fr (hw'.fr (w0 := w) (S := []) (MI.m (by repeat constructor)))))) rfl (fun _ _ => ?_); refine tl_q (y_not_dec rfl) rfl ?_; refine tl_nil ?_; ((refine hK3 ?_; try (clear hK3; clear K3)))
  all_goals (
   refine tc_cond rfl (fun hc => ?_) (fun hc => ?_)
   · try simp only [decide_eq_true_eq, decide_eq_false_iff_not, Int.not_lt, Int.not_le, Bool.not_eq_true', Bool.not_eq_false', Decidable.not_not, not_true_eq_false, Int.toNat_natCast] at hc
     all_goals refine tc_seq fun K4 hK4 => ?_; refine tc_lay ([]) (SB.s .nil) (fun wl2 hl2 => ?_); refine tc_region ?_; refine tl_e (e_callV rfl .nil (fun w' _ => awake_c w')) rfl (fun _ _ => ?_); refine tl_q (y_assign rfl) rfl ?_; refine tl_nil ?_; ((refine hK4 ?_; try (clear hK4; clear K4)))
     all_goals refine tc_ret ?_; (repeat (refine tk_then_ret ?_))
     all_goals (refine tk_ret rfl rfl (.cons (.tmp rfl) .nil) ?_)
     all_goals (
      exact fun w' hw' => ⟨rfl, hw'.fr (w0 := w) (S := []) (MI.m (by repeat constructor))⟩)
   · try simp only [decide_eq_true_eq, decide_eq_false_iff_not, Int.not_lt, Int.not_le, Bool.not_eq_true', Bool.not_eq_false', Decidable.not_not, not_true_eq_false, Int.toNat_natCast] at hc
     all_goals refine tc_skip ?_; ((refine hK2 ?_; try (clear hK2; clear K2)))
     all_goals refine tc_seq fun K5 hK5 => ?_; refine tc_lay ([]) (SB.s .nil) (fun wl3 hl3 => ?_); ((have hv := chkS_0.1 hc.2; have hf := hc.1.few; have hn6 := hv.n6; have hg6 := hv.g6))
     all_goals ((have hLi : Inc L := hL ▸ levL_inc hv; have hLm : ∀ e ∈ L, 0 ≤ e ∧ e < M := fun e he => by rw [hM]; exact levL_in hv (hL ▸ he)))
     all_goals ((have hM12 : M ≤ 12 := by rw [hM]; unfold mnyE; omega))
     all_goals (have hLl := inc_len hLi hLm)
     all_goals ((have hv1 : vdE (kptF s (S : Int)) = 0 := by rw [hS, setN_all, ← hL]; exact lev_set hv))
     all_goals ((have hv2 := lev_tried hv T; rw [hL, ← hM] at hv2))
     all_goals refine tc_region ?_; refine tl_q (y_loadWf rfl (hl1.at (by repeat constructor)) (MI.m (by repeat constructor)) (by simp) (by rfl)) rfl ?_; refine tl_e (e_callX rfl (.cons rfl .nil) (fun w' hw' => lawSample_c s hf _ _ _ w' (hr0.fr (hw'.fr (w0 := w) (S := []) (MI.m (by repeat constructor)))))) rfl (fun x3 hx3 => ?_); refine tl_e (e_callX rfl (.cons rfl .nil) (fun w' hw' => leaveK_c hv hL hf _ _ _ w' (hx3.1.fr (hw'.fr (w0 := x3.2) (S := []) (MI.m (by repeat constructor)))))) rfl (fun z hz => ?_); refine tl_q (y_move rfl) rfl ?_; refine tl_q (y_extract rfl rfl) rfl ?_; refine tl_q (y_extract rfl rfl) rfl ?_; refine tl_q (y_assign rfl) rfl ?_; refine tl_q (y_assign rfl) rfl ?_; refine tl_nil ?_; ((refine hK5 ?_; try (clear hK5; clear K5)))
     all_goals refine tc_seq fun K6 hK6 => ?_; refine tc_lay ([]) (SB.s .nil) (fun wl4 hl4 => ?_); refine tc_region ?_; refine tl_q (y_field rfl) rfl ?_; refine tl_q (y_load1f rfl (hl1.at (by repeat constructor)) (MI.m (by repeat constructor)) (by simp) (by rfl)) rfl ?_; refine tl_q (y_len rfl) rfl ?_; refine tl_q (y_field rfl) rfl ?_; refine tl_q (y_load1f rfl (hl1.at (by repeat constructor)) (MI.m (by repeat constructor)) (by simp) (by rfl)) rfl ?_; refine tl_q (y_len rfl) rfl ?_; refine tl_q (y_add rfl rfl (by omega)) rfl ?_; refine tl_q (y_assign rfl) rfl ?_; refine tl_nil ?_; rw [hMi]
     all_goals ((refine hK6 ?_; try (clear hK6; clear K6)))
     all_goals refine tc_seq fun K7 hK7 => ?_; refine tc_seq fun K8 hK8 => ?_; refine tc_lay ([]) (SB.s .nil) (fun wl5 hl5 => ?_); refine tc_region ?_; refine tl_q (y_move rfl) rfl ?_; refine tl_q (y_neq rfl rfl) rfl ?_; refine tl_nil ?_; ((refine hK8 ?_; try (clear hK8; clear K8)))
     all_goals (
      refine tc_cond rfl (fun hc => ?_) (fun hc => ?_)
      · try simp only [decide_eq_true_eq, decide_eq_false_iff_not, Int.not_lt, Int.not_le, Bool.not_eq_true', Bool.not_eq_false', Decidable.not_not, not_true_eq_false, Int.toNat_natCast] at hc
      · try simp only [decide_eq_true_eq, decide_eq_false_iff_not, Int.not_lt, Int.not_le, Bool.not_eq_true', Bool.not_eq_false', Decidable.not_not, not_true_eq_false, Int.toNat_natCast] at hc
        all_goals refine tc_skip ?_; ((refine hK7 ?_; try (clear hK7; clear K7)))
        all_goals refine tc_seq fun K10 hK10 => ?_; refine tc_lay ([]) (SB.s .nil) (fun wl7 hl7 => ?_); refine tc_region ?_; refine tl_q (y_assign rfl) rfl ?_; refine tl_nil ?_; ((refine hK10 ?_; try (clear hK10; clear K10)))
        all_goals refine tc_seq fun K11 hK11 => ?_; refine tc_seq fun K12 hK12 => ?_; refine tc_lay ([]) (SB.s .nil) (fun wl8 hl8 => ?_); refine tc_region ?_; refine tl_q (y_assign rfl) rfl ?_; refine tl_nil ?_; ((refine hK12 ?_; try (clear hK12; clear K12)))
        all_goals refine tc_block ?_
        all_goals (
         refine tc_loop (fun i : Nat => i ≤ L.length) (fun i => [(1, .int .u16 on), (2, ptr b2), (5, slV L.length z.1), (7, vi M), (8, vi (setN L i : Nat)), (9, vi i)]) (fun _ => [(z.2, []), (wl1, []), (w, [])]) (fun _ => []) (fun i => L.length - i) ?_ ?_
         · exact tk_start 0 (Nat.zero_le _) (.cons rfl (.cons rfl (.cons rfl (.cons rfl (.cons rfl (.cons rfl .nil)))))) (fun _ h => h.subl (SB.s (by repeat constructor)) (SB.s (by repeat constructor)))
         · rintro i hi
           all_goals refine tc_seq fun K13 hK13 => ?_; refine tc_seq fun K14 hK14 => ?_; refine tc_lay ([]) (SB.s .nil) (fun wl9 hl9 => ?_); refine tc_region ?_; refine tl_q (y_move rfl) rfl ?_; refine tl_q (y_move rfl) rfl ?_; refine tl_q (y_len rfl) rfl ?_; refine tl_q (y_lss rfl rfl) rfl ?_; refine tl_nil ?_; ((refine hK14 ?_; try (clear hK14; clear K14)))
           all_goals (
            refine tc_cond rfl (fun hc => ?_) (fun hc => ?_)
            · try simp only [decide_eq_true_eq, decide_eq_false_iff_not, Int.not_lt, Int.not_le, Bool.not_eq_true', Bool.not_eq_false', Decidable.not_not, not_true_eq_false, Int.toNat_natCast] at hc
              all_goals refine tc_skip ?_; ((refine hK13 ?_; try (clear hK13; clear K13)))
              all_goals refine tc_seq fun K15 hK15 => ?_; refine tc_block ?_; refine tc_seq fun K16 hK16 => ?_; refine tc_seq fun K17 hK17 => ?_; refine tc_lay ([]) (SB.s .nil) (fun wl11 hl11 => ?_); ((obtain ⟨zb, zo, hadz, hcellz⟩ := hz.1.opensK; have hadz' := hadz (by omega); have hxi := hLm (L.getD i 0) (getD_memG (by omega))))
              all_goals ((have hxpi : 0 < i → L.getD (i - 1) 0 < L.getD i 0 := fun h0 => by rw [List.getD_eq_getElem?_getD, List.getElem?_eq_getElem (by omega), List.getD_eq_getElem?_getD, List.getElem?_eq_getElem (by omega)]; exact List.pairwise_iff_getElem.1 hLi (i - 1) i (by omega) (by omega) (by omega)))
              all_goals refine tc_draw (by kernel_rfl) ?_; refine tx_p 0 rfl (by kernel_rfl) (y_move rfl) rfl (fun _ _ _ h => h) (fun _ h => h) ?_; refine tx_p 1 rfl (by kernel_rfl) (y_move rfl) rfl (fun _ _ _ h => h) (fun _ h => h) ?_; refine tx_p 2 rfl (by kernel_rfl) (y_index rfl rfl (by omega) hadz') rfl (fun _ _ _ h => h) (fun _ h => h) ?_; ((refine tx_q 3 rfl (by kernel_rfl) (y_load1o (v := vi (L.getD i 0)) rfl (fun w' hw' => by rw [show Int.toNat (i : Int) * 1 = i from by omega]; exact hcellz w' (hw'.fr (w0 := z.2) (S := []) (MI.m (by repeat constructor))) i (by omega))) rfl (fun _ _ _ h => h) (fun _ h => h) ?_))
              all_goals refine tx_p 4 rfl (by kernel_rfl) (y_move rfl) rfl (fun _ _ _ h => h) (fun _ h => h) ?_; refine tx_p 5 rfl (by kernel_rfl) (y_sub rfl rfl (by omega)) rfl (fun _ _ _ h => h) (fun _ h => h) ?_; refine tx_e 6 rfl (by kernel_rfl) rfl (e_callV rfl (.cons rfl (.cons rfl (.cons rfl .nil))) (fun w' _ => rIn_c _ _ _ w')) (.inr fun _ _ h => h) (fun _ _ => ?_); refine tx_p 7 rfl (by kernel_rfl) (y_not_dec rfl) rfl (fun _ _ _ h => h) (fun _ h => h) ?_; refine tx_p 8 rfl (by kernel_rfl) (y_move rfl) rfl (fun _ _ _ h => h) (fun _ h => h) ?_; ((refine tx_gs 48 rfl (fun hc => ?_) (fun hc => ?_) <;> (try simp only [decide_eq_true_eq, decide_eq_false_iff_not, Int.not_lt, Int.not_le, Bool.not_eq_true', Bool.not_eq_false', Decidable.not_not, not_true_eq_false, Int.toNat_natCast] at hc) <;> (first | (exfalso; omega) | refine tx_pg 9 rfl (by kernel_rfl) rfl rfl (y_move rfl) rfl (fun _ _ _ h => h) (fun _ h => h) ?_)))
              all_goals (refine tx_pg 10 rfl (by kernel_rfl) rfl rfl (y_gtr rfl rfl) rfl (fun _ _ _ h => h) (fun _ h => h) ?_); refine tx_pg 11 rfl (by kernel_rfl) rfl rfl (y_move rfl) rfl (fun _ _ _ h => h) (fun _ h => h) ?_; ((refine tx_gs 51 rfl (fun hc => ?_) (fun hc => ?_) <;> (try simp only [decide_eq_true_eq, decide_eq_false_iff_not, Int.not_lt, Int.not_le, Bool.not_eq_true', Bool.not_eq_false', Decidable.not_not, not_true_eq_false, Int.toNat_natCast] at hc) <;> (first | refine tx_sk 12 rfl (by kernel_rfl) rfl rfl rfl rfl (fun _ _ _ h => h) (fun _ h => h) ?_ | refine tx_pg 12 rfl (by kernel_rfl) rfl rfl (y_move rfl) rfl (fun _ _ _ h => h) (fun _ h => h) ?_)))
              all_goals (first | refine tx_sk 13 rfl (by kernel_rfl) rfl rfl rfl rfl (fun _ _ _ h => h) (fun _ h => h) ?_ | refine tx_pg 13 rfl (by kernel_rfl) rfl rfl (y_move rfl) rfl (fun _ _ _ h => h) (fun _ h => h) ?_); (first | refine tx_sk 14 rfl (by kernel_rfl) rfl rfl rfl rfl (fun _ _ _ h => h) (fun _ h => h) ?_ | refine tx_pg 14 rfl (by kernel_rfl) rfl rfl (y_index rfl rfl (by omega) hadz') rfl (fun _ _ _ h => h) (fun _ h => h) ?_); ((first | refine tx_sk 15 rfl (by kernel_rfl) rfl rfl rfl rfl (fun _ _ _ h => h) (fun _ h => h) ?_ | refine tx_qg 15 rfl (by kernel_rfl) rfl rfl (y_load1o (v := vi (L.getD i 0)) rfl (fun w' hw' => by rw [show Int.toNat (i : Int) * 1 = i from by omega]; exact hcellz w' (hw'.fr (w0 := z.2) (S := []) (MI.m (by repeat constructor))) i (by omega))) rfl (fun _ _ _ h => h) (fun _ h => h) ?_))
              all_goals (first | refine tx_sk 16 rfl (by kernel_rfl) rfl rfl rfl rfl (fun _ _ _ h => h) (fun _ h => h) ?_ | refine tx_pg 16 rfl (by kernel_rfl) rfl rfl (y_move rfl) rfl (fun _ _ _ h => h) (fun _ h => h) ?_); (first | refine tx_sk 17 rfl (by kernel_rfl) rfl rfl rfl rfl (fun _ _ _ h => h) (fun _ h => h) ?_ | refine tx_pg 17 rfl (by kernel_rfl) rfl rfl (y_move rfl) rfl (fun _ _ _ h => h) (fun _ h => h) ?_); (first | refine tx_sk 18 rfl (by kernel_rfl) rfl rfl rfl rfl (fun _ _ _ h => h) (fun _ h => h) ?_ | refine tx_pg 18 rfl (by kernel_rfl) rfl rfl (y_sub rfl rfl (by omega)) rfl (fun _ _ _ h => h) (fun _ h => h) ?_); (first | refine tx_sk 19 rfl (by kernel_rfl) rfl rfl rfl rfl (fun _ _ _ h => h) (fun _ h => h) ?_ | refine tx_pg 19 rfl (by kernel_rfl) rfl rfl (y_index rfl rfl (by omega) hadz') rfl (fun _ _ _ h => h) (fun _ h => h) ?_); ((first | refine tx_sk 20 rfl (by kernel_rfl) rfl rfl rfl rfl (fun _ _ _ h => h) (fun _ h => h) ?_ | refine tx_qg 20 rfl (by kernel_rfl) rfl rfl (y_load1o (v := vi (L.getD (i - 1) 0)) rfl (fun w' hw' => by rw [show Int.toNat ((i : Int) - 1) * 1 = i - 1 from by omega]; exact hcellz w' (hw'.fr (w0 := z.2) (S := []) (MI.m (by repeat constructor))) (i - 1) (by omega))) rfl (fun _ _ _ h => h) (fun _ h => h) ?_))
              all_goals (first | refine tx_sk 21 rfl (by kernel_rfl) rfl rfl rfl rfl (fun _ _ _ h => h) (fun _ h => h) ?_ | refine tx_pg 21 rfl (by kernel_rfl) rfl rfl (y_leq rfl rfl) rfl (fun _ _ _ h => h) (fun _ h => h) ?_); (first | refine tx_pg 22 rfl (by kernel_rfl) rfl rfl (y_pick_t rfl rfl) rfl (fun _ _ _ h => h) (fun _ h => h) ?_ | refine tx_pg 22 rfl (by kernel_rfl) rfl rfl (y_pick_f rfl rfl) rfl (fun _ _ _ h => h) (fun _ h => h) ?_); refine tx_p 23 rfl (by kernel_rfl) (y_pick_f rfl rfl) rfl (fun _ _ _ h => h) (fun _ h => h) ?_; refine tx_done (by kernel_rfl) ?_; ((refine hK17 ?_; try (clear hK17; clear K17)))
              all_goals (
               refine tc_cond rfl (fun hc => ?_) (fun hc => ?_)
               · try simp only [decide_eq_true_eq, decide_eq_false_iff_not, Int.not_lt, Int.not_le, Bool.not_eq_true', Bool.not_eq_false', Decidable.not_not, not_true_eq_false, Int.toNat_natCast] at hc
                 all_goals ((first | (exfalso; with_reducible exact bft hc) | (exfalso; omega)))
               · try simp only [decide_eq_true_eq, decide_eq_false_iff_not, Int.not_lt, Int.not_le, Bool.not_eq_true', Bool.not_eq_false', Decidable.not_not, not_true_eq_false, Int.toNat_natCast] at hc
                 all_goals refine tc_skip ?_; ((refine hK16 ?_; try (clear hK16; clear K16)))
                 all_goals refine tc_lay ([]) (SB.s .nil) (fun wl13 hl13 => ?_); ((have hset : setN L i < 2 ^ 62 := Nat.lt_of_lt_of_le (setN_lt (M := M) hLm i) (Nat.pow_le_pow_right (by omega) (by omega)); have hpow := pow62K (k := L.getD i 0) (by omega)))
                 all_goals refine tc_region ?_; refine tl_q (y_move rfl) rfl ?_; refine tl_q (y_move rfl) rfl ?_; refine tl_q (y_move rfl) rfl ?_; refine tl_q (y_index rfl rfl (by omega) hadz') rfl ?_; ((refine tl_q (y_load1o (v := vi (L.getD i 0)) rfl (fun w' hw' => by rw [show Int.toNat (i : Int) * 1 = i from by omega]; exact hcellz w' (hw'.fr (w0 := z.2) (S := []) (MI.m (by repeat constructor))) i (by omega))) rfl ?_))
                 all_goals ((refine tl_q (y_conv rfl (by simp only [IntKind.wrap, IntKind.bits, IntKind.signed, Bool.false_and, Bool.true_and, Bool.false_eq_true, if_false, decide_eq_true_eq]; omega)) rfl ?_))
                 all_goals (refine tl_q (y_shl1 rfl rfl (by omega)) rfl ?_); refine tl_q (y_orn rfl rfl hset hpow) rfl ?_; refine tl_q (y_assign rfl) rfl ?_; refine tl_nil ?_; ((refine hK15 ?_; try (clear hK15; clear K15)))
                 all_goals refine tc_lay ([]) (SB.s .nil) (fun wl10 hl10 => ?_); refine tc_region ?_; refine tl_q (y_move rfl) rfl ?_; refine tl_q (y_add rfl rfl (by omega)) rfl ?_; refine tl_q (y_assign rfl) rfl ?_; refine tl_nil ?_
                 all_goals (
                  have hsx := setN_succ (L := L) (i := i) (by omega)
                  exact tk_round (i + 1) (by omega) (by omega) (.cons rfl (.cons rfl (.cons rfl (.cons rfl (.cons (by rw [hsx]; rfl) (.cons rfl .nil)))))) (fun _ h => h.subl (SB.s (by repeat constructor)) (SB.s (by repeat constructor)))))
            · try simp only [decide_eq_true_eq, decide_eq_false_iff_not, Int.not_lt, Int.not_le, Bool.not_eq_true', Bool.not_eq_false', Decidable.not_not, not_true_eq_false, Int.toNat_natCast] at hc
              all_goals refine tc_exit ?_; ((refine hK11 ?_; try (clear hK11; clear K11)))
              all_goals refine tc_seq fun K19 hK19 => ?_; refine tc_lay ([]) (SB.s .nil) (fun wl14 hl14 => ?_); (have hix : i = L.length := by omega)
              all_goals subst hix
              all_goals rw [← hS]
              all_goals refine tc_region ?_; refine tl_q (y_move rfl) rfl ?_; refine tl_q (y_conv64 rfl (by omega)) rfl ?_; refine tl_q (y_move rfl) rfl ?_; ((refine tl_q (y_conv rfl (by simp only [IntKind.wrap, IntKind.bits, IntKind.signed, Bool.false_and, Bool.true_and, Bool.false_eq_true, if_false, decide_eq_true_eq]; omega)) rfl ?_))
              all_goals (refine tl_q (y_shl1 rfl rfl (by omega)) rfl ?_); refine tl_q (y_rem rfl rfl (by omega) (by omega)) rfl ?_; rw [hT]
              all_goals refine tl_q (y_assign rfl) rfl ?_; refine tl_nil ?_; ((refine hK19 ?_; try (clear hK19; clear K19)))
              all_goals refine tc_seq fun K20 hK20 => ?_; refine tc_lay ([]) (SB.s .nil) (fun wl15 hl15 => ?_); refine tc_region ?_; refine tl_q (y_loadWf rfl (hl1.at (by repeat constructor)) (MI.m (by repeat constructor)) (by simp) (by rfl)) rfl ?_; refine tl_q (y_move rfl) rfl ?_; refine tl_e (e_callX rfl (.cons rfl (.cons rfl .nil)) (fun w' hw' => kept_c s hf (S : Int) (by omega) _ _ _ w' (hr0.fr (hw'.fr (w0 := w) (S := []) (MI.m (by repeat constructor)))))) rfl (fun k15 hk15 => ?_); refine tl_e (e_callX rfl (.cons rfl .nil) (fun w' hw' => lawSample_c (kptF s (S : Int)) (hf.kpt _) _ _ _ w' (hk15.1.fr (hw'.calm hk15.2 (MI.m (by repeat constructor)) (SB.s (by repeat constructor)))))) rfl (fun x15 hx15 => ?_); refine tl_e (e_callX rfl (.cons rfl .nil) (fun w' hw' => verdictsK_v hv1 (hf.kpt _) _ _ _ w' (hx15.1.fr (hw'.calm hx15.2 (MI.m (by repeat constructor)) (SB.s (by repeat constructor)))))) rfl (fun y15 hy15 => ?_); refine tl_q (y_move rfl) rfl ?_; refine tl_q (y_extract rfl rfl) rfl ?_; refine tl_q (y_extract rfl rfl) rfl ?_; refine tl_q (y_assign rfl) rfl ?_; refine tl_q (y_assign rfl) rfl ?_; refine tl_nil ?_; ((refine hK20 ?_; try (clear hK20; clear K20)))
              all_goals refine tc_seq fun K21 hK21 => ?_; refine tc_lay ([]) (SB.s .nil) (fun wl16 hl16 => ?_); rcases hv2 with hv2 | ⟨hv2, hsh⟩
              all_goals refine tc_region ?_; refine tl_q (y_loadWf rfl (hl1.at (by repeat constructor)) (MI.m (by repeat constructor)) (by simp) (by rfl)) rfl ?_; refine tl_q (y_move rfl) rfl ?_; refine tl_e (e_callX rfl (.cons rfl (.cons rfl .nil)) (fun w' hw' => kept_c s hf (T : Int) (by omega) _ _ _ w' (hr0.fr (hw'.fr (w0 := w) (S := []) (MI.m (by repeat constructor)))))) rfl (fun k16 hk16 => ?_); refine tl_e (e_callX rfl (.cons rfl .nil) (fun w' hw' => lawSample_c (kptF s (T : Int)) (hf.kpt _) _ _ _ w' (hk16.1.fr (hw'.calm hk16.2 (MI.m (by repeat constructor)) (SB.s (by repeat constructor)))))) rfl (fun x16 hx16 => ?_); refine tl_e (e_callX rfl (.cons rfl .nil) (fun w' hw' => verdictsK_v hv2 (hf.kpt _) _ _ _ w' (hx16.1.fr (hw'.calm hx16.2 (MI.m (by repeat constructor)) (SB.s (by repeat constructor)))))) rfl (fun y16 hy16 => ?_); refine tl_q (y_move rfl) rfl ?_; refine tl_q (y_extract rfl rfl) rfl ?_; refine tl_q (y_extract rfl rfl) rfl ?_; refine tl_q (y_assign rfl) rfl ?_; refine tl_q (y_assign rfl) rfl ?_; refine tl_nil ?_; ((refine hK21 ?_; try (clear hK21; clear K21)))
              all_goals refine tc_seq fun K22 hK22 => ?_; refine tc_lay ([]) (SB.s .nil) (fun wl17 hl17 => ?_); refine tc_region ?_; refine tl_q (y_move rfl) rfl ?_; refine tl_q (y_eql rfl rfl) rfl ?_; refine tl_q (y_move rfl) rfl ?_; refine tl_qg rfl rfl (y_move rfl) rfl ?_; refine tl_qg rfl rfl (y_eql rfl rfl) rfl ?_; refine tl_qg rfl rfl (y_move rfl) rfl ?_; (first | refine tl_sk rfl rfl rfl rfl ?_ | refine tl_qg rfl rfl (y_move rfl) rfl ?_); (first | refine tl_sk rfl rfl rfl rfl ?_ | refine tl_qg rfl rfl (y_eql rfl rfl) rfl ?_); (first | refine tl_sk rfl rfl rfl rfl ?_ | refine tl_qg rfl rfl (y_move rfl) rfl ?_); (first | refine tl_qg rfl rfl (y_move rfl) rfl ?_ | refine tl_su rfl rfl rfl ?_); (first | refine tl_eg rfl rfl rfl (e_callX rfl (.cons rfl .nil) (fun w' hw' => bits_c T M hTl (by omega) w')) (fun b17 hb17 => ?_) | refine tl_su rfl rfl rfl ?_); (first | refine tl_qg rfl rfl (y_move rfl) rfl ?_ | refine tl_su rfl rfl rfl ?_); ((first | refine tl_eg rfl rfl rfl (e_callV rfl (.cons rfl (.cons rfl .nil)) (fun w' hw' => hsh ▸ shorter_c (bitN T M) L (by have := bitN_len T M; omega) (by omega) _ _ w' (hb17.1.fr (hw'.calm hb17.2 (MI.m (by repeat constructor)) (SB.s (by repeat constructor)))) (hz.1.fr (hw'.fr (w0 := z.2) (S := []) (MI.m (by repeat constructor)))))) (fun _ _ => ?_) | refine tl_su rfl rfl rfl ?_))
              all_goals (first | refine tl_qg rfl rfl (y_not rfl) rfl ?_ | refine tl_su rfl rfl rfl ?_); (first | refine tl_sk rfl rfl rfl rfl ?_ | refine tl_qg rfl rfl (y_pick_t rfl rfl) rfl ?_); (first | refine tl_qg rfl rfl (y_pick_t rfl rfl) rfl ?_ | refine tl_qg rfl rfl (y_pick_f rfl rfl) rfl ?_); refine tl_q (y_pick_t rfl rfl) rfl ?_; refine tl_q (y_move rfl) rfl ?_; refine tl_eg rfl rfl rfl (e_callV rfl .nil (fun w' _ => awake_c w')) (fun _ _ => ?_); refine tl_q (y_pick_t rfl rfl) rfl ?_; refine tl_q (y_assign rfl) rfl ?_; refine tl_nil ?_; ((refine hK22 ?_; try (clear hK22; clear K22)))
              all_goals refine tc_ret ?_; (repeat (first | refine tk_then_ret ?_))
              all_goals (refine tk_ret rfl rfl (.cons (.tmp rfl) .nil) ?_)
              all_goals (
               exact fun w' hw' => ⟨rfl, hw'.fr (w0 := w) (S := []) (MI.m (by repeat constructor))⟩)))))
end Go.Sp
/-
  From a contract of a law's function to its row: what the arguments read as, and that they read so afterwards.
-/
namespace Go.Sp
open Go Go.Proofs Go.ChangeShapes Go.WideShapes Go.RowKit
section
variable {H : Type} {enc : TypeId × Value → H} {P : Program} {w : World} {base : Nat} {spare : Nat → Bool} {held : Bool}
theorem Fr.kept {W W' : World} (h : Fr [] W W') (p : MemPlace → Prop) : W.keptBut W' p :=
  ⟨h.os, h.output, fun i hi => by
    have e := h.block i hi (by simp)
    rw [e]
    cases hb : W.heap[i]? with
    | none => trivial
    | some o => cases o <;> simp⟩
/-- What is left of a post without 'again'. -/
theorem post_na {f : Func} {s : ChangeSpec} {apart fresh handsOn : Bool} {W W' : World} {args : Array Value} {v : Value} {ds gs : List (DataW H)} {before pa pv : List MemPlace}
    (hW : DataW.Whole enc P f.params.toList s.vars apart W args.toList ds gs before)
    (hres : ∀ (b : Nat) (sp : Nat → Bool) (hd : Bool), DataW.TrodAll enc P W' b sp hd f.resultTypes.toList (v.resultList f.resultTypes.size) (s.fn H (ds ++ gs)).results [])
    (hargs : ∀ sp : Nat → Bool, (∀ p ∈ before, sp p.block = true) → DataW.TrodAll enc P W' 0 sp true f.params.toList args.toList (s.fn H (ds ++ gs)).args pa)
    (hvars : ∀ sp : Nat → Bool, (∀ p ∈ before, sp p.block = true) → DataW.TrodVars enc P W' sp s.vars (s.fn H (ds ++ gs)).vars pv)
    (hps : before = pa ++ pv) (hk : W.keptBut W' (· ∈ before)) : s.post enc P f apart fresh handsOn false W args v W' := by
  have hold : ∀ p ∈ before, (fun b => decide (b < W.heap.size)) p.block = true := fun p hp => by simpa using hW.lt p hp
  refine ⟨ds, gs, before, [], pa, pv, hW, hres _ _ _, hargs _ hold, hvars _ hold, World.keptBut_mono (fun p hp => ⟨hp, ?_⟩) hk, fun h => by cases h⟩
  rw [hps, List.mem_append] at hp
  exact Or.inr hp
theorem all_stays (hl : laidOutB P = true) {W W' : World} {sp : Nat → Bool} (hb : Below W.heap.size W W') : ∀ {ts : List TypeId} {vs : List Value} {ds : List (DataW H)} {ps : List MemPlace}, (ts.all fun t => P.readableRec t && decide (t < P.types.size)) = true →
    DataW.TrodAll enc P W 0 (fun _ => true) true ts vs ds ps → (∀ p ∈ ps, sp p.block = true) → DataW.TrodAll enc P W' 0 sp true ts vs ds ps := by
  intro ts
  induction ts with
  | nil => intro vs ds ps _ h _; cases vs <;> cases ds <;> simp [DataW.TrodAll] at h ⊢; exact h
  | cons t ts ih =>
    intro vs ds ps ht h hs
    have hlt := h.lt
    obtain ⟨v, vs', d, ds', p, q, rfl, rfl, rfl, h1, h2⟩ := trodAll_cons h
    simp only [List.all_cons, Bool.and_eq_true, decide_eq_true_eq] at ht
    exact ⟨p, q, WideElems.Trod_stays hl ht.1.1 ht.1.2 h1 (fun x hx => hb.same (hlt x (List.mem_append_left _ hx))) (fun x hx => hs x (List.mem_append_left _ hx)),
      ih (by simpa using ht.2) h2 (fun x hx => hs x (List.mem_append_right _ hx)), rfl⟩
/-- A slice reads as the cells of its elements, each of which reads. -/
theorem slice_reads {t e : TypeId} {fuel : Nat} {cs : List Value} {x : DataW H × List MemPlace} (ht : P.underlying t = some (.slice e)) (hc : 0 < P.cellsOf e) (h : DataW.trod enc P w base spare held fuel t cs = some x) :
    ∃ ad cap, ∃ ess : List (List Value), cs = [.slice ad ess.length cap] ∧ ess.length ≤ maxLen ∧ Reads w (.slice ad ess.length cap) (P.cellsOf e) ess.length ess.flatten ∧ ∀ es ∈ ess, ∃ m y, DataW.trod enc P w base spare held m e es = some y := by
  rcases DataW.trod_slice ht h with ⟨rfl, _⟩ | ⟨a, len, cap, elems, rest, n, _, rfl, _, hb, hl, hm, hlen, hel, _, _⟩
  · exact ⟨none, 0, [], rfl, Nat.zero_le _, ⟨by simp, none, 0, rfl, fun h => absurd rfl h⟩, by simp⟩
  · -- the cells of each element
    have hone : ∀ i, i < len → ∃ es y, w.cells? base (a.add (i * P.cellsOf e)) (P.cellsOf e) = some es ∧ DataW.trod enc P w base spare held n e es = some y := fun i hi => by
      have h1 := hel i hi
      rw [List.getElem?_eq_getElem (by omega)] at h1
      obtain ⟨es, h2, h3⟩ := Option.bind_eq_some_iff.1 h1
      exact ⟨es, _, h2, h3⟩
    have hadd : ∀ m, a.spot = none → a.add m = ⟨a.block, a.off + m, none⟩ := fun m hs => by
      obtain ⟨b, o, sp⟩ := a
      simp only at hs
      subst hs
      unfold Addr.add; split
      · rename_i h0; subst h0; rfl
      · rfl
    have hsp0 : 0 < len → a.spot = none := fun h0 => by
      obtain ⟨es, y, g1, g2⟩ := hone 0 h0
      obtain ⟨_, hl1, hat⟩ := World.cells?_some g1
      have := hat 0 hc
      rw [List.getElem?_eq_getElem (by omega), Nat.zero_mul, show (a.add 0).add 0 = a from rfl] at this
      unfold World.cell? at this
      split at this
      · split at this
        · cases this
        · rename_i hs; simpa using hs
      · cases this
    have hcell : ∀ k, k ≤ len → ∃ ess : List (List Value), ess.length = k ∧ (∀ es ∈ ess, ∃ m y, DataW.trod enc P w base spare held m e es = some y) ∧ ess.flatten.length = k * P.cellsOf e ∧
        (k ≠ 0 → a.spot = none) ∧ ∀ j v, ess.flatten[j]? = some v → w.cell? ⟨a.block, a.off + j, none⟩ = some v := by
      intro k
      induction k with
      | zero => intro _; exact ⟨[], rfl, by simp, by simp, fun h => absurd rfl h, by simp⟩
      | succ k ih =>
        intro hk
        obtain ⟨ess, h1, h2, h3, h4, h5⟩ := ih (by omega)
        obtain ⟨es, y, g1, g2⟩ := hone k (by omega)
        obtain ⟨_, hl1, hat⟩ := World.cells?_some g1
        have hspot : a.spot = none := hsp0 (by omega)
        refine ⟨ess ++ [es], by simp [h1], fun u hu => ?_, ?_, fun _ => hspot, fun j v hv => ?_⟩
        · rcases List.mem_append.1 hu with hu | hu
          · exact h2 u hu
          · obtain rfl := List.mem_singleton.1 hu; exact ⟨n, y, g2⟩
        · rw [List.flatten_append, List.length_append, h3]; simp [hl1]; rw [Nat.add_mul]; omega
        · rw [List.flatten_append] at hv
          by_cases hj : j < ess.flatten.length
          · rw [List.getElem?_append_left hj] at hv; exact h5 j v hv
          · rw [List.getElem?_append_right (by omega)] at hv
            simp only [List.flatten_cons, List.flatten_nil, List.append_nil] at hv
            have hjl : j - ess.flatten.length < es.length := (List.getElem?_eq_some_iff.1 hv).1
            have := hat (j - ess.flatten.length) (by omega)
            rw [hv, hadd _ hspot] at this
            have e2 : (⟨a.block, a.off + k * P.cellsOf e, none⟩ : Addr).add (j - ess.flatten.length) = ⟨a.block, a.off + j, none⟩ := by
              unfold Addr.add; split
              · rename_i h0; simp only [Addr.mk.injEq, true_and, and_true]; omega
              · simp only [Addr.mk.injEq, true_and, and_true]; omega
            rw [e2] at this
            exact this
    obtain ⟨ess, h1, h2, h3, h4, h5⟩ := hcell len (Nat.le_refl _)
    subst h1
    refine ⟨some a, cap, ess, rfl, by omega, ⟨h3, _, _, rfl, fun hn => ⟨a.block, a.off, ?_, ?_⟩⟩, h2⟩
    · have := h4 hn
      obtain ⟨b, o, sp⟩ := a
      simp only at this
      subst this
      rfl
    · rw [← h3]
      generalize ess.flatten = vs at h5
      have key : ∀ (vs : List Value) (o : Nat), (∀ j v, vs[j]? = some v → w.cell? ⟨a.block, o + j, none⟩ = some v) → CA (fun k => w.cell? ⟨a.block, k, none⟩) o vs.length vs := by
        intro vs
        induction vs with
        | nil => intro o _; exact .nil
        | cons v vs ih => intro o hv; exact .cons (hv 0 v rfl) (ih (o + 1) fun j u hu => by rw [Nat.add_assoc, Nat.add_comm 1 j]; exact hv (j + 1) u hu)
      exact key vs a.off h5
theorem exists_map {α β : Type} {f : α → β} {q : α → Prop} : ∀ (l : List β), (∀ y ∈ l, ∃ x, y = f x ∧ q x) → ∃ xs : List α, l = xs.map f ∧ ∀ x ∈ xs, q x
  | [], _ => ⟨[], rfl, by simp⟩
  | y :: l, h => by
    obtain ⟨x, rfl, hq⟩ := h y List.mem_cons_self
    obtain ⟨xs, rfl, hxs⟩ := exists_map l (fun z hz => h z (List.mem_cons_of_mem _ hz))
    exact ⟨x :: xs, rfl, fun z hz => by rcases List.mem_cons.1 hz with rfl | hz; exact hq; exact hxs z hz⟩
/-- The fields of a struct. -/
theorem fields_reads {t : TypeId} {fs : Array Field} {fuel : Nat} {cs : List Value} {x : DataW H × List MemPlace} (ht : P.underlying t = some (.struct fs)) (h : DataW.trod enc P w base spare held fuel t cs = some x) :
    cs.length = P.cellsOf t ∧ ∀ (i : Nat) (f : Field), fs[i]? = some f → ∃ m y, DataW.trod enc P w base spare held m f.type ((cs.drop f.offset).take (P.cellsOf f.type)) = some y := by
  obtain ⟨xs, n, _, _, hl, hx, hf⟩ := DataW.trod_struct ht h
  refine ⟨hl, fun i f hi => ?_⟩
  have := hf i f hi
  have hlt : i < fs.size := (Array.getElem?_eq_some_iff.1 hi).1
  rw [List.getElem?_eq_getElem (by omega)] at this
  exact ⟨n, _, this⟩
def flds (enc : TypeId × Value → H) (P : Program) (w : World) (base : Nat) (spare : Nat → Bool) (held : Bool) (cs : List Value) : List Field → Prop
  | [] => True
  | f :: fs => (∃ m y, DataW.trod enc P w base spare held m f.type ((cs.drop f.offset).take (P.cellsOf f.type)) = some y) ∧ flds enc P w base spare held cs fs
theorem fields_list {t : TypeId} {l : List Field} {fuel : Nat} {cs : List Value} {x : DataW H × List MemPlace} (ht : P.underlying t = some (.struct l.toArray)) (h : DataW.trod enc P w base spare held fuel t cs = some x) :
    cs.length = P.cellsOf t ∧ flds enc P w base spare held cs l := by
  obtain ⟨hl, hf⟩ := fields_reads ht h
  refine ⟨hl, ?_⟩
  have key : ∀ l' : List Field, (∀ f ∈ l', f ∈ l) → flds enc P w base spare held cs l' := by
    intro l'
    induction l' with
    | nil => intro _; trivial
    | cons f fs ih =>
      intro hm
      obtain ⟨i, hi, e⟩ := List.getElem_of_mem (hm f List.mem_cons_self)
      exact ⟨hf i f (by simp [hi, e]), ih fun g hg => hm g (List.mem_cons_of_mem _ hg)⟩
  exact key l fun _ h => h
end
end Go.Sp
/-
  What a sample reads as.
-/
namespace Go.Sp
open Go Go.Proofs Go.ChangeShapes Go.WideShapes Go.RowKit
theorem laidTry : laidOutB Try.prog = true := by kernel_rfl
theorem cells_3 : Try.prog.cellsOf 3 = 1 := by kernel_rfl
theorem cells_4 : Try.prog.cellsOf 4 = 1 := by kernel_rfl
theorem cells_22 : Try.prog.cellsOf 22 = 1 := by kernel_rfl
theorem cells_23 : Try.prog.cellsOf 23 = 1 := by kernel_rfl
theorem cells_24 : Try.prog.cellsOf 24 = 1 := by kernel_rfl
theorem cells_58 : Try.prog.cellsOf 58 = 5 := by kernel_rfl
theorem cells_56 : Try.prog.cellsOf 56 = 2 := by kernel_rfl
theorem cells_62 : Try.prog.cellsOf 62 = 3 := by kernel_rfl
theorem cells_26 : Try.prog.cellsOf 26 = 7 := by kernel_rfl
theorem wf64 {n : Int} (h : (Lit.int .i64 n).wf = true) : -9223372036854775808 ≤ n ∧ n ≤ 9223372036854775807 := by
  simpa [Lit.wf, IntKind.min, IntKind.max, IntKind.signed, IntKind.bits] using h
theorem wf16 {n : Int} (h : (Lit.int .u16 n).wf = true) : 0 ≤ n ∧ n ≤ 65535 := by
  simpa [Lit.wf, IntKind.min, IntKind.max, IntKind.signed, IntKind.bits] using h
abbrev Bd (n : Int) : Prop := -9223372036854775808 ≤ n ∧ n ≤ 9223372036854775807
theorem two' {α : Type} {l : List α} (h : l.length = 2) : ∃ a b, l = [a, b] := by
  match l, h with
  | [a, b], _ => exact ⟨a, b, rfl⟩
theorem three' {α : Type} {l : List α} (h : l.length = 3) : ∃ a b c, l = [a, b, c] := by
  match l, h with
  | [a, b, c], _ => exact ⟨a, b, c, rfl⟩
theorem five' {α : Type} {l : List α} (h : l.length = 5) : ∃ a b c d e, l = [a, b, c, d, e] := by
  match l, h with
  | [a, b, c, d, e], _ => exact ⟨a, b, c, d, e, rfl⟩
theorem seven' {α : Type} {l : List α} (h : l.length = 7) : ∃ a b c d e f g, l = [a, b, c, d, e, f, g] := by
  match l, h with
  | [a, b, c, d, e, f, g], _ => exact ⟨a, b, c, d, e, f, g, rfl⟩
theorem flatten_map {α : Type} (enc : α → List Value) (xs : List α) : (xs.map enc).flatten = xs.flatMap enc := rfl
section
variable {H : Type} {enc : TypeId × Value → H} {w : World} {base : Nat} {spare : Nat → Bool} {held : Bool}
theorem bools_reads {fuel : Nat} {cs : List Value} {x : DataW H × List MemPlace} (h : DataW.trod enc Try.prog w base spare held fuel 22 cs = some x) :
    ∃ (sl : Value) (l : List Bool), cs = [sl] ∧ RdS 1 boE w sl l ∧ l.length ≤ maxLen := by
  obtain ⟨ad, cap, ess, rfl, hm, hr, hes⟩ := slice_reads Try.underlying22 (by rw [cells_4]; decide) h
  obtain ⟨xs, rfl, hxs⟩ := exists_map (f := boE) (q := fun _ => True) ess (fun es h => by
    obtain ⟨m, y, hy⟩ := hes es h
    obtain ⟨b, rfl, _⟩ := DataW.trod_bool Try.underlying4 hy
    exact ⟨b, rfl, trivial⟩)
  rw [flatten_map, cells_4] at hr
  simp only [List.length_map] at hr hm
  exact ⟨_, xs, by simp, hr, hm⟩
theorem rng_reads {fuel : Nat} {cs : List Value} {x : DataW H × List MemPlace} (h : DataW.trod enc Try.prog w base spare held fuel 56 cs = some x) :
    ∃ a b : Int, cs = [vi a, vi b] ∧ Bd a ∧ Bd b := by
  obtain ⟨hl, hf⟩ := fields_list Try.underlying56 h
  rw [cells_56] at hl
  obtain ⟨c0, c1, rfl⟩ := two' hl
  obtain ⟨⟨_, _, f0⟩, ⟨_, _, f1⟩, _⟩ := hf
  rw [cells_3] at f0 f1
  obtain ⟨n0, e0, _, w0⟩ := DataW.trod_int Try.underlying3 f0
  obtain ⟨n1, e1, _, w1⟩ := DataW.trod_int Try.underlying3 f1
  simp at e0 e1
  subst e0; subst e1
  exact ⟨n0, n1, rfl, wf64 w0, wf64 w1⟩
theorem pas_reads {fuel : Nat} {cs : List Value} {x : DataW H × List MemPlace} (h : DataW.trod enc Try.prog w base spare held fuel 58 cs = some x) :
    ∃ p : Pas, cs = psE p := by
  obtain ⟨hl, hf⟩ := fields_list Try.underlying58 h
  rw [cells_58] at hl
  obtain ⟨c0, c1, c2, c3, c4, rfl⟩ := five' hl
  obtain ⟨⟨_, _, f0⟩, ⟨_, _, f1⟩, ⟨_, _, f2⟩, ⟨_, _, f3⟩, _⟩ := hf
  rw [cells_3] at f0 f1 f2
  rw [cells_56] at f3
  obtain ⟨n0, e0, _, w0⟩ := DataW.trod_int Try.underlying3 f0
  obtain ⟨n1, e1, _, w1⟩ := DataW.trod_int Try.underlying3 f1
  obtain ⟨n2, e2, _, w2⟩ := DataW.trod_int Try.underlying3 f2
  obtain ⟨a, b, e3, _, _⟩ := rng_reads f3
  simp at e0 e1 e2 e3
  obtain ⟨rfl, rfl⟩ := e3
  subst e0; subst e1; subst e2
  exact ⟨⟨n0, n1, n2, a, b⟩, rfl⟩
theorem sgt_reads {fuel : Nat} {cs : List Value} {x : DataW H × List MemPlace} (h : DataW.trod enc Try.prog w base spare held fuel 62 cs = some x) :
    ∃ g : Sgt, cs = sgE g := by
  obtain ⟨hl, hf⟩ := fields_list Try.underlying62 h
  rw [cells_62] at hl
  obtain ⟨c0, c1, c2, rfl⟩ := three' hl
  obtain ⟨⟨_, _, f0⟩, ⟨_, _, f1⟩, ⟨_, _, f2⟩, _⟩ := hf
  rw [cells_3] at f0 f1
  rw [cells_4] at f2
  obtain ⟨n0, e0, _, w0⟩ := DataW.trod_int Try.underlying3 f0
  obtain ⟨n1, e1, _, w1⟩ := DataW.trod_int Try.underlying3 f1
  obtain ⟨b, e2, _⟩ := DataW.trod_bool Try.underlying4 f2
  simp at e0 e1 e2
  subst e0; subst e1; subst e2
  exact ⟨⟨n0, n1, b⟩, rfl⟩
theorem pass_reads {fuel : Nat} {cs : List Value} {x : DataW H × List MemPlace} (h : DataW.trod enc Try.prog w base spare held fuel 23 cs = some x) :
    ∃ (sl : Value) (l : List Pas), cs = [sl] ∧ RdS 5 psE w sl l ∧ l.length ≤ maxLen := by
  obtain ⟨ad, cap, ess, rfl, hm, hr, hes⟩ := slice_reads Try.underlying23 (by rw [cells_58]; decide) h
  obtain ⟨xs, rfl, hxs⟩ := exists_map (f := psE) (q := fun _ => True) ess (fun es h => by
    obtain ⟨m, y, hy⟩ := hes es h
    obtain ⟨p, hp⟩ := pas_reads hy
    exact ⟨p, hp, trivial⟩)
  rw [flatten_map, cells_58] at hr
  simp only [List.length_map] at hr hm
  exact ⟨_, xs, by simp, hr, hm⟩
theorem sgts_reads {fuel : Nat} {cs : List Value} {x : DataW H × List MemPlace} (h : DataW.trod enc Try.prog w base spare held fuel 24 cs = some x) :
    ∃ (sl : Value) (l : List Sgt), cs = [sl] ∧ RdS 3 sgE w sl l ∧ l.length ≤ maxLen := by
  obtain ⟨ad, cap, ess, rfl, hm, hr, hes⟩ := slice_reads Try.underlying24 (by rw [cells_62]; decide) h
  obtain ⟨xs, rfl, hxs⟩ := exists_map (f := sgE) (q := fun _ => True) ess (fun es h => by
    obtain ⟨m, y, hy⟩ := hes es h
    obtain ⟨p, hp⟩ := sgt_reads hy
    exact ⟨p, hp, trivial⟩)
  rw [flatten_map, cells_62] at hr
  simp only [List.length_map] at hr hm
  exact ⟨_, xs, by simp, hr, hm⟩
theorem smp_reads {fuel : Nat} {cs : List Value} {x : DataW H × List MemPlace} (h : DataW.trod enc Try.prog w base spare held fuel 26 cs = some x) :
    ∃ (s : Smp) (tv pv gv : Value), cs = [vi s.B, vi s.P, vi s.L, vi s.F, tv, pv, gv] ∧ RdSm w s tv pv gv := by
  obtain ⟨hl, hf⟩ := fields_list Try.underlying26 h
  rw [cells_26] at hl
  obtain ⟨c0, c1, c2, c3, c4, c5, c6, rfl⟩ := seven' hl
  obtain ⟨⟨_, _, f0⟩, ⟨_, _, f1⟩, ⟨_, _, f2⟩, ⟨_, _, f3⟩, ⟨_, _, f4⟩, ⟨_, _, f5⟩, ⟨_, _, f6⟩, _⟩ := hf
  rw [cells_3] at f0 f1 f2 f3
  rw [cells_22] at f4
  rw [cells_23] at f5
  rw [cells_24] at f6
  obtain ⟨n0, e0, _, w0⟩ := DataW.trod_int Try.underlying3 f0
  obtain ⟨n1, e1, _, w1⟩ := DataW.trod_int Try.underlying3 f1
  obtain ⟨n2, e2, _, w2⟩ := DataW.trod_int Try.underlying3 f2
  obtain ⟨n3, e3, _, w3⟩ := DataW.trod_int Try.underlying3 f3
  obtain ⟨tv, st, e4, h4, _⟩ := bools_reads f4
  obtain ⟨pv, ps, e5, h5, _⟩ := pass_reads f5
  obtain ⟨gv, sg, e6, h6, _⟩ := sgts_reads f6
  simp at e0 e1 e2 e3 e4 e5 e6
  subst e0; subst e1; subst e2; subst e3; subst e4; subst e5; subst e6
  exact ⟨⟨n0, n1, n2, n3, st, ps, sg⟩, _, _, _, rfl, h4, h5, h6⟩
end
end Go.Sp
