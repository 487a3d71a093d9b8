
/-
  The reference of samples: what is valid. The law's helpers.
-/
import Derived.Test.YtobpgiiplhnahaaGreatM4
import Derived.Test.YtobpgiiplhnahaaGreatRows
import Derived.ProofKit
import Derived.OpenShut
import Derived.Carry
import Derived.Deep.Fields
set_option linter.unusedVariables false
set_option linter.unusedSimpArgs false
set_option linter.deprecated false
namespace Go.Sp
open Go Go.Proofs
theorem rIn_c (n lo hi : Int) (w : World) : CnV Tryz.prog 16 #[vi n, vi lo, vi hi] w (.bool (decide (lo ≤ n ∧ n ≤ hi))) := by
  refine cnv (vs := [_, _, _]) Tryz.func16 rfl rfl ?_
  all_goals refine tc_seq fun K1 hK1 => ?_; refine tc_region ?_; refine tl_q (y_assign rfl) rfl ?_; refine tl_nil ?_; ((refine hK1 ?_; try (clear hK1; clear K1)))
  all_goals refine tc_seq fun K2 hK2 => ?_; refine tc_region ?_; refine tl_q (y_move rfl) rfl ?_; refine tl_q (y_move rfl) rfl ?_; refine tl_q (y_geq rfl rfl) rfl ?_; refine tl_q (y_move rfl) rfl ?_; ((refine tl_gs rfl rfl (fun hc => ?_) (fun hc => ?_) <;> (skip) <;> (first | refine tl_sk rfl rfl rfl rfl ?_ | refine tl_qg rfl rfl (y_move rfl) rfl ?_)))
  all_goals (first | refine tl_sk rfl rfl rfl rfl ?_ | refine tl_qg rfl rfl (y_move rfl) rfl ?_); (first | refine tl_sk rfl rfl rfl rfl ?_ | refine tl_qg rfl rfl (y_leq rfl rfl) rfl ?_); (first | refine tl_q (y_pick_t rfl rfl) rfl ?_ | refine tl_q (y_pick_f rfl rfl) rfl ?_); refine tl_q (y_assign rfl) rfl ?_; refine tl_nil ?_; ((refine hK2 ?_; try (clear hK2; clear K2)))
  all_goals refine tc_ret ?_; (repeat (first | refine tk_then_ret ?_))
  all_goals (refine tk_ret rfl rfl (.cons (.tmp rfl) .nil) ?_)
  all_goals (
   refine fun w' hw' => ⟨?_, hw'.fr (by simp)⟩; simp only [outV, decide_eq_true_eq, decide_eq_false_iff_not, ge_iff_le] at *; simp [hc])
theorem rMany_c (s : Smp) (hL : s.L ≤ 9) (hpo : s.ps.all (pasOk s) = true) (h6 : s.ps.length ≤ 6) (tv pv gv : Value) (w : World) (hr : RdS 5 psE w pv s.ps) : CnV Tryz.prog 17 #[smV s tv pv gv] w (vi (manyS s.ps)) := by
  obtain ⟨ad2, cp2, b2, o2, rfl, had2, hcell2⟩ := hr.open psE_len pas0
  refine cnv (vs := [_]) Tryz.func17 rfl rfl ?_
  all_goals refine tc_seq fun K1 hK1 => ?_; refine tc_region ?_; refine tl_e (e_box rfl rfl rfl) rfl (fun b1 _ => ?_); refine tl_q (y_assign rfl) rfl ?_; refine tl_nil ?_; ((refine hK1 ?_; try (clear hK1; clear K1)))
  all_goals refine tc_seq fun K2 hK2 => ?_; refine tc_region ?_; refine tl_q (y_assign rfl) rfl ?_; refine tl_nil ?_; ((refine hK2 ?_; try (clear hK2; clear K2)))
  all_goals refine tc_seq fun K3 hK3 => ?_; refine tc_seq fun K4 hK4 => ?_; refine tc_region ?_; refine tl_q (y_assign rfl) rfl ?_; refine tl_nil ?_; ((refine hK4 ?_; try (clear hK4; clear K4)))
  all_goals refine tc_block ?_
  all_goals (
   refine tc_loop (fun n : Nat => n ≤ s.ps.length) (fun n => [(1, ptr b1), (3, vi (manyS (s.ps.take n))), (4, vi n)]) (fun _ => [(w, [])]) (fun _ => [(b1, .cells #[vi s.B, vi s.P, vi s.L, vi s.F, tv, .slice ad2 s.ps.length cp2, gv] 26 (0, 0))]) (fun n => s.ps.length - n) ?_ ?_
   · exact tk_start 0 (Nat.zero_le _) (.cons rfl (.cons rfl (.cons rfl .nil))) (fun _ h => h.subl SB.s SB.s)
   · rintro n hn
     all_goals refine tc_seq fun K5 hK5 => ?_; refine tc_seq fun K6 hK6 => ?_; refine tc_region ?_; refine tl_q (y_move rfl) rfl ?_; refine tl_q (y_field rfl) rfl ?_; refine tl_q (y_load1 rfl (by repeat constructor) (by rfl)) rfl ?_; refine tl_q (y_len rfl) rfl ?_; refine tl_q (y_lss rfl rfl) rfl ?_; refine tl_nil ?_; ((refine hK6 ?_; try (clear hK6; clear K6)))
     all_goals (
      refine tc_cond rfl (fun hc => ?_) (fun hc => ?_)
      · try simp only [qn1, qn2, qn3, qn4, qn5, qn6, qn7, qn8] at hc
        all_goals refine tc_skip ?_; ((refine hK5 ?_; try (clear hK5; clear K5)))
        all_goals refine tc_seq fun K7 hK7 => ?_; refine tc_block ?_; (have hcc := fun (w' : World) (f : Fr [] w w') => hcell2 w' [] f (by simp) n (by omega))
        all_goals ((have hp1 := pas_at hpo (n := n) (by omega); have hb1 := manyS_take (by omega) hpo (by omega) n (by omega); have hb2 := manyS_take (by omega) hpo (by omega) (n + 1) (by omega); have hsu := manyS_snoc (s.ps.take n) (s.ps.getD n pas0); rw [← takeG_succ (by omega)] at hsu; rw [hsu] at hb2))
        all_goals refine tc_draw (by kernel_rfl) ?_; refine tx_p 0 rfl (by kernel_rfl) (y_move rfl) rfl (fun _ _ _ h => h) (fun _ h => h) ?_; refine tx_p 1 rfl (by kernel_rfl) (y_field rfl) rfl (fun _ _ _ h => h) (fun _ h => h) ?_; refine tx_q 2 rfl (by kernel_rfl) (y_load1 rfl (by repeat constructor) (by rfl)) rfl (fun _ _ _ h => h) (fun _ h => h) ?_; refine tx_p 3 rfl (by kernel_rfl) (y_move rfl) rfl (fun _ _ _ h => h) (fun _ h => h) ?_; refine tx_p 4 rfl (by kernel_rfl) (y_index rfl rfl (by omega) (had2 (by omega))) rfl (fun _ _ _ h => h) (fun _ h => h) ?_; refine tx_p 5 rfl (by kernel_rfl) (y_field rfl) rfl (fun _ _ _ h => h) (fun _ h => h) ?_; refine tx_p 6 rfl (by kernel_rfl) (y_field rfl) rfl (fun _ _ _ h => h) (fun _ h => h) ?_; ((refine tx_q 7 rfl (by kernel_rfl) (y_load1o (v := vi (s.ps.getD n pas0).hi) rfl (fun w' hw' => by rw [show Int.toNat (n : Int) * 5 = n * 5 from by omega]; exact (hcc w' (hw'.fr (w0 := w) (S := []) MI.m)).get 4 _ rfl)) rfl (fun _ _ _ h => h) (fun _ h => h) ?_))
        all_goals refine tx_p 8 rfl (by kernel_rfl) (y_field rfl) rfl (fun _ _ _ h => h) (fun _ h => h) ?_; refine tx_q 9 rfl (by kernel_rfl) (y_load1 rfl (by repeat constructor) (by rfl)) rfl (fun _ _ _ h => h) (fun _ h => h) ?_; refine tx_p 10 rfl (by kernel_rfl) (y_move rfl) rfl (fun _ _ _ h => h) (fun _ h => h) ?_; refine tx_p 11 rfl (by kernel_rfl) (y_index rfl rfl (by omega) (had2 (by omega))) rfl (fun _ _ _ h => h) (fun _ h => h) ?_; refine tx_p 12 rfl (by kernel_rfl) (y_field rfl) rfl (fun _ _ _ h => h) (fun _ h => h) ?_; refine tx_p 13 rfl (by kernel_rfl) (y_field rfl) rfl (fun _ _ _ h => h) (fun _ h => h) ?_; ((refine tx_q 14 rfl (by kernel_rfl) (y_load1o (v := vi (s.ps.getD n pas0).lo) rfl (fun w' hw' => by rw [show Int.toNat (n : Int) * 5 = n * 5 from by omega]; exact (hcc w' (hw'.fr (w0 := w) (S := []) MI.m)).get 3 _ rfl)) rfl (fun _ _ _ h => h) (fun _ h => h) ?_))
        all_goals refine tx_p 15 rfl (by kernel_rfl) (y_sub rfl rfl (by omega)) rfl (fun _ _ _ h => h) (fun _ h => h) ?_; refine tx_p 16 rfl (by kernel_rfl) (y_add rfl rfl (by omega)) rfl (fun _ _ _ h => h) (fun _ h => h) ?_; refine tx_p 17 rfl (by kernel_rfl) (y_mul rfl rfl (by omega)) rfl (fun _ _ _ h => h) (fun _ h => h) ?_; refine tx_p 18 rfl (by kernel_rfl) (y_assign rfl) rfl (fun _ _ _ h => h) (fun _ h => h) ?_; refine tx_done (by kernel_rfl) ?_; ((refine hK7 ?_; try (clear hK7; clear K7)))
        all_goals refine tc_region ?_; refine tl_q (y_move rfl) rfl ?_; refine tl_q (y_add rfl rfl (by omega)) rfl ?_; refine tl_q (y_assign rfl) rfl ?_; refine tl_nil ?_
        all_goals (
         exact tk_round (n + 1) (by omega) (by omega) (.cons rfl (.cons (by rw [hsu]; rfl) (.cons rfl .nil))) (fun _ h => h.subl SB.s SB.s))
      · try simp only [qn1, qn2, qn3, qn4, qn5, qn6, qn7, qn8] at hc
        all_goals refine tc_exit ?_; ((refine hK3 ?_; try (clear hK3; clear K3)))
        all_goals refine tc_seq fun K8 hK8 => ?_; refine tc_region ?_; refine tl_q (y_move rfl) rfl ?_; refine tl_q (y_assign rfl) rfl ?_; refine tl_nil ?_; ((refine hK8 ?_; try (clear hK8; clear K8)))
        all_goals refine tc_ret ?_; (repeat (first | refine tk_then_ret ?_))
        all_goals (refine tk_ret rfl rfl (.cons (.tmp rfl) .nil) ?_)
        all_goals (
         obtain rfl : n = s.ps.length := by omega
         rw [List.take_length]
         exact fun w' hw' => ⟨rfl, hw'.fr (by simp)⟩)))
theorem pasOk_iff {s : Smp} {p : Pas} : pasOk s p = true ↔ (0 ≤ p.b ∧ p.b ≤ s.B - 1) ∧ (0 ≤ p.fr ∧ p.fr ≤ s.P - 1) ∧ (0 ≤ p.to ∧ p.to ≤ s.P - 1) ∧ ¬ p.fr = p.to ∧ 0 ≤ p.lo ∧ p.lo ≤ p.hi ∧ p.hi ≤ s.L := by
  unfold pasOk; rw [decide_eq_true_eq]; omega
theorem sgtOk_iff {s : Smp} {g : Sgt} : sgtOk s g = true ↔ (0 ≤ g.b ∧ g.b ≤ s.B - 1) ∧ 0 ≤ g.h ∧ g.h ≤ s.L := by
  unfold sgtOk; rw [decide_eq_true_eq]
theorem all_upto {α : Type} {d : α} {l : List α} {p : α → Bool} {n : Nat} (hn : n = l.length) (h : ∀ j, j < n → p (l.getD j d) = true) : l.all p = true := List.all_eq_true.2 fun x hx => by
  obtain ⟨j, hj, rfl⟩ := List.getElem_of_mem hx
  have := h j (by omega)
  rwa [List.getD_eq_getElem?_getD, List.getElem?_eq_getElem hj] at this
theorem all_not {α : Type} {d : α} {l : List α} {p : α → Bool} {n : Nat} (hn : n < l.length) (h : ¬ p (l.getD n d) = true) : l.all p = false := by
  cases hg : l.all p
  · rfl
  · exact absurd (List.all_eq_true.1 hg _ (getD_memG (d := d) hn)) h
set_option maxHeartbeats 2000000 in
theorem rFault_c (s : Smp) (tv pv gv : Value) (w : World) (hr : RdSm w s tv pv gv) (hf : Few s) : CnV Tryz.prog 5 #[smV s tv pv gv] w (vi (chkS s)) := by
  have hr0 := hr
  have hf1 := hf.st
  have hf2 := hf.ps
  have hf3 := hf.sg
  obtain ⟨ad1, cp1, _, _, rfl, _, _⟩ := hr.st.open boE_len false
  obtain ⟨ad2, cp2, b2, o2, rfl, had2, hcell2⟩ := hr.ps.open psE_len pas0
  obtain ⟨ad3, cp3, b3, o3, rfl, had3, hcell3⟩ := hr.sg.open sgE_len sgt0
  refine cnv (vs := [_]) Tryz.func5 rfl rfl ?_
  all_goals refine tc_seq fun K1 hK1 => ?_; refine tc_region ?_; refine tl_e (e_box rfl rfl rfl) rfl (fun b1 _ => ?_); refine tl_q (y_assign rfl) rfl ?_; refine tl_nil ?_; ((refine hK1 ?_; try (clear hK1; clear K1)))
  all_goals refine tc_seq fun K2 hK2 => ?_; refine tc_seq fun K3 hK3 => ?_; refine tc_region ?_; refine tl_q (y_field rfl) rfl ?_; refine tl_q (y_load1 rfl (by repeat constructor) (by rfl)) rfl ?_; refine tl_q (y_gtr rfl rfl) rfl ?_; refine tl_q (y_move rfl) rfl ?_; ((refine tl_gs rfl rfl (fun hc => ?_) (fun hc => ?_) <;> (try simp only [qn1, qn2, qn3, qn4, qn5, qn6, qn7, qn8] at hc) <;> (first | refine tl_sk rfl rfl rfl rfl ?_ | refine tl_qg rfl rfl (y_field rfl) rfl ?_)))
  all_goals (first | refine tl_sk rfl rfl rfl rfl ?_ | refine tl_qg rfl rfl (y_load1 rfl (by repeat constructor) (by rfl)) rfl ?_); (first | refine tl_sk rfl rfl rfl rfl ?_ | refine tl_qg rfl rfl (y_gtr rfl rfl) rfl ?_); (first | refine tl_q (y_pick_t rfl rfl) rfl ?_ | refine tl_q (y_pick_f rfl rfl) rfl ?_); refine tl_q (y_move rfl) rfl ?_; ((first | refine tl_sk rfl rfl rfl rfl ?_ | (refine tl_gs rfl rfl (fun hc => ?_) (fun hc => ?_) <;> (try simp only [qn1, qn2, qn3, qn4, qn5, qn6, qn7, qn8] at hc) <;> (first | refine tl_sk rfl rfl rfl rfl ?_ | refine tl_qg rfl rfl (y_field rfl) rfl ?_))))
  all_goals (first | refine tl_sk rfl rfl rfl rfl ?_ | refine tl_qg rfl rfl (y_load1 rfl (by repeat constructor) (by rfl)) rfl ?_); (first | refine tl_sk rfl rfl rfl rfl ?_ | refine tl_qg rfl rfl (y_len rfl) rfl ?_); (first | refine tl_sk rfl rfl rfl rfl ?_ | refine tl_qg rfl rfl (y_gtr rfl rfl) rfl ?_); (first | refine tl_q (y_pick_t rfl rfl) rfl ?_ | refine tl_q (y_pick_f rfl rfl) rfl ?_); refine tl_q (y_move rfl) rfl ?_; ((first | refine tl_sk rfl rfl rfl rfl ?_ | (refine tl_gs rfl rfl (fun hc => ?_) (fun hc => ?_) <;> (try simp only [qn1, qn2, qn3, qn4, qn5, qn6, qn7, qn8] at hc) <;> (first | refine tl_sk rfl rfl rfl rfl ?_ | refine tl_qg rfl rfl (y_field rfl) rfl ?_))))
  all_goals (first | refine tl_sk rfl rfl rfl rfl ?_ | refine tl_qg rfl rfl (y_load1 rfl (by repeat constructor) (by rfl)) rfl ?_); (first | refine tl_sk rfl rfl rfl rfl ?_ | refine tl_qg rfl rfl (y_len rfl) rfl ?_); (first | refine tl_sk rfl rfl rfl rfl ?_ | refine tl_qg rfl rfl (y_gtr rfl rfl) rfl ?_); (first | refine tl_q (y_pick_t rfl rfl) rfl ?_ | refine tl_q (y_pick_f rfl rfl) rfl ?_); refine tl_nil ?_; ((refine hK3 ?_; try (clear hK3; clear K3)))
  all_goals (
   refine tc_cond rfl (fun hc => ?_) (fun hc => ?_)
   · try simp only [qn1, qn2, qn3, qn4, qn5, qn6, qn7, qn8] at hc
     all_goals refine tc_seq fun K4 hK4 => ?_; refine tc_region ?_; refine tl_q (y_assign rfl) rfl ?_; refine tl_nil ?_; ((refine hK4 ?_; try (clear hK4; clear K4)))
     all_goals refine tc_ret ?_; (repeat (refine tk_then_ret ?_))
     all_goals (refine tk_ret rfl rfl (.cons (.tmp rfl) .nil) ?_)
     all_goals (
      refine fun w' hw' => ⟨congrArg (fun n => Ending.returned (Value.int .i64 n)) ?_, hw'.fr (by simp)⟩
      unfold chkS
      first
      | (rw [if_pos (by omega)])
      | (have hng := all_not (p := sgtOk s) (d := sgt0) (n := j) (l := s.sg) (by omega) (fun h => by rw [sgtOk_iff] at h; omega)
         rw [if_neg (by omega), if_pos (.inr (.inr (.inr (.inr (.inr (.inr hng))))))])
      | (have hallg' := hallg
         rw [if_neg (by omega), if_neg (by rintro (h | h | h | h | h | h | h) <;> first | omega | (rw [h] at hall; cases hall; done) | (rw [h] at hallg'; cases hallg')), if_pos (by omega)])
      | (have hallg' := hallg
         rw [if_neg (by omega), if_neg (by rintro (h | h | h | h | h | h | h) <;> first | omega | (rw [h] at hall; cases hall; done) | (rw [h] at hallg'; cases hallg')), if_neg (by omega)])
      | (have hng := all_not (p := pasOk s) (d := pas0) (n := n) (l := s.ps) (by omega) (fun h => by rw [pasOk_iff] at h; omega)
         rw [if_neg (by omega), if_pos (.inr (.inr (.inr (.inr (.inr (.inl hng))))))])
      | (rw [if_neg (by omega)]
         refine (if_pos ?_).symm
         first
         | exact .inl (by omega)
         | exact .inr (.inl (by omega))
         | exact .inr (.inr (.inl (by omega)))
         | exact .inr (.inr (.inr (.inl (by omega))))
         | exact .inr (.inr (.inr (.inr (.inl (by omega)))))))
   · try simp only [qn1, qn2, qn3, qn4, qn5, qn6, qn7, qn8] at hc
     all_goals ((first | (exfalso; with_reducible exact btf hc) | skip))
     all_goals refine tc_skip ?_; ((refine hK2 ?_; try (clear hK2; clear K2)))
     all_goals refine tc_seq fun K5 hK5 => ?_; refine tc_seq fun K6 hK6 => ?_; refine tc_region ?_; refine tl_q (y_field rfl) rfl ?_; refine tl_q (y_load1 rfl (by repeat constructor) (by rfl)) rfl ?_; refine tl_q (y_lss rfl rfl) rfl ?_; refine tl_q (y_move rfl) rfl ?_; ((refine tl_gs rfl rfl (fun hc => ?_) (fun hc => ?_) <;> (try simp only [qn1, qn2, qn3, qn4, qn5, qn6, qn7, qn8] at hc) <;> (first | refine tl_sk rfl rfl rfl rfl ?_ | refine tl_qg rfl rfl (y_field rfl) rfl ?_)))
     all_goals (first | refine tl_sk rfl rfl rfl rfl ?_ | refine tl_qg rfl rfl (y_load1 rfl (by repeat constructor) (by rfl)) rfl ?_); (first | refine tl_sk rfl rfl rfl rfl ?_ | refine tl_qg rfl rfl (y_lss rfl rfl) rfl ?_); (first | refine tl_q (y_pick_t rfl rfl) rfl ?_ | refine tl_q (y_pick_f rfl rfl) rfl ?_); refine tl_q (y_move rfl) rfl ?_; ((first | refine tl_sk rfl rfl rfl rfl ?_ | (refine tl_gs rfl rfl (fun hc => ?_) (fun hc => ?_) <;> (try simp only [qn1, qn2, qn3, qn4, qn5, qn6, qn7, qn8] at hc) <;> (first | refine tl_sk rfl rfl rfl rfl ?_ | refine tl_qg rfl rfl (y_field rfl) rfl ?_))))
     all_goals (first | refine tl_sk rfl rfl rfl rfl ?_ | refine tl_qg rfl rfl (y_load1 rfl (by repeat constructor) (by rfl)) rfl ?_); (first | refine tl_sk rfl rfl rfl rfl ?_ | refine tl_eg rfl rfl rfl (e_callV rfl (.cons rfl (.cons rfl (.cons rfl .nil))) (fun w' _ => rIn_c _ _ _ w')) (fun _ _ => ?_)); (first | refine tl_sk rfl rfl rfl rfl ?_ | refine tl_qg rfl rfl (y_not_dec rfl) rfl ?_); (first | refine tl_q (y_pick_t rfl rfl) rfl ?_ | refine tl_q (y_pick_f rfl rfl) rfl ?_); refine tl_q (y_move rfl) rfl ?_; ((first | refine tl_sk rfl rfl rfl rfl ?_ | (refine tl_gs rfl rfl (fun hc => ?_) (fun hc => ?_) <;> (try simp only [qn1, qn2, qn3, qn4, qn5, qn6, qn7, qn8] at hc) <;> (first | refine tl_sk rfl rfl rfl rfl ?_ | refine tl_qg rfl rfl (y_field rfl) rfl ?_))))
     all_goals (first | refine tl_sk rfl rfl rfl rfl ?_ | refine tl_qg rfl rfl (y_load1 rfl (by repeat constructor) (by rfl)) rfl ?_); (first | refine tl_sk rfl rfl rfl rfl ?_ | refine tl_qg rfl rfl (y_len rfl) rfl ?_); (first | refine tl_sk rfl rfl rfl rfl ?_ | refine tl_qg rfl rfl (y_field rfl) rfl ?_); (first | refine tl_sk rfl rfl rfl rfl ?_ | refine tl_qg rfl rfl (y_load1 rfl (by repeat constructor) (by rfl)) rfl ?_); (first | refine tl_sk rfl rfl rfl rfl ?_ | refine tl_qg rfl rfl (y_neq rfl rfl) rfl ?_); (first | refine tl_q (y_pick_t rfl rfl) rfl ?_ | refine tl_q (y_pick_f rfl rfl) rfl ?_); refine tl_q (y_move rfl) rfl ?_; ((first | refine tl_sk rfl rfl rfl rfl ?_ | (refine tl_gs rfl rfl (fun hc => ?_) (fun hc => ?_) <;> (try simp only [qn1, qn2, qn3, qn4, qn5, qn6, qn7, qn8] at hc) <;> (first | refine tl_sk rfl rfl rfl rfl ?_ | refine tl_qg rfl rfl (y_field rfl) rfl ?_))))
     all_goals (first | refine tl_sk rfl rfl rfl rfl ?_ | refine tl_qg rfl rfl (y_load1 rfl (by repeat constructor) (by rfl)) rfl ?_); (first | refine tl_sk rfl rfl rfl rfl ?_ | refine tl_qg rfl rfl (y_field rfl) rfl ?_); (first | refine tl_sk rfl rfl rfl rfl ?_ | refine tl_qg rfl rfl (y_load1 rfl (by repeat constructor) (by rfl)) rfl ?_); (first | refine tl_sk rfl rfl rfl rfl ?_ | refine tl_qg rfl rfl (y_sub rfl rfl (by omega)) rfl ?_); (first | refine tl_sk rfl rfl rfl rfl ?_ | refine tl_eg rfl rfl rfl (e_callV rfl (.cons rfl (.cons rfl (.cons rfl .nil))) (fun w' _ => rIn_c _ _ _ w')) (fun _ _ => ?_)); (first | refine tl_sk rfl rfl rfl rfl ?_ | refine tl_qg rfl rfl (y_not_dec rfl) rfl ?_); (first | refine tl_q (y_pick_t rfl rfl) rfl ?_ | refine tl_q (y_pick_f rfl rfl) rfl ?_); refine tl_nil ?_; ((refine hK6 ?_; try (clear hK6; clear K6)))
     all_goals (
      refine tc_cond rfl (fun hc => ?_) (fun hc => ?_)
      · try simp only [qn1, qn2, qn3, qn4, qn5, qn6, qn7, qn8] at hc
        all_goals refine tc_seq fun K7 hK7 => ?_; refine tc_region ?_; refine tl_q (y_assign rfl) rfl ?_; refine tl_nil ?_; ((refine hK7 ?_; try (clear hK7; clear K7)))
        all_goals refine tc_ret ?_; (repeat (refine tk_then_ret ?_))
        all_goals (refine tk_ret rfl rfl (.cons (.tmp rfl) .nil) ?_)
        all_goals (
         refine fun w' hw' => ⟨congrArg (fun n => Ending.returned (Value.int .i64 n)) ?_, hw'.fr (by simp)⟩
         unfold chkS
         first
         | (rw [if_pos (by omega)])
         | (have hng := all_not (p := sgtOk s) (d := sgt0) (n := j) (l := s.sg) (by omega) (fun h => by rw [sgtOk_iff] at h; omega)
            rw [if_neg (by omega), if_pos (.inr (.inr (.inr (.inr (.inr (.inr hng))))))])
         | (have hallg' := hallg
            rw [if_neg (by omega), if_neg (by rintro (h | h | h | h | h | h | h) <;> first | omega | (rw [h] at hall; cases hall; done) | (rw [h] at hallg'; cases hallg')), if_pos (by omega)])
         | (have hallg' := hallg
            rw [if_neg (by omega), if_neg (by rintro (h | h | h | h | h | h | h) <;> first | omega | (rw [h] at hall; cases hall; done) | (rw [h] at hallg'; cases hallg')), if_neg (by omega)])
         | (have hng := all_not (p := pasOk s) (d := pas0) (n := n) (l := s.ps) (by omega) (fun h => by rw [pasOk_iff] at h; omega)
            rw [if_neg (by omega), if_pos (.inr (.inr (.inr (.inr (.inr (.inl hng))))))])
         | (rw [if_neg (by omega)]
            refine (if_pos ?_).symm
            first
            | exact .inl (by omega)
            | exact .inr (.inl (by omega))
            | exact .inr (.inr (.inl (by omega)))
            | exact .inr (.inr (.inr (.inl (by omega))))
            | exact .inr (.inr (.inr (.inr (.inl (by omega)))))))
      · try simp only [qn1, qn2, qn3, qn4, qn5, qn6, qn7, qn8] at hc
        all_goals ((first | (exfalso; with_reducible exact btf hc) | skip))
        all_goals refine tc_skip ?_; ((refine hK5 ?_; try (clear hK5; clear K5)))
        all_goals refine tc_seq fun K8 hK8 => ?_; refine tc_seq fun K9 hK9 => ?_; refine tc_region ?_; refine tl_q (y_assign rfl) rfl ?_; refine tl_nil ?_; ((refine hK9 ?_; try (clear hK9; clear K9)))
        all_goals refine tc_block ?_
        all_goals (
         refine tc_loop (fun n : Nat => n ≤ s.ps.length ∧ ∀ j, j < n → pasOk s (s.ps.getD j pas0) = true) (fun n => [(1, ptr b1), (3, vi n)]) (fun _ => [(w, [])]) (fun _ => [(b1, .cells #[vi s.B, vi s.P, vi s.L, vi s.F, .slice ad1 s.st.length cp1, .slice ad2 s.ps.length cp2, .slice ad3 s.sg.length cp3] 26 (0, 0))]) (fun n => s.ps.length - n) ?_ ?_
         · exact tk_start 0 ⟨Nat.zero_le _, fun j hj => absurd hj (Nat.not_lt_zero j)⟩ (.cons rfl (.cons rfl .nil)) (fun _ h => h.subl SB.s SB.s)
         · rintro n ⟨hn, hpj⟩
           all_goals refine tc_seq fun K10 hK10 => ?_; refine tc_seq fun K11 hK11 => ?_; refine tc_region ?_; refine tl_q (y_move rfl) rfl ?_; refine tl_q (y_field rfl) rfl ?_; refine tl_q (y_load1 rfl (by repeat constructor) (by rfl)) rfl ?_; refine tl_q (y_len rfl) rfl ?_; refine tl_q (y_lss rfl rfl) rfl ?_; refine tl_nil ?_; ((refine hK11 ?_; try (clear hK11; clear K11)))
           all_goals (
            refine tc_cond rfl (fun hc => ?_) (fun hc => ?_)
            · try simp only [qn1, qn2, qn3, qn4, qn5, qn6, qn7, qn8] at hc
              all_goals refine tc_skip ?_; ((refine hK10 ?_; try (clear hK10; clear K10)))
              all_goals refine tc_seq fun K12 hK12 => ?_; refine tc_block ?_; refine tc_seq fun K13 hK13 => ?_; refine tc_region ?_; refine tl_q (y_field rfl) rfl ?_; refine tl_q (y_load1 rfl (by repeat constructor) (by rfl)) rfl ?_; refine tl_q (y_move rfl) rfl ?_; refine tl_q (y_index rfl rfl (by omega) (had2 (by omega))) rfl ?_; ((refine tl_q (y_loadNo (n := 5) (vs := [vi (s.ps.getD n pas0).b, vi (s.ps.getD n pas0).fr, vi (s.ps.getD n pas0).to, vi (s.ps.getD n pas0).lo, vi (s.ps.getD n pas0).hi]) rfl (fun w' hw' => by rw [show Int.toNat (n : Int) * 5 = n * 5 from by omega]; exact hcell2 w' [] (hw'.fr (by simp)) (by simp) n (by omega))) rfl ?_))
              all_goals refine tl_e (e_allocN rfl) rfl (fun _ _ => ?_); refine tl_e (e_storeW rfl rfl (by repeat constructor) (by rfl) (by rfl) (by simp [Value.oneCell'])) rfl (fun _ _ => ?_); refine tl_nil ?_; ((refine hK13 ?_; try (clear hK13; clear K13)))
              all_goals refine tc_seq fun K14 hK14 => ?_; refine tc_region ?_; refine tl_q (y_field rfl) rfl ?_; refine tl_q (y_load1 rfl (by repeat constructor) (by rfl)) rfl ?_; refine tl_q (y_field rfl) rfl ?_; refine tl_q (y_load1 rfl (by repeat constructor) (by rfl)) rfl ?_; refine tl_q (y_sub rfl rfl (by omega)) rfl ?_; refine tl_e (e_callV rfl (.cons rfl (.cons rfl (.cons rfl .nil))) (fun w' _ => rIn_c _ _ _ w')) rfl (fun _ _ => ?_); refine tl_q (y_not_dec rfl) rfl ?_; refine tl_q (y_move rfl) rfl ?_; ((refine tl_gs rfl rfl (fun hc => ?_) (fun hc => ?_) <;> (try simp only [qn1, qn2, qn3, qn4, qn5, qn6, qn7, qn8] at hc) <;> (first | refine tl_sk rfl rfl rfl rfl ?_ | refine tl_qg rfl rfl (y_field rfl) rfl ?_)))
              all_goals (first | refine tl_sk rfl rfl rfl rfl ?_ | refine tl_qg rfl rfl (y_load1 rfl (by repeat constructor) (by rfl)) rfl ?_); (first | refine tl_sk rfl rfl rfl rfl ?_ | refine tl_qg rfl rfl (y_field rfl) rfl ?_); (first | refine tl_sk rfl rfl rfl rfl ?_ | refine tl_qg rfl rfl (y_load1 rfl (by repeat constructor) (by rfl)) rfl ?_); (first | refine tl_sk rfl rfl rfl rfl ?_ | refine tl_qg rfl rfl (y_sub rfl rfl (by omega)) rfl ?_); (first | refine tl_sk rfl rfl rfl rfl ?_ | refine tl_eg rfl rfl rfl (e_callV rfl (.cons rfl (.cons rfl (.cons rfl .nil))) (fun w' _ => rIn_c _ _ _ w')) (fun _ _ => ?_)); (first | refine tl_sk rfl rfl rfl rfl ?_ | refine tl_qg rfl rfl (y_not_dec rfl) rfl ?_); (first | refine tl_q (y_pick_t rfl rfl) rfl ?_ | refine tl_q (y_pick_f rfl rfl) rfl ?_); refine tl_q (y_move rfl) rfl ?_; ((first | refine tl_sk rfl rfl rfl rfl ?_ | (refine tl_gs rfl rfl (fun hc => ?_) (fun hc => ?_) <;> (try simp only [qn1, qn2, qn3, qn4, qn5, qn6, qn7, qn8] at hc) <;> (first | refine tl_sk rfl rfl rfl rfl ?_ | refine tl_qg rfl rfl (y_field rfl) rfl ?_))))
              all_goals (first | refine tl_sk rfl rfl rfl rfl ?_ | refine tl_qg rfl rfl (y_load1 rfl (by repeat constructor) (by rfl)) rfl ?_); (first | refine tl_sk rfl rfl rfl rfl ?_ | refine tl_qg rfl rfl (y_field rfl) rfl ?_); (first | refine tl_sk rfl rfl rfl rfl ?_ | refine tl_qg rfl rfl (y_load1 rfl (by repeat constructor) (by rfl)) rfl ?_); (first | refine tl_sk rfl rfl rfl rfl ?_ | refine tl_qg rfl rfl (y_sub rfl rfl (by omega)) rfl ?_); (first | refine tl_sk rfl rfl rfl rfl ?_ | refine tl_eg rfl rfl rfl (e_callV rfl (.cons rfl (.cons rfl (.cons rfl .nil))) (fun w' _ => rIn_c _ _ _ w')) (fun _ _ => ?_)); (first | refine tl_sk rfl rfl rfl rfl ?_ | refine tl_qg rfl rfl (y_not_dec rfl) rfl ?_); (first | refine tl_q (y_pick_t rfl rfl) rfl ?_ | refine tl_q (y_pick_f rfl rfl) rfl ?_); refine tl_q (y_move rfl) rfl ?_; ((first | refine tl_sk rfl rfl rfl rfl ?_ | (refine tl_gs rfl rfl (fun hc => ?_) (fun hc => ?_) <;> (try simp only [qn1, qn2, qn3, qn4, qn5, qn6, qn7, qn8] at hc) <;> (first | refine tl_sk rfl rfl rfl rfl ?_ | refine tl_qg rfl rfl (y_field rfl) rfl ?_))))
              all_goals (first | refine tl_sk rfl rfl rfl rfl ?_ | refine tl_qg rfl rfl (y_load1 rfl (by repeat constructor) (by rfl)) rfl ?_); (first | refine tl_sk rfl rfl rfl rfl ?_ | refine tl_qg rfl rfl (y_field rfl) rfl ?_); (first | refine tl_sk rfl rfl rfl rfl ?_ | refine tl_qg rfl rfl (y_load1 rfl (by repeat constructor) (by rfl)) rfl ?_); (first | refine tl_sk rfl rfl rfl rfl ?_ | refine tl_qg rfl rfl (y_eql rfl rfl) rfl ?_); (first | refine tl_q (y_pick_t rfl rfl) rfl ?_ | refine tl_q (y_pick_f rfl rfl) rfl ?_); refine tl_q (y_move rfl) rfl ?_; ((first | refine tl_sk rfl rfl rfl rfl ?_ | (refine tl_gs rfl rfl (fun hc => ?_) (fun hc => ?_) <;> (try simp only [qn1, qn2, qn3, qn4, qn5, qn6, qn7, qn8] at hc) <;> (first | refine tl_sk rfl rfl rfl rfl ?_ | refine tl_qg rfl rfl (y_field rfl) rfl ?_))))
              all_goals (first | refine tl_sk rfl rfl rfl rfl ?_ | refine tl_qg rfl rfl (y_field rfl) rfl ?_); (first | refine tl_sk rfl rfl rfl rfl ?_ | refine tl_qg rfl rfl (y_load1 rfl (by repeat constructor) (by rfl)) rfl ?_); (first | refine tl_sk rfl rfl rfl rfl ?_ | refine tl_qg rfl rfl (y_lss rfl rfl) rfl ?_); (first | refine tl_q (y_pick_t rfl rfl) rfl ?_ | refine tl_q (y_pick_f rfl rfl) rfl ?_); refine tl_q (y_move rfl) rfl ?_; ((first | refine tl_sk rfl rfl rfl rfl ?_ | (refine tl_gs rfl rfl (fun hc => ?_) (fun hc => ?_) <;> (try simp only [qn1, qn2, qn3, qn4, qn5, qn6, qn7, qn8] at hc) <;> (first | refine tl_sk rfl rfl rfl rfl ?_ | refine tl_qg rfl rfl (y_field rfl) rfl ?_))))
              all_goals (first | refine tl_sk rfl rfl rfl rfl ?_ | refine tl_qg rfl rfl (y_field rfl) rfl ?_); (first | refine tl_sk rfl rfl rfl rfl ?_ | refine tl_qg rfl rfl (y_load1 rfl (by repeat constructor) (by rfl)) rfl ?_); (first | refine tl_sk rfl rfl rfl rfl ?_ | refine tl_qg rfl rfl (y_field rfl) rfl ?_); (first | refine tl_sk rfl rfl rfl rfl ?_ | refine tl_qg rfl rfl (y_field rfl) rfl ?_); (first | refine tl_sk rfl rfl rfl rfl ?_ | refine tl_qg rfl rfl (y_load1 rfl (by repeat constructor) (by rfl)) rfl ?_); (first | refine tl_sk rfl rfl rfl rfl ?_ | refine tl_qg rfl rfl (y_gtr rfl rfl) rfl ?_); (first | refine tl_q (y_pick_t rfl rfl) rfl ?_ | refine tl_q (y_pick_f rfl rfl) rfl ?_); refine tl_q (y_move rfl) rfl ?_; ((first | refine tl_sk rfl rfl rfl rfl ?_ | (refine tl_gs rfl rfl (fun hc => ?_) (fun hc => ?_) <;> (try simp only [qn1, qn2, qn3, qn4, qn5, qn6, qn7, qn8] at hc) <;> (first | refine tl_sk rfl rfl rfl rfl ?_ | refine tl_qg rfl rfl (y_field rfl) rfl ?_))))
              all_goals (first | refine tl_sk rfl rfl rfl rfl ?_ | refine tl_qg rfl rfl (y_field rfl) rfl ?_); (first | refine tl_sk rfl rfl rfl rfl ?_ | refine tl_qg rfl rfl (y_load1 rfl (by repeat constructor) (by rfl)) rfl ?_); (first | refine tl_sk rfl rfl rfl rfl ?_ | refine tl_qg rfl rfl (y_field rfl) rfl ?_); (first | refine tl_sk rfl rfl rfl rfl ?_ | refine tl_qg rfl rfl (y_load1 rfl (by repeat constructor) (by rfl)) rfl ?_); (first | refine tl_sk rfl rfl rfl rfl ?_ | refine tl_qg rfl rfl (y_gtr rfl rfl) rfl ?_); (first | refine tl_q (y_pick_t rfl rfl) rfl ?_ | refine tl_q (y_pick_f rfl rfl) rfl ?_); refine tl_nil ?_; ((refine hK14 ?_; try (clear hK14; clear K14)))
              all_goals (
               refine tc_cond rfl (fun hc => ?_) (fun hc => ?_)
               · try simp only [qn1, qn2, qn3, qn4, qn5, qn6, qn7, qn8] at hc
                 all_goals refine tc_seq fun K15 hK15 => ?_; refine tc_region ?_; refine tl_q (y_assign rfl) rfl ?_; refine tl_nil ?_; ((refine hK15 ?_; try (clear hK15; clear K15)))
                 all_goals refine tc_ret ?_; (repeat (first | refine tk_then_ret ?_ | refine tk_block_ret ?_))
                 all_goals (refine tk_ret rfl rfl (.cons (.tmp rfl) .nil) ?_)
                 all_goals (
                  refine fun w' hw' => ⟨congrArg (fun n => Ending.returned (Value.int .i64 n)) ?_, hw'.fr (by simp)⟩
                  unfold chkS
                  first
                  | (rw [if_pos (by omega)])
                  | (have hng := all_not (p := sgtOk s) (d := sgt0) (n := j) (l := s.sg) (by omega) (fun h => by rw [sgtOk_iff] at h; omega)
                     rw [if_neg (by omega), if_pos (.inr (.inr (.inr (.inr (.inr (.inr hng))))))])
                  | (have hallg' := hallg
                     rw [if_neg (by omega), if_neg (by rintro (h | h | h | h | h | h | h) <;> first | omega | (rw [h] at hall; cases hall; done) | (rw [h] at hallg'; cases hallg')), if_pos (by omega)])
                  | (have hallg' := hallg
                     rw [if_neg (by omega), if_neg (by rintro (h | h | h | h | h | h | h) <;> first | omega | (rw [h] at hall; cases hall; done) | (rw [h] at hallg'; cases hallg')), if_neg (by omega)])
                  | (have hng := all_not (p := pasOk s) (d := pas0) (n := n) (l := s.ps) (by omega) (fun h => by rw [pasOk_iff] at h; omega)
                     rw [if_neg (by omega), if_pos (.inr (.inr (.inr (.inr (.inr (.inl hng))))))])
                  | (rw [if_neg (by omega)]
                     refine (if_pos ?_).symm
                     first
                     | exact .inl (by omega)
                     | exact .inr (.inl (by omega))
                     | exact .inr (.inr (.inl (by omega)))
                     | exact .inr (.inr (.inr (.inl (by omega))))
                     | exact .inr (.inr (.inr (.inr (.inl (by omega)))))))
               · try simp only [qn1, qn2, qn3, qn4, qn5, qn6, qn7, qn8] at hc
                 all_goals ((first | (exfalso; with_reducible exact btf hc) | skip))
                 all_goals refine tc_skip ?_; ((refine hK12 ?_; try (clear hK12; clear K12)))
                 all_goals refine tc_region ?_; refine tl_q (y_move rfl) rfl ?_; refine tl_q (y_add rfl rfl (by omega)) rfl ?_; refine tl_q (y_assign rfl) rfl ?_; refine tl_nil ?_
                 all_goals (
                  exact tk_round (n + 1) ⟨by omega, fun j hj => by rcases Nat.lt_succ_iff_lt_or_eq.1 hj with h | rfl; exact hpj j h; exact pasOk_iff.2 (by omega)⟩ (by omega) (.cons rfl (.cons rfl .nil)) (fun _ h => h.subl SB.s SB.s)))
            · try simp only [qn1, qn2, qn3, qn4, qn5, qn6, qn7, qn8] at hc
              all_goals refine tc_exit ?_; ((refine hK8 ?_; try (clear hK8; clear K8)))
              all_goals refine tc_seq fun K16 hK16 => ?_; refine tc_seq fun K17 hK17 => ?_; refine tc_region ?_; refine tl_q (y_assign rfl) rfl ?_; refine tl_nil ?_; ((refine hK17 ?_; try (clear hK17; clear K17)))
              all_goals refine tc_block ?_
              all_goals (
               have hall : s.ps.all (pasOk s) = true := all_upto (by omega) hpj
               refine tc_loop (fun n : Nat => n ≤ s.sg.length ∧ ∀ j, j < n → sgtOk s (s.sg.getD j sgt0) = true) (fun n => [(1, ptr b1), (5, vi n)]) (fun _ => [(w, [])]) (fun _ => [(b1, .cells #[vi s.B, vi s.P, vi s.L, vi s.F, .slice ad1 s.st.length cp1, .slice ad2 s.ps.length cp2, .slice ad3 s.sg.length cp3] 26 (0, 0))]) (fun n => s.sg.length - n) ?_ ?_
               · exact tk_start 0 ⟨Nat.zero_le _, fun j hj => absurd hj (Nat.not_lt_zero j)⟩ (.cons rfl (.cons rfl .nil)) (fun _ h => h.subl SB.s SB.s)
               · rintro j ⟨hj, hgj⟩
                 all_goals refine tc_seq fun K18 hK18 => ?_; refine tc_seq fun K19 hK19 => ?_; refine tc_region ?_; refine tl_q (y_move rfl) rfl ?_; refine tl_q (y_field rfl) rfl ?_; refine tl_q (y_load1 rfl (by repeat constructor) (by rfl)) rfl ?_; refine tl_q (y_len rfl) rfl ?_; refine tl_q (y_lss rfl rfl) rfl ?_; refine tl_nil ?_; ((refine hK19 ?_; try (clear hK19; clear K19)))
                 all_goals (
                  refine tc_cond rfl (fun hc => ?_) (fun hc => ?_)
                  · try simp only [qn1, qn2, qn3, qn4, qn5, qn6, qn7, qn8] at hc
                    all_goals refine tc_skip ?_; ((refine hK18 ?_; try (clear hK18; clear K18)))
                    all_goals refine tc_seq fun K20 hK20 => ?_; refine tc_block ?_; refine tc_seq fun K21 hK21 => ?_; refine tc_draw (by kernel_rfl) ?_; refine tx_p 0 rfl (by kernel_rfl) (y_field rfl) rfl (fun _ _ _ h => h) (fun _ h => h) ?_; refine tx_q 1 rfl (by kernel_rfl) (y_load1 rfl (by repeat constructor) (by rfl)) rfl (fun _ _ _ h => h) (fun _ h => h) ?_; refine tx_p 2 rfl (by kernel_rfl) (y_move rfl) rfl (fun _ _ _ h => h) (fun _ h => h) ?_; refine tx_p 3 rfl (by kernel_rfl) (y_index rfl rfl (by omega) (had3 (by omega))) rfl (fun _ _ _ h => h) (fun _ h => h) ?_; refine tx_p 4 rfl (by kernel_rfl) (y_field rfl) rfl (fun _ _ _ h => h) (fun _ h => h) ?_; ((refine tx_q 5 rfl (by kernel_rfl) (y_load1o (v := vi (s.sg.getD j sgt0).b) rfl (fun w' hw' => by rw [show Int.toNat (j : Int) * 3 = j * 3 from by omega]; exact (hcell3 w' [] (hw'.fr (w0 := w) (S := []) MI.m) (by simp) j (by omega)).get 0 _ rfl)) rfl (fun _ _ _ h => h) (fun _ h => h) ?_))
                    all_goals refine tx_p 6 rfl (by kernel_rfl) (y_field rfl) rfl (fun _ _ _ h => h) (fun _ h => h) ?_; refine tx_q 7 rfl (by kernel_rfl) (y_load1 rfl (by repeat constructor) (by rfl)) rfl (fun _ _ _ h => h) (fun _ h => h) ?_; refine tx_p 8 rfl (by kernel_rfl) (y_sub rfl rfl (by omega)) rfl (fun _ _ _ h => h) (fun _ h => h) ?_; refine tx_e 9 rfl (by kernel_rfl) rfl (e_callV rfl (.cons rfl (.cons rfl (.cons rfl .nil))) (fun w' _ => rIn_c _ _ _ w')) (.inr fun _ _ h => h) (fun _ _ => ?_); refine tx_p 10 rfl (by kernel_rfl) (y_not_dec rfl) rfl (fun _ _ _ h => h) (fun _ h => h) ?_; refine tx_p 11 rfl (by kernel_rfl) (y_move rfl) rfl (fun _ _ _ h => h) (fun _ h => h) ?_; ((refine tx_gs 142 rfl (fun hc => ?_) (fun hc => ?_) <;> (try simp only [qn1, qn2, qn3, qn4, qn5, qn6, qn7, qn8] at hc) <;> (first | refine tx_sk 12 rfl (by kernel_rfl) rfl rfl rfl rfl (fun _ _ _ h => h) (fun _ h => h) ?_ | refine tx_pg 12 rfl (by kernel_rfl) rfl rfl (y_field rfl) rfl (fun _ _ _ h => h) (fun _ h => h) ?_)))
                    all_goals (first | refine tx_sk 13 rfl (by kernel_rfl) rfl rfl rfl rfl (fun _ _ _ h => h) (fun _ h => h) ?_ | refine tx_qg 13 rfl (by kernel_rfl) rfl rfl (y_load1 rfl (by repeat constructor) (by rfl)) rfl (fun _ _ _ h => h) (fun _ h => h) ?_); (first | refine tx_sk 14 rfl (by kernel_rfl) rfl rfl rfl rfl (fun _ _ _ h => h) (fun _ h => h) ?_ | refine tx_pg 14 rfl (by kernel_rfl) rfl rfl (y_move rfl) rfl (fun _ _ _ h => h) (fun _ h => h) ?_); (first | refine tx_sk 15 rfl (by kernel_rfl) rfl rfl rfl rfl (fun _ _ _ h => h) (fun _ h => h) ?_ | refine tx_pg 15 rfl (by kernel_rfl) rfl rfl (y_index rfl rfl (by omega) (had3 (by omega))) rfl (fun _ _ _ h => h) (fun _ h => h) ?_); (first | refine tx_sk 16 rfl (by kernel_rfl) rfl rfl rfl rfl (fun _ _ _ h => h) (fun _ h => h) ?_ | refine tx_pg 16 rfl (by kernel_rfl) rfl rfl (y_field rfl) rfl (fun _ _ _ h => h) (fun _ h => h) ?_); ((first | refine tx_sk 17 rfl (by kernel_rfl) rfl rfl rfl rfl (fun _ _ _ h => h) (fun _ h => h) ?_ | refine tx_qg 17 rfl (by kernel_rfl) rfl rfl (y_load1o (v := vi (s.sg.getD j sgt0).h) rfl (fun w' hw' => by rw [show Int.toNat (j : Int) * 3 = j * 3 from by omega]; exact (hcell3 w' [] (hw'.fr (w0 := w) (S := []) MI.m) (by simp) j (by omega)).get 1 _ rfl)) rfl (fun _ _ _ h => h) (fun _ h => h) ?_))
                    all_goals (first | refine tx_sk 18 rfl (by kernel_rfl) rfl rfl rfl rfl (fun _ _ _ h => h) (fun _ h => h) ?_ | refine tx_pg 18 rfl (by kernel_rfl) rfl rfl (y_field rfl) rfl (fun _ _ _ h => h) (fun _ h => h) ?_); (first | refine tx_sk 19 rfl (by kernel_rfl) rfl rfl rfl rfl (fun _ _ _ h => h) (fun _ h => h) ?_ | refine tx_qg 19 rfl (by kernel_rfl) rfl rfl (y_load1 rfl (by repeat constructor) (by rfl)) rfl (fun _ _ _ h => h) (fun _ h => h) ?_); (first | refine tx_sk 20 rfl (by kernel_rfl) rfl rfl rfl rfl (fun _ _ _ h => h) (fun _ h => h) ?_ | refine tx_eg 20 rfl (by kernel_rfl) rfl rfl rfl (e_callV rfl (.cons rfl (.cons rfl (.cons rfl .nil))) (fun w' _ => rIn_c _ _ _ w')) (.inr fun _ _ h => h) (fun _ _ => ?_)); (first | refine tx_sk 21 rfl (by kernel_rfl) rfl rfl rfl rfl (fun _ _ _ h => h) (fun _ h => h) ?_ | refine tx_pg 21 rfl (by kernel_rfl) rfl rfl (y_not_dec rfl) rfl (fun _ _ _ h => h) (fun _ h => h) ?_); (first | refine tx_p 22 rfl (by kernel_rfl) (y_pick_t rfl rfl) rfl (fun _ _ _ h => h) (fun _ h => h) ?_ | refine tx_p 22 rfl (by kernel_rfl) (y_pick_f rfl rfl) rfl (fun _ _ _ h => h) (fun _ h => h) ?_); refine tx_done (by kernel_rfl) ?_; ((refine hK21 ?_; try (clear hK21; clear K21)))
                    all_goals (
                     refine tc_cond rfl (fun hc => ?_) (fun hc => ?_)
                     · try simp only [qn1, qn2, qn3, qn4, qn5, qn6, qn7, qn8] at hc
                       all_goals refine tc_seq fun K22 hK22 => ?_; refine tc_region ?_; refine tl_q (y_assign rfl) rfl ?_; refine tl_nil ?_; ((refine hK22 ?_; try (clear hK22; clear K22)))
                       all_goals refine tc_ret ?_; (repeat (first | refine tk_then_ret ?_ | refine tk_block_ret ?_))
                       all_goals (refine tk_ret rfl rfl (.cons (.tmp rfl) .nil) ?_)
                       all_goals (
                        refine fun w' hw' => ⟨congrArg (fun n => Ending.returned (Value.int .i64 n)) ?_, hw'.fr (by simp)⟩
                        unfold chkS
                        first
                        | (rw [if_pos (by omega)])
                        | (have hng := all_not (p := sgtOk s) (d := sgt0) (n := j) (l := s.sg) (by omega) (fun h => by rw [sgtOk_iff] at h; omega)
                           rw [if_neg (by omega), if_pos (.inr (.inr (.inr (.inr (.inr (.inr hng))))))])
                        | (have hallg' := hallg
                           rw [if_neg (by omega), if_neg (by rintro (h | h | h | h | h | h | h) <;> first | omega | (rw [h] at hall; cases hall; done) | (rw [h] at hallg'; cases hallg')), if_pos (by omega)])
                        | (have hallg' := hallg
                           rw [if_neg (by omega), if_neg (by rintro (h | h | h | h | h | h | h) <;> first | omega | (rw [h] at hall; cases hall; done) | (rw [h] at hallg'; cases hallg')), if_neg (by omega)])
                        | (have hng := all_not (p := pasOk s) (d := pas0) (n := n) (l := s.ps) (by omega) (fun h => by rw [pasOk_iff] at h; omega)
                           rw [if_neg (by omega), if_pos (.inr (.inr (.inr (.inr (.inr (.inl hng))))))])
                        | (rw [if_neg (by omega)]
                           refine (if_pos ?_).symm
                           first
                           | exact .inl (by omega)
                           | exact .inr (.inl (by omega))
                           | exact .inr (.inr (.inl (by omega)))
                           | exact .inr (.inr (.inr (.inl (by omega))))
                           | exact .inr (.inr (.inr (.inr (.inl (by omega)))))))
                     · try simp only [qn1, qn2, qn3, qn4, qn5, qn6, qn7, qn8] at hc
                       all_goals ((first | (exfalso; with_reducible exact btf hc) | skip))
                       all_goals refine tc_skip ?_; ((refine hK20 ?_; try (clear hK20; clear K20)))
                       all_goals refine tc_region ?_; refine tl_q (y_move rfl) rfl ?_; refine tl_q (y_add rfl rfl (by omega)) rfl ?_; refine tl_q (y_assign rfl) rfl ?_; refine tl_nil ?_
                       all_goals (
                        exact tk_round (j + 1) ⟨by omega, fun i hi => by rcases Nat.lt_succ_iff_lt_or_eq.1 hi with h | rfl; exact hgj i h; exact sgtOk_iff.2 (by omega)⟩ (by omega) (.cons rfl (.cons rfl .nil)) (fun _ h => h.subl SB.s SB.s)))
                  · try simp only [qn1, qn2, qn3, qn4, qn5, qn6, qn7, qn8] at hc
                    all_goals refine tc_exit ?_; ((refine hK16 ?_; try (clear hK16; clear K16)))
                    all_goals refine tc_seq fun K23 hK23 => ?_; refine tc_seq fun K24 hK24 => ?_; (have hallg : s.sg.all (sgtOk s) = true := all_upto (by omega) hgj)
                    all_goals refine tc_region ?_; refine tl_q (y_loadW rfl (by repeat constructor) (by rfl)) rfl ?_; refine tl_e (e_callV rfl (.cons rfl .nil) (fun w' hw' => rMany_c s (by omega) hall (by omega) _ _ _ w' (hr0.ps.fr (hw'.fr (by simp))))) rfl (fun _ _ => ?_); refine tl_q (y_gtr rfl rfl) rfl ?_; refine tl_nil ?_; ((refine hK24 ?_; try (clear hK24; clear K24)))
                    all_goals (
                     refine tc_cond rfl (fun hc => ?_) (fun hc => ?_)
                     · try simp only [qn1, qn2, qn3, qn4, qn5, qn6, qn7, qn8] at hc
                       all_goals refine tc_seq fun K25 hK25 => ?_; refine tc_region ?_; refine tl_q (y_assign rfl) rfl ?_; refine tl_nil ?_; ((refine hK25 ?_; try (clear hK25; clear K25)))
                       all_goals refine tc_ret ?_; (repeat (refine tk_then_ret ?_))
                       all_goals (refine tk_ret rfl rfl (.cons (.tmp rfl) .nil) ?_)
                       all_goals (
                        refine fun w' hw' => ⟨congrArg (fun n => Ending.returned (Value.int .i64 n)) ?_, hw'.fr (by simp)⟩
                        unfold chkS
                        first
                        | (rw [if_pos (by omega)])
                        | (have hng := all_not (p := sgtOk s) (d := sgt0) (n := j) (l := s.sg) (by omega) (fun h => by rw [sgtOk_iff] at h; omega)
                           rw [if_neg (by omega), if_pos (.inr (.inr (.inr (.inr (.inr (.inr hng))))))])
                        | (have hallg' := hallg
                           rw [if_neg (by omega), if_neg (by rintro (h | h | h | h | h | h | h) <;> first | omega | (rw [h] at hall; cases hall; done) | (rw [h] at hallg'; cases hallg')), if_pos (by omega)])
                        | (have hallg' := hallg
                           rw [if_neg (by omega), if_neg (by rintro (h | h | h | h | h | h | h) <;> first | omega | (rw [h] at hall; cases hall; done) | (rw [h] at hallg'; cases hallg')), if_neg (by omega)])
                        | (have hng := all_not (p := pasOk s) (d := pas0) (n := n) (l := s.ps) (by omega) (fun h => by rw [pasOk_iff] at h; omega)
                           rw [if_neg (by omega), if_pos (.inr (.inr (.inr (.inr (.inr (.inl hng))))))])
                        | (rw [if_neg (by omega)]
                           refine (if_pos ?_).symm
                           first
                           | exact .inl (by omega)
                           | exact .inr (.inl (by omega))
                           | exact .inr (.inr (.inl (by omega)))
                           | exact .inr (.inr (.inr (.inl (by omega))))
                           | exact .inr (.inr (.inr (.inr (.inl (by omega)))))))
                     · try simp only [qn1, qn2, qn3, qn4, qn5, qn6, qn7, qn8] at hc
                       all_goals refine tc_skip ?_; ((refine hK23 ?_; try (clear hK23; clear K23)))
                       all_goals refine tc_seq fun K26 hK26 => ?_; refine tc_region ?_; refine tl_q (y_assign rfl) rfl ?_; refine tl_nil ?_; ((refine hK26 ?_; try (clear hK26; clear K26)))
                       all_goals refine tc_ret ?_; (repeat (first | refine tk_then_ret ?_))
                       all_goals (refine tk_ret rfl rfl (.cons (.tmp rfl) .nil) ?_)
                       all_goals (
                        refine fun w' hw' => ⟨congrArg (fun n => Ending.returned (Value.int .i64 n)) ?_, hw'.fr (by simp)⟩
                        unfold chkS
                        first
                        | (rw [if_pos (by omega)])
                        | (have hng := all_not (p := sgtOk s) (d := sgt0) (n := j) (l := s.sg) (by omega) (fun h => by rw [sgtOk_iff] at h; omega)
                           rw [if_neg (by omega), if_pos (.inr (.inr (.inr (.inr (.inr (.inr hng))))))])
                        | (have hallg' := hallg
                           rw [if_neg (by omega), if_neg (by rintro (h | h | h | h | h | h | h) <;> first | omega | (rw [h] at hall; cases hall; done) | (rw [h] at hallg'; cases hallg')), if_pos (by omega)])
                        | (have hallg' := hallg
                           rw [if_neg (by omega), if_neg (by rintro (h | h | h | h | h | h | h) <;> first | omega | (rw [h] at hall; cases hall; done) | (rw [h] at hallg'; cases hallg')), if_neg (by omega)])
                        | (have hng := all_not (p := pasOk s) (d := pas0) (n := n) (l := s.ps) (by omega) (fun h => by rw [pasOk_iff] at h; omega)
                           rw [if_neg (by omega), if_pos (.inr (.inr (.inr (.inr (.inr (.inl hng))))))])
                        | (rw [if_neg (by omega)]
                           refine (if_pos ?_).symm
                           first
                           | exact .inl (by omega)
                           | exact .inr (.inl (by omega))
                           | exact .inr (.inr (.inl (by omega)))
                           | exact .inr (.inr (.inr (.inl (by omega))))
                           | exact .inr (.inr (.inr (.inr (.inl (by omega))))))))))))))
def thinS (s : Smp) : Prop := s.st.length ≤ 7 ∧ s.ps.length ≤ 9 ∧ s.sg.length ≤ 9
instance (s : Smp) : Decidable (thinS s) := by unfold thinS; infer_instance
theorem thinS.few {s : Smp} (h : thinS s) : Few s := ⟨by have := h.1; omega, h.2.1, h.2.2⟩
theorem thin_c (s : Smp) (tv pv gv : Value) (w : World) (hr : RdSm w s tv pv gv) : CnV Tryz.prog 4 #[smV s tv pv gv] w (.bool (decide (thinS s))) := by
  obtain ⟨ad1, cp1, _, _, rfl, _, _⟩ := hr.st.open boE_len false
  obtain ⟨ad2, cp2, b2, o2, rfl, had2, hcell2⟩ := hr.ps.open psE_len pas0
  obtain ⟨ad3, cp3, b3, o3, rfl, had3, hcell3⟩ := hr.sg.open sgE_len sgt0
  refine cnv (vs := [_]) Tryz.func4 rfl rfl ?_
  all_goals refine tc_seq fun K1 hK1 => ?_; refine tc_region ?_; refine tl_e (e_box rfl rfl rfl) rfl (fun b1 _ => ?_); refine tl_q (y_assign rfl) rfl ?_; refine tl_nil ?_; ((refine hK1 ?_; try (clear hK1; clear K1)))
  all_goals refine tc_seq fun K2 hK2 => ?_; refine tc_region ?_; refine tl_q (y_field rfl) rfl ?_; refine tl_q (y_load1 rfl (by repeat constructor) (by rfl)) rfl ?_; refine tl_q (y_len rfl) rfl ?_; refine tl_q (y_leq rfl rfl) rfl ?_; refine tl_q (y_move rfl) rfl ?_; ((refine tl_gs rfl rfl (fun hc => ?_) (fun hc => ?_) <;> (try simp only [qn1, qn2, qn3, qn4, qn5, qn6, qn7, qn8] at hc) <;> (first | refine tl_sk rfl rfl rfl rfl ?_ | refine tl_qg rfl rfl (y_field rfl) rfl ?_)))
  all_goals (first | refine tl_sk rfl rfl rfl rfl ?_ | refine tl_qg rfl rfl (y_load1 rfl (by repeat constructor) (by rfl)) rfl ?_); (first | refine tl_sk rfl rfl rfl rfl ?_ | refine tl_qg rfl rfl (y_len rfl) rfl ?_); (first | refine tl_sk rfl rfl rfl rfl ?_ | refine tl_qg rfl rfl (y_leq rfl rfl) rfl ?_); (first | refine tl_q (y_pick_t rfl rfl) rfl ?_ | refine tl_q (y_pick_f rfl rfl) rfl ?_); refine tl_q (y_move rfl) rfl ?_; ((first | refine tl_sk rfl rfl rfl rfl ?_ | (refine tl_gs rfl rfl (fun hc => ?_) (fun hc => ?_) <;> (try simp only [qn1, qn2, qn3, qn4, qn5, qn6, qn7, qn8] at hc) <;> (first | refine tl_sk rfl rfl rfl rfl ?_ | refine tl_qg rfl rfl (y_field rfl) rfl ?_))))
  all_goals (first | refine tl_sk rfl rfl rfl rfl ?_ | refine tl_qg rfl rfl (y_load1 rfl (by repeat constructor) (by rfl)) rfl ?_); (first | refine tl_sk rfl rfl rfl rfl ?_ | refine tl_qg rfl rfl (y_len rfl) rfl ?_); (first | refine tl_sk rfl rfl rfl rfl ?_ | refine tl_qg rfl rfl (y_leq rfl rfl) rfl ?_); (first | refine tl_q (y_pick_t rfl rfl) rfl ?_ | refine tl_q (y_pick_f rfl rfl) rfl ?_); refine tl_q (y_assign rfl) rfl ?_; refine tl_nil ?_; ((refine hK2 ?_; try (clear hK2; clear K2)))
  all_goals refine tc_ret ?_; (repeat (first | refine tk_then_ret ?_))
  all_goals (refine tk_ret rfl rfl (.cons (.tmp rfl) .nil) ?_)
  all_goals (
   refine fun w' hw' => ⟨congrArg (fun b => Ending.returned (Value.bool b)) ?_, hw'.fr (by simp)⟩
   unfold thinS
   first
   | exact (decide_eq_true (by omega)).symm
   | exact (decide_eq_false (by omega)).symm
   | exact decide_eq_decide.2 (by omega))
end Go.Sp
/-
  The law's helpers: samples for the program.
-/
namespace Go.Sp
open Go Go.Proofs
theorem smV_onesU {s : Smp} {tv pv gv : Value} (h1 : tv.oneCell' = true) (h2 : pv.oneCell' = true) (h3 : gv.oneCell' = true) : ∀ v ∈ (#[vi s.B, vi s.P, vi s.L, vi s.F, tv, pv, gv] : Array Value).toList, v.oneCell' = true := by
  intro v hv
  simp only [List.mem_cons, List.not_mem_nil, or_false] at hv
  rcases hv with rfl | rfl | rfl | rfl | rfl | rfl | rfl
  all_goals (first | rfl | assumption)
theorem take_all2 {α : Type} {l : List α} {n : Nat} (h : l.length ≤ n) : l.take n = l := List.take_of_length_le h
set_option maxHeartbeats 4000000 in
theorem lawSample_c (s : Smp) (hf : Few s) (tv pv gv : Value) (w : World) (hr : RdSm w s tv pv gv) :
    CnX Tryz.prog 9 #[smV s tv pv gv] w [] (fun y : (Option Addr × Nat) × (Option Addr × Nat) × (Option Addr × Nat) => smV s (slV s.st.length y.1) (slV s.ps.length y.2.1) (slV s.sg.length y.2.2)) (fun y w' => RdSm w' s (slV s.st.length y.1) (slV s.ps.length y.2.1) (slV s.sg.length y.2.2)) := by
  have hr0 := hr
  have hft := hf.st
  have hfp := hf.ps
  have hfg := hf.sg
  obtain ⟨adt, cpt, bt, ot, rfl, hadt, hct⟩ := hr.st.open boE_len false
  obtain ⟨adp, cpp, bp, op, rfl, hadp, hcp⟩ := hr.ps.open psE_len pas0
  obtain ⟨adg, cpg, bg, og, rfl, hadg, hcg⟩ := hr.sg.open sgE_len sgt0
  refine cnx0 (vs := [_]) Tryz.func9 rfl rfl ?_
  all_goals refine tc_seq fun K1 hK1 => ?_; refine tc_region ?_; refine tl_e (e_box rfl rfl rfl) rfl (fun b1 _ => ?_); refine tl_e (e_allocN rfl) rfl (fun b2 _ => ?_); refine tl_nil ?_; ((refine hK1 ?_; try (clear hK1; clear K1)))
  all_goals (
   refine tc_join (fun q : Nat × Nat × Nat × List Value => s.st.length ≤ q.2.2.1) (fun q => [(1, ptr b1), (2, ptr b2), (3, ptr q.1)]) (fun _ => [(w, [])]) (fun q => [(q.1, .cells #[vi s.B, vi s.P, vi s.L, vi s.F, .slice (some ⟨q.2.1, 0, none⟩) s.st.length q.2.2.1, .slice none 0 0, .slice none 0 0] 42 (0, 0)), (q.2.1, .cells (s.st.flatMap boE ++ q.2.2.2).toArray 4 (0, 0)), (b2, .cells #[vi 0, vi 0, vi 0, vi 0, .slice none 0 0, .slice none 0 0, .slice none 0 0] 42 (0, 0)), (b1, .cells #[vi s.B, vi s.P, vi s.L, vi s.F, .slice adt s.st.length cpt, .slice adp s.ps.length cpp, .slice adg s.sg.length cpg] 26 (0, 0))]) ?_ ?_
   · skip
     all_goals refine tc_drawS ([(b2, .cells #[vi 0, vi 0, vi 0, vi 0, .slice none 0 0, .slice none 0 0, .slice none 0 0] 42 (0, 0)), (b1, .cells #[vi s.B, vi s.P, vi s.L, vi s.F, .slice adt s.st.length cpt, .slice adp s.ps.length cpp, .slice adg s.sg.length cpg] 26 (0, 0))]) (by kernel_rfl) ?_; refine tx_p 0 rfl (by kernel_rfl) (y_field rfl) rfl (fun _ _ _ h => h) (fun _ h => h.subl SB.s SB.s) ?_; refine tx_qS 1 rfl (by kernel_rfl) (y_load1 rfl (by repeat constructor) (by rfl)) rfl (fun _ _ _ h => h) (fun _ h => h.subl SB.s SB.s) ?_; refine tx_p 2 rfl (by kernel_rfl) (y_field rfl) rfl (fun _ _ _ h => h) (fun _ h => h.subl SB.s SB.s) ?_; refine tx_qS 3 rfl (by kernel_rfl) (y_load1 rfl (by repeat constructor) (by rfl)) rfl (fun _ _ _ h => h) (fun _ h => h.subl SB.s SB.s) ?_; refine tx_p 4 rfl (by kernel_rfl) (y_field rfl) rfl (fun _ _ _ h => h) (fun _ h => h.subl SB.s SB.s) ?_; refine tx_qS 5 rfl (by kernel_rfl) (y_load1 rfl (by repeat constructor) (by rfl)) rfl (fun _ _ _ h => h) (fun _ h => h.subl SB.s SB.s) ?_; refine tx_p 6 rfl (by kernel_rfl) (y_field rfl) rfl (fun _ _ _ h => h) (fun _ h => h.subl SB.s SB.s) ?_; refine tx_qS 7 rfl (by kernel_rfl) (y_load1 rfl (by repeat constructor) (by rfl)) rfl (fun _ _ _ h => h) (fun _ h => h.subl SB.s SB.s) ?_; refine tx_p 9 rfl (by kernel_rfl) (y_field rfl) rfl (fun _ _ _ h => h) (fun _ h => h.subl SB.s SB.s) ?_; refine tx_qS 10 rfl (by kernel_rfl) (y_load1 rfl (by repeat constructor) (by rfl)) rfl (fun _ _ _ h => h) (fun _ h => h.subl SB.s SB.s) ?_
     all_goals (
      refine tx_pair 8 13 (by kernel_rfl) ?_ ?_
      rotate_left
      focus (
       (refine to_e rfl rfl (e_allocN rfl) (.inr ⟨fun _ _ h => h.subl SB.s SB.s, fun _ h => h⟩) (fun b3 _ => ?_))
       all_goals ((refine tx_single 8 (by kernel_rfl) (to_e rfl rfl (e_bslice rfl (by (repeat (exact .nil)); done) rfl rfl) (.inr ⟨fun _ _ h => h.subl SB.s SB.s, fun _ h => h⟩) (fun b16 _ => ?_))))
       all_goals (refine tx_single 11 (by kernel_rfl) (to_e rfl rfl (e_append_own (old := []) (junk := []) rfl rfl rfl (by repeat constructor) rfl rfl (Nat.le_refl 0) (fun w' hw' => hr0.st.fr (hw'.fr (w0 := w) (S := []) MI.m)) (one_flat boE_one _) (by omega) rfl) (.inr ⟨fun _ _ h => h.subl SB.s SB.s, fun _ h => h⟩) (fun rt hrt => ?_))); refine tx_p 12 rfl (by kernel_rfl) (y_build_g (by repeat constructor)) rfl (fun _ _ _ h => h) (fun _ h => h.subl SB.s SB.s) ?_; refine tx_single 14 (by kernel_rfl) (to_e (S' := HG [] []) rfl rfl (e_storeW rfl rfl (by repeat constructor) (by rfl) (by rfl) (by simp [Value.oneCell'])) (.inl (by kernel_rfl)) (fun _ _ => ?_))
       all_goals refine tx_done (by kernel_rfl) ?_)
      rotate_right
      focus (
       (refine to_e rfl rfl (e_bslice rfl (by (repeat (exact .nil)); done) rfl rfl) (.inr ⟨fun _ _ h => h.subl SB.s SB.s, fun _ h => h⟩) (fun b16 _ => ?_))
       all_goals (
        refine tx_pair 11 13 (by kernel_rfl) ?_ ?_
        rotate_left
        focus (
         (refine to_e rfl rfl (e_allocN rfl) (.inr ⟨fun _ _ h => h.subl SB.s SB.s, fun _ h => h⟩) (fun b3 _ => ?_))
         all_goals (refine tx_single 11 (by kernel_rfl) (to_e rfl rfl (e_append_own (old := []) (junk := []) rfl rfl rfl (by repeat constructor) rfl rfl (Nat.le_refl 0) (fun w' hw' => hr0.st.fr (hw'.fr (w0 := w) (S := []) MI.m)) (one_flat boE_one _) (by omega) rfl) (.inr ⟨fun _ _ h => h.subl SB.s SB.s, fun _ h => h⟩) (fun rt hrt => ?_))); refine tx_p 12 rfl (by kernel_rfl) (y_build_g (by repeat constructor)) rfl (fun _ _ _ h => h) (fun _ h => h.subl SB.s SB.s) ?_; refine tx_single 14 (by kernel_rfl) (to_e (S' := HG [] []) rfl rfl (e_storeW rfl rfl (by repeat constructor) (by rfl) (by rfl) (by simp [Value.oneCell'])) (.inl (by kernel_rfl)) (fun _ _ => ?_))
         all_goals refine tx_done (by kernel_rfl) ?_)
        rotate_right
        focus (
         (refine to_e rfl rfl (e_append_own (old := []) (junk := []) rfl rfl rfl (by repeat constructor) rfl rfl (Nat.le_refl 0) (fun w' hw' => hr0.st.fr (hw'.fr (w0 := w) (S := []) MI.m)) (one_flat boE_one _) (by omega) rfl) (.inr ⟨fun _ _ h => h.subl SB.s SB.s, fun _ h => h⟩) (fun rt hrt => ?_))
         all_goals refine tx_p 12 rfl (by kernel_rfl) (y_build_g (by repeat constructor)) rfl (fun _ _ _ h => h) (fun _ h => h.subl SB.s SB.s) ?_; refine tx_single 13 (by kernel_rfl) (to_e rfl rfl (e_allocN rfl) (.inr ⟨fun _ _ h => h.subl SB.s SB.s, fun _ h => h⟩) (fun b3 _ => ?_)); refine tx_single 14 (by kernel_rfl) (to_e (S' := HG [] []) rfl rfl (e_storeW rfl rfl (by repeat constructor) (by rfl) (by rfl) (by simp [Value.oneCell'])) (.inl (by kernel_rfl)) (fun _ _ => ?_))
         all_goals refine tx_done (by kernel_rfl) ?_))))
     all_goals (
      refine tk_start (b3, rt.1, rt.2.1, rt.2.2) (by simpa using hrt.1) (.cons rfl (.cons rfl (.cons rfl .nil))) (fun _ h => ?_)
      rw [Nat.zero_add] at h
      first
      | (refine h.subl (SB.s ?_) (SB.s ?_)
         all_goals ((repeat constructor); done))
      | (refine HG.sw (h.subl (SB.s ?_) (SB.s ?_))
         all_goals ((repeat constructor); done)))
   · rintro ⟨b3, rb, rc, rj⟩ hrc
     dsimp only at hrc ⊢
     all_goals refine tc_seq fun K2 hK2 => ?_; refine tc_seq fun K3 hK3 => ?_; refine tc_region ?_; refine tl_q (y_assign rfl) rfl ?_; refine tl_nil ?_; ((refine hK3 ?_; try (clear hK3; clear K3)))
     all_goals refine tc_block ?_
     all_goals (
      refine tc_loop (fun p : Nat × OwnB => p.1 ≤ s.ps.length ∧ okE 5 (s.ps.take p.1) p.2) (fun p => [(1, ptr b1), (2, ptr b2), (3, ptr b3), (4, vi p.1)]) (fun _ => [(w, [])]) (fun p => (b3, .cells #[vi s.B, vi s.P, vi s.L, vi s.F, .slice (some ⟨rb, 0, none⟩) s.st.length rc, ouV (s.ps.take p.1).length p.2, .slice none 0 0] 42 (0, 0)) :: (rb, .cells (s.st.flatMap boE ++ rj).toArray 4 (0, 0)) :: (b2, .cells #[vi 0, vi 0, vi 0, vi 0, .slice none 0 0, .slice none 0 0, .slice none 0 0] 42 (0, 0)) :: (b1, .cells #[vi s.B, vi s.P, vi s.L, vi s.F, .slice adt s.st.length cpt, .slice adp s.ps.length cpp, .slice adg s.sg.length cpg] 26 (0, 0)) :: slE 93 psE (s.ps.take p.1) p.2) (fun p => s.ps.length - p.1) ?_ ?_
      · exact tk_start (0, none) ⟨Nat.zero_le _, rfl⟩ (.cons rfl (.cons rfl (.cons rfl (.cons rfl .nil)))) (fun _ h => by rw [slE_none]; exact h.subl SB.s SB.s)
      · rintro ⟨k, oo⟩ ⟨hk, hok⟩
        dsimp only at hk hok ⊢
        have hkl : (s.ps.take k).length ≤ k := by rw [List.length_take]; omega
        all_goals refine tc_seq fun K4 hK4 => ?_; refine tc_seq fun K5 hK5 => ?_; refine tc_region ?_; refine tl_q (y_move rfl) rfl ?_; refine tl_q (y_field rfl) rfl ?_; refine tl_q (y_load1 rfl (by repeat constructor) (by rfl)) rfl ?_; refine tl_q (y_len rfl) rfl ?_; refine tl_q (y_lss rfl rfl) rfl ?_; refine tl_nil ?_; ((refine hK5 ?_; try (clear hK5; clear K5)))
        all_goals (
         refine tc_cond rfl (fun hc => ?_) (fun hc => ?_)
         · try simp only [qn1, qn2, qn3, qn4, qn5, qn6, qn7, qn8] at hc
           all_goals refine tc_skip ?_; ((refine hK4 ?_; try (clear hK4; clear K4)))
           all_goals refine tc_seq fun K6 hK6 => ?_; refine tc_block ?_; refine tc_seq fun K7 hK7 => ?_; refine tc_region ?_; refine tl_q (y_field rfl) rfl ?_; refine tl_q (y_load1 rfl (by repeat constructor) (by rfl)) rfl ?_; refine tl_q (y_move rfl) rfl ?_; refine tl_q (y_index rfl rfl (by omega) (hadp (by omega))) rfl ?_; ((refine tl_q (y_loadNo (n := 5) (vs := [vi (s.ps.getD k pas0).b, vi (s.ps.getD k pas0).fr, vi (s.ps.getD k pas0).to, vi (s.ps.getD k pas0).lo, vi (s.ps.getD k pas0).hi]) rfl (fun w' hw' => by rw [show Int.toNat (k : Int) * 5 = k * 5 from by omega]; exact hcp w' [] (hw'.fr (w0 := w) (S := []) MI.m) (by simp) k (by omega))) rfl ?_))
           all_goals refine tl_e (e_allocN rfl) rfl (fun b5 _ => ?_); refine tl_e (e_storeW rfl rfl (by repeat constructor) (by rfl) (by rfl) (by simp [Value.oneCell'])) rfl (fun _ _ => ?_); refine tl_nil ?_; ((refine hK7 ?_; try (clear hK7; clear K7)))
           all_goals refine tc_region ?_; refine tl_q (y_field rfl) rfl ?_; refine tl_q (y_load1 rfl (by repeat constructor) (by rfl)) rfl ?_; refine tl_q (y_field rfl) rfl ?_; refine tl_q (y_load1 rfl (by repeat constructor) (by rfl)) rfl ?_; refine tl_q (y_field rfl) rfl ?_; refine tl_q (y_load1 rfl (by repeat constructor) (by rfl)) rfl ?_; refine tl_q (y_field rfl) rfl ?_; refine tl_q (y_load1 rfl (by repeat constructor) (by rfl)) rfl ?_; refine tl_q (y_field rfl) rfl ?_; refine tl_q (y_field rfl) rfl ?_; refine tl_q (y_load1 rfl (by repeat constructor) (by rfl)) rfl ?_; refine tl_q (y_field rfl) rfl ?_; refine tl_q (y_field rfl) rfl ?_; refine tl_q (y_load1 rfl (by repeat constructor) (by rfl)) rfl ?_; refine tl_q (y_build_g (by repeat constructor)) rfl ?_; refine tl_q (y_build_g (by repeat constructor)) rfl ?_; refine tl_e (e_bsliceG rfl (.agg rfl rfl .nil) rfl rfl) rfl (fun _ _ => ?_); ((refine tl_e (e_appendE (enc := psE) (xs := s.ps.take k) (ys := [s.ps.getD k pas0]) psE_len psE_one rfl rfl rfl hok (fun _ => by repeat constructor) (fun w' hw' => RdS.own0 psE_len hw' (by repeat constructor)) (by simp only [List.length_cons, List.length_nil]; omega) rfl) rfl (fun oo' hok' => ?_)))
           all_goals refine tl_q (y_field rfl) rfl ?_; refine tl_e (e_store1 rfl rfl (by repeat constructor) (by repeat constructor) (by rfl) (by rfl)) rfl (fun _ _ => ?_); refine tl_nil ?_; ((refine hK6 ?_; try (clear hK6; clear K6)))
           all_goals refine tc_region ?_; refine tl_q (y_move rfl) rfl ?_; refine tl_q (y_add rfl rfl (by omega)) rfl ?_; refine tl_q (y_assign rfl) rfl ?_; refine tl_nil ?_
           all_goals (
            have hs := takeG_succ (d := pas0) (l := s.ps) (n := k) (by omega)
            exact tk_round (k + 1, oo') ⟨by dsimp only; omega, by dsimp only; rw [hs]; exact hok'⟩ (by dsimp only; omega) (.cons rfl (.cons rfl (.cons rfl (.cons rfl .nil)))) (fun _ h => by dsimp only; rw [hs]; exact h.subl SB.s SB.s))
         · try simp only [qn1, qn2, qn3, qn4, qn5, qn6, qn7, qn8] at hc
           all_goals refine tc_exit ?_; ((refine hK2 ?_; try (clear hK2; clear K2)))
           all_goals refine tc_seq fun K8 hK8 => ?_; refine tc_seq fun K9 hK9 => ?_; refine tc_region ?_; refine tl_q (y_assign rfl) rfl ?_; refine tl_nil ?_; ((refine hK9 ?_; try (clear hK9; clear K9)))
           all_goals refine tc_block ?_
           all_goals (
            refine tc_loop (fun p : Nat × OwnB => p.1 ≤ s.sg.length ∧ okE 3 (s.sg.take p.1) p.2) (fun p => [(1, ptr b1), (2, ptr b2), (3, ptr b3), (6, vi p.1)]) (fun _ => [(w, [])]) (fun p => (b3, .cells #[vi s.B, vi s.P, vi s.L, vi s.F, .slice (some ⟨rb, 0, none⟩) s.st.length rc, ouV (s.ps.take k).length oo, ouV (s.sg.take p.1).length p.2] 42 (0, 0)) :: (rb, .cells (s.st.flatMap boE ++ rj).toArray 4 (0, 0)) :: (b2, .cells #[vi 0, vi 0, vi 0, vi 0, .slice none 0 0, .slice none 0 0, .slice none 0 0] 42 (0, 0)) :: (b1, .cells #[vi s.B, vi s.P, vi s.L, vi s.F, .slice adt s.st.length cpt, .slice adp s.ps.length cpp, .slice adg s.sg.length cpg] 26 (0, 0)) :: (slE 78 sgE (s.sg.take p.1) p.2 ++ slE 93 psE (s.ps.take k) oo)) (fun p => s.sg.length - p.1) ?_ ?_
            · exact tk_start (0, none) ⟨Nat.zero_le _, rfl⟩ (.cons rfl (.cons rfl (.cons rfl (.cons rfl .nil)))) (fun _ h => by rw [slE_none]; exact h.subl SB.s SB.s)
            · rintro ⟨j, oo2⟩ ⟨hj, hok2⟩
              dsimp only at hj hok2 ⊢
              have hjl : (s.sg.take j).length ≤ j := by rw [List.length_take]; omega
              all_goals refine tc_seq fun K10 hK10 => ?_; refine tc_seq fun K11 hK11 => ?_; refine tc_region ?_; refine tl_q (y_move rfl) rfl ?_; refine tl_q (y_field rfl) rfl ?_; refine tl_q (y_load1 rfl (by repeat constructor) (by rfl)) rfl ?_; refine tl_q (y_len rfl) rfl ?_; refine tl_q (y_lss rfl rfl) rfl ?_; refine tl_nil ?_; ((refine hK11 ?_; try (clear hK11; clear K11)))
              all_goals (
               refine tc_cond rfl (fun hc => ?_) (fun hc => ?_)
               · try simp only [qn1, qn2, qn3, qn4, qn5, qn6, qn7, qn8] at hc
                 all_goals refine tc_skip ?_; ((refine hK10 ?_; try (clear hK10; clear K10)))
                 all_goals refine tc_seq fun K12 hK12 => ?_; refine tc_block ?_; refine tc_seq fun K13 hK13 => ?_; refine tc_region ?_; refine tl_q (y_field rfl) rfl ?_; refine tl_q (y_load1 rfl (by repeat constructor) (by rfl)) rfl ?_; refine tl_q (y_move rfl) rfl ?_; refine tl_q (y_index rfl rfl (by omega) (hadg (by omega))) rfl ?_; ((refine tl_q (y_loadNo (n := 3) (vs := [vi (s.sg.getD j sgt0).b, vi (s.sg.getD j sgt0).h, .bool (s.sg.getD j sgt0).wh]) rfl (fun w' hw' => by rw [show Int.toNat (j : Int) * 3 = j * 3 from by omega]; exact hcg w' [] (hw'.fr (w0 := w) (S := []) MI.m) (by simp) j (by omega))) rfl ?_))
                 all_goals refine tl_e (e_allocN rfl) rfl (fun b7 _ => ?_); refine tl_e (e_storeW rfl rfl (by repeat constructor) (by rfl) (by rfl) (by simp [Value.oneCell'])) rfl (fun _ _ => ?_); refine tl_nil ?_; ((refine hK13 ?_; try (clear hK13; clear K13)))
                 all_goals refine tc_region ?_; refine tl_q (y_field rfl) rfl ?_; refine tl_q (y_load1 rfl (by repeat constructor) (by rfl)) rfl ?_; refine tl_q (y_field rfl) rfl ?_; refine tl_q (y_load1 rfl (by repeat constructor) (by rfl)) rfl ?_; refine tl_q (y_field rfl) rfl ?_; refine tl_q (y_load1 rfl (by repeat constructor) (by rfl)) rfl ?_; refine tl_q (y_field rfl) rfl ?_; refine tl_q (y_load1 rfl (by repeat constructor) (by rfl)) rfl ?_; refine tl_q (y_build_g (by repeat constructor)) rfl ?_; refine tl_e (e_bsliceG rfl (.agg rfl rfl .nil) rfl rfl) rfl (fun _ _ => ?_); ((refine tl_e (e_appendE (enc := sgE) (xs := s.sg.take j) (ys := [s.sg.getD j sgt0]) sgE_len sgE_one rfl rfl rfl hok2 (fun _ => by repeat constructor) (fun w' hw' => RdS.own0 sgE_len hw' (by repeat constructor)) (by simp only [List.length_cons, List.length_nil]; omega) rfl) rfl (fun oo' hok' => ?_)))
                 all_goals refine tl_q (y_field rfl) rfl ?_; refine tl_e (e_store1 rfl rfl (by repeat constructor) (by repeat constructor) (by rfl) (by rfl)) rfl (fun _ _ => ?_); refine tl_nil ?_; ((refine hK12 ?_; try (clear hK12; clear K12)))
                 all_goals refine tc_region ?_; refine tl_q (y_move rfl) rfl ?_; refine tl_q (y_add rfl rfl (by omega)) rfl ?_; refine tl_q (y_assign rfl) rfl ?_; refine tl_nil ?_
                 all_goals (
                  have hs := takeG_succ (d := sgt0) (l := s.sg) (n := j) (by omega)
                  exact tk_round (j + 1, oo') ⟨by dsimp only; omega, by dsimp only; rw [hs]; exact hok'⟩ (by dsimp only; omega) (.cons rfl (.cons rfl (.cons rfl (.cons rfl .nil)))) (fun _ h => by dsimp only; rw [hs]; exact h.subl SB.s SB.s))
               · try simp only [qn1, qn2, qn3, qn4, qn5, qn6, qn7, qn8] at hc
                 all_goals refine tc_exit ?_; ((refine hK8 ?_; try (clear hK8; clear K8)))
                 all_goals refine tc_seq fun K14 hK14 => ?_; refine tc_region ?_; refine tl_q (y_loadW rfl (by repeat constructor) (by rfl)) rfl ?_; refine tl_e (e_storeW rfl rfl (by repeat constructor) (by rfl) (by rfl) (smV_onesU (s := s) rfl rfl rfl)) rfl (fun _ _ => ?_); refine tl_nil ?_; ((refine hK14 ?_; try (clear hK14; clear K14)))
                 all_goals refine tc_ret ?_; (repeat (first | refine tk_then_ret ?_))
                 all_goals (refine tk_ret rfl rfl (.cons (.agg inferInstance rfl (by repeat constructor) (by rfl)) .nil) ?_)
                 all_goals (
                  have e1 := take_all2 (l := s.ps) (n := k) (by omega)
                  have e2 := take_all2 (l := s.sg) (n := j) (by omega)
                  refine fun w' hw' => ?_
                  have h1 := RdS.ofO psE_len hok hw' (by repeat constructor)
                  have h2 := RdS.ofO sgE_len hok2 hw' (by repeat constructor)
                  have h3 := RdS.own (xs := s.st) (cap := rc) (junk := rj) boE_len hw' (b := rb) (by repeat constructor)
                  rw [e1] at h1 ⊢
                  rw [e2] at h2 ⊢
                  exact ⟨((some ⟨rb, 0, none⟩, rc), ouA oo, ouA oo2), rfl, hw'.fr (w0 := w) (S := []) MI.m, h3, h1, h2⟩))))))
end Go.Sp
/-
  The example of TopSealed, walked.
-/
namespace Go.Sp
open Go Go.Proofs
def seaS : Smp := ⟨2, 1, 0, 0, [false], [], [⟨0, 0, true⟩, ⟨1, 0, true⟩]⟩
theorem sea_few : Few seaS := ⟨by decide, by decide, by decide⟩
theorem sea_a : alF seaS = 1 ∧ vdE seaS = 0 := by decide +kernel
def seaT : Tab := ⟨[0, 1], [0, 60], [[0, 60], [0, 60]]⟩
theorem sea_v : VTab seaT := by
  refine ⟨by decide, by decide, by decide, by decide, by decide, by decide, by decide, fun i hi => ?_⟩
  rcases (show i = 0 ∨ i = 1 by have : i < 2 := hi; omega) with rfl | rfl
  · exact ⟨rfl, fun k hk => by rcases (show k = 0 ∨ k = 1 by have : k < 2 := hk; omega) with rfl | rfl <;> decide⟩
  · exact ⟨rfl, fun k hk => by rcases (show k = 0 ∨ k = 1 by have : k < 2 := hk; omega) with rfl | rfl <;> decide⟩
def seaF : List Fct := [⟨0, 0, 0, 0, 5, 5⟩, ⟨1, 1, 0, 0, 6, 6⟩]
abbrev allN : Nat → Bool := fun _ => true
theorem sea_fc (p m : Int) (hp : 0 ≤ p ∧ p ≤ 1) (hm : 0 ≤ m ∧ m ≤ 60) : FcOk seaT 2 2 ⟨p, p, 0, 0, m, m⟩ :=
  ⟨by dsimp only; omega, by dsimp only; omega, ⟨show (0 : Int) ≤ 0 by decide, rfl, show (0 : Int) ≤ 1 by decide⟩, by show (0 : Int) ≤ m; omega, Int.le_refl _, by show m ≤ 60; omega⟩
theorem sea_star : Star seaT 2 allN seaF := by
  refine ⟨sea_v, by decide, by decide, rfl, fun i hi => ?_, fun i hi => ?_⟩
  · rcases (show i = 0 ∨ i = 1 by omega) with rfl | rfl <;> rfl
  · rcases (show i = 0 ∨ i = 1 by omega) with rfl | rfl
    · exact sea_fc 0 5 (by decide) (by decide)
    · exact sea_fc 1 6 (by decide) (by decide)
theorem sea_mean (p m : Int) (hm : m = 5 ∨ m = 6) : meanD seaT ⟨p, p, 0, 0, m, m⟩ = (m, m) := by
  have h0 : IsCell seaT.ws 0 0 := ⟨by decide, by decide, by decide⟩
  have h1 : IsCell seaT.ms m 0 := ⟨by decide, by show (0 : Int) ≤ m; omega, .inl rfl⟩
  have ha : atF seaT 0 m = m := by
    rw [atF_is sea_v h0 h1]
    rcases hm with rfl | rfl <;> decide
  have e : bnd2 seaT 0 m m = (min 9999 (atF seaT 0 (m + ((0 : Nat) : Int))), max (-1) (atF seaT 0 (m + ((0 : Nat) : Int)))) := by
    unfold bnd2
    rw [show (m - m + 1).toNat = 0 + 1 by omega]
    rfl
  unfold meanD
  dsimp only
  rw [e, show m + ((0 : Nat) : Int) = m by omega, ha]
  rcases hm with rfl | rfl <;> decide
theorem sea_m0 : mnN seaT seaF 0 = (5, 5) := sea_mean 0 5 (.inl rfl)
theorem sea_m1 : mnN seaT seaF 1 = (6, 6) := sea_mean 1 6 (.inr rfl)
theorem sea_who : whoN allN (mnN seaT seaF) 2 = (6, 5) := by
  show (max (max (0 : Int) (mnN seaT seaF 0).1) (mnN seaT seaF 1).1, min (min (2000 : Int) (mnN seaT seaF 0).2) (mnN seaT seaF 1).2) = _
  rw [sea_m0, sea_m1]; decide
theorem sea_no : okD (starD seaT 2 allN seaF) [] = false := by
  cases h : okD (starD seaT 2 allN seaF) []
  · rfl
  · rcases sea_star.good.1 h with g | g
    · exact absurd g (by decide)
    · rw [sea_who] at g; exact absurd g (by decide)
theorem sea_yes : okD (starD seaT 2 allN seaF) [0] = true := by
  rw [sea_star.okD, star_ok sea_star.s3 sea_star.mn]
  intro i j hi hj _ _ h1 h2
  have e1 : i = 1 := by
    rcases (show i = 0 ∨ i = 1 by omega) with rfl | rfl
    · exact absurd (List.mem_singleton.2 rfl) h1
    · rfl
  have e2 : j = 1 := by
    rcases (show j = 0 ∨ j = 1 by omega) with rfl | rfl
    · exact absurd (List.mem_singleton.2 rfl) h2
    · rfl
  subst e1; subst e2
  rw [sea_m1]; decide
theorem sea_head : (shoF (okD (starD seaT 2 allN seaF)) (starD seaT 2 allN seaF).fs.length ((starD seaT 2 allN seaF).fs.length + 1)).head? = some [0] := by
  show (shoF (okD (starD seaT 2 allN seaF)) 2 3).head? = some [0]
  have h0 := sea_no
  have h1 := sea_yes
  generalize okD (starD seaT 2 allN seaF) = P at h0 h1
  have a1 : shoF P 2 1 = [] := by
    rw [shoF, if_pos (show (shoF P 2 0).length = 0 from rfl), addF_no h0]
  have a2 : shoF P 2 2 = [0] :: addF P 2 0 [1] 2 := by
    rw [shoF, if_pos (by rw [a1]; rfl), adX_end, show 2 - 0 - 0 = 0 + 1 + 1 from rfl, adX_succ, adX_succ]
    show ([] ++ addF P 2 0 [0] 1) ++ addF P 2 0 [1] 2 = _
    rw [addF_yes h1]; rfl
  rw [shoF_stay (P := P) (n := 2) (k := 2) (by rw [a2]; simp) 1, a2]
  rfl
theorem RdLL.own2 {bs : List (World × List Nat)} {H : List (Nat × Obj)} {w : World} {b c e : Nat} {r1 r2 : List Int} {t1 t2 : TypeId} {f : Nat × Nat} (hw : HG bs H w) (h1 : HM c (.cells (r1.map vi).toArray t1 f) H) (h2 : HM e (.cells (r2.map vi).toArray t1 f) H) (h0 : HM b (.cells #[.slice (some ⟨c, 0, none⟩) r1.length r1.length, .slice (some ⟨e, 0, none⟩) r2.length r2.length] t2 f) H) : RdLL 1 inE w (.slice (some ⟨b, 0, none⟩) 2 2) [r1, r2] := by
  refine ⟨[⟨.slice (some ⟨c, 0, none⟩) r1.length r1.length, rfl⟩, ⟨.slice (some ⟨e, 0, none⟩) r2.length r2.length, rfl⟩], RdS.own0 (xs := [⟨.slice (some ⟨c, 0, none⟩) r1.length r1.length, rfl⟩, ⟨.slice (some ⟨e, 0, none⟩) r2.length r2.length, rfl⟩]) svE_len hw h0, rfl, fun j hj => ?_⟩
  rcases (show j = 0 ∨ j = 1 by have : j < 2 := hj; omega) with rfl | rfl
  · exact (RdI.own0 (xs := r1) hw h1).toS
  · exact (RdI.own0 (xs := r2) hw h2).toS
theorem sea_alike (tv pv gv : Value) (w : World) (hr : RdSm w seaS tv pv gv) : CnV Tryz.prog 20 #[smV seaS tv pv gv] w (.tuple #[vi 1, vi 0]) := by
  have h := alike_c seaS sea_few tv pv gv w hr
  rw [sea_a.1, sea_a.2] at h
  exact h
theorem RdI.opensKJ {w : World} {xs : List Int} {x : Option Addr × Nat} (h : RdI w (slV xs.length x) xs) : ∃ b o, (0 < xs.length → x.1 = some ⟨b, o, none⟩) ∧ ∀ w', Fr [] w w' → ∀ i, i < xs.length → w'.cell? ⟨b, o + i, none⟩ = some (vi (xs.getD i 0)) := by
  obtain ⟨ad, cap, b, o, e, had, hcell⟩ := h.open
  injection e with e1 e2 e3
  subst e1
  exact ⟨b, o, had, hcell⟩
set_option maxHeartbeats 4000000 in
theorem sealed_c (w : World) : CnV Tryz.prog 7 #[] w (.bool true) := by
  refine cnv (vs := []) Tryz.func7 rfl rfl ?_
  all_goals refine tc_seq fun K1 hK1 => ?_; refine tc_region ?_; refine tl_q (y_assign rfl) rfl ?_; refine tl_nil ?_; ((refine hK1 ?_; try (clear hK1; clear K1)))
  all_goals refine tc_seq fun K2 hK2 => ?_; refine tc_region ?_; ((refine tl_e (e_bslice rfl (by (repeat (first | exact .nil | apply PV.one rfl rfl)); done) rfl rfl) rfl (fun b6 _ => ?_)))
  all_goals ((refine tl_e (e_bslice rfl (by (repeat (first | exact .nil | apply PV.one rfl rfl)); done) rfl rfl) rfl (fun b7 _ => ?_)))
  all_goals ((refine tl_e (e_bslice rfl (by (repeat (first | exact .nil | apply PV.one rfl rfl)); done) rfl rfl) rfl (fun b8 _ => ?_)))
  all_goals ((refine tl_e (e_bslice rfl (by (repeat (first | exact .nil | apply PV.one rfl rfl)); done) rfl rfl) rfl (fun b9 _ => ?_)))
  all_goals ((refine tl_e (e_bslice rfl (by (repeat (first | exact .nil | apply PV.one rfl rfl)); done) rfl rfl) rfl (fun b10 _ => ?_)))
  all_goals refine tl_q (y_build_g (by repeat constructor)) rfl ?_; refine tl_e (e_allocN rfl) rfl (fun b1 _ => ?_); refine tl_e (e_storeW rfl rfl (by repeat constructor) (by rfl) (by rfl) (three_ones rfl rfl rfl)) rfl (fun _ _ => ?_); refine tl_nil ?_; ((refine hK2 ?_; try (clear hK2; clear K2)))
  all_goals refine tc_seq fun K3 hK3 => ?_; refine tc_region ?_; ((refine tl_e (e_bslice rfl (by (repeat (first | exact .nil | apply PV.one rfl rfl)); done) rfl rfl) rfl (fun b13 _ => ?_)))
  all_goals (refine tl_q (y_build_g (by repeat constructor)) rfl ?_); refine tl_q (y_build_g (by repeat constructor)) rfl ?_; refine tl_e (e_bsliceG rfl (.agg rfl rfl (.agg rfl rfl .nil)) rfl rfl) rfl (fun b16 _ => ?_); refine tl_q (y_build_g (by repeat constructor)) rfl ?_; refine tl_e (e_callV rfl (.cons rfl .nil) (fun w' hw' => sea_alike _ _ _ w' ⟨RdS.own0 (xs := seaS.st) boE_len hw' (b := b13) (by repeat constructor), RdS.nil 5 psE w' 0, RdS.own0 (xs := seaS.sg) sgE_len hw' (b := b16) (by repeat constructor)⟩)) rfl (fun _ _ => ?_); refine tl_q (y_move rfl) rfl ?_; refine tl_q (y_extract rfl rfl) rfl ?_; refine tl_q (y_extract rfl rfl) rfl ?_; refine tl_q (y_assign rfl) rfl ?_; refine tl_q (y_assign rfl) rfl ?_; refine tl_nil ?_; ((refine hK3 ?_; try (clear hK3; clear K3)))
  all_goals refine tc_seq fun K4 hK4 => ?_; refine tc_region ?_; refine tl_q (y_loadW rfl (by repeat constructor) (by rfl)) rfl ?_; refine tl_q (y_build_g (by repeat constructor)) rfl ?_; refine tl_e (e_bsliceG rfl (.agg rfl rfl .nil) rfl rfl) rfl (fun b24 _ => ?_); refine tl_q (y_build_g (by repeat constructor)) rfl ?_; refine tl_q (y_build_g (by repeat constructor)) rfl ?_; refine tl_q (y_build_g (by repeat constructor)) rfl ?_; refine tl_q (y_build_g (by repeat constructor)) rfl ?_; refine tl_e (e_bsliceG rfl (.agg rfl rfl (.agg rfl rfl .nil)) rfl rfl) rfl (fun b29 _ => ?_); refine tl_q (y_build_g (by repeat constructor)) rfl ?_; refine tl_e (e_callX rfl (.cons rfl .nil) (fun w' hw' => dLeave_c (starD seaT 2 allN seaF) sea_star.vd (by decide) sea_star.firm [0] sea_head _ _ _ _ _ w' ⟨⟨RdI.own0 (xs := [0, 1]) hw' (b := b6) (by repeat constructor), RdI.own0 (xs := [0, 60]) hw' (b := b7) (by repeat constructor), RdLL.own2 (r1 := [0, 60]) (r2 := [0, 60]) hw' (c := b8) (e := b9) (b := b10) (by repeat constructor) (by repeat constructor) (by repeat constructor)⟩, RdS.own0 (xs := [(0, 1, 0, 0)]) lkE_len hw' (b := b24) (by repeat constructor), RdS.own0 (xs := seaF) fcE_len hw' (b := b29) (by repeat constructor)⟩)) rfl (fun y hy => ?_); ((obtain ⟨vb, vo, hadv, hcv⟩ := hy.1.opensKJ; have hadv' := hadv (by decide)))
  all_goals refine tl_q (y_move rfl) rfl ?_; refine tl_q (y_extract rfl rfl) rfl ?_; refine tl_q (y_extract rfl rfl) rfl ?_; refine tl_q (y_assign rfl) rfl ?_; refine tl_q (y_assign rfl) rfl ?_; refine tl_nil ?_; ((refine hK4 ?_; try (clear hK4; clear K4)))
  all_goals refine tc_seq fun K5 hK5 => ?_; refine tc_region ?_; refine tl_q (y_move rfl) rfl ?_; refine tl_q (y_eql rfl rfl) rfl ?_; refine tl_q (y_move rfl) rfl ?_; refine tl_qg rfl rfl (y_move rfl) rfl ?_; refine tl_qg rfl rfl (y_eql rfl rfl) rfl ?_; refine tl_q (y_pick_t rfl rfl) rfl ?_; refine tl_q (y_move rfl) rfl ?_; refine tl_qg rfl rfl (y_move rfl) rfl ?_; refine tl_qg rfl rfl (y_eql rfl rfl) rfl ?_; refine tl_q (y_pick_t rfl rfl) rfl ?_; refine tl_q (y_move rfl) rfl ?_; refine tl_qg rfl rfl (y_move rfl) rfl ?_; refine tl_qg rfl rfl (y_len rfl) rfl ?_; refine tl_qg rfl rfl (y_eql rfl rfl) rfl ?_; refine tl_q (y_pick_t rfl rfl) rfl ?_; refine tl_q (y_move rfl) rfl ?_; refine tl_qg rfl rfl (y_move rfl) rfl ?_; refine tl_qg rfl rfl (y_index rfl rfl (by decide) hadv') rfl ?_; refine tl_qg rfl rfl (y_load1o (v := vi 0) rfl (fun w' hw' => hcv w' (hw'.calm hy.2 MI.m SB.s) 0 (by decide))) rfl ?_; refine tl_qg rfl rfl (y_eql rfl rfl) rfl ?_; refine tl_q (y_pick_t rfl rfl) rfl ?_; refine tl_q (y_assign rfl) rfl ?_; refine tl_nil ?_; ((refine hK5 ?_; try (clear hK5; clear K5)))
  all_goals refine tc_ret ?_; (repeat (first | refine tk_then_ret ?_))
  all_goals (refine tk_ret rfl rfl (.cons (.tmp rfl) .nil) ?_)
  all_goals (
   first
   | exact fun w' hw' => ⟨rfl, hw'.fr (w0 := w) (S := []) MI.m⟩
   | (exfalso; simp_all; done))
end Go.Sp
/-
  TopSealed, walked.
-/
namespace Go.Sp
open Go Go.Proofs
theorem tverdI_c (s : Smp) (hf : Few s) (tv pv gv : Value) (w : World) (hr : RdSm w s tv pv gv) :
    CnX Tryz.prog 8 #[smV s tv pv gv] w [] (fun y : Option Addr × Nat => .tuple #[slV (vdL s).length y, vi (vdE s)]) (fun y w' => RdI w' (slV (vdL s).length y) (vdL s)) :=
  (verdicts_c s hf tv pv gv w hr).imp id (fun _ => rfl) (fun _ h => h) (fun _ _ _ h => h.toI)
theorem rdU_open {w : World} {v : Value} {xs : List Int} (h : Reads w v 1 xs.length (xs.map (Value.int .u8))) : ∃ ad cap b o, v = .slice ad xs.length cap ∧ (0 < xs.length → ad = some ⟨b, o, none⟩) ∧ ∀ w', Fr [] w w' → ∀ i, i < xs.length → w'.cell? ⟨b, o + i, none⟩ = some (.int .u8 (xs.getD i 0)) := by
  by_cases hn : xs.length = 0
  · obtain ⟨_, ad, cap, h2, _⟩ := h
    exact ⟨ad, cap, 0, 0, h2, fun h => by omega, fun _ _ i hi => by omega⟩
  · obtain ⟨_, ad, cap, h2, h3⟩ := h
    obtain ⟨b, o, h4, h5⟩ := h3 (by omega)
    refine ⟨ad, cap, b, o, h2, fun _ => h4, fun w' f i hi => ?_⟩
    have := h5.get i (.int .u8 (xs.getD i 0)) (by rw [List.getElem?_map, List.getElem?_eq_getElem hi, List.getD_eq_getElem?_getD, List.getElem?_eq_getElem hi]; rfl)
    exact f.cell (p := ⟨b, o + i, none⟩) (by simp) this
theorem vdE_case {s : Smp} (h : chkS s = 0) : vdE s = 9 ∨ vdE s = 0 := by
  unfold vdE sureE
  rw [if_neg (fun g => g h), if_neg (by decide)]
  by_cases c : consF s = false
  · rw [if_pos c]; exact .inl rfl
  · rw [if_neg c]; exact .inr rfl
theorem vdL_lenT {s : Smp} (h : vdE s = 0) : (vdL s).length = s.B.toNat := by
  unfold vdL
  rw [if_pos h]
  simp [vdN]
def nvN (s : Smp) (i : Nat) : Bool := decide ((vdL s).getD i 0 = 2)
theorem starB {s : Smp} {t : Tab} {ks : List Int} (hb : 1 ≤ s.B ∧ s.B ≤ 3) (hv : VTab t) (hk : ∀ x ∈ ks, 0 ≤ x ∧ x ≤ 255) : Star t s.B.toNat (nvN s) (fctL t ks s.B.toNat) := starOf hv hk (by omega) (by omega) _
def disB (s : Smp) (t : Tab) (ks : List Int) : Dsp := ⟨t, s.B, s.B, lnkN (nvN s) s.B.toNat, fctL t ks s.B.toNat⟩
theorem disB_eq {s : Smp} {t : Tab} {ks : List Int} (hb : 1 ≤ s.B) : disB s t ks = starD t s.B.toNat (nvN s) (fctL t ks s.B.toNat) := by
  unfold disB starD
  rw [show ((s.B.toNat : Nat) : Int) = s.B by omega]
/-- All that is asked of the dispute. -/
structure DisOk (s : Smp) (t : Tab) (ks : List Int) : Prop where
  vd : VDsp (disB s t ks)
  one : 1 ≤ (disB s t ks).fs.length
  firm : okD (noF (disB s t ks)) [] = true
  leave : ∃ c : List Nat, (shoF (okD (disB s t ks)) (disB s t ks).fs.length ((disB s t ks).fs.length + 1)).head? = some (c.map fun x => ((x : Nat) : Int)) ∧
    (cntN (nvN s) s.B.toNat = 0 ∨ (whoN (nvN s) (mnN t (fctL t ks s.B.toNat)) s.B.toNat).1 ≤ (whoN (nvN s) (mnN t (fctL t ks s.B.toNat)) s.B.toNat).2 → c = []) ∧
    (0 < cntN (nvN s) s.B.toNat → (whoN (nvN s) (mnN t (fctL t ks s.B.toNat)) s.B.toNat).2 < (whoN (nvN s) (mnN t (fctL t ks s.B.toNat)) s.B.toNat).1 → c ≠ [] ∧ (∀ p ∈ c, p < s.B.toNat ∧ nvN s p = true) ∧ c.length < cntN (nvN s) s.B.toNat)
  good : cntN (nvN s) s.B.toNat = 0 ∨ (whoN (nvN s) (mnN t (fctL t ks s.B.toNat)) s.B.toNat).1 ≤ (whoN (nvN s) (mnN t (fctL t ks s.B.toNat)) s.B.toNat).2 → bdsE (disB s t ks) = 0 ∧ (bdsL (disB s t ks)).length = s.B.toNat ∧ ∀ i, i < s.B.toNat → nvN s i = true → (bdsL (disB s t ks)).getD i (0, 0) = whoN (nvN s) (mnN t (fctL t ks s.B.toNat)) s.B.toNat
  bad : 0 < cntN (nvN s) s.B.toNat → (whoN (nvN s) (mnN t (fctL t ks s.B.toNat)) s.B.toNat).2 < (whoN (nvN s) (mnN t (fctL t ks s.B.toNat)) s.B.toNat).1 → bdsE (disB s t ks) = 11
theorem disOk {s : Smp} {t : Tab} {ks : List Int} (hb : 1 ≤ s.B ∧ s.B ≤ 3) (hv : VTab t) (hk : ∀ x ∈ ks, 0 ≤ x ∧ x ≤ 255) : DisOk s t ks := by
  have h := starB (s := s) hb hv hk
  have e := disB_eq (s := s) (t := t) (ks := ks) hb.1
  refine ⟨by rw [e]; exact h.vd, ?_, by rw [e]; exact h.firm, by rw [e]; exact h.leave, fun g => ?_, fun g1 g2 => ?_⟩
  · show 1 ≤ (fctL t ks s.B.toNat).length
    rw [fctL_len]; omega
  · have hg := h.good.2 g
    rw [e]
    refine ⟨by unfold bdsE; rw [if_pos hg], h.bdsLen hg, fun i hi hn => h.bds hg hi hn⟩
  · have hg : okD (starD t s.B.toNat (nvN s) (fctL t ks s.B.toNat)) [] ≠ true := fun hg => by
      rcases h.good.1 hg with a | a <;> omega
    rw [e]
    unfold bdsE
    rw [if_neg hg]
theorem whoN_congr {N : Nat → Bool} {m m' : Nat → Int × Int} : ∀ k, (∀ i, i < k → m i = m' i) → whoN N m k = whoN N m' k
  | 0, _ => rfl
  | k + 1, h => by
    have ih := whoN_congr (N := N) k (fun i hi => h i (by omega))
    unfold whoN
    rw [ih, h k (by omega)]
/-- What the bottles before one say. -/
noncomputable def whoB (s : Smp) (t : Tab) (ks : List Int) (k : Nat) : Int × Int := whoN (nvN s) (fun i => meanD t (fctN t ks i)) k
theorem whoB_end (s : Smp) (t : Tab) (ks : List Int) : whoB s t ks s.B.toNat = whoN (nvN s) (mnN t (fctL t ks s.B.toNat)) s.B.toNat := whoN_congr _ (fun i hi => (mnN_get hi).symm)
theorem whoB_yes {s : Smp} {t : Tab} {ks : List Int} {k : Nat} (h : (vdL s).getD k 0 = 2) : whoB s t ks (k + 1) = (max (whoB s t ks k).1 (meanD t (fctN t ks k)).1, min (whoB s t ks k).2 (meanD t (fctN t ks k)).2) := if_pos (decide_eq_true h)
theorem whoB_no {s : Smp} {t : Tab} {ks : List Int} {k : Nat} (h : ¬ (vdL s).getD k 0 = 2) : whoB s t ks (k + 1) = whoB s t ks k := if_neg (by unfold nvN; rw [decide_eq_false h]; decide)
theorem nv_yes {s : Smp} {k : Nat} (h : (vdL s).getD k 0 = 2) : nvN s k = true := decide_eq_true h
theorem nv_no {s : Smp} {k : Nat} (h : ¬ (vdL s).getD k 0 = 2) : ¬ nvN s k = true := by unfold nvN; rw [decide_eq_false h]; decide
theorem cnt_yes {s : Smp} {k : Nat} (h : (vdL s).getD k 0 = 2) : cntN (nvN s) (k + 1) = cntN (nvN s) k + 1 := if_pos (nv_yes h)
theorem cnt_no {s : Smp} {k : Nat} (h : ¬ (vdL s).getD k 0 = 2) : cntN (nvN s) (k + 1) = cntN (nvN s) k := if_neg (nv_no h)
theorem fst_no {s : Smp} {k : Nat} (h : ¬ (vdL s).getD k 0 = 2) : fstN (nvN s) (k + 1) = fstN (nvN s) k := if_neg (fun g => nv_no h g.1)
theorem fst_new {s : Smp} {k : Nat} (h : (vdL s).getD k 0 = 2) (h2 : fstN (nvN s) k < 0) : fstN (nvN s) (k + 1) = (k : Int) := if_pos ⟨nv_yes h, h2⟩
theorem fst_old {s : Smp} {k : Nat} (h2 : 0 ≤ fstN (nvN s) k) : fstN (nvN s) (k + 1) = fstN (nvN s) k := if_neg (fun g => by omega)
theorem lnk_no {s : Smp} {k : Nat} (h : ¬ (vdL s).getD k 0 = 2) : lnkN (nvN s) (k + 1) = lnkN (nvN s) k := if_neg (fun g => nv_no h g.1)
theorem lnk_new {s : Smp} {k : Nat} (h2 : fstN (nvN s) k < 0) : lnkN (nvN s) (k + 1) = lnkN (nvN s) k := if_neg (fun g => by omega)
theorem lnk_old {s : Smp} {k : Nat} (h : (vdL s).getD k 0 = 2) (h2 : 0 ≤ fstN (nvN s) k) : lnkN (nvN s) (k + 1) = lnkN (nvN s) k ++ [(fstN (nvN s) k, (k : Int), 0, 0)] := if_pos ⟨nv_yes h, h2⟩
theorem cntN_le (N : Nat → Bool) : ∀ k, cntN N k ≤ k
  | 0 => Nat.le_refl _
  | k + 1 => by
    have ih := cntN_le N k
    unfold cntN
    by_cases c : N k = true
    · rw [if_pos c]; omega
    · rw [if_neg c]; omega
end Go.Sp
/-
  TopSealed, walked.
-/
namespace Go.Sp
open Go Go.Proofs
abbrev smR (s : Smp) (tv pv gv : Value) : Obj := .cells #[vi s.B, vi s.P, vi s.L, vi s.F, tv, pv, gv] 26 (0, 0)
abbrev dbO (s : Smp) (wv mv vv lv fv : Value) : Obj := .cells #[wv, mv, vv, vi s.B, vi s.B, lv, fv] 47 (0, 0)
abbrev rgR (r : Int × Int) : Obj := .cells #[vi r.1, vi r.2] 49 (0, 0)
theorem RdS.openVJ {α : Type} {k : Nat} {enc : α → List Value} {w : World} {n : Nat} {y : Option Addr × Nat} {xs : List α} (h : RdS k enc w (slV n y) xs) (hk : ∀ x, (enc x).length = k) (d : α) :
    ∃ b o, (0 < xs.length → y.1 = some ⟨b, o, none⟩) ∧ ∀ w', Fr [] w w' → ∀ i, i < xs.length → CA (fun n => w'.cell? ⟨b, n, none⟩) (o + i * k) k (enc (xs.getD i d)) := by
  obtain ⟨ad, cap, b, o, e, had, hcell⟩ := h.open hk d
  injection e with e1 e2 e3
  subst e1
  exact ⟨b, o, had, fun w' f i hi => hcell w' [] f (by simp) i hi⟩
theorem ouV_oneJ (n : Nat) (oo : OwnB) : (ouV n oo).oneCell' = true := by rcases oo with _ | ⟨b, c, j⟩ <;> rfl
theorem getD_castJ {l : List Nat} {j : Nat} (h : j < l.length) : (l.map fun x => ((x : Nat) : Int)).getD j 0 = ((l.getD j 0 : Nat) : Int) := by
  rw [List.getD_eq_getElem?_getD, List.getElem?_map, List.getD_eq_getElem?_getD, List.getElem?_eq_getElem h]; rfl
set_option maxHeartbeats 8000000 in
theorem topSealed_c (s : Smp) (t : Tab) (hz : TbSized t) (ks : List Int) (hks : ∀ x ∈ ks, 0 ≤ x ∧ x ≤ 255) (hkl : (ks.length : Int) ≤ 9223372036854775807) (tv pv gv wv mv vv kv : Value) (w : World) (hrs : RdSm w s tv pv gv) (hrt : RdTb w t wv mv vv) (hrk : Reads w kv 1 ks.length (ks.map (Value.int .u8))) :
    CnV Tryz.prog 3 #[smV s tv pv gv, tbV wv mv vv, kv] w (.bool true) := by
  have hrs0 := hrs
  have hrt0 := hrt
  have q1 := hrt.vs.one
  have q2 := hrs.st.one
  have q3 := hrs.ps.one
  have q4 := hrs.sg.one
  obtain ⟨aw, cw, bw, ow, rfl, hadw, hcw⟩ := hrt.ws.open
  obtain ⟨am, cm, bm, om, rfl, hadm, hcm⟩ := hrt.ms.open
  obtain ⟨ak, ck, bk, ok, rfl, hadk, hck⟩ := rdU_open hrk
  refine cnv (vs := [_, _, _]) Tryz.func3 rfl rfl ?_
  all_goals refine tc_seq fun K1 hK1 => ?_; refine tc_region ?_; refine tl_e (e_box rfl rfl rfl) rfl (fun b3 _ => ?_); refine tl_e (e_box rfl rfl rfl) rfl (fun b4 _ => ?_); refine tl_q (y_assign rfl) rfl ?_; refine tl_nil ?_; ((refine hK1 ?_; try (clear hK1; clear K1)))
  all_goals refine tc_seq fun K2 hK2 => ?_; refine tc_seq fun K3 hK3 => ?_; refine tc_region ?_; refine tl_q (y_loadW rfl (by repeat constructor) (by rfl)) rfl ?_; refine tl_e (e_callV rfl (.cons rfl .nil) (fun w' hw' => thin_c s _ _ _ w' (hrs0.fr (hw'.fr (w0 := w) (S := []) MI.m)))) rfl (fun _ _ => ?_); refine tl_q (y_not_dec rfl) rfl ?_; refine tl_q (y_move rfl) rfl ?_; ((refine tl_gs rfl rfl (fun hc => ?_) (fun hc => ?_) <;> (try simp only [qn1, qn2, qn3, qn4, qn5, qn6, qn7, qn8] at hc) <;> (first | refine tl_sk rfl rfl rfl rfl ?_ | refine tl_qg rfl rfl (y_loadW rfl (by repeat constructor) (by rfl)) rfl ?_)))
  all_goals (first | refine tl_sk rfl rfl rfl rfl ?_ | refine tl_eg rfl rfl rfl (e_callV rfl (.cons rfl .nil) (fun w' hw' => rFault_c s _ _ _ w' (hrs0.fr (hw'.fr (w0 := w) (S := []) MI.m)) (thinS.few (by assumption)))) (fun _ _ => ?_)); (first | refine tl_sk rfl rfl rfl rfl ?_ | refine tl_qg rfl rfl (y_neq rfl rfl) rfl ?_); (first | refine tl_q (y_pick_t rfl rfl) rfl ?_ | refine tl_q (y_pick_f rfl rfl) rfl ?_); refine tl_q (y_move rfl) rfl ?_; ((first | refine tl_sk rfl rfl rfl rfl ?_ | (refine tl_gs rfl rfl (fun hc => ?_) (fun hc => ?_) <;> (try simp only [qn1, qn2, qn3, qn4, qn5, qn6, qn7, qn8] at hc) <;> (first | refine tl_sk rfl rfl rfl rfl ?_ | refine tl_qg rfl rfl (y_loadW rfl (by repeat constructor) (by rfl)) rfl ?_))))
  all_goals (first | refine tl_sk rfl rfl rfl rfl ?_ | refine tl_eg rfl rfl rfl (e_callX rfl (.cons rfl .nil) (fun w' hw' => tFault_c t hz _ _ _ w' (hrt0.fr (hw'.fr (w0 := w) (S := []) MI.m)))) (fun e hE => ?_)); (first | refine tl_sk rfl rfl rfl rfl ?_ | refine tl_qg rfl rfl (y_neq rfl rfl) rfl ?_); (first | refine tl_q (y_pick_t rfl rfl) rfl ?_ | refine tl_q (y_pick_f rfl rfl) rfl ?_); refine tl_nil ?_; ((refine hK3 ?_; try (clear hK3; clear K3)))
  all_goals (
   refine tc_cond rfl (fun hc => ?_) (fun hc => ?_)
   · try simp only [qn1, qn2, qn3, qn4, qn5, qn6, qn7, qn8] at hc
     all_goals refine tc_seq fun K4 hK4 => ?_; refine tc_region ?_; refine tl_e (e_callV rfl .nil (fun w' _ => sealed_c w')) rfl (fun _ _ => ?_); refine tl_q (y_assign rfl) rfl ?_; refine tl_nil ?_; ((refine hK4 ?_; try (clear hK4; clear K4)))
     all_goals refine tc_ret ?_; (repeat (refine tk_then_ret ?_))
     all_goals (refine tk_ret rfl rfl (.cons (.tmp rfl) .nil) ?_)
     all_goals (
      first
      | exact fun w' hw' => ⟨rfl, hw'.fr (w0 := w) (S := []) MI.m⟩
      | exact absurd hc (by omega))
   · try simp only [qn1, qn2, qn3, qn4, qn5, qn6, qn7, qn8] at hc
     all_goals ((first | (exfalso; with_reducible exact btf hc) | skip))
     all_goals refine tc_skip ?_; ((refine hK2 ?_; try (clear hK2; clear K2)))
     all_goals refine tc_seq fun K5 hK5 => ?_; (have hth : thinS s := by assumption)
     all_goals ((have hf := hth.few; have hch : chkS s = 0 := (by assumption); have hv := chkS_0.1 hch; have hb1 := hv.b1; have hb3 := hv.b3; have hvc := vdE_case hch))
     all_goals (have hvt : VTab t := hE.1.1.1 (by assumption))
     all_goals ((have w2 := hvt.w2; have w5 := hvt.w5; have m2 := hvt.m2; have m5 := hvt.m5; have hw0 := hvt.w0; have hm0 := hvt.m0; have hadw' := hadw (by omega); have hadm' := hadm (by omega)))
     all_goals refine tc_region ?_; refine tl_q (y_loadW rfl (by repeat constructor) (by rfl)) rfl ?_; refine tl_e (e_callX rfl (.cons rfl .nil) (fun w' hw' => lawSample_c s hf _ _ _ w' (hrs0.fr (hw'.fr (w0 := w) (S := []) MI.m)))) rfl (fun y3 hy3 => ?_); refine tl_e (e_callX rfl (.cons rfl .nil) (fun w' hw' => tverdI_c s hf _ _ _ w' (hy3.1.fr (hw'.calm hy3.2 MI.m SB.s)))) rfl (fun v3 hv3 => ?_); refine tl_q (y_move rfl) rfl ?_; refine tl_q (y_extract rfl rfl) rfl ?_; refine tl_q (y_extract rfl rfl) rfl ?_; refine tl_q (y_assign rfl) rfl ?_; refine tl_q (y_assign rfl) rfl ?_; refine tl_nil ?_; ((refine hK5 ?_; try (clear hK5; clear K5)))
     all_goals refine tc_seq fun K6 hK6 => ?_; refine tc_seq fun K7 hK7 => ?_; refine tc_region ?_; refine tl_q (y_move rfl) rfl ?_; refine tl_q (y_neq rfl rfl) rfl ?_; refine tl_nil ?_; ((refine hK7 ?_; try (clear hK7; clear K7)))
     all_goals (
      refine tc_cond rfl (fun hc => ?_) (fun hc => ?_)
      · try simp only [qn1, qn2, qn3, qn4, qn5, qn6, qn7, qn8] at hc
        all_goals refine tc_seq fun K8 hK8 => ?_; refine tc_region ?_; refine tl_q (y_move rfl) rfl ?_; refine tl_q (y_eql rfl rfl) rfl ?_; refine tl_q (y_move rfl) rfl ?_; ((refine tl_gs rfl rfl (fun hc => ?_) (fun hc => ?_) <;> (try simp only [qn1, qn2, qn3, qn4, qn5, qn6, qn7, qn8] at hc) <;> (first | (exfalso; omega) | refine tl_eg rfl rfl rfl (e_callV rfl .nil (fun w' _ => sealed_c w')) (fun _ _ => ?_))))
        all_goals (refine tl_q (y_pick_t rfl rfl) rfl ?_); refine tl_q (y_assign rfl) rfl ?_; refine tl_nil ?_; ((refine hK8 ?_; try (clear hK8; clear K8)))
        all_goals refine tc_ret ?_; (repeat (refine tk_then_ret ?_))
        all_goals (refine tk_ret rfl rfl (.cons (.tmp rfl) .nil) ?_)
        all_goals (
         first
         | exact fun w' hw' => ⟨rfl, hw'.fr (w0 := w) (S := []) MI.m⟩
         | exact absurd hc (by omega))
      · try simp only [qn1, qn2, qn3, qn4, qn5, qn6, qn7, qn8] at hc
        all_goals refine tc_skip ?_; ((refine hK6 ?_; try (clear hK6; clear K6)))
        all_goals refine tc_seq fun K9 hK9 => ?_; refine tc_seq fun K10 hK10 => ?_; (have hvl6 := vdL_lenT (s := s) (by assumption))
        all_goals refine tc_region ?_; refine tl_q (y_move rfl) rfl ?_; refine tl_q (y_len rfl) rfl ?_; refine tl_q (y_field rfl) rfl ?_; refine tl_q (y_load1 rfl (by repeat constructor) (by rfl)) rfl ?_; refine tl_q (y_neq rfl rfl) rfl ?_; refine tl_nil ?_; ((refine hK10 ?_; try (clear hK10; clear K10)))
        all_goals (
         refine tc_cond rfl (fun hc => ?_) (fun hc => ?_)
         · try simp only [qn1, qn2, qn3, qn4, qn5, qn6, qn7, qn8] at hc
           all_goals ((exfalso; omega))
         · try simp only [qn1, qn2, qn3, qn4, qn5, qn6, qn7, qn8] at hc
           all_goals refine tc_skip ?_; ((refine hK9 ?_; try (clear hK9; clear K9)))
           all_goals refine tc_seq fun K12 hK12 => ?_; (have hE0 : vdE s = 0 := by assumption)
           all_goals ((have hvl := vdL_lenT hE0; obtain ⟨vb, vo, hadv, hcv⟩ := hv3.1.opensKJ; have hadv' := hadv (by omega)))
           all_goals refine tc_region ?_; refine tl_q (y_loadW rfl (by repeat constructor) (by rfl)) rfl ?_; refine tl_q (y_field rfl) rfl ?_; refine tl_q (y_load1 rfl (by repeat constructor) (by rfl)) rfl ?_; refine tl_q (y_field rfl) rfl ?_; refine tl_q (y_load1 rfl (by repeat constructor) (by rfl)) rfl ?_; refine tl_q (y_build_g (by repeat constructor)) rfl ?_; refine tl_e (e_allocN rfl) rfl (fun b9 _ => ?_); refine tl_e (e_storeW rfl rfl (by repeat constructor) (by rfl) (by rfl) (seven_ones rfl rfl q1 rfl rfl)) rfl (fun _ _ => ?_); refine tl_nil ?_; ((refine hK12 ?_; try (clear hK12; clear K12)))
           all_goals refine tc_seq fun K13 hK13 => ?_; refine tc_region ?_; refine tl_q (y_build_g (by repeat constructor)) rfl ?_; refine tl_e (e_allocN rfl) rfl (fun b10 _ => ?_); refine tl_e (e_storeW rfl rfl (by repeat constructor) (by rfl) (by rfl) (by simp [Value.oneCell'])) rfl (fun _ _ => ?_); refine tl_nil ?_; ((refine hK13 ?_; try (clear hK13; clear K13)))
           all_goals refine tc_seq fun K14 hK14 => ?_; refine tc_region ?_; refine tl_q (y_assign rfl) rfl ?_; refine tl_q (y_assign rfl) rfl ?_; refine tl_nil ?_; ((refine hK14 ?_; try (clear hK14; clear K14)))
           all_goals refine tc_seq fun K15 hK15 => ?_; refine tc_seq fun K16 hK16 => ?_; refine tc_region ?_; refine tl_q (y_assign rfl) rfl ?_; refine tl_nil ?_; ((refine hK16 ?_; try (clear hK16; clear K16)))
           all_goals refine tc_block ?_
           all_goals (
            refine tc_loop (fun x : Nat × OwnB × OwnB => (x.1 : Int) ≤ s.B ∧ okE 4 (lnkN (nvN s) x.1) x.2.1 ∧ okE 6 (fctL t ks x.1) x.2.2) (fun x => [(2, .slice ak ks.length ck), (3, ptr b3), (4, ptr b4), (7, slV (vdL s).length v3.1), (9, ptr b9), (10, ptr b10), (11, vi (fstN (nvN s) x.1)), (12, vi (cntN (nvN s) x.1)), (13, vi x.1)]) (fun _ => [(v3.2, [b4, b3]), (w, [])]) (fun x => (b10, rgR (whoB s t ks x.1)) :: (b9, dbO s (.slice aw t.ws.length cw) (.slice am t.ms.length cm) vv (ouV (lnkN (nvN s) x.1).length x.2.1) (ouV (fctL t ks x.1).length x.2.2)) :: (b4, tbO (.slice aw t.ws.length cw) (.slice am t.ms.length cm) vv) :: (b3, smR s tv pv gv) :: (slE 52 fcE (fctL t ks x.1) x.2.2 ++ slE 55 lkE (lnkN (nvN s) x.1) x.2.1)) (fun x => s.B.toNat - x.1) ?_ ?_
            · exact tk_start (0, none, none) ⟨by dsimp only; omega, rfl, rfl⟩ (.cons rfl (.cons rfl (.cons rfl (.cons rfl (.cons rfl (.cons rfl (.cons rfl (.cons rfl (.cons rfl .nil))))))))) (fun _ h => by dsimp only; rw [slE_none, slE_none]; exact h.subl SB.s SB.s)
            · rintro ⟨k, ol, of⟩ ⟨hk, hol, hof⟩
              dsimp only at hk hol hof ⊢
              have hfl := fctL_len t ks k
              have hll := lnkN_len (nvN s) k
              have hft := fstN_lt (nvN s) k
              have hcl := cntN_le (nvN s) k
              all_goals refine tc_seq fun K17 hK17 => ?_; refine tc_seq fun K18 hK18 => ?_; refine tc_region ?_; refine tl_q (y_move rfl) rfl ?_; refine tl_q (y_field rfl) rfl ?_; refine tl_q (y_load1 rfl (by repeat constructor) (by rfl)) rfl ?_; refine tl_q (y_lss rfl rfl) rfl ?_; refine tl_nil ?_; ((refine hK18 ?_; try (clear hK18; clear K18)))
              all_goals (
               refine tc_cond rfl (fun hc => ?_) (fun hc => ?_)
               · try simp only [qn1, qn2, qn3, qn4, qn5, qn6, qn7, qn8] at hc
                 all_goals refine tc_skip ?_; ((refine hK17 ?_; try (clear hK17; clear K17)))
                 all_goals refine tc_seq fun K19 hK19 => ?_; refine tc_block ?_; refine tc_seq fun K20 hK20 => ?_; refine tc_region ?_; refine tl_q (y_assign rfl) rfl ?_; refine tl_nil ?_; ((refine hK20 ?_; try (clear hK20; clear K20)))
                 all_goals (
                  refine tc_join (fun _ : Unit => True) (fun _ => [(2, .slice ak ks.length ck), (3, ptr b3), (4, ptr b4), (7, slV (vdL s).length v3.1), (9, ptr b9), (10, ptr b10), (11, vi (fstN (nvN s) k)), (12, vi (cntN (nvN s) k)), (13, vi k), (14, vi (mkI ks k))]) (fun _ => [(v3.2, [b4, b3]), (w, [])]) (fun _ => (b10, rgR (whoB s t ks k)) :: (b9, dbO s (.slice aw t.ws.length cw) (.slice am t.ms.length cm) vv (ouV (lnkN (nvN s) k).length ol) (ouV (fctL t ks k).length of)) :: (b4, tbO (.slice aw t.ws.length cw) (.slice am t.ms.length cm) vv) :: (b3, smR s tv pv gv) :: (slE 52 fcE (fctL t ks k) of ++ slE 55 lkE (lnkN (nvN s) k) ol)) ?_ ?_
                  · skip
                    all_goals refine tc_seq fun K21 hK21 => ?_; refine tc_region ?_; refine tl_q (y_move rfl) rfl ?_; refine tl_q (y_len rfl) rfl ?_; refine tl_q (y_gtr rfl rfl) rfl ?_; refine tl_nil ?_; ((refine hK21 ?_; try (clear hK21; clear K21)))
                    all_goals (
                     refine tc_cond rfl (fun hc => ?_) (fun hc => ?_)
                     · try simp only [qn1, qn2, qn3, qn4, qn5, qn6, qn7, qn8] at hc
                       all_goals (have hkl0 : 0 < ks.length := (by omega))
                       all_goals ((have hklt := Nat.mod_lt k hkl0; have hmd : ((k : Int) % (ks.length : Int)) = ((k % ks.length : Nat) : Int) := (by omega); have hkm : Int.toNat ((k : Int) % (ks.length : Int)) * 1 = k % ks.length := (by rw [hmd]; omega); have hub := hks _ (getD_memG (d := 0) hklt)))
                       all_goals refine tc_region ?_; refine tl_q (y_move rfl) rfl ?_; refine tl_q (y_move rfl) rfl ?_; refine tl_q (y_move rfl) rfl ?_; refine tl_q (y_len rfl) rfl ?_; refine tl_q (y_rem rfl rfl (by omega) (by omega)) rfl ?_; refine tl_q (y_index rfl rfl (by omega) (hadk (by omega))) rfl ?_; ((refine tl_q (y_load1o (v := .int .u8 (ks.getD (k % ks.length) 0)) rfl (fun w' hw' => by rw [hkm]; exact hck w' (hw'.fr (w0 := w) (S := []) MI.m) (k % ks.length) hklt)) rfl ?_))
                       all_goals (refine tl_q (y_conv64 rfl (by omega)) rfl ?_); refine tl_q (y_assign rfl) rfl ?_; refine tl_nil ?_
                       all_goals (
                        first
                        | (have hmk : mkI ks k = ks.getD (k % ks.length) 0 := if_pos (by omega)
                           rw [hmk]
                           exact tk_start () trivial (.cons rfl (.cons rfl (.cons rfl (.cons rfl (.cons rfl (.cons rfl (.cons rfl (.cons rfl (.cons rfl (.cons rfl .nil)))))))))) (fun _ h => h.subl SB.s SB.s))
                        | (have hmk : mkI ks k = 0 := if_neg (by omega)
                           rw [hmk]
                           exact tk_start () trivial (.cons rfl (.cons rfl (.cons rfl (.cons rfl (.cons rfl (.cons rfl (.cons rfl (.cons rfl (.cons rfl (.cons rfl .nil)))))))))) (fun _ h => h.subl SB.s SB.s)))
                     · try simp only [qn1, qn2, qn3, qn4, qn5, qn6, qn7, qn8] at hc
                       all_goals refine tc_skip ?_
                       all_goals (
                        first
                        | (have hmk : mkI ks k = ks.getD (k % ks.length) 0 := if_pos (by omega)
                           rw [hmk]
                           exact tk_start () trivial (.cons rfl (.cons rfl (.cons rfl (.cons rfl (.cons rfl (.cons rfl (.cons rfl (.cons rfl (.cons rfl (.cons rfl .nil)))))))))) (fun _ h => h.subl SB.s SB.s))
                        | (have hmk : mkI ks k = 0 := if_neg (by omega)
                           rw [hmk]
                           exact tk_start () trivial (.cons rfl (.cons rfl (.cons rfl (.cons rfl (.cons rfl (.cons rfl (.cons rfl (.cons rfl (.cons rfl (.cons rfl .nil)))))))))) (fun _ h => h.subl SB.s SB.s))))
                  · rintro ⟨⟩ -
                    have hmi := mkI_bd hks k
                    have hmb := mkM_bd hvt hks k
                    have hme : mkM t ks k = t.ms.getD 0 0 + mkI ks k % (lastL t.ms - t.ms.getD 0 0 + 1) := rfl
                    have hme2 := hmb
                    rw [hme] at hme2
                    all_goals refine tc_seq fun K22 hK22 => ?_; refine tc_draw (by kernel_rfl) ?_; refine tx_p 0 rfl (by kernel_rfl) (y_field rfl) rfl (fun _ _ _ h => h) (fun _ h => h) ?_; refine tx_q 1 rfl (by kernel_rfl) (y_load1 rfl (by repeat constructor) (by rfl)) rfl (fun _ _ _ h => h) (fun _ h => h) ?_; refine tx_p 2 rfl (by kernel_rfl) (y_index rfl rfl (by omega) hadm') rfl (fun _ _ _ h => h) (fun _ h => h) ?_; refine tx_q 3 rfl (by kernel_rfl) (y_load1o (v := vi (t.ms.getD 0 0)) rfl (fun w' hw' => hcm w' (hw'.fr (w0 := w) (S := []) MI.m) 0 (by omega))) rfl (fun _ _ _ h => h) (fun _ h => h) ?_; refine tx_p 4 rfl (by kernel_rfl) (y_move rfl) rfl (fun _ _ _ h => h) (fun _ h => h) ?_; refine tx_p 5 rfl (by kernel_rfl) (y_field rfl) rfl (fun _ _ _ h => h) (fun _ h => h) ?_; refine tx_q 6 rfl (by kernel_rfl) (y_load1 rfl (by repeat constructor) (by rfl)) rfl (fun _ _ _ h => h) (fun _ h => h) ?_; refine tx_p 8 rfl (by kernel_rfl) (y_field rfl) rfl (fun _ _ _ h => h) (fun _ h => h) ?_; refine tx_q 9 rfl (by kernel_rfl) (y_load1 rfl (by repeat constructor) (by rfl)) rfl (fun _ _ _ h => h) (fun _ h => h) ?_; refine tx_p 10 rfl (by kernel_rfl) (y_index rfl rfl (by omega) hadm') rfl (fun _ _ _ h => h) (fun _ h => h) ?_; refine tx_q 11 rfl (by kernel_rfl) (y_load1o (v := vi (t.ms.getD 0 0)) rfl (fun w' hw' => hcm w' (hw'.fr (w0 := w) (S := []) MI.m) 0 (by omega))) rfl (fun _ _ _ h => h) (fun _ h => h) ?_; refine tx_e 7 rfl (by kernel_rfl) rfl (e_callV rfl (.cons rfl .nil) (fun w' hw' => (show CnV Tryz.prog 10 #[.slice am t.ms.length cm] w' (vi (lastL t.ms)) from tLast_c t.ms (by omega) (by omega) _ w' (hrt0.ms.fr (hw'.fr (w0 := w) (S := []) MI.m))))) (.inr fun _ _ h => h) (fun _ _ => ?_); refine tx_p 12 rfl (by kernel_rfl) (y_sub rfl rfl (by omega)) rfl (fun _ _ _ h => h) (fun _ h => h) ?_; refine tx_p 13 rfl (by kernel_rfl) (y_add rfl rfl (by omega)) rfl (fun _ _ _ h => h) (fun _ h => h) ?_; refine tx_p 14 rfl (by kernel_rfl) (y_rem rfl rfl (by omega) (by omega)) rfl (fun _ _ _ h => h) (fun _ h => h) ?_; refine tx_p 15 rfl (by kernel_rfl) (y_add rfl rfl (by omega)) rfl (fun _ _ _ h => h) (fun _ h => h) ?_; refine tx_p 16 rfl (by kernel_rfl) (y_assign rfl) rfl (fun _ _ _ h => h) (fun _ h => h) ?_; refine tx_done (by kernel_rfl) ?_; ((refine hK22 ?_; try (clear hK22; clear K22)))
                    all_goals refine tc_seq fun K23 hK23 => ?_; refine tc_draw (by kernel_rfl) ?_; refine tx_p 0 rfl (by kernel_rfl) (y_move rfl) rfl (fun _ _ _ h => h) (fun _ h => h.subl SB.s SB.s) ?_; refine tx_p 1 rfl (by kernel_rfl) (y_move rfl) rfl (fun _ _ _ h => h) (fun _ h => h.subl SB.s SB.s) ?_; refine tx_p 2 rfl (by kernel_rfl) (y_field rfl) rfl (fun _ _ _ h => h) (fun _ h => h.subl SB.s SB.s) ?_; refine tx_qS 3 rfl (by kernel_rfl) (y_load1 rfl (by repeat constructor) (by rfl)) rfl (fun _ _ _ h => h) (fun _ h => h.subl SB.s SB.s) ?_; refine tx_p 4 rfl (by kernel_rfl) (y_index rfl rfl (by omega) hadw') rfl (fun _ _ _ h => h) (fun _ h => h.subl SB.s SB.s) ?_; refine tx_qS 5 rfl (by kernel_rfl) (y_load1o (v := vi (t.ws.getD 0 0)) rfl (fun w' hw' => hcw w' (hw'.fr (w0 := w) (S := []) MI.m) 0 (by omega))) rfl (fun _ _ _ h => h) (fun _ h => h.subl SB.s SB.s) ?_; refine tx_p 6 rfl (by kernel_rfl) (y_field rfl) rfl (fun _ _ _ h => h) (fun _ h => h.subl SB.s SB.s) ?_; refine tx_qS 7 rfl (by kernel_rfl) (y_load1 rfl (by repeat constructor) (by rfl)) rfl (fun _ _ _ h => h) (fun _ h => h.subl SB.s SB.s) ?_; refine tx_p 8 rfl (by kernel_rfl) (y_index rfl rfl (by omega) hadw') rfl (fun _ _ _ h => h) (fun _ h => h.subl SB.s SB.s) ?_; refine tx_qS 9 rfl (by kernel_rfl) (y_load1o (v := vi (t.ws.getD 0 0)) rfl (fun w' hw' => hcw w' (hw'.fr (w0 := w) (S := []) MI.m) 0 (by omega))) rfl (fun _ _ _ h => h) (fun _ h => h.subl SB.s SB.s) ?_; refine tx_p 10 rfl (by kernel_rfl) (y_build_g (by repeat constructor)) rfl (fun _ _ _ h => h) (fun _ h => h.subl SB.s SB.s) ?_; refine tx_p 11 rfl (by kernel_rfl) (y_move rfl) rfl (fun _ _ _ h => h) (fun _ h => h.subl SB.s SB.s) ?_; refine tx_p 12 rfl (by kernel_rfl) (y_move rfl) rfl (fun _ _ _ h => h) (fun _ h => h.subl SB.s SB.s) ?_; refine tx_p 13 rfl (by kernel_rfl) (y_add rfl rfl (by omega)) rfl (fun _ _ _ h => h) (fun _ h => h.subl SB.s SB.s) ?_; refine tx_p 14 rfl (by kernel_rfl) (y_field rfl) rfl (fun _ _ _ h => h) (fun _ h => h.subl SB.s SB.s) ?_; refine tx_qS 15 rfl (by kernel_rfl) (y_load1 rfl (by repeat constructor) (by rfl)) rfl (fun _ _ _ h => h) (fun _ h => h.subl SB.s SB.s) ?_
                    all_goals (
                     refine tx_pair 16 20 (by kernel_rfl) ?_ ?_
                     rotate_left
                     focus (
                      (refine to_e rfl rfl (e_allocN rfl) (.inr ⟨fun _ _ h => h.subl SB.s SB.s, fun _ h => h⟩) (fun b15 _ => ?_))
                      all_goals refine tx_single 16 (by kernel_rfl) (to_e rfl rfl (e_callV rfl (.cons rfl .nil) (fun w' hw' => (show CnV Tryz.prog 10 #[.slice am t.ms.length cm] w' (vi (lastL t.ms)) from tLast_c t.ms (by omega) (by omega) _ w' (hrt0.ms.fr (hw'.fr (w0 := w) (S := []) MI.m))))) (.inr ⟨fun _ _ h => h.subl SB.s SB.s, fun _ h => h⟩) (fun _ _ => ?_)); refine tx_p 17 rfl (by kernel_rfl) (y_min rfl rfl) rfl (fun _ _ _ h => h) (fun _ h => h.subl SB.s SB.s) ?_; refine tx_p 18 rfl (by kernel_rfl) (y_build_g (by repeat constructor)) rfl (fun _ _ _ h => h) (fun _ h => h.subl SB.s SB.s) ?_; refine tx_p 19 rfl (by kernel_rfl) (y_build_g (by repeat constructor)) rfl (fun _ _ _ h => h) (fun _ h => h.subl SB.s SB.s) ?_; refine tx_single 21 (by kernel_rfl) (to_e (S' := HG [] []) rfl rfl (e_storeW rfl rfl (by repeat constructor) (by rfl) (by rfl) (fcE_one (fctN t ks k))) (.inl (by kernel_rfl)) (fun _ _ => ?_))
                      all_goals refine tx_done (by kernel_rfl) ?_)
                     rotate_right
                     focus (
                      (refine to_e rfl rfl (e_callV rfl (.cons rfl .nil) (fun w' hw' => (show CnV Tryz.prog 10 #[.slice am t.ms.length cm] w' (vi (lastL t.ms)) from tLast_c t.ms (by omega) (by omega) _ w' (hrt0.ms.fr (hw'.fr (w0 := w) (S := []) MI.m))))) (.inr ⟨fun _ _ h => h.subl SB.s SB.s, fun _ h => h⟩) (fun _ _ => ?_))
                      all_goals refine tx_p 17 rfl (by kernel_rfl) (y_min rfl rfl) rfl (fun _ _ _ h => h) (fun _ h => h.subl SB.s SB.s) ?_; refine tx_p 18 rfl (by kernel_rfl) (y_build_g (by repeat constructor)) rfl (fun _ _ _ h => h) (fun _ h => h.subl SB.s SB.s) ?_; refine tx_p 19 rfl (by kernel_rfl) (y_build_g (by repeat constructor)) rfl (fun _ _ _ h => h) (fun _ h => h.subl SB.s SB.s) ?_; refine tx_single 20 (by kernel_rfl) (to_e rfl rfl (e_allocN rfl) (.inr ⟨fun _ _ h => h.subl SB.s SB.s, fun _ h => h⟩) (fun b15 _ => ?_)); refine tx_single 21 (by kernel_rfl) (to_e (S' := HG [] []) rfl rfl (e_storeW rfl rfl (by repeat constructor) (by rfl) (by rfl) (fcE_one (fctN t ks k))) (.inl (by kernel_rfl)) (fun _ _ => ?_))
                      all_goals refine tx_done (by kernel_rfl) ?_))
                    all_goals ((refine hK23 ?_; try (clear hK23; clear K23)))
                    all_goals refine tc_seq fun K24 hK24 => ?_; refine tc_region ?_; refine tl_q (y_field rfl) rfl ?_; refine tl_q (y_load1 rfl (by repeat constructor) (by rfl)) rfl ?_; refine tl_q (y_loadW rfl (by repeat constructor) (by rfl)) rfl ?_; refine tl_e (e_bsliceG rfl (.agg rfl rfl .nil) rfl rfl) rfl (fun b19 _ => ?_); ((refine tl_e (e_appendE (enc := fcE) (xs := fctL t ks k) (ys := [fctN t ks k]) fcE_len fcE_one rfl rfl rfl hof (fun _ => by repeat constructor) (fun w' hw' => RdS.own0 fcE_len hw' (by repeat constructor)) (by simp only [List.length_cons, List.length_nil]; omega) rfl) rfl (fun of' hof' => ?_)))
                    all_goals refine tl_q (y_field rfl) rfl ?_; refine tl_e (e_store1 rfl rfl (by repeat constructor) (by repeat constructor) (by rfl) (by rfl)) rfl (fun _ _ => ?_); refine tl_nil ?_; ((refine hK24 ?_; try (clear hK24; clear K24)))
                    all_goals refine tc_seq fun K25 hK25 => ?_; refine tc_seq fun K26 hK26 => ?_; refine tc_region ?_; refine tl_q (y_move rfl) rfl ?_; refine tl_q (y_move rfl) rfl ?_; refine tl_q (y_index rfl rfl (by omega) hadv') rfl ?_; ((refine tl_q (y_load1o (v := vi ((vdL s).getD k 0)) rfl (fun w' hw' => by rw [show Int.toNat (k : Int) * 1 = k from by omega]; exact hcv w' (hw'.calm hv3.2 MI.m SB.s) k (by omega))) rfl ?_))
                    all_goals refine tl_q (y_neq rfl rfl) rfl ?_; refine tl_nil ?_; ((refine hK26 ?_; try (clear hK26; clear K26)))
                    all_goals (
                     refine tc_cond rfl (fun hc => ?_) (fun hc => ?_)
                     · try simp only [qn1, qn2, qn3, qn4, qn5, qn6, qn7, qn8] at hc
                       all_goals refine tc_exit ?_; ((refine hK19 ?_; try (clear hK19; clear K19)))
                       all_goals refine tc_region ?_; refine tl_q (y_move rfl) rfl ?_; refine tl_q (y_add rfl rfl (by omega)) rfl ?_; refine tl_q (y_assign rfl) rfl ?_; refine tl_nil ?_
                       all_goals (
                        have hfs := fctL_succ t ks k
                        repeat (refine tk_ib ?_)
                        first
                        | (have hc0 : ¬ (vdL s).getD k 0 = 2 := by assumption
                           have e1 := whoB_no (t := t) (ks := ks) hc0
                           have e2 := cnt_no hc0
                           have e3 := fst_no hc0
                           have e4 := lnk_no hc0
                           exact tk_round (k + 1, ol, of') ⟨by dsimp only; omega, by dsimp only; rw [e4]; exact hol, by dsimp only; rw [hfs]; exact hof'⟩ (by dsimp only; omega) (.cons rfl (.cons rfl (.cons rfl (.cons rfl (.cons rfl (.cons rfl (.cons (by dsimp only; rw [e3]; rfl) (.cons (by dsimp only; rw [e2]; rfl) (.cons rfl .nil))))))))) (fun _ h => by dsimp only; rw [e1, e4, hfs]; exact h.subl SB.s SB.s))
                        | (have hc0 : (vdL s).getD k 0 = 2 := by omega
                           have h2 : 0 ≤ fstN (nvN s) k := by omega
                           have e1 := whoB_yes (t := t) (ks := ks) hc0
                           have e2 := cnt_yes hc0
                           have e3 := fst_old h2
                           have e4 := lnk_old hc0 h2
                           exact tk_round (k + 1, ol', of') ⟨by dsimp only; omega, by dsimp only; rw [e4]; exact hol', by dsimp only; rw [hfs]; exact hof'⟩ (by dsimp only; omega) (.cons rfl (.cons rfl (.cons rfl (.cons rfl (.cons rfl (.cons rfl (.cons (by dsimp only; rw [e3]; rfl) (.cons (by dsimp only; rw [e2]; rfl) (.cons rfl .nil))))))))) (fun _ h => by dsimp only; rw [e1, e4, hfs]; exact h.subl SB.s SB.s))
                        | (have hc0 : (vdL s).getD k 0 = 2 := by omega
                           have h2 : fstN (nvN s) k < 0 := by omega
                           have e1 := whoB_yes (t := t) (ks := ks) hc0
                           have e2 := cnt_yes hc0
                           have e3 := fst_new hc0 h2
                           have e4 := lnk_new h2
                           exact tk_round (k + 1, ol, of') ⟨by dsimp only; omega, by dsimp only; rw [e4]; exact hol, by dsimp only; rw [hfs]; exact hof'⟩ (by dsimp only; omega) (.cons rfl (.cons rfl (.cons rfl (.cons rfl (.cons rfl (.cons rfl (.cons (by dsimp only; rw [e3]; rfl) (.cons (by dsimp only; rw [e2]; rfl) (.cons rfl .nil))))))))) (fun _ h => by dsimp only; rw [e1, e4, hfs]; exact h.subl SB.s SB.s)))
                     · try simp only [qn1, qn2, qn3, qn4, qn5, qn6, qn7, qn8] at hc
                       all_goals refine tc_skip ?_; ((refine hK25 ?_; try (clear hK25; clear K25)))
                       all_goals refine tc_seq fun K27 hK27 => ?_; refine tc_region ?_; refine tl_q (y_loadW rfl (by repeat constructor) (by rfl)) rfl ?_; refine tl_q (y_loadW rfl (by repeat constructor) (by rfl)) rfl ?_; (refine tl_e (e_callV rfl (.cons rfl (.cons rfl .nil)) (fun w' hw' => dMean_c ⟨t, s.B, s.B, [], []⟩ hvt (fctN t ks k) (by have h := fctN_ok hvt hks (S := s.B.toNat) (i := k) (by omega); rwa [show ((s.B.toNat : Nat) : Int) = s.B by omega] at h) _ _ _ _ _ (ouV_oneJ _ _) (ouV_oneJ _ _) w' (hrt0.fr (hw'.fr (w0 := w) (S := []) MI.m)))) rfl (fun _ _ => ?_))
                       all_goals refine tl_e (e_allocN rfl) rfl (fun b16 _ => ?_); refine tl_e (e_storeW rfl rfl (by repeat constructor) (by rfl) (by rfl) (by simp [Value.oneCell'])) rfl (fun _ _ => ?_); refine tl_nil ?_; ((refine hK27 ?_; try (clear hK27; clear K27)))
                       all_goals refine tc_seq fun K28 hK28 => ?_; refine tc_region ?_; refine tl_q (y_field rfl) rfl ?_; refine tl_q (y_load1 rfl (by repeat constructor) (by rfl)) rfl ?_; refine tl_q (y_field rfl) rfl ?_; refine tl_q (y_load1 rfl (by repeat constructor) (by rfl)) rfl ?_; refine tl_q (y_max rfl rfl) rfl ?_; refine tl_q (y_field rfl) rfl ?_; refine tl_q (y_load1 rfl (by repeat constructor) (by rfl)) rfl ?_; refine tl_q (y_field rfl) rfl ?_; refine tl_q (y_load1 rfl (by repeat constructor) (by rfl)) rfl ?_; refine tl_q (y_min rfl rfl) rfl ?_; refine tl_q (y_build_g (by repeat constructor)) rfl ?_; refine tl_e (e_storeW rfl rfl (by repeat constructor) (by rfl) (by rfl) (by simp [Value.oneCell'])) rfl (fun _ _ => ?_); refine tl_nil ?_; ((refine hK28 ?_; try (clear hK28; clear K28)))
                       all_goals refine tc_seq fun K29 hK29 => ?_; refine tc_region ?_; refine tl_q (y_move rfl) rfl ?_; refine tl_q (y_add rfl rfl (by omega)) rfl ?_; refine tl_q (y_assign rfl) rfl ?_; refine tl_nil ?_; ((refine hK29 ?_; try (clear hK29; clear K29)))
                       all_goals refine tc_seq fun K30 hK30 => ?_; refine tc_region ?_; refine tl_q (y_move rfl) rfl ?_; refine tl_q (y_geq rfl rfl) rfl ?_; refine tl_nil ?_; ((refine hK30 ?_; try (clear hK30; clear K30)))
                       all_goals (
                        refine tc_cond rfl (fun hc => ?_) (fun hc => ?_)
                        · try simp only [qn1, qn2, qn3, qn4, qn5, qn6, qn7, qn8] at hc
                          all_goals refine tc_region ?_; refine tl_q (y_field rfl) rfl ?_; refine tl_q (y_load1 rfl (by repeat constructor) (by rfl)) rfl ?_; refine tl_q (y_move rfl) rfl ?_; refine tl_q (y_move rfl) rfl ?_; refine tl_q (y_build_g (by repeat constructor)) rfl ?_; refine tl_e (e_bsliceG rfl (.agg rfl rfl .nil) rfl rfl) rfl (fun b25 _ => ?_); ((refine tl_e (e_appendE (enc := lkE) (xs := lnkN (nvN s) k) (ys := [(fstN (nvN s) k, (k : Int), 0, 0)]) lkE_len lkE_one rfl rfl rfl hol (fun _ => by repeat constructor) (fun w' hw' => RdS.own0 lkE_len hw' (by repeat constructor)) (by simp only [List.length_cons, List.length_nil]; omega) rfl) rfl (fun ol' hol' => ?_)))
                          all_goals refine tl_q (y_field rfl) rfl ?_; refine tl_e (e_store1 rfl rfl (by repeat constructor) (by repeat constructor) (by rfl) (by rfl)) rfl (fun _ _ => ?_); refine tl_nil ?_; ((refine hK19 ?_; try (clear hK19; clear K19)))
                          all_goals refine tc_region ?_; refine tl_q (y_move rfl) rfl ?_; refine tl_q (y_add rfl rfl (by omega)) rfl ?_; refine tl_q (y_assign rfl) rfl ?_; refine tl_nil ?_
                          all_goals (
                           have hfs := fctL_succ t ks k
                           repeat (refine tk_ib ?_)
                           first
                           | (have hc0 : ¬ (vdL s).getD k 0 = 2 := by assumption
                              have e1 := whoB_no (t := t) (ks := ks) hc0
                              have e2 := cnt_no hc0
                              have e3 := fst_no hc0
                              have e4 := lnk_no hc0
                              exact tk_round (k + 1, ol, of') ⟨by dsimp only; omega, by dsimp only; rw [e4]; exact hol, by dsimp only; rw [hfs]; exact hof'⟩ (by dsimp only; omega) (.cons rfl (.cons rfl (.cons rfl (.cons rfl (.cons rfl (.cons rfl (.cons (by dsimp only; rw [e3]; rfl) (.cons (by dsimp only; rw [e2]; rfl) (.cons rfl .nil))))))))) (fun _ h => by dsimp only; rw [e1, e4, hfs]; exact h.subl SB.s SB.s))
                           | (have hc0 : (vdL s).getD k 0 = 2 := by omega
                              have h2 : 0 ≤ fstN (nvN s) k := by omega
                              have e1 := whoB_yes (t := t) (ks := ks) hc0
                              have e2 := cnt_yes hc0
                              have e3 := fst_old h2
                              have e4 := lnk_old hc0 h2
                              exact tk_round (k + 1, ol', of') ⟨by dsimp only; omega, by dsimp only; rw [e4]; exact hol', by dsimp only; rw [hfs]; exact hof'⟩ (by dsimp only; omega) (.cons rfl (.cons rfl (.cons rfl (.cons rfl (.cons rfl (.cons rfl (.cons (by dsimp only; rw [e3]; rfl) (.cons (by dsimp only; rw [e2]; rfl) (.cons rfl .nil))))))))) (fun _ h => by dsimp only; rw [e1, e4, hfs]; exact h.subl SB.s SB.s))
                           | (have hc0 : (vdL s).getD k 0 = 2 := by omega
                              have h2 : fstN (nvN s) k < 0 := by omega
                              have e1 := whoB_yes (t := t) (ks := ks) hc0
                              have e2 := cnt_yes hc0
                              have e3 := fst_new hc0 h2
                              have e4 := lnk_new h2
                              exact tk_round (k + 1, ol, of') ⟨by dsimp only; omega, by dsimp only; rw [e4]; exact hol, by dsimp only; rw [hfs]; exact hof'⟩ (by dsimp only; omega) (.cons rfl (.cons rfl (.cons rfl (.cons rfl (.cons rfl (.cons rfl (.cons (by dsimp only; rw [e3]; rfl) (.cons (by dsimp only; rw [e2]; rfl) (.cons rfl .nil))))))))) (fun _ h => by dsimp only; rw [e1, e4, hfs]; exact h.subl SB.s SB.s)))
                        · try simp only [qn1, qn2, qn3, qn4, qn5, qn6, qn7, qn8] at hc
                          all_goals refine tc_region ?_; refine tl_q (y_move rfl) rfl ?_; refine tl_q (y_assign rfl) rfl ?_; refine tl_nil ?_; ((refine hK19 ?_; try (clear hK19; clear K19)))
                          all_goals refine tc_region ?_; refine tl_q (y_move rfl) rfl ?_; refine tl_q (y_add rfl rfl (by omega)) rfl ?_; refine tl_q (y_assign rfl) rfl ?_; refine tl_nil ?_
                          all_goals (
                           have hfs := fctL_succ t ks k
                           repeat (refine tk_ib ?_)
                           first
                           | (have hc0 : ¬ (vdL s).getD k 0 = 2 := by assumption
                              have e1 := whoB_no (t := t) (ks := ks) hc0
                              have e2 := cnt_no hc0
                              have e3 := fst_no hc0
                              have e4 := lnk_no hc0
                              exact tk_round (k + 1, ol, of') ⟨by dsimp only; omega, by dsimp only; rw [e4]; exact hol, by dsimp only; rw [hfs]; exact hof'⟩ (by dsimp only; omega) (.cons rfl (.cons rfl (.cons rfl (.cons rfl (.cons rfl (.cons rfl (.cons (by dsimp only; rw [e3]; rfl) (.cons (by dsimp only; rw [e2]; rfl) (.cons rfl .nil))))))))) (fun _ h => by dsimp only; rw [e1, e4, hfs]; exact h.subl SB.s SB.s))
                           | (have hc0 : (vdL s).getD k 0 = 2 := by omega
                              have h2 : 0 ≤ fstN (nvN s) k := by omega
                              have e1 := whoB_yes (t := t) (ks := ks) hc0
                              have e2 := cnt_yes hc0
                              have e3 := fst_old h2
                              have e4 := lnk_old hc0 h2
                              exact tk_round (k + 1, ol', of') ⟨by dsimp only; omega, by dsimp only; rw [e4]; exact hol', by dsimp only; rw [hfs]; exact hof'⟩ (by dsimp only; omega) (.cons rfl (.cons rfl (.cons rfl (.cons rfl (.cons rfl (.cons rfl (.cons (by dsimp only; rw [e3]; rfl) (.cons (by dsimp only; rw [e2]; rfl) (.cons rfl .nil))))))))) (fun _ h => by dsimp only; rw [e1, e4, hfs]; exact h.subl SB.s SB.s))
                           | (have hc0 : (vdL s).getD k 0 = 2 := by omega
                              have h2 : fstN (nvN s) k < 0 := by omega
                              have e1 := whoB_yes (t := t) (ks := ks) hc0
                              have e2 := cnt_yes hc0
                              have e3 := fst_new hc0 h2
                              have e4 := lnk_new h2
                              exact tk_round (k + 1, ol, of') ⟨by dsimp only; omega, by dsimp only; rw [e4]; exact hol, by dsimp only; rw [hfs]; exact hof'⟩ (by dsimp only; omega) (.cons rfl (.cons rfl (.cons rfl (.cons rfl (.cons rfl (.cons rfl (.cons (by dsimp only; rw [e3]; rfl) (.cons (by dsimp only; rw [e2]; rfl) (.cons rfl .nil))))))))) (fun _ h => by dsimp only; rw [e1, e4, hfs]; exact h.subl SB.s SB.s))))))
               · try simp only [qn1, qn2, qn3, qn4, qn5, qn6, qn7, qn8] at hc
                 all_goals refine tc_exit ?_; ((refine hK15 ?_; try (clear hK15; clear K15)))
                 all_goals refine tc_seq fun K31 hK31 => ?_; refine tc_seq fun K32 hK32 => ?_; (obtain rfl : k = s.B.toNat := by omega)
                 all_goals refine tc_lay [] (SB.s .nil) (fun wl27 hl27 => ?_); (have hRD : RdD wl27 (disB s t ks) (.slice aw t.ws.length cw) (.slice am t.ms.length cm) vv (ouV (lnkN (nvN s) s.B.toNat).length ol) (ouV (fctL t ks s.B.toNat).length of) := ⟨hrt0.fr (hl27.fr (w0 := w) (S := []) MI.m), RdS.ofO lkE_len hol hl27 (by repeat constructor), RdS.ofO fcE_len hof hl27 (by repeat constructor)⟩)
                 all_goals (have hVL : RdI wl27 (slV (vdL s).length v3.1) (vdL s) := hv3.1.fr (hl27.calm hv3.2 MI.m SB.s))
                 all_goals (obtain ⟨hD1, hD2, hD3, ⟨cl, hD4, hD5, hD6⟩, hD7, hD8⟩ := disOk (s := s) (t := t) (ks := ks) ⟨hb1, hb3⟩ hvt hks)
                 all_goals (rw [← whoB_end] at hD5 hD6 hD7 hD8)
                 all_goals (have hlm : (cl.map fun x => ((x : Nat) : Int)).length = cl.length := List.length_map _)
                 all_goals refine tc_region ?_; refine tl_q (y_loadWf rfl (hl27.at (by repeat constructor)) MI.m (by simp) (by rfl)) rfl ?_; refine tl_e (e_callV rfl (.cons rfl .nil) (fun w' hw' => dFault_c (disB s t ks) hD1 _ _ _ _ _ w' (hRD.fr (hw'.fr (w0 := wl27) (S := []) MI.m)))) rfl (fun _ _ => ?_); refine tl_q (y_neq rfl rfl) rfl ?_; refine tl_nil ?_; ((refine hK32 ?_; try (clear hK32; clear K32)))
                 all_goals (
                  refine tc_cond rfl (fun hc => ?_) (fun hc => ?_)
                  · try simp only [qn1, qn2, qn3, qn4, qn5, qn6, qn7, qn8] at hc
                  · try simp only [qn1, qn2, qn3, qn4, qn5, qn6, qn7, qn8] at hc
                    all_goals refine tc_skip ?_; ((refine hK31 ?_; try (clear hK31; clear K31)))
                    all_goals refine tc_seq fun K34 hK34 => ?_; refine tc_region ?_; refine tl_q (y_loadWf rfl (hl27.at (by repeat constructor)) MI.m (by simp) (by rfl)) rfl ?_; refine tl_e (e_callX rfl (.cons rfl .nil) (fun w' hw' => lawDispute_c (disB s t ks) hD1 _ _ _ _ _ w' (hRD.fr (hw'.fr (w0 := wl27) (S := []) MI.m)))) rfl (fun y29 hy29 => ?_); refine tl_e (e_callX rfl (.cons rfl .nil) (fun w' hw' => dLeave_c (disB s t ks) hD1 hD2 hD3 (cl.map fun x => ((x : Nat) : Int)) hD4 _ _ _ _ _ w' (hy29.1.fr (hw'.calm hy29.2 MI.m SB.s)))) rfl (fun l29 hl29 => ?_); refine tl_q (y_move rfl) rfl ?_; refine tl_q (y_extract rfl rfl) rfl ?_; refine tl_q (y_extract rfl rfl) rfl ?_; refine tl_q (y_assign rfl) rfl ?_; refine tl_q (y_assign rfl) rfl ?_; refine tl_nil ?_; ((refine hK34 ?_; try (clear hK34; clear K34)))
                    all_goals refine tc_seq fun K35 hK35 => ?_; refine tc_region ?_; refine tl_q (y_loadWf rfl (hl27.at (by repeat constructor)) MI.m (by simp) (by rfl)) rfl ?_; refine tl_e (e_callX rfl (.cons rfl .nil) (fun w' hw' => lawDispute_c (disB s t ks) hD1 _ _ _ _ _ w' (hRD.fr (hw'.fr (w0 := wl27) (S := []) MI.m)))) rfl (fun y30 hy30 => ?_); refine tl_e (e_callX rfl (.cons rfl .nil) (fun w' hw' => dBounds_c (disB s t ks) hD1 _ _ _ _ _ w' (hy30.1.fr (hw'.calm hy30.2 MI.m SB.s)))) rfl (fun b30 hb30 => ?_); refine tl_q (y_move rfl) rfl ?_; refine tl_q (y_extract rfl rfl) rfl ?_; refine tl_q (y_extract rfl rfl) rfl ?_; refine tl_q (y_assign rfl) rfl ?_; refine tl_q (y_assign rfl) rfl ?_; refine tl_nil ?_; ((refine hK35 ?_; try (clear hK35; clear K35)))
                    all_goals refine tc_seq fun K36 hK36 => ?_; refine tc_seq fun K37 hK37 => ?_; ((obtain ⟨lb, lo, hadl, hcl⟩ := hl29.1.opensKJ; obtain ⟨bb, bo, hadb, hcb⟩ := hb30.1.openVJ rgE_len (0, 0)))
                    all_goals ((obtain ⟨vb, vo, hadv, hcv⟩ := hVL.opensKJ; have hadv' := hadv (by omega)))
                    all_goals refine tc_region ?_; refine tl_q (y_move rfl) rfl ?_; refine tl_q (y_neq rfl rfl) rfl ?_; refine tl_nil ?_; ((refine hK37 ?_; try (clear hK37; clear K37)))
                    all_goals (
                     refine tc_cond rfl (fun hc => ?_) (fun hc => ?_)
                     · try simp only [qn1, qn2, qn3, qn4, qn5, qn6, qn7, qn8] at hc
                     · try simp only [qn1, qn2, qn3, qn4, qn5, qn6, qn7, qn8] at hc
                       all_goals refine tc_skip ?_; ((refine hK36 ?_; try (clear hK36; clear K36)))
                       all_goals refine tc_seq fun K39 hK39 => ?_; refine tc_seq fun K40 hK40 => ?_; refine tc_region ?_; refine tl_q (y_move rfl) rfl ?_; refine tl_q (y_gtr rfl rfl) rfl ?_; refine tl_q (y_move rfl) rfl ?_; ((refine tl_gs rfl rfl (fun hc => ?_) (fun hc => ?_) <;> (try simp only [qn1, qn2, qn3, qn4, qn5, qn6, qn7, qn8] at hc) <;> (first | refine tl_sk rfl rfl rfl rfl ?_ | refine tl_qg rfl rfl (y_field rfl) rfl ?_)))
                       all_goals (first | refine tl_sk rfl rfl rfl rfl ?_ | refine tl_qg rfl rfl (y_load1f rfl (hl27.at (by repeat constructor)) MI.m (by simp) (by rfl)) rfl ?_); (first | refine tl_sk rfl rfl rfl rfl ?_ | refine tl_qg rfl rfl (y_field rfl) rfl ?_); (first | refine tl_sk rfl rfl rfl rfl ?_ | refine tl_qg rfl rfl (y_load1f rfl (hl27.at (by repeat constructor)) MI.m (by simp) (by rfl)) rfl ?_); (first | refine tl_sk rfl rfl rfl rfl ?_ | refine tl_qg rfl rfl (y_gtr rfl rfl) rfl ?_); (first | refine tl_q (y_pick_t rfl rfl) rfl ?_ | refine tl_q (y_pick_f rfl rfl) rfl ?_); refine tl_nil ?_; ((refine hK40 ?_; try (clear hK40; clear K40)))
                       all_goals (
                        refine tc_cond rfl (fun hc => ?_) (fun hc => ?_)
                        · try simp only [qn1, qn2, qn3, qn4, qn5, qn6, qn7, qn8] at hc
                          all_goals ((first | (exfalso; with_reducible exact bft hc) | skip))
                          all_goals refine tc_seq fun K41 hK41 => ?_; refine tc_seq fun K42 hK42 => ?_; ((have hE11 := hD8 (by omega) (by omega); obtain ⟨hne, hmem, hlt⟩ := hD6 (by omega) (by omega); have hcl0 := List.length_pos_iff.2 hne))
                          all_goals refine tc_region ?_; refine tl_q (y_move rfl) rfl ?_; refine tl_q (y_neq rfl rfl) rfl ?_; refine tl_q (y_move rfl) rfl ?_; ((refine tl_gs rfl rfl (fun hc => ?_) (fun hc => ?_) <;> (try simp only [qn1, qn2, qn3, qn4, qn5, qn6, qn7, qn8] at hc) <;> (first | (exfalso; omega) | refine tl_qg rfl rfl (y_move rfl) rfl ?_)))
                          all_goals (refine tl_qg rfl rfl (y_len rfl) rfl ?_); refine tl_qg rfl rfl (y_eql rfl rfl) rfl ?_; refine tl_q (y_pick_f rfl rfl) rfl ?_; refine tl_nil ?_; ((refine hK42 ?_; try (clear hK42; clear K42)))
                          all_goals (
                           refine tc_cond rfl (fun hc => ?_) (fun hc => ?_)
                           · try simp only [qn1, qn2, qn3, qn4, qn5, qn6, qn7, qn8] at hc
                             all_goals ((exfalso; omega))
                           · try simp only [qn1, qn2, qn3, qn4, qn5, qn6, qn7, qn8] at hc
                             all_goals refine tc_skip ?_; ((refine hK41 ?_; try (clear hK41; clear K41)))
                             all_goals refine tc_seq fun K44 hK44 => ?_; refine tc_seq fun K45 hK45 => ?_; refine tc_region ?_; refine tl_q (y_assign rfl) rfl ?_; refine tl_nil ?_; ((refine hK45 ?_; try (clear hK45; clear K45)))
                             all_goals refine tc_block ?_
                             all_goals (
                              refine tc_loop (fun j : Nat => j ≤ cl.length) (fun j => [(3, ptr b3), (7, slV (vdL s).length v3.1), (12, vi (cntN (nvN s) s.B.toNat)), (17, slV (cl.map fun x => ((x : Nat) : Int)).length l29.1), (21, vi j)]) (fun _ => [(l29.2, []), (wl27, []), (w, [])]) (fun _ => []) (fun j => cl.length - j) ?_ ?_
                              · exact tk_start 0 (by omega) (.cons rfl (.cons rfl (.cons rfl (.cons rfl (.cons rfl .nil))))) (fun _ h => h.subl SB.s SB.s)
                              · rintro j hj
                                try dsimp only at hj ⊢
                                all_goals refine tc_seq fun K46 hK46 => ?_; refine tc_seq fun K47 hK47 => ?_; refine tc_region ?_; refine tl_q (y_move rfl) rfl ?_; refine tl_q (y_move rfl) rfl ?_; refine tl_q (y_len rfl) rfl ?_; refine tl_q (y_lss rfl rfl) rfl ?_; refine tl_nil ?_; ((refine hK47 ?_; try (clear hK47; clear K47)))
                                all_goals (
                                 refine tc_cond rfl (fun hc => ?_) (fun hc => ?_)
                                 · try simp only [qn1, qn2, qn3, qn4, qn5, qn6, qn7, qn8] at hc
                                   all_goals refine tc_skip ?_; ((refine hK46 ?_; try (clear hK46; clear K46)))
                                   all_goals refine tc_seq fun K48 hK48 => ?_; refine tc_block ?_; refine tc_seq fun K49 hK49 => ?_; (have hjl : j < cl.length := by omega)
                                   all_goals ((have hg := getD_castJ hjl; obtain ⟨hp1, hp2⟩ := hmem _ (getD_memG (d := 0) hjl); have hp3 : (vdL s).getD (cl.getD j 0) 0 = 2 := of_decide_eq_true hp2))
                                   all_goals refine tc_draw (by kernel_rfl) ?_; refine tx_p 0 rfl (by kernel_rfl) (y_move rfl) rfl (fun _ _ _ h => h) (fun _ h => h) ?_; refine tx_p 1 rfl (by kernel_rfl) (y_move rfl) rfl (fun _ _ _ h => h) (fun _ h => h) ?_; refine tx_p 2 rfl (by kernel_rfl) (y_index rfl rfl (by omega) (hadl (by omega))) rfl (fun _ _ _ h => h) (fun _ h => h) ?_; ((refine tx_q 3 rfl (by kernel_rfl) (y_load1o (v := vi ((cl.getD j 0 : Nat) : Int)) rfl (fun w' hw' => by rw [show Int.toNat (j : Int) * 1 = j from by omega, ← hg]; exact hcl w' (hw'.fr (w0 := l29.2) (S := []) MI.m) j (by omega))) rfl (fun _ _ _ h => h) (fun _ h => h) ?_))
                                   all_goals refine tx_p 4 rfl (by kernel_rfl) (y_lss rfl rfl) rfl (fun _ _ _ h => h) (fun _ h => h) ?_; refine tx_p 5 rfl (by kernel_rfl) (y_move rfl) rfl (fun _ _ _ h => h) (fun _ h => h) ?_; refine tx_pg 6 rfl (by kernel_rfl) rfl rfl (y_move rfl) rfl (fun _ _ _ h => h) (fun _ h => h) ?_; refine tx_pg 7 rfl (by kernel_rfl) rfl rfl (y_move rfl) rfl (fun _ _ _ h => h) (fun _ h => h) ?_; refine tx_pg 8 rfl (by kernel_rfl) rfl rfl (y_index rfl rfl (by omega) (hadl (by omega))) rfl (fun _ _ _ h => h) (fun _ h => h) ?_; ((refine tx_qg 9 rfl (by kernel_rfl) rfl rfl (y_load1o (v := vi ((cl.getD j 0 : Nat) : Int)) rfl (fun w' hw' => by rw [show Int.toNat (j : Int) * 1 = j from by omega, ← hg]; exact hcl w' (hw'.fr (w0 := l29.2) (S := []) MI.m) j (by omega))) rfl (fun _ _ _ h => h) (fun _ h => h) ?_))
                                   all_goals (refine tx_pg 10 rfl (by kernel_rfl) rfl rfl (y_field rfl) rfl (fun _ _ _ h => h) (fun _ h => h) ?_); refine tx_qg 11 rfl (by kernel_rfl) rfl rfl (y_load1f rfl (hl27.at (by repeat constructor)) MI.m (by simp) (by rfl)) rfl (fun _ _ _ h => h) (fun _ h => h) ?_; refine tx_pg 12 rfl (by kernel_rfl) rfl rfl (y_geq rfl rfl) rfl (fun _ _ _ h => h) (fun _ h => h) ?_; refine tx_p 13 rfl (by kernel_rfl) (y_pick_f rfl rfl) rfl (fun _ _ _ h => h) (fun _ h => h) ?_; refine tx_p 14 rfl (by kernel_rfl) (y_move rfl) rfl (fun _ _ _ h => h) (fun _ h => h) ?_; ((refine tx_gs 206 rfl (fun hc => ?_) (fun hc => ?_) <;> (try simp only [qn1, qn2, qn3, qn4, qn5, qn6, qn7, qn8] at hc) <;> (first | (exfalso; omega) | refine tx_pg 15 rfl (by kernel_rfl) rfl rfl (y_move rfl) rfl (fun _ _ _ h => h) (fun _ h => h) ?_)))
                                   all_goals (refine tx_pg 16 rfl (by kernel_rfl) rfl rfl (y_move rfl) rfl (fun _ _ _ h => h) (fun _ h => h) ?_); refine tx_pg 17 rfl (by kernel_rfl) rfl rfl (y_move rfl) rfl (fun _ _ _ h => h) (fun _ h => h) ?_; refine tx_pg 18 rfl (by kernel_rfl) rfl rfl (y_index rfl rfl (by omega) (hadl (by omega))) rfl (fun _ _ _ h => h) (fun _ h => h) ?_; ((refine tx_qg 19 rfl (by kernel_rfl) rfl rfl (y_load1o (v := vi ((cl.getD j 0 : Nat) : Int)) rfl (fun w' hw' => by rw [show Int.toNat (j : Int) * 1 = j from by omega, ← hg]; exact hcl w' (hw'.fr (w0 := l29.2) (S := []) MI.m) j (by omega))) rfl (fun _ _ _ h => h) (fun _ h => h) ?_))
                                   all_goals (refine tx_pg 20 rfl (by kernel_rfl) rfl rfl (y_index rfl rfl (by omega) hadv') rfl (fun _ _ _ h => h) (fun _ h => h) ?_); ((refine tx_qg 21 rfl (by kernel_rfl) rfl rfl (y_load1o (v := vi ((vdL s).getD (cl.getD j 0) 0)) rfl (fun w' hw' => by rw [show Int.toNat ((cl.getD j 0 : Nat) : Int) * 1 = cl.getD j 0 from by omega]; exact hcv w' (hw'.fr (w0 := wl27) (S := []) MI.m) (cl.getD j 0) (by omega))) rfl (fun _ _ _ h => h) (fun _ h => h) ?_))
                                   all_goals (refine tx_pg 22 rfl (by kernel_rfl) rfl rfl (y_neq rfl rfl) rfl (fun _ _ _ h => h) (fun _ h => h) ?_); refine tx_p 23 rfl (by kernel_rfl) (y_pick_f rfl rfl) rfl (fun _ _ _ h => h) (fun _ h => h) ?_; refine tx_done (by kernel_rfl) ?_; ((refine hK49 ?_; try (clear hK49; clear K49)))
                                   all_goals (
                                    refine tc_cond rfl (fun hc => ?_) (fun hc => ?_)
                                    · try simp only [qn1, qn2, qn3, qn4, qn5, qn6, qn7, qn8] at hc
                                      all_goals ((exfalso; omega))
                                    · try simp only [qn1, qn2, qn3, qn4, qn5, qn6, qn7, qn8] at hc
                                      all_goals refine tc_skip ?_; ((refine hK48 ?_; try (clear hK48; clear K48)))
                                      all_goals refine tc_region ?_; refine tl_q (y_move rfl) rfl ?_; refine tl_q (y_add rfl rfl (by omega)) rfl ?_; refine tl_q (y_assign rfl) rfl ?_; refine tl_nil ?_
                                      all_goals (
                                       exact tk_round (j + 1) (by omega) (by omega) (.cons rfl (.cons rfl (.cons rfl (.cons rfl (.cons rfl .nil))))) (fun _ h => h.subl SB.s SB.s)))
                                 · try simp only [qn1, qn2, qn3, qn4, qn5, qn6, qn7, qn8] at hc
                                   all_goals refine tc_exit ?_; ((refine hK44 ?_; try (clear hK44; clear K44)))
                                   all_goals refine tc_seq fun K51 hK51 => ?_; refine tc_region ?_; refine tl_q (y_move rfl) rfl ?_; refine tl_q (y_len rfl) rfl ?_; refine tl_q (y_move rfl) rfl ?_; refine tl_q (y_lss rfl rfl) rfl ?_; refine tl_q (y_move rfl) rfl ?_; ((refine tl_gs rfl rfl (fun hc => ?_) (fun hc => ?_) <;> (try simp only [qn1, qn2, qn3, qn4, qn5, qn6, qn7, qn8] at hc) <;> (first | (exfalso; omega) | refine tl_eg rfl rfl rfl (e_callV rfl .nil (fun w' _ => sealed_c w')) (fun _ _ => ?_))))
                                   all_goals (refine tl_q (y_pick_t rfl rfl) rfl ?_); refine tl_q (y_assign rfl) rfl ?_; refine tl_nil ?_; ((refine hK51 ?_; try (clear hK51; clear K51)))
                                   all_goals refine tc_ret ?_; (repeat (refine tk_then_ret ?_))
                                   all_goals (refine tk_ret rfl rfl (.cons (.tmp rfl) .nil) ?_)
                                   all_goals (
                                    first
                                    | exact fun w' hw' => ⟨rfl, hw'.fr (w0 := w) (S := []) MI.m⟩
                                    | exact absurd hc (by omega)))))
                        · try simp only [qn1, qn2, qn3, qn4, qn5, qn6, qn7, qn8] at hc
                          all_goals refine tc_skip ?_; ((refine hK39 ?_; try (clear hK39; clear K39)))
                          all_goals refine tc_seq fun K52 hK52 => ?_; refine tc_seq fun K53 hK53 => ?_; ((have hcn := hD5 (by omega); obtain ⟨hE0', hBL, hBe⟩ := hD7 (by omega); have hcl00 : cl.length = 0 := by rw [hcn]; rfl))
                          all_goals refine tc_region ?_; refine tl_q (y_move rfl) rfl ?_; refine tl_q (y_neq rfl rfl) rfl ?_; refine tl_q (y_move rfl) rfl ?_; ((refine tl_gs rfl rfl (fun hc => ?_) (fun hc => ?_) <;> (try simp only [qn1, qn2, qn3, qn4, qn5, qn6, qn7, qn8] at hc) <;> (first | (exfalso; omega) | refine tl_qg rfl rfl (y_move rfl) rfl ?_)))
                          all_goals (refine tl_qg rfl rfl (y_len rfl) rfl ?_); refine tl_qg rfl rfl (y_neq rfl rfl) rfl ?_; refine tl_q (y_pick_f rfl rfl) rfl ?_; refine tl_q (y_move rfl) rfl ?_; ((refine tl_gs rfl rfl (fun hc => ?_) (fun hc => ?_) <;> (try simp only [qn1, qn2, qn3, qn4, qn5, qn6, qn7, qn8] at hc) <;> (first | (exfalso; omega) | refine tl_qg rfl rfl (y_move rfl) rfl ?_)))
                          all_goals (refine tl_qg rfl rfl (y_len rfl) rfl ?_); refine tl_qg rfl rfl (y_field rfl) rfl ?_; refine tl_qg rfl rfl (y_load1f rfl (hl27.at (by repeat constructor)) MI.m (by simp) (by rfl)) rfl ?_; refine tl_qg rfl rfl (y_neq rfl rfl) rfl ?_; refine tl_q (y_pick_f rfl rfl) rfl ?_; refine tl_nil ?_; ((refine hK53 ?_; try (clear hK53; clear K53)))
                          all_goals (
                           refine tc_cond rfl (fun hc => ?_) (fun hc => ?_)
                           · try simp only [qn1, qn2, qn3, qn4, qn5, qn6, qn7, qn8] at hc
                             all_goals ((exfalso; omega))
                           · try simp only [qn1, qn2, qn3, qn4, qn5, qn6, qn7, qn8] at hc
                             all_goals refine tc_skip ?_; ((refine hK52 ?_; try (clear hK52; clear K52)))
                             all_goals refine tc_seq fun K55 hK55 => ?_; refine tc_seq fun K56 hK56 => ?_; refine tc_region ?_; refine tl_q (y_assign rfl) rfl ?_; refine tl_nil ?_; ((refine hK56 ?_; try (clear hK56; clear K56)))
                             all_goals refine tc_block ?_
                             all_goals (
                              refine tc_loop (fun j : Nat => (j : Int) ≤ s.B) (fun j => [(3, ptr b3), (7, slV (vdL s).length v3.1), (10, ptr b10), (19, slV (bdsL (disB s t ks)).length b30.1), (22, vi j)]) (fun _ => [(b30.2, []), (wl27, []), (w, [])]) (fun _ => []) (fun j => s.B.toNat - j) ?_ ?_
                              · exact tk_start 0 (by omega) (.cons rfl (.cons rfl (.cons rfl (.cons rfl (.cons rfl .nil))))) (fun _ h => h.subl SB.s SB.s)
                              · rintro j hj
                                try dsimp only at hj ⊢
                                all_goals refine tc_seq fun K57 hK57 => ?_; refine tc_seq fun K58 hK58 => ?_; refine tc_region ?_; refine tl_q (y_move rfl) rfl ?_; refine tl_q (y_field rfl) rfl ?_; refine tl_q (y_load1f rfl (hl27.at (by repeat constructor)) MI.m (by simp) (by rfl)) rfl ?_; refine tl_q (y_lss rfl rfl) rfl ?_; refine tl_nil ?_; ((refine hK58 ?_; try (clear hK58; clear K58)))
                                all_goals (
                                 refine tc_cond rfl (fun hc => ?_) (fun hc => ?_)
                                 · try simp only [qn1, qn2, qn3, qn4, qn5, qn6, qn7, qn8] at hc
                                   all_goals refine tc_skip ?_; ((refine hK57 ?_; try (clear hK57; clear K57)))
                                   all_goals refine tc_seq fun K59 hK59 => ?_; refine tc_block ?_; refine tc_seq fun K60 hK60 => ?_; ((have hbj : (vdL s).getD j 0 = 2 → ((bdsL (disB s t ks)).getD j (0, 0)).1 = (whoB s t ks s.B.toNat).1 ∧ ((bdsL (disB s t ks)).getD j (0, 0)).2 = (whoB s t ks s.B.toNat).2 := fun h => by rw [hBe j (by omega) (nv_yes h)]; exact ⟨rfl, rfl⟩))
                                   all_goals refine tc_draw (by kernel_rfl) ?_; refine tx_p 0 rfl (by kernel_rfl) (y_move rfl) rfl (fun _ _ _ h => h) (fun _ h => h) ?_; refine tx_p 1 rfl (by kernel_rfl) (y_move rfl) rfl (fun _ _ _ h => h) (fun _ h => h) ?_; refine tx_p 2 rfl (by kernel_rfl) (y_index rfl rfl (by omega) hadv') rfl (fun _ _ _ h => h) (fun _ h => h) ?_; ((refine tx_q 3 rfl (by kernel_rfl) (y_load1o (v := vi ((vdL s).getD j 0)) rfl (fun w' hw' => by rw [show Int.toNat (j : Int) * 1 = j from by omega]; exact hcv w' (hw'.fr (w0 := wl27) (S := []) MI.m) j (by omega))) rfl (fun _ _ _ h => h) (fun _ h => h) ?_))
                                   all_goals refine tx_p 4 rfl (by kernel_rfl) (y_eql rfl rfl) rfl (fun _ _ _ h => h) (fun _ h => h) ?_; refine tx_p 5 rfl (by kernel_rfl) (y_move rfl) rfl (fun _ _ _ h => h) (fun _ h => h) ?_; ((refine tx_gs 248 rfl (fun hc => ?_) (fun hc => ?_) <;> (try simp only [qn1, qn2, qn3, qn4, qn5, qn6, qn7, qn8] at hc) <;> (first | refine tx_sk 6 rfl (by kernel_rfl) rfl rfl rfl rfl (fun _ _ _ h => h) (fun _ h => h) ?_ | refine tx_pg 6 rfl (by kernel_rfl) rfl rfl (y_move rfl) rfl (fun _ _ _ h => h) (fun _ h => h) ?_)))
                                   all_goals (first | refine tx_sk 7 rfl (by kernel_rfl) rfl rfl rfl rfl (fun _ _ _ h => h) (fun _ h => h) ?_ | refine tx_pg 7 rfl (by kernel_rfl) rfl rfl (y_move rfl) rfl (fun _ _ _ h => h) (fun _ h => h) ?_); (first | refine tx_sk 8 rfl (by kernel_rfl) rfl rfl rfl rfl (fun _ _ _ h => h) (fun _ h => h) ?_ | refine tx_pg 8 rfl (by kernel_rfl) rfl rfl (y_index rfl rfl (by omega) (hadb (by omega))) rfl (fun _ _ _ h => h) (fun _ h => h) ?_); ((first | refine tx_sk 9 rfl (by kernel_rfl) rfl rfl rfl rfl (fun _ _ _ h => h) (fun _ h => h) ?_ | refine tx_qg 9 rfl (by kernel_rfl) rfl rfl (y_loadNo (n := 2) (vs := [vi ((bdsL (disB s t ks)).getD j (0, 0)).1, vi ((bdsL (disB s t ks)).getD j (0, 0)).2]) rfl (fun w' hw' => by rw [show Int.toNat (j : Int) * 2 = j * 2 from by omega]; exact hcb w' (hw'.fr (w0 := b30.2) (S := []) MI.m) j (by omega))) rfl (fun _ _ _ h => h) (fun _ h => h) ?_))
                                   all_goals (first | refine tx_sk 10 rfl (by kernel_rfl) rfl rfl rfl rfl (fun _ _ _ h => h) (fun _ h => h) ?_ | refine tx_pg 10 rfl (by kernel_rfl) rfl rfl (y_field rfl) rfl (fun _ _ _ h => h) (fun _ h => h) ?_); (first | refine tx_sk 11 rfl (by kernel_rfl) rfl rfl rfl rfl (fun _ _ _ h => h) (fun _ h => h) ?_ | refine tx_qg 11 rfl (by kernel_rfl) rfl rfl (y_load1f rfl (hl27.at (by repeat constructor)) MI.m (by simp) (by rfl)) rfl (fun _ _ _ h => h) (fun _ h => h) ?_); (first | refine tx_sk 12 rfl (by kernel_rfl) rfl rfl rfl rfl (fun _ _ _ h => h) (fun _ h => h) ?_ | refine tx_pg 12 rfl (by kernel_rfl) rfl rfl (y_field rfl) rfl (fun _ _ _ h => h) (fun _ h => h) ?_); (first | refine tx_sk 13 rfl (by kernel_rfl) rfl rfl rfl rfl (fun _ _ _ h => h) (fun _ h => h) ?_ | refine tx_qg 13 rfl (by kernel_rfl) rfl rfl (y_load1f rfl (hl27.at (by repeat constructor)) MI.m (by simp) (by rfl)) rfl (fun _ _ _ h => h) (fun _ h => h) ?_); (first | refine tx_sk 14 rfl (by kernel_rfl) rfl rfl rfl rfl (fun _ _ _ h => h) (fun _ h => h) ?_ | refine tx_pg 14 rfl (by kernel_rfl) rfl rfl (y_build_g (by repeat constructor)) rfl (fun _ _ _ h => h) (fun _ h => h) ?_); (first | refine tx_sk 15 rfl (by kernel_rfl) rfl rfl rfl rfl (fun _ _ _ h => h) (fun _ h => h) ?_ | refine tx_pg 15 rfl (by kernel_rfl) rfl rfl (y_neq2 rfl rfl) rfl (fun _ _ _ h => h) (fun _ h => h) ?_); (first | refine tx_p 16 rfl (by kernel_rfl) (y_pick_t rfl rfl) rfl (fun _ _ _ h => h) (fun _ h => h) ?_ | refine tx_p 16 rfl (by kernel_rfl) (y_pick_f rfl rfl) rfl (fun _ _ _ h => h) (fun _ h => h) ?_); refine tx_done (by kernel_rfl) ?_; ((refine hK60 ?_; try (clear hK60; clear K60)))
                                   all_goals (
                                    refine tc_cond rfl (fun hc => ?_) (fun hc => ?_)
                                    · try simp only [qn1, qn2, qn3, qn4, qn5, qn6, qn7, qn8] at hc
                                      all_goals ((first | (exfalso; with_reducible exact bft hc) | (exfalso; omega)))
                                    · try simp only [qn1, qn2, qn3, qn4, qn5, qn6, qn7, qn8] at hc
                                      all_goals refine tc_skip ?_; ((refine hK59 ?_; try (clear hK59; clear K59)))
                                      all_goals refine tc_region ?_; refine tl_q (y_move rfl) rfl ?_; refine tl_q (y_add rfl rfl (by omega)) rfl ?_; refine tl_q (y_assign rfl) rfl ?_; refine tl_nil ?_
                                      all_goals (
                                       exact tk_round (j + 1) (by omega) (by omega) (.cons rfl (.cons rfl (.cons rfl (.cons rfl (.cons rfl .nil))))) (fun _ h => h.subl SB.s SB.s)))
                                 · try simp only [qn1, qn2, qn3, qn4, qn5, qn6, qn7, qn8] at hc
                                   all_goals refine tc_exit ?_; ((refine hK55 ?_; try (clear hK55; clear K55)))
                                   all_goals refine tc_seq fun K62 hK62 => ?_; refine tc_region ?_; refine tl_e (e_callV rfl .nil (fun w' _ => sealed_c w')) rfl (fun _ _ => ?_); refine tl_q (y_assign rfl) rfl ?_; refine tl_nil ?_; ((refine hK62 ?_; try (clear hK62; clear K62)))
                                   all_goals refine tc_ret ?_; (repeat (first | refine tk_then_ret ?_))
                                   all_goals (refine tk_ret rfl rfl (.cons (.tmp rfl) .nil) ?_)
                                   all_goals (
                                    first
                                    | exact fun w' hw' => ⟨rfl, hw'.fr (w0 := w) (S := []) MI.m⟩
                                    | exact absurd hc (by omega)))))))))))))
end Go.Sp
/-
  From a contract of a law's function to its row: what the arguments read as, and that they read so afterwards.
-/
namespace Go.Sp
open Go Go.Proofs Go.ChangeShapes Go.WideShapes Go.RowKit
section
variable {H : Type} {enc : TypeId × Value → H} {P : Program} {w : World} {base : Nat} {spare : Nat → Bool} {held : Bool}
theorem Fr.kept {W W' : World} (h : Fr [] W W') (p : MemPlace → Prop) : W.keptBut W' p :=
  ⟨h.os, h.output, fun i hi => by
    have e := h.block i hi (by simp)
    rw [e]
    cases hb : W.heap[i]? with
    | none => trivial
    | some o => cases o <;> simp⟩
/-- What is left of a post without 'again'. -/
theorem post_na {f : Func} {s : ChangeSpec} {apart fresh handsOn : Bool} {W W' : World} {args : Array Value} {v : Value} {ds gs : List (DataW H)} {before pa pv : List MemPlace}
    (hW : DataW.Whole enc P f.params.toList s.vars apart W args.toList ds gs before)
    (hres : ∀ (b : Nat) (sp : Nat → Bool) (hd : Bool), DataW.TrodAll enc P W' b sp hd f.resultTypes.toList (v.resultList f.resultTypes.size) (s.fn H (ds ++ gs)).results [])
    (hargs : ∀ sp : Nat → Bool, (∀ p ∈ before, sp p.block = true) → DataW.TrodAll enc P W' 0 sp true f.params.toList args.toList (s.fn H (ds ++ gs)).args pa)
    (hvars : ∀ sp : Nat → Bool, (∀ p ∈ before, sp p.block = true) → DataW.TrodVars enc P W' sp s.vars (s.fn H (ds ++ gs)).vars pv)
    (hps : before = pa ++ pv) (hk : W.keptBut W' (· ∈ before)) : s.post enc P f apart fresh handsOn false W args v W' := by
  have hold : ∀ p ∈ before, (fun b => decide (b < W.heap.size)) p.block = true := fun p hp => by simpa using hW.lt p hp
  refine ⟨ds, gs, before, [], pa, pv, hW, hres _ _ _, hargs _ hold, hvars _ hold, World.keptBut_mono (fun p hp => ⟨hp, ?_⟩) hk, fun h => by cases h⟩
  rw [hps, List.mem_append] at hp
  exact Or.inr hp
theorem all_stays (hl : laidOutB P = true) {W W' : World} {sp : Nat → Bool} (hb : Below W.heap.size W W') : ∀ {ts : List TypeId} {vs : List Value} {ds : List (DataW H)} {ps : List MemPlace}, (ts.all fun t => P.readableRec t && decide (t < P.types.size)) = true →
    DataW.TrodAll enc P W 0 (fun _ => true) true ts vs ds ps → (∀ p ∈ ps, sp p.block = true) → DataW.TrodAll enc P W' 0 sp true ts vs ds ps := by
  intro ts
  induction ts with
  | nil => intro vs ds ps _ h _; cases vs <;> cases ds <;> simp [DataW.TrodAll] at h ⊢; exact h
  | cons t ts ih =>
    intro vs ds ps ht h hs
    have hlt := h.lt
    obtain ⟨v, vs', d, ds', p, q, rfl, rfl, rfl, h1, h2⟩ := trodAll_cons h
    simp only [List.all_cons, Bool.and_eq_true, decide_eq_true_eq] at ht
    exact ⟨p, q, WideElems.Trod_stays hl ht.1.1 ht.1.2 h1 (fun x hx => hb.same (hlt x (List.mem_append_left _ hx))) (fun x hx => hs x (List.mem_append_left _ hx)),
      ih (by simpa using ht.2) h2 (fun x hx => hs x (List.mem_append_right _ hx)), rfl⟩
/-- A slice reads as the cells of its elements, each of which reads. -/
theorem slice_reads {t e : TypeId} {fuel : Nat} {cs : List Value} {x : DataW H × List MemPlace} (ht : P.underlying t = some (.slice e)) (hc : 0 < P.cellsOf e) (h : DataW.trod enc P w base spare held fuel t cs = some x) :
    ∃ ad cap, ∃ ess : List (List Value), cs = [.slice ad ess.length cap] ∧ ess.length ≤ maxLen ∧ Reads w (.slice ad ess.length cap) (P.cellsOf e) ess.length ess.flatten ∧ ∀ es ∈ ess, ∃ m y, DataW.trod enc P w base spare held m e es = some y := by
  rcases DataW.trod_slice ht h with ⟨rfl, _⟩ | ⟨a, len, cap, elems, rest, n, _, rfl, _, hb, hl, hm, hlen, hel, _, _⟩
  · exact ⟨none, 0, [], rfl, Nat.zero_le _, ⟨by simp, none, 0, rfl, fun h => absurd rfl h⟩, by simp⟩
  · -- the cells of each element
    have hone : ∀ i, i < len → ∃ es y, w.cells? base (a.add (i * P.cellsOf e)) (P.cellsOf e) = some es ∧ DataW.trod enc P w base spare held n e es = some y := fun i hi => by
      have h1 := hel i hi
      rw [List.getElem?_eq_getElem (by omega)] at h1
      obtain ⟨es, h2, h3⟩ := Option.bind_eq_some_iff.1 h1
      exact ⟨es, _, h2, h3⟩
    have hadd : ∀ m, a.spot = none → a.add m = ⟨a.block, a.off + m, none⟩ := fun m hs => by
      obtain ⟨b, o, sp⟩ := a
      simp only at hs
      subst hs
      unfold Addr.add; split
      · rename_i h0; subst h0; rfl
      · rfl
    have hsp0 : 0 < len → a.spot = none := fun h0 => by
      obtain ⟨es, y, g1, g2⟩ := hone 0 h0
      obtain ⟨_, hl1, hat⟩ := World.cells?_some g1
      have := hat 0 hc
      rw [List.getElem?_eq_getElem (by omega), Nat.zero_mul, show (a.add 0).add 0 = a from rfl] at this
      unfold World.cell? at this
      split at this
      · split at this
        · cases this
        · rename_i hs; simpa using hs
      · cases this
    have hcell : ∀ k, k ≤ len → ∃ ess : List (List Value), ess.length = k ∧ (∀ es ∈ ess, ∃ m y, DataW.trod enc P w base spare held m e es = some y) ∧ ess.flatten.length = k * P.cellsOf e ∧
        (k ≠ 0 → a.spot = none) ∧ ∀ j v, ess.flatten[j]? = some v → w.cell? ⟨a.block, a.off + j, none⟩ = some v := by
      intro k
      induction k with
      | zero => intro _; exact ⟨[], rfl, by simp, by simp, fun h => absurd rfl h, by simp⟩
      | succ k ih =>
        intro hk
        obtain ⟨ess, h1, h2, h3, h4, h5⟩ := ih (by omega)
        obtain ⟨es, y, g1, g2⟩ := hone k (by omega)
        obtain ⟨_, hl1, hat⟩ := World.cells?_some g1
        have hspot : a.spot = none := hsp0 (by omega)
        refine ⟨ess ++ [es], by simp [h1], fun u hu => ?_, ?_, fun _ => hspot, fun j v hv => ?_⟩
        · rcases List.mem_append.1 hu with hu | hu
          · exact h2 u hu
          · obtain rfl := List.mem_singleton.1 hu; exact ⟨n, y, g2⟩
        · rw [List.flatten_append, List.length_append, h3]; simp [hl1]; rw [Nat.add_mul]; omega
        · rw [List.flatten_append] at hv
          by_cases hj : j < ess.flatten.length
          · rw [List.getElem?_append_left hj] at hv; exact h5 j v hv
          · rw [List.getElem?_append_right (by omega)] at hv
            simp only [List.flatten_cons, List.flatten_nil, List.append_nil] at hv
            have hjl : j - ess.flatten.length < es.length := (List.getElem?_eq_some_iff.1 hv).1
            have := hat (j - ess.flatten.length) (by omega)
            rw [hv, hadd _ hspot] at this
            have e2 : (⟨a.block, a.off + k * P.cellsOf e, none⟩ : Addr).add (j - ess.flatten.length) = ⟨a.block, a.off + j, none⟩ := by
              unfold Addr.add; split
              · rename_i h0; simp only [Addr.mk.injEq, true_and, and_true]; omega
              · simp only [Addr.mk.injEq, true_and, and_true]; omega
            rw [e2] at this
            exact this
    obtain ⟨ess, h1, h2, h3, h4, h5⟩ := hcell len (Nat.le_refl _)
    subst h1
    refine ⟨some a, cap, ess, rfl, by omega, ⟨h3, _, _, rfl, fun hn => ⟨a.block, a.off, ?_, ?_⟩⟩, h2⟩
    · have := h4 hn
      obtain ⟨b, o, sp⟩ := a
      simp only at this
      subst this
      rfl
    · rw [← h3]
      generalize ess.flatten = vs at h5
      have key : ∀ (vs : List Value) (o : Nat), (∀ j v, vs[j]? = some v → w.cell? ⟨a.block, o + j, none⟩ = some v) → CA (fun k => w.cell? ⟨a.block, k, none⟩) o vs.length vs := by
        intro vs
        induction vs with
        | nil => intro o _; exact .nil
        | cons v vs ih => intro o hv; exact .cons (hv 0 v rfl) (ih (o + 1) fun j u hu => by rw [Nat.add_assoc, Nat.add_comm 1 j]; exact hv (j + 1) u hu)
      exact key vs a.off h5
theorem exists_map {α β : Type} {f : α → β} {q : α → Prop} : ∀ (l : List β), (∀ y ∈ l, ∃ x, y = f x ∧ q x) → ∃ xs : List α, l = xs.map f ∧ ∀ x ∈ xs, q x
  | [], _ => ⟨[], rfl, by simp⟩
  | y :: l, h => by
    obtain ⟨x, rfl, hq⟩ := h y List.mem_cons_self
    obtain ⟨xs, rfl, hxs⟩ := exists_map l (fun z hz => h z (List.mem_cons_of_mem _ hz))
    exact ⟨x :: xs, rfl, fun z hz => by rcases List.mem_cons.1 hz with rfl | hz; exact hq; exact hxs z hz⟩
theorem flatten_map_one {α : Type} (f : α → Value) (xs : List α) : (xs.map fun x => [f x]).flatten = xs.map f := by
  induction xs with
  | nil => rfl
  | cons x xs ih => simp [ih]
/-- A slice of integers of one kind. -/
theorem ints_reads {t e : TypeId} {k : IntKind} {fuel : Nat} {cs : List Value} {x : DataW H × List MemPlace} (ht : P.underlying t = some (.slice e)) (he : P.underlying e = some (.int k)) (hc : P.cellsOf e = 1) (h : DataW.trod enc P w base spare held fuel t cs = some x) :
    ∃ sl, ∃ xs : List Int, cs = [sl] ∧ xs.length ≤ maxLen ∧ Reads w sl 1 xs.length (xs.map (Value.int k)) ∧ ∀ n ∈ xs, (Lit.int k n).wf = true := by
  obtain ⟨ad, cap, ess, rfl, hm, hr, hes⟩ := slice_reads ht (by omega) h
  obtain ⟨xs, rfl, hxs⟩ := exists_map (f := fun n : Int => [Value.int k n]) (q := fun n => (Lit.int k n).wf = true) ess (fun es h => by
    obtain ⟨m, y, hy⟩ := hes es h
    obtain ⟨n, rfl, _, hw⟩ := DataW.trod_int he hy
    exact ⟨n, rfl, hw⟩)
  rw [flatten_map_one, hc] at hr
  simp only [List.length_map] at hr hm
  exact ⟨_, xs, by simp, hm, hr, hxs⟩
/-- The fields of a struct. -/
theorem fields_reads {t : TypeId} {fs : Array Field} {fuel : Nat} {cs : List Value} {x : DataW H × List MemPlace} (ht : P.underlying t = some (.struct fs)) (h : DataW.trod enc P w base spare held fuel t cs = some x) :
    cs.length = P.cellsOf t ∧ ∀ (i : Nat) (f : Field), fs[i]? = some f → ∃ m y, DataW.trod enc P w base spare held m f.type ((cs.drop f.offset).take (P.cellsOf f.type)) = some y := by
  obtain ⟨xs, n, _, _, hl, hx, hf⟩ := DataW.trod_struct ht h
  refine ⟨hl, fun i f hi => ?_⟩
  have := hf i f hi
  have hlt : i < fs.size := (Array.getElem?_eq_some_iff.1 hi).1
  rw [List.getElem?_eq_getElem (by omega)] at this
  exact ⟨n, _, this⟩
def flds (enc : TypeId × Value → H) (P : Program) (w : World) (base : Nat) (spare : Nat → Bool) (held : Bool) (cs : List Value) : List Field → Prop
  | [] => True
  | f :: fs => (∃ m y, DataW.trod enc P w base spare held m f.type ((cs.drop f.offset).take (P.cellsOf f.type)) = some y) ∧ flds enc P w base spare held cs fs
theorem fields_list {t : TypeId} {l : List Field} {fuel : Nat} {cs : List Value} {x : DataW H × List MemPlace} (ht : P.underlying t = some (.struct l.toArray)) (h : DataW.trod enc P w base spare held fuel t cs = some x) :
    cs.length = P.cellsOf t ∧ flds enc P w base spare held cs l := by
  obtain ⟨hl, hf⟩ := fields_reads ht h
  refine ⟨hl, ?_⟩
  have key : ∀ l' : List Field, (∀ f ∈ l', f ∈ l) → flds enc P w base spare held cs l' := by
    intro l'
    induction l' with
    | nil => intro _; trivial
    | cons f fs ih =>
      intro hm
      obtain ⟨i, hi, e⟩ := List.getElem_of_mem (hm f List.mem_cons_self)
      exact ⟨hf i f (by simp [hi, e]), ih fun g hg => hm g (List.mem_cons_of_mem _ hg)⟩
  exact key l fun _ h => h
end
end Go.Sp
/-
  What a sample reads as.
-/
namespace Go.Sp
open Go Go.Proofs Go.ChangeShapes Go.WideShapes Go.RowKit
theorem laidTryz : laidOutB Tryz.prog = true := by kernel_rfl
theorem cells_3 : Tryz.prog.cellsOf 3 = 1 := by kernel_rfl
theorem cells_4 : Tryz.prog.cellsOf 4 = 1 := by kernel_rfl
theorem cells_22 : Tryz.prog.cellsOf 22 = 1 := by kernel_rfl
theorem cells_23 : Tryz.prog.cellsOf 23 = 1 := by kernel_rfl
theorem cells_24 : Tryz.prog.cellsOf 24 = 1 := by kernel_rfl
theorem cells_72 : Tryz.prog.cellsOf 72 = 5 := by kernel_rfl
theorem cells_70 : Tryz.prog.cellsOf 70 = 2 := by kernel_rfl
theorem cells_74 : Tryz.prog.cellsOf 74 = 3 := by kernel_rfl
theorem cells_26 : Tryz.prog.cellsOf 26 = 7 := by kernel_rfl
theorem wf64 {n : Int} (h : (Lit.int .i64 n).wf = true) : -9223372036854775808 ≤ n ∧ n ≤ 9223372036854775807 := by
  simpa [Lit.wf, IntKind.min, IntKind.max, IntKind.signed, IntKind.bits] using h
theorem wf8 {n : Int} (h : (Lit.int .u8 n).wf = true) : 0 ≤ n ∧ n ≤ 255 := by
  simpa [Lit.wf, IntKind.min, IntKind.max, IntKind.signed, IntKind.bits] using h
theorem lenOf {n : Nat} (h : n ≤ maxLen) : (n : Int) ≤ 9223372036854775807 := by
  have : maxLen = 9223372036854775807 := by kernel_rfl
  omega
abbrev Bd (n : Int) : Prop := -9223372036854775808 ≤ n ∧ n ≤ 9223372036854775807
theorem two' {α : Type} {l : List α} (h : l.length = 2) : ∃ a b, l = [a, b] := by
  match l, h with
  | [a, b], _ => exact ⟨a, b, rfl⟩
theorem three' {α : Type} {l : List α} (h : l.length = 3) : ∃ a b c, l = [a, b, c] := by
  match l, h with
  | [a, b, c], _ => exact ⟨a, b, c, rfl⟩
theorem five' {α : Type} {l : List α} (h : l.length = 5) : ∃ a b c d e, l = [a, b, c, d, e] := by
  match l, h with
  | [a, b, c, d, e], _ => exact ⟨a, b, c, d, e, rfl⟩
theorem seven' {α : Type} {l : List α} (h : l.length = 7) : ∃ a b c d e f g, l = [a, b, c, d, e, f, g] := by
  match l, h with
  | [a, b, c, d, e, f, g], _ => exact ⟨a, b, c, d, e, f, g, rfl⟩
theorem flatten_map {α : Type} (enc : α → List Value) (xs : List α) : (xs.map enc).flatten = xs.flatMap enc := rfl
section
variable {H : Type} {enc : TypeId × Value → H} {w : World} {base : Nat} {spare : Nat → Bool} {held : Bool}
theorem bools_reads {fuel : Nat} {cs : List Value} {x : DataW H × List MemPlace} (h : DataW.trod enc Tryz.prog w base spare held fuel 22 cs = some x) :
    ∃ (sl : Value) (l : List Bool), cs = [sl] ∧ RdS 1 boE w sl l ∧ l.length ≤ maxLen := by
  obtain ⟨ad, cap, ess, rfl, hm, hr, hes⟩ := slice_reads Tryz.underlying22 (by rw [cells_4]; decide) h
  obtain ⟨xs, rfl, hxs⟩ := exists_map (f := boE) (q := fun _ => True) ess (fun es h => by
    obtain ⟨m, y, hy⟩ := hes es h
    obtain ⟨b, rfl, _⟩ := DataW.trod_bool Tryz.underlying4 hy
    exact ⟨b, rfl, trivial⟩)
  rw [flatten_map, cells_4] at hr
  simp only [List.length_map] at hr hm
  exact ⟨_, xs, by simp, hr, hm⟩
theorem rng_reads {fuel : Nat} {cs : List Value} {x : DataW H × List MemPlace} (h : DataW.trod enc Tryz.prog w base spare held fuel 70 cs = some x) :
    ∃ a b : Int, cs = [vi a, vi b] ∧ Bd a ∧ Bd b := by
  obtain ⟨hl, hf⟩ := fields_list Tryz.underlying70 h
  rw [cells_70] at hl
  obtain ⟨c0, c1, rfl⟩ := two' hl
  obtain ⟨⟨_, _, f0⟩, ⟨_, _, f1⟩, _⟩ := hf
  rw [cells_3] at f0 f1
  obtain ⟨n0, e0, _, w0⟩ := DataW.trod_int Tryz.underlying3 f0
  obtain ⟨n1, e1, _, w1⟩ := DataW.trod_int Tryz.underlying3 f1
  simp at e0 e1
  subst e0; subst e1
  exact ⟨n0, n1, rfl, wf64 w0, wf64 w1⟩
theorem pas_reads {fuel : Nat} {cs : List Value} {x : DataW H × List MemPlace} (h : DataW.trod enc Tryz.prog w base spare held fuel 72 cs = some x) :
    ∃ p : Pas, cs = psE p := by
  obtain ⟨hl, hf⟩ := fields_list Tryz.underlying72 h
  rw [cells_72] at hl
  obtain ⟨c0, c1, c2, c3, c4, rfl⟩ := five' hl
  obtain ⟨⟨_, _, f0⟩, ⟨_, _, f1⟩, ⟨_, _, f2⟩, ⟨_, _, f3⟩, _⟩ := hf
  rw [cells_3] at f0 f1 f2
  rw [cells_70] at f3
  obtain ⟨n0, e0, _, w0⟩ := DataW.trod_int Tryz.underlying3 f0
  obtain ⟨n1, e1, _, w1⟩ := DataW.trod_int Tryz.underlying3 f1
  obtain ⟨n2, e2, _, w2⟩ := DataW.trod_int Tryz.underlying3 f2
  obtain ⟨a, b, e3, _, _⟩ := rng_reads f3
  simp at e0 e1 e2 e3
  obtain ⟨rfl, rfl⟩ := e3
  subst e0; subst e1; subst e2
  exact ⟨⟨n0, n1, n2, a, b⟩, rfl⟩
theorem sgt_reads {fuel : Nat} {cs : List Value} {x : DataW H × List MemPlace} (h : DataW.trod enc Tryz.prog w base spare held fuel 74 cs = some x) :
    ∃ g : Sgt, cs = sgE g := by
  obtain ⟨hl, hf⟩ := fields_list Tryz.underlying74 h
  rw [cells_74] at hl
  obtain ⟨c0, c1, c2, rfl⟩ := three' hl
  obtain ⟨⟨_, _, f0⟩, ⟨_, _, f1⟩, ⟨_, _, f2⟩, _⟩ := hf
  rw [cells_3] at f0 f1
  rw [cells_4] at f2
  obtain ⟨n0, e0, _, w0⟩ := DataW.trod_int Tryz.underlying3 f0
  obtain ⟨n1, e1, _, w1⟩ := DataW.trod_int Tryz.underlying3 f1
  obtain ⟨b, e2, _⟩ := DataW.trod_bool Tryz.underlying4 f2
  simp at e0 e1 e2
  subst e0; subst e1; subst e2
  exact ⟨⟨n0, n1, b⟩, rfl⟩
theorem pass_reads {fuel : Nat} {cs : List Value} {x : DataW H × List MemPlace} (h : DataW.trod enc Tryz.prog w base spare held fuel 23 cs = some x) :
    ∃ (sl : Value) (l : List Pas), cs = [sl] ∧ RdS 5 psE w sl l ∧ l.length ≤ maxLen := by
  obtain ⟨ad, cap, ess, rfl, hm, hr, hes⟩ := slice_reads Tryz.underlying23 (by rw [cells_72]; decide) h
  obtain ⟨xs, rfl, hxs⟩ := exists_map (f := psE) (q := fun _ => True) ess (fun es h => by
    obtain ⟨m, y, hy⟩ := hes es h
    obtain ⟨p, hp⟩ := pas_reads hy
    exact ⟨p, hp, trivial⟩)
  rw [flatten_map, cells_72] at hr
  simp only [List.length_map] at hr hm
  exact ⟨_, xs, by simp, hr, hm⟩
theorem sgts_reads {fuel : Nat} {cs : List Value} {x : DataW H × List MemPlace} (h : DataW.trod enc Tryz.prog w base spare held fuel 24 cs = some x) :
    ∃ (sl : Value) (l : List Sgt), cs = [sl] ∧ RdS 3 sgE w sl l ∧ l.length ≤ maxLen := by
  obtain ⟨ad, cap, ess, rfl, hm, hr, hes⟩ := slice_reads Tryz.underlying24 (by rw [cells_74]; decide) h
  obtain ⟨xs, rfl, hxs⟩ := exists_map (f := sgE) (q := fun _ => True) ess (fun es h => by
    obtain ⟨m, y, hy⟩ := hes es h
    obtain ⟨p, hp⟩ := sgt_reads hy
    exact ⟨p, hp, trivial⟩)
  rw [flatten_map, cells_74] at hr
  simp only [List.length_map] at hr hm
  exact ⟨_, xs, by simp, hr, hm⟩
theorem smp_reads {fuel : Nat} {cs : List Value} {x : DataW H × List MemPlace} (h : DataW.trod enc Tryz.prog w base spare held fuel 26 cs = some x) :
    ∃ (s : Smp) (tv pv gv : Value), cs = [vi s.B, vi s.P, vi s.L, vi s.F, tv, pv, gv] ∧ RdSm w s tv pv gv := by
  obtain ⟨hl, hf⟩ := fields_list Tryz.underlying26 h
  rw [cells_26] at hl
  obtain ⟨c0, c1, c2, c3, c4, c5, c6, rfl⟩ := seven' hl
  obtain ⟨⟨_, _, f0⟩, ⟨_, _, f1⟩, ⟨_, _, f2⟩, ⟨_, _, f3⟩, ⟨_, _, f4⟩, ⟨_, _, f5⟩, ⟨_, _, f6⟩, _⟩ := hf
  rw [cells_3] at f0 f1 f2 f3
  rw [cells_22] at f4
  rw [cells_23] at f5
  rw [cells_24] at f6
  obtain ⟨n0, e0, _, w0⟩ := DataW.trod_int Tryz.underlying3 f0
  obtain ⟨n1, e1, _, w1⟩ := DataW.trod_int Tryz.underlying3 f1
  obtain ⟨n2, e2, _, w2⟩ := DataW.trod_int Tryz.underlying3 f2
  obtain ⟨n3, e3, _, w3⟩ := DataW.trod_int Tryz.underlying3 f3
  obtain ⟨tv, st, e4, h4, _⟩ := bools_reads f4
  obtain ⟨pv, ps, e5, h5, _⟩ := pass_reads f5
  obtain ⟨gv, sg, e6, h6, _⟩ := sgts_reads f6
  simp at e0 e1 e2 e3 e4 e5 e6
  subst e0; subst e1; subst e2; subst e3; subst e4; subst e5; subst e6
  exact ⟨⟨n0, n1, n2, n3, st, ps, sg⟩, _, _, _, rfl, h4, h5, h6⟩
end
end Go.Sp
/-
  What a table reads as.
-/
namespace Go.Sp
open Go Go.Proofs Go.ChangeShapes Go.WideShapes Go.RowKit
theorem cells_30 : Tryz.prog.cellsOf 30 = 3 := by kernel_rfl
theorem cells_27 : Tryz.prog.cellsOf 27 = 1 := by kernel_rfl
theorem cells_28 : Tryz.prog.cellsOf 28 = 1 := by kernel_rfl
section
variable {H : Type} {enc : TypeId × Value → H} {w : World} {base : Nat} {spare : Nat → Bool} {held : Bool}
theorem llJ_reads {fuel : Nat} {cs : List Value} {x : DataW H × List MemPlace} (h : DataW.trod enc Tryz.prog w base spare held fuel 28 cs = some x) :
    ∃ (sl : Value) (xss : List (List Int)), cs = [sl] ∧ RdLL 1 inE w sl xss ∧ xss.length ≤ maxLen ∧ ∀ i, i < xss.length → (xss.getD i []).length ≤ maxLen := by
  obtain ⟨ad, cap, ess, rfl, hm, hr, hes⟩ := slice_reads Tryz.underlying28 (by rw [cells_27]; decide) h
  obtain ⟨ps, rfl, hps⟩ := exists_map (f := fun p : Sv × List Int => svE p.1) (q := fun p => RdI w p.1.1 p.2 ∧ p.2.length ≤ maxLen) ess (fun es h => by
    obtain ⟨m, y, hy⟩ := hes es h
    obtain ⟨sl, xs, e0, hl, hre, _⟩ := ints_reads Tryz.underlying27 Tryz.underlying3 cells_3 hy
    have hre' : RdI w sl xs := hre
    exact ⟨(⟨sl, hre'.one⟩, xs), e0, hre', hl⟩)
  rw [cells_27] at hr
  simp only [List.length_map] at hr hm
  refine ⟨_, ps.map Prod.snd, rfl, ⟨ps.map Prod.fst, ?_, by simp, fun j hj => ?_⟩, by simpa using hm, fun i hi => ?_⟩
  · have e1 : (ps.map fun p : Sv × List Int => svE p.1).flatten = (ps.map Prod.fst).flatMap svE := by rw [List.flatMap_def, List.map_map]; rfl
    rw [e1] at hr
    unfold RdS
    simp only [List.length_map] at hr ⊢
    exact hr
  · rw [List.length_map] at hj
    have h1 := (hps _ (List.getElem_mem hj)).1
    rw [List.getD_eq_getElem?_getD, List.getD_eq_getElem?_getD, List.getElem?_map, List.getElem?_map, List.getElem?_eq_getElem hj]
    exact RdI.toS h1
  · rw [List.length_map] at hi
    have h1 := (hps _ (List.getElem_mem hi)).2
    rw [List.getD_eq_getElem?_getD, List.getElem?_map, List.getElem?_eq_getElem hi]
    exact h1
theorem tab_reads {fuel : Nat} {cs : List Value} {x : DataW H × List MemPlace} (h : DataW.trod enc Tryz.prog w base spare held fuel 30 cs = some x) :
    ∃ (t : Tab) (wv mv vv : Value), cs = [wv, mv, vv] ∧ RdTb w t wv mv vv ∧ TbSized t := by
  obtain ⟨hl, hf⟩ := fields_list Tryz.underlying30 h
  rw [cells_30] at hl
  obtain ⟨c0, c1, c2, rfl⟩ := three' hl
  obtain ⟨⟨_, _, f0⟩, ⟨_, _, f1⟩, ⟨_, _, f2⟩, _⟩ := hf
  rw [cells_27] at f0 f1
  rw [cells_28] at f2
  obtain ⟨wv, ws, e0, hl0, hr0, _⟩ := ints_reads Tryz.underlying27 Tryz.underlying3 cells_3 f0
  obtain ⟨mv, ms, e1, hl1, hr1, _⟩ := ints_reads Tryz.underlying27 Tryz.underlying3 cells_3 f1
  obtain ⟨vv, vs, e2, hr2, hl2, hl3⟩ := llJ_reads f2
  simp at e0 e1 e2
  subst e0; subst e1; subst e2
  exact ⟨⟨ws, ms, vs⟩, _, _, _, rfl, ⟨hr0, hr1, hr2⟩, ⟨lenOf hl0, lenOf hl1, lenOf hl2, fun i hi => lenOf (hl3 i hi)⟩⟩
end
end Go.Sp
