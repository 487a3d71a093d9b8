
/-
  Package trial: the reference's error of a trial.
-/
import Derived.Test.YtegojecjmaifdaaGreatM2
import Derived.Lib.SlicesCompact
import Derived.Shelf.Sort.Plain
import Derived.Shelf.Slices.CompactI
import Derived.Test.YtegojecjmaifdaaGreatProg
set_option linter.unusedVariables false
set_option linter.unusedSimpArgs false
set_option linter.deprecated false
namespace Go.Sp
open Go Go.Proofs
theorem chkT_bad {t : Tr} (h0 : chkF t.s = 0) (h1 : ¬ (3 < t.parts.length ∨ 3 < t.liquids.length ∨ 6 < t.tests.length)) (h : partB t = false ∨ ¬ (0 ≤ t.worst ∧ t.worst ≤ 3) ∨ t.liquids.length = 0 ∨ t.liquids.all lqB = false ∨ t.tests.all (tsB t) = false) : chkT t = 1 := by
  unfold chkT
  rw [if_neg (by omega), if_neg h1, if_neg]
  rintro ⟨g1, g2, g3, g4, g5⟩
  rcases h with h | h | h | h | h
  · rw [g1] at h; cases h
  · exact h g2
  · exact g3 h
  · rw [g4] at h; cases h
  · rw [g5] at h; cases h
theorem all_bad {α : Type} {l : List α} {p : α → Bool} {i : Nat} {x : α} (hi : i < l.length) (h : p (l.getD i x) = false) : l.all p = false := by
  cases hb : l.all p
  · rfl
  · have := List.all_eq_true.1 hb (l.getD i x) (by rw [List.getD_eq_getElem?_getD, List.getElem?_eq_getElem hi]; exact List.getElem_mem hi)
    rw [h] at this; cases this
theorem all_good {α : Type} {l : List α} {p : α → Bool} {x : α} (h : ∀ i : Nat, i < l.length → p (l.getD i x) = true) : l.all p = true := List.all_eq_true.2 fun y hy => by
  obtain ⟨i, hi, rfl⟩ := List.getElem_of_mem hy
  have := h i hi
  rw [List.getD_eq_getElem?_getD, List.getElem?_eq_getElem hi] at this
  exact this
theorem partB_bad {t : Tr} {i : Nat} (hi : i < t.parts.length) (h : okAt (partQ t) (-1) t.parts i = false) : partB t = false := by
  unfold partB
  cases hb : allS (partQ t) (-1) t.parts
  · rw [Bool.and_false]
  · have := List.all_eq_true.1 hb i (List.mem_range.2 hi)
    rw [h] at this; cases this
theorem okAt_i {t : Tr} {i : Nat} (h : 0 < i) : okAt (partQ t) (-1) t.parts i = decide (t.parts.getD (i - 1) 0 < t.parts.getD i 0 ∧ (0 ≤ t.parts.getD i 0 ∧ t.parts.getD i 0 ≤ t.s.divisions)) := by
  unfold okAt lastAt partQ
  rw [if_neg (by omega)]
theorem partB_0 {t : Tr} (h : t.parts.length = 0 ∨ ¬ t.parts.getD 0 0 = 0) : partB t = false := by
  unfold partB; rw [decide_eq_false (by omega), Bool.false_and]
theorem bad7 {t : Tr} (h : t.parts.length = 0 ∨ ¬ t.parts.getD 0 0 = 0 ∨ ¬ (0 ≤ t.worst ∧ t.worst ≤ 3) ∨ t.liquids.length = 0) : partB t = false ∨ ¬ (0 ≤ t.worst ∧ t.worst ≤ 3) ∨ t.liquids.length = 0 ∨ t.liquids.all lqB = false ∨ t.tests.all (tsB t) = false := by
  rcases h with h | h | h | h
  · exact .inl (partB_0 (.inl h))
  · exact .inl (partB_0 (.inr h))
  · exact .inr (.inl h)
  · exact .inr (.inr (.inl h))
theorem partB_yes {t : Tr} (h1 : 1 ≤ t.parts.length) (h0 : t.parts.getD 0 0 = 0) (hd : 1 ≤ t.s.divisions) (h : ∀ j : Nat, 0 < j → j < t.parts.length → okAt (partQ t) (-1) t.parts j = true) : partB t = true := by
  unfold partB
  rw [Bool.and_eq_true]
  refine ⟨decide_eq_true ⟨by omega, h0⟩, List.all_eq_true.2 fun j hj => ?_⟩
  by_cases e : j = 0
  · subst e
    unfold okAt lastAt partQ
    rw [if_pos rfl, h0]; exact decide_eq_true (by omega)
  · exact h j (by omega) (List.mem_range.1 hj)
theorem chkT_good {t : Tr} (h0 : chkF t.s = 0) (h1 : ¬ (3 < t.parts.length ∨ 3 < t.liquids.length ∨ 6 < t.tests.length)) (g1 : partB t = true) (g2 : 0 ≤ t.worst ∧ t.worst ≤ 3) (g3 : ¬ t.liquids.length = 0) (g4 : t.liquids.all lqB = true) (g5 : t.tests.all (tsB t) = true) : chkT t = 0 := by
  unfold chkT
  rw [if_neg (by omega), if_neg h1, if_pos ⟨g1, g2, g3, g4, g5⟩]
set_option maxHeartbeats 1000000 in
theorem faultT_c (t : Tr) (hn : NT t) (sl pl ll tl : Value) (w : World) (hr : RdTr w t sl pl ll tl) : CnV Tryz.prog 41 #[trV t sl pl ll tl] w (vi (chkT t)) := by
  have hr0 := hr
  obtain ⟨ad1, cp1, bp, op, rfl, hadp, hcp⟩ := hr.ps.open
  obtain ⟨ad2, cp2, bl, ol, rfl, hadl, hcl⟩ := hr.ls.open
  obtain ⟨ad3, cp3, bt, ot, rfl, hadt, hct⟩ := hr.ts.open
  obtain ⟨ad0, cp0, b0, o0, rfl, _, _⟩ := hr.ws.open
  refine cnv (vs := [_]) Tryz.func41 rfl rfl ?_
  all_goals refine tc_seq fun K1 hK1 => ?_; refine tc_region ?_; refine tl_e (e_box rfl rfl rfl) rfl (fun b1 _ => ?_); refine tl_q (y_assign rfl) rfl ?_; refine tl_nil ?_; ((refine hK1 ?_; try (clear hK1; clear K1)))
  all_goals refine tc_seq fun K2 hK2 => ?_; refine tc_seq fun K3 hK3 => ?_; refine tc_region ?_; refine tl_q (y_field rfl) rfl ?_; ((refine tl_q (y_loadN rfl (by repeat constructor) (by (repeat (first | exact .nil | apply CA.cons rfl)); done)) rfl ?_))
  all_goals refine tl_e (e_callV rfl (.cons rfl .nil) (fun w' hw' => fault_c t.s hn.ws _ w' (hr0.ws.fr (hw'.fr (by simp))))) rfl (fun _ _ => ?_); refine tl_q (y_assign rfl) rfl ?_; refine tl_nil ?_; ((refine hK3 ?_; try (clear hK3; clear K3)))
  all_goals refine tc_seq fun K4 hK4 => ?_; refine tc_region ?_; refine tl_q (y_move rfl) rfl ?_; refine tl_q (y_neq rfl rfl) rfl ?_; refine tl_nil ?_; ((refine hK4 ?_; try (clear hK4; clear K4)))
  all_goals (
   refine tc_cond rfl (fun hc => ?_) (fun hc => ?_)
   · try simp only [qn1, qn2, qn3, qn4, qn5, qn6, qn7, qn8] at hc
     all_goals refine tc_seq fun K5 hK5 => ?_; refine tc_region ?_; refine tl_q (y_move rfl) rfl ?_; refine tl_q (y_assign rfl) rfl ?_; refine tl_nil ?_; ((refine hK5 ?_; try (clear hK5; clear K5)))
     all_goals refine tc_ret ?_; (repeat (refine tk_then_ret ?_))
     all_goals (refine tk_ret rfl rfl (.cons (.tmp rfl) .nil) ?_)
     all_goals (
      refine fun w' hw' => ⟨congrArg (fun n => Ending.returned (Value.int .i64 n)) ?_, hw'.fr (by simp)⟩
      first
      | exact hfin.symm
      | exact (chkT_bad hc0 (by omega) hbad).symm
      | (unfold chkT; rw [if_neg (by omega), if_pos (by omega)])
      | (unfold chkT; rw [if_pos (by omega)]))
   · try simp only [qn1, qn2, qn3, qn4, qn5, qn6, qn7, qn8] at hc
     all_goals refine tc_skip ?_; ((refine hK2 ?_; try (clear hK2; clear K2)))
     all_goals refine tc_seq fun K6 hK6 => ?_; refine tc_seq fun K7 hK7 => ?_; (have hc0 : chkF t.s = 0 := by omega)
     all_goals ((have hvs := chkF_valid.1 hc0; have hd1 := hvs.d1; have hd2 := hvs.d2))
     all_goals refine tc_region ?_; refine tl_q (y_field rfl) rfl ?_; refine tl_q (y_load1 rfl (by repeat constructor) (by rfl)) rfl ?_; refine tl_q (y_len rfl) rfl ?_; refine tl_q (y_gtr rfl rfl) rfl ?_; refine tl_q (y_move rfl) rfl ?_; ((refine tl_gs rfl rfl (fun hc => ?_) (fun hc => ?_) <;> (try simp only [qn1, qn2, qn3, qn4, qn5, qn6, qn7, qn8] at hc) <;> (first | refine tl_sk rfl rfl rfl rfl ?_ | refine tl_qg rfl rfl (y_field rfl) rfl ?_)))
     all_goals (first | refine tl_sk rfl rfl rfl rfl ?_ | refine tl_qg rfl rfl (y_load1 rfl (by repeat constructor) (by rfl)) rfl ?_); (first | refine tl_sk rfl rfl rfl rfl ?_ | refine tl_qg rfl rfl (y_len rfl) rfl ?_); (first | refine tl_sk rfl rfl rfl rfl ?_ | refine tl_qg rfl rfl (y_gtr rfl rfl) rfl ?_); (first | refine tl_q (y_pick_t rfl rfl) rfl ?_ | refine tl_q (y_pick_f rfl rfl) rfl ?_); refine tl_q (y_move rfl) rfl ?_; ((first | refine tl_sk rfl rfl rfl rfl ?_ | (refine tl_gs rfl rfl (fun hc => ?_) (fun hc => ?_) <;> (try simp only [qn1, qn2, qn3, qn4, qn5, qn6, qn7, qn8] at hc) <;> (first | refine tl_sk rfl rfl rfl rfl ?_ | refine tl_qg rfl rfl (y_field rfl) rfl ?_))))
     all_goals (first | refine tl_sk rfl rfl rfl rfl ?_ | refine tl_qg rfl rfl (y_load1 rfl (by repeat constructor) (by rfl)) rfl ?_); (first | refine tl_sk rfl rfl rfl rfl ?_ | refine tl_qg rfl rfl (y_len rfl) rfl ?_); (first | refine tl_sk rfl rfl rfl rfl ?_ | refine tl_qg rfl rfl (y_gtr rfl rfl) rfl ?_); (first | refine tl_q (y_pick_t rfl rfl) rfl ?_ | refine tl_q (y_pick_f rfl rfl) rfl ?_); refine tl_nil ?_; ((refine hK7 ?_; try (clear hK7; clear K7)))
     all_goals (
      refine tc_cond rfl (fun hc => ?_) (fun hc => ?_)
      · try simp only [qn1, qn2, qn3, qn4, qn5, qn6, qn7, qn8] at hc
        all_goals refine tc_seq fun K8 hK8 => ?_; refine tc_region ?_; refine tl_q (y_assign rfl) rfl ?_; refine tl_nil ?_; ((refine hK8 ?_; try (clear hK8; clear K8)))
        all_goals refine tc_ret ?_; (repeat (refine tk_then_ret ?_))
        all_goals (refine tk_ret rfl rfl (.cons (.tmp rfl) .nil) ?_)
        all_goals (
         refine fun w' hw' => ⟨congrArg (fun n => Ending.returned (Value.int .i64 n)) ?_, hw'.fr (by simp)⟩
         first
         | exact hfin.symm
         | exact (chkT_bad hc0 (by omega) hbad).symm
         | (unfold chkT; rw [if_neg (by omega), if_pos (by omega)])
         | (unfold chkT; rw [if_pos (by omega)]))
      · try simp only [qn1, qn2, qn3, qn4, qn5, qn6, qn7, qn8] at hc
        all_goals ((first | (exfalso; with_reducible exact btf hc) | skip))
        all_goals refine tc_skip ?_; ((refine hK6 ?_; try (clear hK6; clear K6)))
        all_goals refine tc_seq fun K9 hK9 => ?_; refine tc_seq fun K10 hK10 => ?_; refine tc_region ?_; refine tl_q (y_field rfl) rfl ?_; refine tl_q (y_load1 rfl (by repeat constructor) (by rfl)) rfl ?_; refine tl_q (y_len rfl) rfl ?_; refine tl_q (y_eql rfl rfl) rfl ?_; refine tl_q (y_move rfl) rfl ?_; ((refine tl_gs rfl rfl (fun hc => ?_) (fun hc => ?_) <;> (try simp only [qn1, qn2, qn3, qn4, qn5, qn6, qn7, qn8] at hc) <;> (first | refine tl_sk rfl rfl rfl rfl ?_ | refine tl_qg rfl rfl (y_field rfl) rfl ?_)))
        all_goals (first | refine tl_sk rfl rfl rfl rfl ?_ | refine tl_qg rfl rfl (y_load1 rfl (by repeat constructor) (by rfl)) rfl ?_); (first | refine tl_sk rfl rfl rfl rfl ?_ | refine tl_qg rfl rfl (y_index rfl rfl (by omega) (hadp (by omega))) rfl ?_); (first | refine tl_sk rfl rfl rfl rfl ?_ | refine tl_qg rfl rfl (y_load1o (v := vi (t.parts.getD 0 0)) rfl (fun w' hw' => hcp w' (hw'.fr (w0 := w) (S := []) (by simp)) 0 (by omega))) rfl ?_); (first | refine tl_sk rfl rfl rfl rfl ?_ | refine tl_qg rfl rfl (y_neq rfl rfl) rfl ?_); (first | refine tl_q (y_pick_t rfl rfl) rfl ?_ | refine tl_q (y_pick_f rfl rfl) rfl ?_); refine tl_q (y_move rfl) rfl ?_; ((first | refine tl_sk rfl rfl rfl rfl ?_ | (refine tl_gs rfl rfl (fun hc => ?_) (fun hc => ?_) <;> (try simp only [qn1, qn2, qn3, qn4, qn5, qn6, qn7, qn8] at hc) <;> (first | refine tl_sk rfl rfl rfl rfl ?_ | refine tl_qg rfl rfl (y_field rfl) rfl ?_))))
        all_goals (first | refine tl_sk rfl rfl rfl rfl ?_ | refine tl_qg rfl rfl (y_load1 rfl (by repeat constructor) (by rfl)) rfl ?_); (first | refine tl_sk rfl rfl rfl rfl ?_ | refine tl_eg rfl rfl rfl (e_callV rfl (.cons rfl (.cons rfl (.cons rfl .nil))) (fun w' _ => in_c _ _ _ w')) (fun _ _ => ?_)); (first | refine tl_sk rfl rfl rfl rfl ?_ | refine tl_qg rfl rfl (y_not_dec rfl) rfl ?_); (first | refine tl_q (y_pick_t rfl rfl) rfl ?_ | refine tl_q (y_pick_f rfl rfl) rfl ?_); refine tl_q (y_move rfl) rfl ?_; ((first | refine tl_sk rfl rfl rfl rfl ?_ | (refine tl_gs rfl rfl (fun hc => ?_) (fun hc => ?_) <;> (try simp only [qn1, qn2, qn3, qn4, qn5, qn6, qn7, qn8] at hc) <;> (first | refine tl_sk rfl rfl rfl rfl ?_ | refine tl_qg rfl rfl (y_field rfl) rfl ?_))))
        all_goals (first | refine tl_sk rfl rfl rfl rfl ?_ | refine tl_qg rfl rfl (y_load1 rfl (by repeat constructor) (by rfl)) rfl ?_); (first | refine tl_sk rfl rfl rfl rfl ?_ | refine tl_qg rfl rfl (y_len rfl) rfl ?_); (first | refine tl_sk rfl rfl rfl rfl ?_ | refine tl_qg rfl rfl (y_eql rfl rfl) rfl ?_); (first | refine tl_q (y_pick_t rfl rfl) rfl ?_ | refine tl_q (y_pick_f rfl rfl) rfl ?_); refine tl_nil ?_; ((refine hK10 ?_; try (clear hK10; clear K10)))
        all_goals (
         refine tc_cond rfl (fun hc => ?_) (fun hc => ?_)
         · try simp only [qn1, qn2, qn3, qn4, qn5, qn6, qn7, qn8] at hc
           all_goals refine tc_seq fun K11 hK11 => ?_; (have hbad := bad7 (t := t) (by omega))
           all_goals refine tc_region ?_; refine tl_q (y_assign rfl) rfl ?_; refine tl_nil ?_; ((refine hK11 ?_; try (clear hK11; clear K11)))
           all_goals refine tc_ret ?_; (repeat (refine tk_then_ret ?_))
           all_goals (refine tk_ret rfl rfl (.cons (.tmp rfl) .nil) ?_)
           all_goals (
            refine fun w' hw' => ⟨congrArg (fun n => Ending.returned (Value.int .i64 n)) ?_, hw'.fr (by simp)⟩
            first
            | exact hfin.symm
            | exact (chkT_bad hc0 (by omega) hbad).symm
            | (unfold chkT; rw [if_neg (by omega), if_pos (by omega)])
            | (unfold chkT; rw [if_pos (by omega)]))
         · try simp only [qn1, qn2, qn3, qn4, qn5, qn6, qn7, qn8] at hc
           all_goals ((first | (exfalso; with_reducible exact btf hc) | skip))
           all_goals refine tc_skip ?_; ((refine hK9 ?_; try (clear hK9; clear K9)))
           all_goals refine tc_seq fun K12 hK12 => ?_; refine tc_seq fun K13 hK13 => ?_; refine tc_region ?_; refine tl_q (y_assign rfl) rfl ?_; refine tl_nil ?_; ((refine hK13 ?_; try (clear hK13; clear K13)))
           all_goals refine tc_block ?_
           all_goals (
            refine tc_loop (fun i : Nat => 1 ≤ i ∧ i ≤ t.parts.length ∧ (0 ≤ t.parts.getD (i - 1) 0 ∧ t.parts.getD (i - 1) 0 ≤ t.s.divisions) ∧ ∀ j : Nat, 0 < j → j < i → okAt (partQ t) (-1) t.parts j = true) (fun i => [(1, ptr b1), (4, vi i)]) (fun _ => [(w, [])]) (fun i => [(b1, .cells (trV t (.slice ad0 t.s.weights.length cp0) (.slice ad1 t.parts.length cp1) (.slice ad2 t.liquids.length cp2) (.slice ad3 t.tests.length cp3)).cells 28 (0, 0))]) (fun i => t.parts.length - i) ?_ ?_
            · exact tk_start 1 ⟨Nat.le_refl _, by omega, (by omega : 0 ≤ t.parts.getD 0 0 ∧ t.parts.getD 0 0 ≤ t.s.divisions), fun j h1 h2 => absurd h1 (by omega)⟩ (.cons rfl (.cons rfl .nil)) (fun _ h => h)
            · rintro i ⟨hi1, hi, hpi, hI⟩
              all_goals refine tc_seq fun K14 hK14 => ?_; refine tc_seq fun K15 hK15 => ?_; refine tc_region ?_; refine tl_q (y_move rfl) rfl ?_; refine tl_q (y_field rfl) rfl ?_; refine tl_q (y_load1 rfl (by repeat constructor) (by rfl)) rfl ?_; refine tl_q (y_len rfl) rfl ?_; refine tl_q (y_lss rfl rfl) rfl ?_; refine tl_nil ?_; ((refine hK15 ?_; try (clear hK15; clear K15)))
              all_goals (
               refine tc_cond rfl (fun hc => ?_) (fun hc => ?_)
               · try simp only [qn1, qn2, qn3, qn4, qn5, qn6, qn7, qn8] at hc
                 all_goals refine tc_skip ?_; ((refine hK14 ?_; try (clear hK14; clear K14)))
                 all_goals refine tc_seq fun K16 hK16 => ?_; refine tc_block ?_; refine tc_seq fun K17 hK17 => ?_; (have hok := okAt_i (t := t) (i := i) (by omega))
                 all_goals refine tc_draw (by kernel_rfl) ?_; refine tx_p 0 rfl (by kernel_rfl) (y_field rfl) rfl (fun _ _ _ h => h) (fun _ h => h) ?_; refine tx_q 1 rfl (by kernel_rfl) (y_load1 rfl (by repeat constructor) (by rfl)) rfl (fun _ _ _ h => h) (fun _ h => h) ?_; refine tx_p 2 rfl (by kernel_rfl) (y_move rfl) rfl (fun _ _ _ h => h) (fun _ h => h) ?_; refine tx_p 3 rfl (by kernel_rfl) (y_index rfl rfl (by omega) (hadp (by omega))) rfl (fun _ _ _ h => h) (fun _ h => h) ?_; ((refine tx_q 4 rfl (by kernel_rfl) (y_load1o (v := vi (t.parts.getD i 0)) rfl (fun w' hw' => by rw [show Int.toNat (i : Int) * 1 = i from by omega]; exact hcp w' (hw'.fr (w0 := w) (S := []) (by simp)) i (by omega))) rfl (fun _ _ _ h => h) (fun _ h => h) ?_))
                 all_goals refine tx_p 5 rfl (by kernel_rfl) (y_field rfl) rfl (fun _ _ _ h => h) (fun _ h => h) ?_; refine tx_q 6 rfl (by kernel_rfl) (y_load1 rfl (by repeat constructor) (by rfl)) rfl (fun _ _ _ h => h) (fun _ h => h) ?_; refine tx_p 7 rfl (by kernel_rfl) (y_move rfl) rfl (fun _ _ _ h => h) (fun _ h => h) ?_; refine tx_p 8 rfl (by kernel_rfl) (y_sub rfl rfl (by omega)) rfl (fun _ _ _ h => h) (fun _ h => h) ?_; refine tx_p 9 rfl (by kernel_rfl) (y_index rfl rfl (by omega) (hadp (by omega))) rfl (fun _ _ _ h => h) (fun _ h => h) ?_; ((refine tx_q 10 rfl (by kernel_rfl) (y_load1o (v := vi (t.parts.getD (i - 1) 0)) rfl (fun w' hw' => by rw [show Int.toNat ((i : Int) - 1) * 1 = i - 1 from by omega]; exact hcp w' (hw'.fr (w0 := w) (S := []) (by simp)) (i - 1) (by omega))) rfl (fun _ _ _ h => h) (fun _ h => h) ?_))
                 all_goals refine tx_p 11 rfl (by kernel_rfl) (y_add rfl rfl (by omega)) rfl (fun _ _ _ h => h) (fun _ h => h) ?_; refine tx_p 12 rfl (by kernel_rfl) (y_field rfl) rfl (fun _ _ _ h => h) (fun _ h => h) ?_; refine tx_p 13 rfl (by kernel_rfl) (y_field rfl) rfl (fun _ _ _ h => h) (fun _ h => h) ?_; refine tx_q 14 rfl (by kernel_rfl) (y_load1 rfl (by repeat constructor) (by rfl)) rfl (fun _ _ _ h => h) (fun _ h => h) ?_; refine tx_e 15 rfl (by kernel_rfl) rfl (e_callV rfl (.cons rfl (.cons rfl (.cons rfl .nil))) (fun w' _ => in_c _ _ _ w')) (.inr fun _ _ h => h) (fun _ _ => ?_); refine tx_p 16 rfl (by kernel_rfl) (y_not_dec rfl) rfl (fun _ _ _ h => h) (fun _ h => h) ?_; refine tx_done (by kernel_rfl) ?_; ((refine hK17 ?_; try (clear hK17; clear K17)))
                 all_goals (
                  refine tc_cond rfl (fun hc => ?_) (fun hc => ?_)
                  · try simp only [qn1, qn2, qn3, qn4, qn5, qn6, qn7, qn8] at hc
                    all_goals refine tc_seq fun K18 hK18 => ?_; (have hbad : partB t = false ∨ ¬ (0 ≤ t.worst ∧ t.worst ≤ 3) ∨ t.liquids.length = 0 ∨ t.liquids.all lqB = false ∨ t.tests.all (tsB t) = false := .inl (partB_bad (i := i) (by omega) (hok.trans (decide_eq_false (by omega)))))
                    all_goals refine tc_region ?_; refine tl_q (y_assign rfl) rfl ?_; refine tl_nil ?_; ((refine hK18 ?_; try (clear hK18; clear K18)))
                    all_goals refine tc_ret ?_; (repeat (first | refine tk_then_ret ?_ | refine tk_block_ret ?_))
                    all_goals (refine tk_ret rfl rfl (.cons (.tmp rfl) .nil) ?_)
                    all_goals (
                     refine fun w' hw' => ⟨congrArg (fun n => Ending.returned (Value.int .i64 n)) ?_, hw'.fr (by simp)⟩
                     first
                     | exact hfin.symm
                     | exact (chkT_bad hc0 (by omega) hbad).symm
                     | (unfold chkT; rw [if_neg (by omega), if_pos (by omega)])
                     | (unfold chkT; rw [if_pos (by omega)]))
                  · try simp only [qn1, qn2, qn3, qn4, qn5, qn6, qn7, qn8] at hc
                    all_goals refine tc_skip ?_; ((refine hK16 ?_; try (clear hK16; clear K16)))
                    all_goals refine tc_region ?_; refine tl_q (y_move rfl) rfl ?_; refine tl_q (y_add rfl rfl (by omega)) rfl ?_; refine tl_q (y_assign rfl) rfl ?_; refine tl_nil ?_
                    all_goals (
                     exact tk_round (i + 1) ⟨by omega, by omega, by rw [Nat.add_sub_cancel]; omega, fun j h1 h2 => by rcases Nat.lt_succ_iff_lt_or_eq.1 h2 with h | rfl; exact hI j h1 h; rw [hok]; exact decide_eq_true (by omega)⟩ (by omega) (.cons rfl (.cons rfl .nil)) (fun _ h => h)))
               · try simp only [qn1, qn2, qn3, qn4, qn5, qn6, qn7, qn8] at hc
                 all_goals refine tc_exit ?_; ((refine hK12 ?_; try (clear hK12; clear K12)))
                 all_goals refine tc_seq fun K19 hK19 => ?_; refine tc_seq fun K20 hK20 => ?_; (have hil : i = t.parts.length := by omega)
                 all_goals subst hil
                 all_goals (have hPB := partB_yes (t := t) (by omega) (by omega) hd1 hI)
                 all_goals refine tc_region ?_; refine tl_q (y_assign rfl) rfl ?_; refine tl_nil ?_; ((refine hK20 ?_; try (clear hK20; clear K20)))
                 all_goals refine tc_block ?_
                 all_goals (
                  refine tc_loop (fun i : Nat => i ≤ t.liquids.length ∧ ∀ j : Nat, j < i → lqB (t.liquids.getD j (0, 0)) = true) (fun i => [(1, ptr b1), (5, vi i)]) (fun _ => [(w, [])]) (fun i => [(b1, .cells (trV t (.slice ad0 t.s.weights.length cp0) (.slice ad1 t.parts.length cp1) (.slice ad2 t.liquids.length cp2) (.slice ad3 t.tests.length cp3)).cells 28 (0, 0))]) (fun i => t.liquids.length - i) ?_ ?_
                  · exact tk_start 0 ⟨Nat.zero_le _, fun j h => absurd h (Nat.not_lt_zero j)⟩ (.cons rfl (.cons rfl .nil)) (fun _ h => h)
                  · rintro i ⟨hi, hI1⟩
                    all_goals refine tc_seq fun K21 hK21 => ?_; refine tc_seq fun K22 hK22 => ?_; refine tc_region ?_; refine tl_q (y_move rfl) rfl ?_; refine tl_q (y_field rfl) rfl ?_; refine tl_q (y_load1 rfl (by repeat constructor) (by rfl)) rfl ?_; refine tl_q (y_len rfl) rfl ?_; refine tl_q (y_lss rfl rfl) rfl ?_; refine tl_nil ?_; ((refine hK22 ?_; try (clear hK22; clear K22)))
                    all_goals (
                     refine tc_cond rfl (fun hc => ?_) (fun hc => ?_)
                     · try simp only [qn1, qn2, qn3, qn4, qn5, qn6, qn7, qn8] at hc
                       all_goals refine tc_skip ?_; ((refine hK21 ?_; try (clear hK21; clear K21)))
                       all_goals refine tc_seq fun K23 hK23 => ?_; refine tc_block ?_; refine tc_seq fun K24 hK24 => ?_; refine tc_draw (by kernel_rfl) ?_; refine tx_p 0 rfl (by kernel_rfl) (y_field rfl) rfl (fun _ _ _ h => h) (fun _ h => h) ?_; refine tx_q 1 rfl (by kernel_rfl) (y_load1 rfl (by repeat constructor) (by rfl)) rfl (fun _ _ _ h => h) (fun _ h => h) ?_; refine tx_p 2 rfl (by kernel_rfl) (y_move rfl) rfl (fun _ _ _ h => h) (fun _ h => h) ?_; refine tx_p 3 rfl (by kernel_rfl) (y_index rfl rfl (by omega) (hadl (by omega))) rfl (fun _ _ _ h => h) (fun _ h => h) ?_; ((refine tx_q 4 rfl (by kernel_rfl) (y_loadNo (n := 2) rfl (fun w' hw' => by rw [show Int.toNat (i : Int) * 2 = i * 2 from by omega]; exact hcl w' [] (hw'.fr (w0 := w) (S := []) (by simp)) (by simp) i (by omega))) rfl (fun _ _ _ h => h) (fun _ h => h) ?_))
                       all_goals refine tx_e 5 rfl (by kernel_rfl) rfl (e_callV rfl (.cons rfl .nil) (fun w' _ => dense_c _ w')) (.inr fun _ _ h => h) (fun _ _ => ?_); refine tx_p 6 rfl (by kernel_rfl) (y_not_dec rfl) rfl (fun _ _ _ h => h) (fun _ h => h) ?_; refine tx_p 7 rfl (by kernel_rfl) (y_move rfl) rfl (fun _ _ _ h => h) (fun _ h => h) ?_; ((refine tx_gs 91 rfl (fun hc => ?_) (fun hc => ?_) <;> (try simp only [qn1, qn2, qn3, qn4, qn5, qn6, qn7, qn8] at hc) <;> (first | refine tx_sk 8 rfl (by kernel_rfl) rfl rfl rfl rfl (fun _ _ _ h => h) (fun _ h => h) ?_ | refine tx_pg 8 rfl (by kernel_rfl) rfl rfl (y_field rfl) rfl (fun _ _ _ h => h) (fun _ h => h) ?_)))
                       all_goals (first | refine tx_sk 9 rfl (by kernel_rfl) rfl rfl rfl rfl (fun _ _ _ h => h) (fun _ h => h) ?_ | refine tx_qg 9 rfl (by kernel_rfl) rfl rfl (y_load1 rfl (by repeat constructor) (by rfl)) rfl (fun _ _ _ h => h) (fun _ h => h) ?_); (first | refine tx_sk 10 rfl (by kernel_rfl) rfl rfl rfl rfl (fun _ _ _ h => h) (fun _ h => h) ?_ | refine tx_pg 10 rfl (by kernel_rfl) rfl rfl (y_move rfl) rfl (fun _ _ _ h => h) (fun _ h => h) ?_); (first | refine tx_sk 11 rfl (by kernel_rfl) rfl rfl rfl rfl (fun _ _ _ h => h) (fun _ h => h) ?_ | refine tx_pg 11 rfl (by kernel_rfl) rfl rfl (y_index rfl rfl (by omega) (hadl (by omega))) rfl (fun _ _ _ h => h) (fun _ h => h) ?_); (first | refine tx_sk 12 rfl (by kernel_rfl) rfl rfl rfl rfl (fun _ _ _ h => h) (fun _ h => h) ?_ | refine tx_pg 12 rfl (by kernel_rfl) rfl rfl (y_field rfl) rfl (fun _ _ _ h => h) (fun _ h => h) ?_); ((first | refine tx_sk 13 rfl (by kernel_rfl) rfl rfl rfl rfl (fun _ _ _ h => h) (fun _ h => h) ?_ | refine tx_qg 13 rfl (by kernel_rfl) rfl rfl (y_load1o (v := vi (t.liquids.getD i (0, 0)).2) rfl (fun w' hw' => by rw [show Int.toNat (i : Int) * 2 = i * 2 from by omega]; exact (hcl w' [] (hw'.fr (w0 := w) (S := []) (by simp)) (by simp) i (by omega)).get 1 _ rfl)) rfl (fun _ _ _ h => h) (fun _ h => h) ?_))
                       all_goals (first | refine tx_sk 14 rfl (by kernel_rfl) rfl rfl rfl rfl (fun _ _ _ h => h) (fun _ h => h) ?_ | refine tx_pg 14 rfl (by kernel_rfl) rfl rfl (y_field rfl) rfl (fun _ _ _ h => h) (fun _ h => h) ?_); (first | refine tx_sk 15 rfl (by kernel_rfl) rfl rfl rfl rfl (fun _ _ _ h => h) (fun _ h => h) ?_ | refine tx_qg 15 rfl (by kernel_rfl) rfl rfl (y_load1 rfl (by repeat constructor) (by rfl)) rfl (fun _ _ _ h => h) (fun _ h => h) ?_); (first | refine tx_sk 16 rfl (by kernel_rfl) rfl rfl rfl rfl (fun _ _ _ h => h) (fun _ h => h) ?_ | refine tx_pg 16 rfl (by kernel_rfl) rfl rfl (y_move rfl) rfl (fun _ _ _ h => h) (fun _ h => h) ?_); (first | refine tx_sk 17 rfl (by kernel_rfl) rfl rfl rfl rfl (fun _ _ _ h => h) (fun _ h => h) ?_ | refine tx_pg 17 rfl (by kernel_rfl) rfl rfl (y_index rfl rfl (by omega) (hadl (by omega))) rfl (fun _ _ _ h => h) (fun _ h => h) ?_); (first | refine tx_sk 18 rfl (by kernel_rfl) rfl rfl rfl rfl (fun _ _ _ h => h) (fun _ h => h) ?_ | refine tx_pg 18 rfl (by kernel_rfl) rfl rfl (y_field rfl) rfl (fun _ _ _ h => h) (fun _ h => h) ?_); ((first | refine tx_sk 19 rfl (by kernel_rfl) rfl rfl rfl rfl (fun _ _ _ h => h) (fun _ h => h) ?_ | refine tx_qg 19 rfl (by kernel_rfl) rfl rfl (y_load1o (v := vi (t.liquids.getD i (0, 0)).1) rfl (fun w' hw' => by rw [show Int.toNat (i : Int) * 2 = i * 2 from by omega]; exact (hcl w' [] (hw'.fr (w0 := w) (S := []) (by simp)) (by simp) i (by omega)).get 0 _ rfl)) rfl (fun _ _ _ h => h) (fun _ h => h) ?_))
                       all_goals (first | refine tx_sk 20 rfl (by kernel_rfl) rfl rfl rfl rfl (fun _ _ _ h => h) (fun _ h => h) ?_ | refine tx_pg 20 rfl (by kernel_rfl) rfl rfl (y_sub rfl rfl (by omega)) rfl (fun _ _ _ h => h) (fun _ h => h) ?_); (first | refine tx_sk 21 rfl (by kernel_rfl) rfl rfl rfl rfl (fun _ _ _ h => h) (fun _ h => h) ?_ | refine tx_pg 21 rfl (by kernel_rfl) rfl rfl (y_gtr rfl rfl) rfl (fun _ _ _ h => h) (fun _ h => h) ?_); (first | refine tx_p 22 rfl (by kernel_rfl) (y_pick_t rfl rfl) rfl (fun _ _ _ h => h) (fun _ h => h) ?_ | refine tx_p 22 rfl (by kernel_rfl) (y_pick_f rfl rfl) rfl (fun _ _ _ h => h) (fun _ h => h) ?_); refine tx_done (by kernel_rfl) ?_; ((refine hK24 ?_; try (clear hK24; clear K24)))
                       all_goals (
                        refine tc_cond rfl (fun hc => ?_) (fun hc => ?_)
                        · try simp only [qn1, qn2, qn3, qn4, qn5, qn6, qn7, qn8] at hc
                          all_goals refine tc_seq fun K25 hK25 => ?_; (have hl0 : lqB (t.liquids.getD i (0, 0)) = false := decide_eq_false (by omega))
                          all_goals (have hbad : partB t = false ∨ ¬ (0 ≤ t.worst ∧ t.worst ≤ 3) ∨ t.liquids.length = 0 ∨ t.liquids.all lqB = false ∨ t.tests.all (tsB t) = false := .inr (.inr (.inr (.inl (all_bad (i := i) (x := (0, 0)) (by omega) hl0)))))
                          all_goals refine tc_region ?_; refine tl_q (y_assign rfl) rfl ?_; refine tl_nil ?_; ((refine hK25 ?_; try (clear hK25; clear K25)))
                          all_goals refine tc_ret ?_; (repeat (first | refine tk_then_ret ?_ | refine tk_block_ret ?_))
                          all_goals (refine tk_ret rfl rfl (.cons (.tmp rfl) .nil) ?_)
                          all_goals (
                           refine fun w' hw' => ⟨congrArg (fun n => Ending.returned (Value.int .i64 n)) ?_, hw'.fr (by simp)⟩
                           first
                           | exact hfin.symm
                           | exact (chkT_bad hc0 (by omega) hbad).symm
                           | (unfold chkT; rw [if_neg (by omega), if_pos (by omega)])
                           | (unfold chkT; rw [if_pos (by omega)]))
                        · try simp only [qn1, qn2, qn3, qn4, qn5, qn6, qn7, qn8] at hc
                          all_goals ((first | (exfalso; with_reducible exact btf hc) | skip))
                          all_goals refine tc_skip ?_; ((refine hK23 ?_; try (clear hK23; clear K23)))
                          all_goals refine tc_region ?_; refine tl_q (y_move rfl) rfl ?_; refine tl_q (y_add rfl rfl (by omega)) rfl ?_; refine tl_q (y_assign rfl) rfl ?_; refine tl_nil ?_
                          all_goals (
                           have hl0 : lqB (t.liquids.getD i (0, 0)) = true := decide_eq_true (by omega)
                           exact tk_round (i + 1) ⟨by omega, fun j h2 => by rcases Nat.lt_succ_iff_lt_or_eq.1 h2 with h | rfl; exact hI1 j h; exact hl0⟩ (by omega) (.cons rfl (.cons rfl .nil)) (fun _ h => h)))
                     · try simp only [qn1, qn2, qn3, qn4, qn5, qn6, qn7, qn8] at hc
                       all_goals refine tc_exit ?_; ((refine hK19 ?_; try (clear hK19; clear K19)))
                       all_goals refine tc_seq fun K26 hK26 => ?_; refine tc_seq fun K27 hK27 => ?_; (have hil : i = t.liquids.length := by omega)
                       all_goals subst hil
                       all_goals (have hLQ : t.liquids.all lqB = true := all_good (x := (0, 0)) hI1)
                       all_goals refine tc_region ?_; refine tl_q (y_assign rfl) rfl ?_; refine tl_nil ?_; ((refine hK27 ?_; try (clear hK27; clear K27)))
                       all_goals refine tc_block ?_
                       all_goals (
                        refine tc_loop (fun i : Nat => i ≤ t.tests.length ∧ ∀ j : Nat, j < i → tsB t (t.tests.getD j (0, 0, 0)) = true) (fun i => [(1, ptr b1), (6, vi i)]) (fun _ => [(w, [])]) (fun i => [(b1, .cells (trV t (.slice ad0 t.s.weights.length cp0) (.slice ad1 t.parts.length cp1) (.slice ad2 t.liquids.length cp2) (.slice ad3 t.tests.length cp3)).cells 28 (0, 0))]) (fun i => t.tests.length - i) ?_ ?_
                        · exact tk_start 0 ⟨Nat.zero_le _, fun j h => absurd h (Nat.not_lt_zero j)⟩ (.cons rfl (.cons rfl .nil)) (fun _ h => h)
                        · rintro i ⟨hi, hI2⟩
                          all_goals refine tc_seq fun K28 hK28 => ?_; refine tc_seq fun K29 hK29 => ?_; refine tc_region ?_; refine tl_q (y_move rfl) rfl ?_; refine tl_q (y_field rfl) rfl ?_; refine tl_q (y_load1 rfl (by repeat constructor) (by rfl)) rfl ?_; refine tl_q (y_len rfl) rfl ?_; refine tl_q (y_lss rfl rfl) rfl ?_; refine tl_nil ?_; ((refine hK29 ?_; try (clear hK29; clear K29)))
                          all_goals (
                           refine tc_cond rfl (fun hc => ?_) (fun hc => ?_)
                           · try simp only [qn1, qn2, qn3, qn4, qn5, qn6, qn7, qn8] at hc
                             all_goals refine tc_skip ?_; ((refine hK28 ?_; try (clear hK28; clear K28)))
                             all_goals refine tc_seq fun K30 hK30 => ?_; refine tc_block ?_; refine tc_seq fun K31 hK31 => ?_; refine tc_region ?_; refine tl_q (y_field rfl) rfl ?_; refine tl_q (y_load1 rfl (by repeat constructor) (by rfl)) rfl ?_; refine tl_q (y_move rfl) rfl ?_; refine tl_q (y_index rfl rfl (by omega) (hadt (by omega))) rfl ?_; ((refine tl_q (y_loadNo (n := 3) rfl (fun w' hw' => by rw [show Int.toNat (i : Int) * 3 = i * 3 from by omega]; exact hct w' [] (hw'.fr (w0 := w) (S := []) (by simp)) (by simp) i (by omega))) rfl ?_))
                             all_goals refine tl_e (e_allocN rfl) rfl (fun b7 _ => ?_); refine tl_e (e_storeW rfl rfl (by repeat constructor) (by rfl) (by rfl) (by simp [Value.oneCell'])) rfl (fun _ _ => ?_); refine tl_nil ?_; ((refine hK31 ?_; try (clear hK31; clear K31)))
                             all_goals refine tc_seq fun K32 hK32 => ?_; refine tc_region ?_; refine tl_q (y_field rfl) rfl ?_; refine tl_q (y_load1 rfl (by repeat constructor) (by rfl)) rfl ?_; refine tl_q (y_field rfl) rfl ?_; refine tl_q (y_load1 rfl (by repeat constructor) (by rfl)) rfl ?_; refine tl_q (y_len rfl) rfl ?_; refine tl_q (y_sub rfl rfl (by omega)) rfl ?_; refine tl_e (e_callV rfl (.cons rfl (.cons rfl (.cons rfl .nil))) (fun w' _ => in_c _ _ _ w')) rfl (fun _ _ => ?_); refine tl_q (y_not_dec rfl) rfl ?_; refine tl_q (y_move rfl) rfl ?_; ((refine tl_gs rfl rfl (fun hc => ?_) (fun hc => ?_) <;> (try simp only [qn1, qn2, qn3, qn4, qn5, qn6, qn7, qn8] at hc) <;> (first | refine tl_sk rfl rfl rfl rfl ?_ | refine tl_qg rfl rfl (y_field rfl) rfl ?_)))
                             all_goals (first | refine tl_sk rfl rfl rfl rfl ?_ | refine tl_qg rfl rfl (y_load1 rfl (by repeat constructor) (by rfl)) rfl ?_); (first | refine tl_sk rfl rfl rfl rfl ?_ | refine tl_qg rfl rfl (y_field rfl) rfl ?_); (first | refine tl_sk rfl rfl rfl rfl ?_ | refine tl_qg rfl rfl (y_field rfl) rfl ?_); (first | refine tl_sk rfl rfl rfl rfl ?_ | refine tl_qg rfl rfl (y_load1 rfl (by repeat constructor) (by rfl)) rfl ?_); (first | refine tl_sk rfl rfl rfl rfl ?_ | refine tl_qg rfl rfl (y_len rfl) rfl ?_); (first | refine tl_sk rfl rfl rfl rfl ?_ | refine tl_eg rfl rfl rfl (e_callV rfl (.cons rfl (.cons rfl (.cons rfl .nil))) (fun w' _ => in_c _ _ _ w')) (fun _ _ => ?_)); (first | refine tl_sk rfl rfl rfl rfl ?_ | refine tl_qg rfl rfl (y_not_dec rfl) rfl ?_); (first | refine tl_q (y_pick_t rfl rfl) rfl ?_ | refine tl_q (y_pick_f rfl rfl) rfl ?_); refine tl_q (y_move rfl) rfl ?_; ((first | refine tl_sk rfl rfl rfl rfl ?_ | (refine tl_gs rfl rfl (fun hc => ?_) (fun hc => ?_) <;> (try simp only [qn1, qn2, qn3, qn4, qn5, qn6, qn7, qn8] at hc) <;> (first | refine tl_sk rfl rfl rfl rfl ?_ | refine tl_qg rfl rfl (y_field rfl) rfl ?_))))
                             all_goals (first | refine tl_sk rfl rfl rfl rfl ?_ | refine tl_qg rfl rfl (y_load1 rfl (by repeat constructor) (by rfl)) rfl ?_); (first | refine tl_sk rfl rfl rfl rfl ?_ | refine tl_qg rfl rfl (y_field rfl) rfl ?_); (first | refine tl_sk rfl rfl rfl rfl ?_ | refine tl_qg rfl rfl (y_field rfl) rfl ?_); (first | refine tl_sk rfl rfl rfl rfl ?_ | refine tl_qg rfl rfl (y_load1 rfl (by repeat constructor) (by rfl)) rfl ?_); (first | refine tl_sk rfl rfl rfl rfl ?_ | refine tl_eg rfl rfl rfl (e_callV rfl (.cons rfl (.cons rfl (.cons rfl .nil))) (fun w' _ => in_c _ _ _ w')) (fun _ _ => ?_)); (first | refine tl_sk rfl rfl rfl rfl ?_ | refine tl_qg rfl rfl (y_not_dec rfl) rfl ?_); (first | refine tl_q (y_pick_t rfl rfl) rfl ?_ | refine tl_q (y_pick_f rfl rfl) rfl ?_); refine tl_nil ?_; ((refine hK32 ?_; try (clear hK32; clear K32)))
                             all_goals (
                              refine tc_cond rfl (fun hc => ?_) (fun hc => ?_)
                              · try simp only [qn1, qn2, qn3, qn4, qn5, qn6, qn7, qn8] at hc
                                all_goals refine tc_seq fun K33 hK33 => ?_; (have hl0 : tsB t (t.tests.getD i (0, 0, 0)) = false := decide_eq_false (by omega))
                                all_goals (have hbad : partB t = false ∨ ¬ (0 ≤ t.worst ∧ t.worst ≤ 3) ∨ t.liquids.length = 0 ∨ t.liquids.all lqB = false ∨ t.tests.all (tsB t) = false := .inr (.inr (.inr (.inr (all_bad (i := i) (x := (0, 0, 0)) (by omega) hl0)))))
                                all_goals refine tc_region ?_; refine tl_q (y_assign rfl) rfl ?_; refine tl_nil ?_; ((refine hK33 ?_; try (clear hK33; clear K33)))
                                all_goals refine tc_ret ?_; (repeat (first | refine tk_then_ret ?_ | refine tk_block_ret ?_))
                                all_goals (refine tk_ret rfl rfl (.cons (.tmp rfl) .nil) ?_)
                                all_goals (
                                 refine fun w' hw' => ⟨congrArg (fun n => Ending.returned (Value.int .i64 n)) ?_, hw'.fr (by simp)⟩
                                 first
                                 | exact hfin.symm
                                 | exact (chkT_bad hc0 (by omega) hbad).symm
                                 | (unfold chkT; rw [if_neg (by omega), if_pos (by omega)])
                                 | (unfold chkT; rw [if_pos (by omega)]))
                              · try simp only [qn1, qn2, qn3, qn4, qn5, qn6, qn7, qn8] at hc
                                all_goals ((first | (exfalso; with_reducible exact btf hc) | skip))
                                all_goals refine tc_skip ?_; ((refine hK30 ?_; try (clear hK30; clear K30)))
                                all_goals refine tc_region ?_; refine tl_q (y_move rfl) rfl ?_; refine tl_q (y_add rfl rfl (by omega)) rfl ?_; refine tl_q (y_assign rfl) rfl ?_; refine tl_nil ?_
                                all_goals (
                                 have hl0 : tsB t (t.tests.getD i (0, 0, 0)) = true := decide_eq_true (by omega)
                                 exact tk_round (i + 1) ⟨by omega, fun j h2 => by rcases Nat.lt_succ_iff_lt_or_eq.1 h2 with h | rfl; exact hI2 j h; exact hl0⟩ (by omega) (.cons rfl (.cons rfl .nil)) (fun _ h => h.subl SB.s SB.s)))
                           · try simp only [qn1, qn2, qn3, qn4, qn5, qn6, qn7, qn8] at hc
                             all_goals refine tc_exit ?_; ((refine hK26 ?_; try (clear hK26; clear K26)))
                             all_goals refine tc_seq fun K34 hK34 => ?_; (have hil : i = t.tests.length := by omega)
                             all_goals subst hil
                             all_goals (have hTS : t.tests.all (tsB t) = true := all_good (x := (0, 0, 0)) hI2)
                             all_goals (have hfin := chkT_good hc0 (by omega) hPB (by omega) (by omega) hLQ hTS)
                             all_goals refine tc_region ?_; refine tl_q (y_assign rfl) rfl ?_; refine tl_nil ?_; ((refine hK34 ?_; try (clear hK34; clear K34)))
                             all_goals refine tc_ret ?_; (repeat (first | refine tk_then_ret ?_))
                             all_goals (refine tk_ret rfl rfl (.cons (.tmp rfl) .nil) ?_)
                             all_goals (
                              refine fun w' hw' => ⟨congrArg (fun n => Ending.returned (Value.int .i64 n)) ?_, hw'.fr (by simp)⟩
                              first
                              | exact hfin.symm
                              | exact (chkT_bad hc0 (by omega) hbad).symm
                              | (unfold chkT; rw [if_neg (by omega), if_pos (by omega)])
                              | (unfold chkT; rw [if_pos (by omega)])))))))))))
end Go.Sp
/-
  Literals of structs, whatever fields are named: their laws lie in the frame.
-/
namespace Go.Sp
open Go Go.Proofs
end Go.Sp
/-
  What the statements about trials are made of.
-/
namespace Go.Sp
open Go Go.Proofs
theorem CnX.sepN {P : Program} {f : FuncId} {args : Array Value} {w0 w : World} {S : List Nat} {α : Type} {val : α → Value} {q : α → World → Prop} {v : α → Value} {bs : List (World × List Nat)} {H : List (Nat × Obj)}
    (h : CnX P f args w S val (fun x w' => q x w' ∧ NewS w (v x))) (hw : HG bs H w) (hb : (w0, []) ∈ bs) : CnX P f args w S val (fun x w' => (q x w' ∧ NewS w0 (v x)) ∧ sepS (v x) (H.map Prod.fst)) :=
  CnX.of (h.out.mono fun e w' he => by
    obtain ⟨x, he, hf, hq, hn⟩ := he
    refine ⟨x, he, hf, ⟨hq, fun p m c e => Nat.le_trans (hw.fr hb).size (hn p m c e)⟩, fun p m c e hb => ?_⟩
    obtain ⟨a, ha, e2⟩ := List.mem_map.1 hb
    have h1 := hw.lt ha
    have h2 := hn p m c e
    omega)
theorem list9_c (xs : List Int) (hx : xs.length ≤ 1000) (sl : Value) (w : World) (hr : RdI w sl xs) : CnX Tryz.prog 19 #[sl] w [] (slV xs.length) (fun x w' => RdI w' (slV xs.length x) xs ∧ NewS w (slV xs.length x)) := by
  have hr0 := hr
  obtain ⟨ad, cap, b0, o, rfl, had, hcell⟩ := hr.open
  rcases Nat.eq_zero_or_pos xs.length with h0 | h0
  all_goals refine cnx0 (vs := [_]) Tryz.func19 rfl rfl ?_; refine tc_seq fun K1 hK1 => ?_; refine tc_region ?_; refine tl_q (y_assign rfl) rfl ?_; refine tl_nil ?_; ((refine hK1 ?_; try (clear hK1; clear K1)))
  all_goals refine tc_seq fun K2 hK2 => ?_; refine tc_region ?_; refine tl_q (y_move rfl) rfl ?_; ((first | refine tl_e (e_append_nil rfl rfl rfl (fun w' hw' => hr0.fr (hw'.fr (by simp))) (fun u hu => by obtain ⟨_, _, rfl⟩ := List.mem_map.1 hu; rfl) h0 (by omega) rfl) rfl (fun y hy => ?_) | refine tl_e (e_append_nil0 (ad := ad) (cap := cap) rfl rfl (by show some (Value.slice ad xs.length cap) = some (Value.slice ad 0 cap); rw [h0])) rfl (fun y hy => ?_)))
  all_goals refine tl_q (y_assign rfl) rfl ?_; refine tl_nil ?_; ((refine hK2 ?_; try (clear hK2; clear K2)))
  all_goals refine tc_ret ?_; (repeat (first | refine tk_then_ret ?_))
  all_goals (refine tk_ret rfl rfl (.cons (.tmp rfl) .nil) ?_)
  all_goals (
   first
   | exact fun w' hw' => ⟨(some ⟨y.1, 0, none⟩, y.2.1), rfl, hw'.fr (by simp), RdI.own (xs := xs) (junk := y.2.2) hw' (by repeat constructor), NewS.own hw' (b := y.1) (by repeat constructor) (by simp)⟩
   | exact fun w' hw' => ⟨(none, 0), by unfold slV; rw [h0]; rfl, hw'.fr (by simp), by unfold slV; rw [h0, List.eq_nil_of_length_eq_zero h0]; exact RdI.nil _, NewS.nil _ _ _⟩)
theorem spindleN_c (s : Sn) (hn : s.weights.length ≤ 1000) (sl : Value) (w : World) (hr : RdI w sl s.weights) : CnX Tryz.prog 40 #[spV s sl] w [] (fun x : Option Addr × Nat => spV s (slV s.weights.length x)) (fun x w' => RdI w' (slV s.weights.length x) s.weights ∧ NewS w (slV s.weights.length x)) := by
  refine cnx0 (vs := [_]) Tryz.func40 rfl rfl ?_
  all_goals refine tc_seq fun K1 hK1 => ?_; refine tc_region ?_; refine tl_e (e_box rfl rfl rfl) rfl (fun b1 _ => ?_); refine tl_e (e_allocN rfl) rfl (fun b2 _ => ?_); refine tl_nil ?_; ((refine hK1 ?_; try (clear hK1; clear K1)))
  all_goals refine tc_seq fun K2 hK2 => ?_; refine tc_draw (by kernel_rfl) ?_; refine tx_p 0 rfl (by kernel_rfl) (y_field rfl) rfl (fun _ _ _ h => h) (fun _ h => h) ?_; refine tx_q 1 rfl (by kernel_rfl) (y_load1 rfl (by repeat constructor) (by rfl)) rfl (fun _ _ _ h => h) (fun _ h => h) ?_; refine tx_p 2 rfl (by kernel_rfl) (y_field rfl) rfl (fun _ _ _ h => h) (fun _ h => h) ?_; refine tx_q 3 rfl (by kernel_rfl) (y_load1 rfl (by repeat constructor) (by rfl)) rfl (fun _ _ _ h => h) (fun _ h => h) ?_; refine tx_p 4 rfl (by kernel_rfl) (y_field rfl) rfl (fun _ _ _ h => h) (fun _ h => h) ?_; refine tx_q 5 rfl (by kernel_rfl) (y_load1 rfl (by repeat constructor) (by rfl)) rfl (fun _ _ _ h => h) (fun _ h => h) ?_; refine tx_p 6 rfl (by kernel_rfl) (y_field rfl) rfl (fun _ _ _ h => h) (fun _ h => h) ?_; refine tx_q 7 rfl (by kernel_rfl) (y_load1 rfl (by repeat constructor) (by rfl)) rfl (fun _ _ _ h => h) (fun _ h => h) ?_; refine tx_p 8 rfl (by kernel_rfl) (y_field rfl) rfl (fun _ _ _ h => h) (fun _ h => h) ?_; refine tx_q 9 rfl (by kernel_rfl) (y_load1 rfl (by repeat constructor) (by rfl)) rfl (fun _ _ _ h => h) (fun _ h => h) ?_; refine tx_p 10 rfl (by kernel_rfl) (y_field rfl) rfl (fun _ _ _ h => h) (fun _ h => h) ?_; refine tx_q 11 rfl (by kernel_rfl) (y_load1 rfl (by repeat constructor) (by rfl)) rfl (fun _ _ _ h => h) (fun _ h => h) ?_; refine tx_e 12 rfl (by kernel_rfl) rfl (e_callX rfl (.cons rfl .nil) (fun w' hw' => (list_c s.weights hn _ w' (hr.fr (hw'.fr (by simp)))).sepN (w0 := w) hw' (by simp))) (.inr fun _ _ h => h.sub (fun _ h => List.mem_cons_of_mem _ h) (List.Sublist.refl _)) (fun y hy => ?_); refine tx_p 13 rfl (by kernel_rfl) (y_build_6 rfl rfl rfl rfl rfl rfl rfl rfl rfl rfl rfl rfl) rfl (fun _ _ _ h => h) (fun _ h => h) ?_; refine tx_e 14 rfl (by kernel_rfl) rfl (e_storeW rfl rfl (by repeat constructor) (by rfl) (by rfl) (by simp [Value.oneCell'])) (.inl (by kernel_rfl)) (fun _ _ => ?_); refine tx_done (by kernel_rfl) ?_; ((refine hK2 ?_; try (clear hK2; clear K2)))
  all_goals refine tc_ret ?_; (repeat (first | refine tk_then_ret ?_))
  all_goals (refine tk_ret rfl rfl (.cons (.agg inferInstance rfl (by repeat constructor) (by rfl)) .nil) ?_)
  all_goals (
   refine fun w' hw' => ⟨y.1, rfl, hw'.fr (w0 := w) (S := []) (by simp), hy.1.1.1.frS (S := [b2, b1]) (hw'.fr (by simp)) hy.1.2, hy.1.1.2⟩)
theorem to9_c (r : Int × Int) (w : World) : CnV Tryz.prog 30 #[rV r] w (rV r) := by
  refine cnv (vs := [_]) Tryz.func30 rfl rfl ?_
  all_goals refine tc_seq fun K1 hK1 => ?_; refine tc_region ?_; refine tl_e (e_box rfl rfl rfl) rfl (fun _ _ => ?_); refine tl_e (e_allocN rfl) rfl (fun _ _ => ?_); refine tl_nil ?_; ((refine hK1 ?_; try (clear hK1; clear K1)))
  all_goals refine tc_seq fun K2 hK2 => ?_; refine tc_region ?_; refine tl_q (y_field rfl) rfl ?_; refine tl_q (y_load1 rfl (by repeat constructor) (by rfl)) rfl ?_; refine tl_q (y_field rfl) rfl ?_; refine tl_q (y_load1 rfl (by repeat constructor) (by rfl)) rfl ?_; refine tl_q (y_build_2 rfl rfl rfl rfl) rfl ?_; refine tl_e (e_storeW rfl rfl (by repeat constructor) (by rfl) (by rfl) (by simp [Value.oneCell'])) rfl (fun _ _ => ?_); refine tl_nil ?_; ((refine hK2 ?_; try (clear hK2; clear K2)))
  all_goals refine tc_ret ?_; (repeat (first | refine tk_then_ret ?_))
  all_goals (refine tk_ret rfl rfl (.cons (.agg inferInstance rfl (by repeat constructor) (by rfl)) .nil) ?_)
  all_goals (
   exact fun w' hw' => ⟨rfl, hw'.fr (by simp)⟩)
end Go.Sp
/-
  Package trial: errors of a list; what can be shown.
-/
namespace Go.Sp
open Go Go.Proofs
/-- A list as errors. -/
def er3 (l : List Int) : Int × Int × Int := (l.getD 0 0, l.getD 1 0, l.getD 2 0)
def errB (t : Tr) (l : List Int) : Bool := decide (l.length = t.parts.length) && l.all fun n => decide (-t.worst ≤ n ∧ n ≤ t.worst)
def errE (t : Tr) (l : List Int) : (Int × Int × Int) × Bool := if errB t l = true then (er3 l, true) else ((0, 0, 0), false)
theorem errors1_c (t : Tr) (hw0 : 0 ≤ t.worst ∧ t.worst ≤ 3) (sl pl ll tl : Value) (n : Int) (bt : Nat) (w : World) (hbt : w.heap[bt]? = some (.cells (trV t sl pl ll tl).cells 38 (0, 0))) :
    CnV Tryz.prog 118 #[vi n, ptr bt] w (.bool (decide (-t.worst ≤ n ∧ n ≤ t.worst))) := by
  refine cnv (vs := [_, _]) Tryz.func118 rfl rfl ?_
  all_goals refine tc_seq fun K1 hK1 => ?_; refine tc_region ?_; refine tl_q (y_assign rfl) rfl ?_; refine tl_nil ?_; ((refine hK1 ?_; try (clear hK1; clear K1)))
  all_goals refine tc_seq fun K2 hK2 => ?_; refine tc_region ?_; refine tl_q (y_move rfl) rfl ?_; refine tl_q (y_field rfl) rfl ?_; refine tl_q (y_load1o (v := vi t.worst) rfl (fun w' hw' => cell0 ((hw'.fr (w0 := w) (S := []) (by simp)).keep hbt) rfl)) rfl ?_; refine tl_q (y_neg rfl (by omega)) rfl ?_; refine tl_q (y_field rfl) rfl ?_; refine tl_q (y_load1o (v := vi t.worst) rfl (fun w' hw' => cell0 ((hw'.fr (w0 := w) (S := []) (by simp)).keep hbt) rfl)) rfl ?_; refine tl_e (e_callV rfl (.cons rfl (.cons rfl (.cons rfl .nil))) (fun w' _ => twithin_c _ _ _ w')) rfl (fun _ _ => ?_); refine tl_q (y_assign rfl) rfl ?_; refine tl_nil ?_; ((refine hK2 ?_; try (clear hK2; clear K2)))
  all_goals refine tc_ret ?_; (repeat (first | refine tk_then_ret ?_))
  all_goals (refine tk_ret rfl rfl (.cons (.tmp rfl) .nil) ?_)
  all_goals (
   exact fun w' hw' => ⟨rfl, hw'.fr (by simp)⟩)
theorem errorsOf_c (t : Tr) (hv : VT t) (l : List Int) (hl : (l.length : Int) ≤ 9000000000000000000) (sl pl ll tl lv : Value) (w : World) (hp : RdI w pl t.parts) (hr : RdI w lv l) :
    CnV Tryz.prog 63 #[trV t sl pl ll tl, lv] w (.tuple #[tsV (errE t l).1, .bool (errE t l).2]) := by
  have hr0 := hr
  have h1 := hv.p1
  have h3 := hv.p3
  have hw0 := hv.w
  obtain ⟨ad, cp, b0, o, rfl, _, _⟩ := hp.open
  obtain ⟨ad2, cp2, b2', o2, rfl, _, _⟩ := hr.open
  refine cnv (vs := [_, _]) Tryz.func63 rfl rfl ?_
  all_goals refine tc_seq fun K1 hK1 => ?_; refine tc_region ?_; refine tl_e (e_box rfl rfl rfl) rfl (fun b2 _ => ?_); refine tl_e (e_allocN rfl) rfl (fun b4 _ => ?_); refine tl_q (y_assign rfl) rfl ?_; refine tl_nil ?_; ((refine hK1 ?_; try (clear hK1; clear K1)))
  all_goals refine tc_seq fun K2 hK2 => ?_; refine tc_seq fun K3 hK3 => ?_; refine tc_region ?_; refine tl_q (y_move rfl) rfl ?_; refine tl_q (y_len rfl) rfl ?_; refine tl_q (y_field rfl) rfl ?_; refine tl_q (y_load1 rfl (by repeat constructor) (by rfl)) rfl ?_; refine tl_q (y_len rfl) rfl ?_; refine tl_q (y_neq rfl rfl) rfl ?_; refine tl_q (y_move rfl) rfl ?_; ((refine tl_gs rfl rfl (fun hc => ?_) (fun hc => ?_) <;> (try simp only [qn1, qn2, qn3, qn4, qn5, qn6, qn7, qn8] at hc) <;> (first | refine tl_sk rfl rfl rfl rfl ?_ | refine tl_qg rfl rfl (y_move rfl) rfl ?_)))
  all_goals (first | refine tl_sk rfl rfl rfl rfl ?_ | refine tl_qg rfl rfl (y_fn .nil (.cons rfl .nil)) rfl ?_); (first | refine tl_sk rfl rfl rfl rfl ?_ | refine tl_eg rfl rfl rfl (e_callV rfl (.cons rfl (.cons rfl .nil)) (fun w' hw' => allI_c 118 #[] #[ptr b2] (fun n => decide (-t.worst ≤ n ∧ n ≤ t.worst)) l hl _ w' (hr0.fr (hw'.fr (by simp))) (fun x w2 f => by simpa using errors1_c t hw0 sl _ ll tl x b2 w2 (f.keep (hw'.heap _ (HM.mem (b := b2) (by repeat constructor))))))) (fun _ _ => ?_)); (first | refine tl_sk rfl rfl rfl rfl ?_ | refine tl_qg rfl rfl (y_not rfl) rfl ?_); (first | refine tl_q (y_pick_t rfl rfl) rfl ?_ | refine tl_q (y_pick_f rfl rfl) rfl ?_); refine tl_nil ?_; ((refine hK3 ?_; try (clear hK3; clear K3)))
  all_goals (
   refine tc_cond rfl (fun hc => ?_) (fun hc => ?_)
   · try simp only [qn1, qn2, qn3, qn4, qn5, qn6, qn7, qn8] at hc
     all_goals refine tc_seq fun K4 hK4 => ?_; refine tc_region ?_; refine tl_q (y_loadW rfl (by repeat constructor) (by rfl)) rfl ?_; refine tl_e (e_storeW rfl rfl (by repeat constructor) (by rfl) (by rfl) (by simp [Value.oneCell'])) rfl (fun _ _ => ?_); refine tl_q (y_assign rfl) rfl ?_; refine tl_nil ?_; ((refine hK4 ?_; try (clear hK4; clear K4)))
     all_goals refine tc_ret ?_; (repeat (refine tk_then_ret ?_))
     all_goals (refine tk_ret rfl rfl (.cons (.agg inferInstance rfl (by repeat constructor) (by rfl)) (.cons (.tmp rfl) .nil)) ?_)
     all_goals (
      refine fun w' hw' => ⟨?_, hw'.fr (by simp)⟩
      first
      | (have e : errE t _ = (er3 _, true) := if_pos hall
         rw [e]; rfl)
      | (have hb : errB t l = false := by unfold errB; first | rw [decide_eq_false (by omega), Bool.false_and] | rw [hc, Bool.and_false]
         have e : errE t l = ((0, 0, 0), false) := by unfold errE; rw [hb]; rfl
         rw [e]; rfl))
   · try simp only [qn1, qn2, qn3, qn4, qn5, qn6, qn7, qn8] at hc
     all_goals ((first | (exfalso; with_reducible exact btf hc) | skip))
     all_goals refine tc_skip ?_; ((refine hK2 ?_; try (clear hK2; clear K2)))
     all_goals refine tc_seq fun K5 hK5 => ?_; refine tc_region ?_; refine tl_q (y_sliceA rfl) rfl ?_; refine tl_q (y_move rfl) rfl ?_; (refine tl_e (e_copy (vs := l.map vi) (n := l.length) (l := [vi 0, vi 0, vi 0]) rfl rfl rfl (fun w' hw' => hr0.fr (hw'.fr (by simp))) (fun u hu => by obtain ⟨_, _, rfl⟩ := List.mem_map.1 hu; rfl) (by omega) (by simp; omega) (by repeat constructor)) rfl (fun _ _ => ?_))
     all_goals refine tl_nil ?_; ((refine hK5 ?_; try (clear hK5; clear K5)))
     all_goals refine tc_seq fun K6 hK6 => ?_; ((have hall : errB t l = true := by unfold errB; rw [decide_eq_true (by omega), hc]; rfl))
     all_goals (have hll : l.length = 1 ∨ l.length = 2 ∨ l.length = 3 := by omega)
     all_goals ((clear hc; rcases l with _ | ⟨x0, _ | ⟨x1, _ | ⟨x2, _ | ⟨x3, l⟩⟩⟩⟩))
     all_goals ((first | (exfalso; simp only [List.length_cons, List.length_nil] at hll; omega) | skip))
     all_goals refine tc_region ?_; refine tl_q (y_loadW rfl (by repeat constructor) (by rfl)) rfl ?_; refine tl_e (e_storeW rfl rfl (by repeat constructor) (by rfl) (by rfl) (by simp [Value.oneCell'])) rfl (fun _ _ => ?_); refine tl_q (y_assign rfl) rfl ?_; refine tl_nil ?_; ((refine hK6 ?_; try (clear hK6; clear K6)))
     all_goals refine tc_ret ?_; (repeat (first | refine tk_then_ret ?_))
     all_goals (refine tk_ret rfl rfl (.cons (.agg inferInstance rfl (by repeat constructor) (by rfl)) (.cons (.tmp rfl) .nil)) ?_)
     all_goals (
      refine fun w' hw' => ⟨?_, hw'.fr (by simp)⟩
      first
      | (have e : errE t _ = (er3 _, true) := if_pos hall
         rw [e]; rfl)
      | (have hb : errB t l = false := by unfold errB; first | rw [decide_eq_false (by omega), Bool.false_and] | rw [hc, Bool.and_false]
         have e : errE t l = ((0, 0, 0), false) := by unfold errE; rw [hb]; rfl
         rw [e]; rfl)))
theorem errE_bd {t : Tr} (hv : VT t) (l : List Int) : ErB (errE t l).1 := by
  have hw := hv.w
  unfold errE
  split
  · rename_i h
    unfold errB at h
    rw [Bool.and_eq_true] at h
    have hb : ∀ i, -3 ≤ l.getD i 0 ∧ l.getD i 0 ≤ 3 := fun i => by
      rcases Nat.lt_or_ge i l.length with hi | hi
      · have := of_decide_eq_true (List.all_eq_true.1 h.2 (l.getD i 0) (by rw [List.getD_eq_getElem?_getD, List.getElem?_eq_getElem hi]; exact List.getElem_mem hi))
        omega
      · rw [List.getD_eq_getElem?_getD, List.getElem?_eq_none hi]; simp
    exact ⟨hb 0, hb 1, hb 2⟩
  · exact ⟨by dsimp only; omega, by dsimp only; omega, by dsimp only; omega⟩
def shownE (t : Tr) (l : List Int) (k d : Int) : List Int × Int :=
  if ¬ chkT t = 0 then ([], chkT t) else if errB t l = false ∨ ¬ (0 ≤ k ∧ k ≤ t.s.weights.length) ∨ ¬ (1 ≤ d ∧ d ≤ 2000) then ([], 2) else (shownL t (er3 l) k d, 0)
theorem shown_no (t : Tr) (hn : NT t) (l : List Int) (hl : (l.length : Int) ≤ 9000000000000000000) (k d : Int) {e : Int} (he : ¬ e = 0) (hE : shownE t l k d = ([], e)) (sl pl ll tl lv : Value) (w : World) (hr : RdTr w t sl pl ll tl) (hl2 : RdI w lv l) :
    CnV Tryz.prog 17 #[trV t sl pl ll tl, lv, vi k, vi d] w (.tuple #[.slice none 0 0, vi e]) := by
  have hr0 := hr
  refine cnv (vs := [_, _, _, _]) Tryz.func17 rfl rfl ?_
  all_goals refine tc_seq fun K1 hK1 => ?_; refine tc_region ?_; refine tl_e (e_box rfl rfl rfl) rfl (fun b4 _ => ?_); refine tl_q (y_assign rfl) rfl ?_; refine tl_q (y_assign rfl) rfl ?_; refine tl_nil ?_; ((refine hK1 ?_; try (clear hK1; clear K1)))
  all_goals refine tc_seq fun K2 hK2 => ?_; refine tc_seq fun K3 hK3 => ?_; refine tc_region ?_; refine tl_q (y_loadW rfl (by repeat constructor) (by rfl)) rfl ?_; refine tl_e (e_callV rfl (.cons rfl .nil) (fun w' hw' => checkTrial_c t hn sl pl ll tl w' (hr0.fr (hw'.fr (by simp))))) rfl (fun _ _ => ?_); refine tl_q (y_assign rfl) rfl ?_; refine tl_nil ?_; ((refine hK3 ?_; try (clear hK3; clear K3)))
  all_goals refine tc_seq fun K4 hK4 => ?_; refine tc_region ?_; refine tl_q (y_move rfl) rfl ?_; refine tl_q (y_neq rfl rfl) rfl ?_; refine tl_nil ?_; ((refine hK4 ?_; try (clear hK4; clear K4)))
  all_goals (
   refine tc_cond rfl (fun hc => ?_) (fun hc => ?_)
   · try simp only [qn1, qn2, qn3, qn4, qn5, qn6, qn7, qn8] at hc
     all_goals refine tc_seq fun K5 hK5 => ?_; refine tc_region ?_; refine tl_q (y_move rfl) rfl ?_; refine tl_q (y_assign rfl) rfl ?_; refine tl_q (y_assign rfl) rfl ?_; refine tl_nil ?_; ((refine hK5 ?_; try (clear hK5; clear K5)))
     all_goals refine tc_ret ?_; (repeat (refine tk_then_ret ?_))
     all_goals (refine tk_ret rfl rfl (.cons (.tmp rfl) (.cons (.tmp rfl) .nil)) ?_)
     all_goals (
      refine fun w' hw' => ⟨?_, hw'.fr (by simp)⟩
      unfold shownE at hE
      first
      | (rw [if_pos (by omega)] at hE; rw [(Prod.mk.inj hE).2]; rfl)
      | (rw [if_neg (by omega), if_pos (by rw [← hb]; simp_all)] at hE; rw [← (Prod.mk.inj hE).2]; rfl)
      | (rw [if_neg (by omega), if_pos (by omega)] at hE; rw [← (Prod.mk.inj hE).2]; rfl))
   · try simp only [qn1, qn2, qn3, qn4, qn5, qn6, qn7, qn8] at hc
     all_goals refine tc_skip ?_; ((refine hK2 ?_; try (clear hK2; clear K2)))
     all_goals refine tc_seq fun K6 hK6 => ?_; (have hv := chkT_0.1 (show chkT t = 0 by omega))
     all_goals refine tc_region ?_; refine tl_q (y_loadW rfl (by repeat constructor) (by rfl)) rfl ?_; refine tl_q (y_move rfl) rfl ?_; refine tl_e (e_callV rfl (.cons rfl (.cons rfl .nil)) (fun w' hw' => errorsOf_c t hv l hl sl pl ll tl lv w' (hr0.ps.fr (hw'.fr (by simp))) (hl2.fr (hw'.fr (by simp))))) rfl (fun _ _ => ?_); refine tl_q (y_move rfl) rfl ?_; refine tl_q (y_extract rfl rfl) rfl ?_; refine tl_q (y_extract rfl rfl) rfl ?_; refine tl_e (e_allocN rfl) rfl (fun b11 _ => ?_); refine tl_e (e_storeW rfl rfl (by repeat constructor) (by rfl) (by rfl) (by simp [Value.oneCell'])) rfl (fun _ _ => ?_); refine tl_q (y_assign rfl) rfl ?_; refine tl_nil ?_; ((refine hK6 ?_; try (clear hK6; clear K6)))
     all_goals refine tc_seq fun K7 hK7 => ?_; refine tc_seq fun K8 hK8 => ?_; ((have hb : (errE t l).2 = errB t l := by unfold errE; split <;> simp_all))
     all_goals refine tc_region ?_; refine tl_q (y_move rfl) rfl ?_; refine tl_q (y_not rfl) rfl ?_; refine tl_q (y_move rfl) rfl ?_; ((refine tl_gs rfl rfl (fun hc => ?_) (fun hc => ?_) <;> (try simp only [qn1, qn2, qn3, qn4, qn5, qn6, qn7, qn8] at hc) <;> (first | refine tl_sk rfl rfl rfl rfl ?_ | refine tl_qg rfl rfl (y_loadW rfl (by repeat constructor) (by rfl)) rfl ?_)))
     all_goals (first | refine tl_sk rfl rfl rfl rfl ?_ | refine tl_qg rfl rfl (y_move rfl) rfl ?_); (first | refine tl_sk rfl rfl rfl rfl ?_ | refine tl_eg rfl rfl rfl (e_callV rfl (.cons rfl (.cons rfl .nil)) (fun w' hw' => tload_c t k sl pl ll tl w' (hr0.ws.fr (hw'.fr (by simp))))) (fun _ _ => ?_)); (first | refine tl_sk rfl rfl rfl rfl ?_ | refine tl_qg rfl rfl (y_not_dec rfl) rfl ?_); (first | refine tl_q (y_pick_t rfl rfl) rfl ?_ | refine tl_q (y_pick_f rfl rfl) rfl ?_); refine tl_q (y_move rfl) rfl ?_; ((first | refine tl_sk rfl rfl rfl rfl ?_ | (refine tl_gs rfl rfl (fun hc => ?_) (fun hc => ?_) <;> (try simp only [qn1, qn2, qn3, qn4, qn5, qn6, qn7, qn8] at hc) <;> (first | refine tl_sk rfl rfl rfl rfl ?_ | refine tl_qg rfl rfl (y_move rfl) rfl ?_))))
     all_goals (first | refine tl_sk rfl rfl rfl rfl ?_ | refine tl_eg rfl rfl rfl (e_callV rfl (.cons rfl (.cons rfl (.cons rfl .nil))) (fun w' _ => twithin_c _ _ _ w')) (fun _ _ => ?_)); (first | refine tl_sk rfl rfl rfl rfl ?_ | refine tl_qg rfl rfl (y_not_dec rfl) rfl ?_); (first | refine tl_q (y_pick_t rfl rfl) rfl ?_ | refine tl_q (y_pick_f rfl rfl) rfl ?_); refine tl_nil ?_; ((refine hK8 ?_; try (clear hK8; clear K8)))
     all_goals (
      refine tc_cond rfl (fun hc => ?_) (fun hc => ?_)
      · try simp only [qn1, qn2, qn3, qn4, qn5, qn6, qn7, qn8] at hc
        all_goals refine tc_seq fun K9 hK9 => ?_; refine tc_region ?_; refine tl_q (y_assign rfl) rfl ?_; refine tl_q (y_assign rfl) rfl ?_; refine tl_nil ?_; ((refine hK9 ?_; try (clear hK9; clear K9)))
        all_goals refine tc_ret ?_; (repeat (refine tk_then_ret ?_))
        all_goals (refine tk_ret rfl rfl (.cons (.tmp rfl) (.cons (.tmp rfl) .nil)) ?_)
        all_goals (
         refine fun w' hw' => ⟨?_, hw'.fr (by simp)⟩
         unfold shownE at hE
         first
         | (rw [if_pos (by omega)] at hE; rw [(Prod.mk.inj hE).2]; rfl)
         | (rw [if_neg (by omega), if_pos (by rw [← hb]; simp_all)] at hE; rw [← (Prod.mk.inj hE).2]; rfl)
         | (rw [if_neg (by omega), if_pos (by omega)] at hE; rw [← (Prod.mk.inj hE).2]; rfl))
      · try simp only [qn1, qn2, qn3, qn4, qn5, qn6, qn7, qn8] at hc
        all_goals ((first | (exfalso; with_reducible exact btf hc) | skip))
        all_goals refine tc_skip ?_; ((refine hK7 ?_; try (clear hK7; clear K7)))
        all_goals refine tc_seq fun K10 hK10 => ?_; ((exfalso; unfold shownE at hE; rw [if_neg (by omega), if_neg (by rw [← hb]; simp_all)] at hE; exact he (Prod.mk.inj hE).2.symm))
        all_goals (
         refine fun w' hw' => ⟨?_, hw'.fr (by simp)⟩
         unfold shownE at hE
         first
         | (rw [if_pos (by omega)] at hE; rw [(Prod.mk.inj hE).2]; rfl)
         | (rw [if_neg (by omega), if_pos (by rw [← hb]; simp_all)] at hE; rw [← (Prod.mk.inj hE).2]; rfl)
         | (rw [if_neg (by omega), if_pos (by omega)] at hE; rw [← (Prod.mk.inj hE).2]; rfl))))
theorem shownE_0 {t : Tr} {l : List Int} {k d : Int} (h : (shownE t l k d).2 = 0) : VT t ∧ errB t l = true ∧ (0 ≤ k ∧ k ≤ t.s.weights.length) ∧ (1 ≤ d ∧ d ≤ 2000) ∧ (shownE t l k d).1 = shownL t (er3 l) k d := by
  unfold shownE at h ⊢
  split at h
  · rename_i h1; exact absurd h h1
  · rename_i h1
    split at h
    · cases h
    · rename_i h2
      rw [if_neg h1, if_neg h2]
      simp only [not_or, Bool.not_eq_false, Decidable.not_not] at h2
      exact ⟨chkT_0.1 (by omega), h2.1, h2.2.1, h2.2.2, rfl⟩
theorem shown_ok (t : Tr) (hn : NT t) (l : List Int) (hl : (l.length : Int) ≤ 9000000000000000000) (k d : Int) (hE : (shownE t l k d).2 = 0) (sl pl ll tl lv : Value) (w : World) (hr : RdTr w t sl pl ll tl) (hl2 : RdI w lv l) :
    CnX Tryz.prog 17 #[trV t sl pl ll tl, lv, vi k, vi d] w [] (fun y : Option Addr × Nat => .tuple #[slV (shownL t (er3 l) k d).length y, vi 0]) (fun y w' => RdI w' (slV (shownL t (er3 l) k d).length y) (shownL t (er3 l) k d)) := by
  have hr0 := hr
  obtain ⟨hv, heb, hk, hd, _⟩ := shownE_0 hE
  have hck := chkT_0.2 hv
  have hee : errE t l = (er3 l, true) := if_pos heb
  have hbd := errE_bd hv l
  rw [hee] at hbd
  refine cnx0 (vs := [_, _, _, _]) Tryz.func17 rfl rfl ?_
  all_goals refine tc_seq fun K1 hK1 => ?_; refine tc_region ?_; refine tl_e (e_box rfl rfl rfl) rfl (fun b4 _ => ?_); refine tl_q (y_assign rfl) rfl ?_; refine tl_q (y_assign rfl) rfl ?_; refine tl_nil ?_; ((refine hK1 ?_; try (clear hK1; clear K1)))
  all_goals refine tc_seq fun K2 hK2 => ?_; refine tc_seq fun K3 hK3 => ?_; refine tc_region ?_; refine tl_q (y_loadW rfl (by repeat constructor) (by rfl)) rfl ?_; refine tl_e (e_callV rfl (.cons rfl .nil) (fun w' hw' => checkTrial_c t hn sl pl ll tl w' (hr0.fr (hw'.fr (by simp))))) rfl (fun _ _ => ?_); refine tl_q (y_assign rfl) rfl ?_; refine tl_nil ?_; ((refine hK3 ?_; try (clear hK3; clear K3)))
  all_goals refine tc_seq fun K4 hK4 => ?_; refine tc_region ?_; refine tl_q (y_move rfl) rfl ?_; refine tl_q (y_neq rfl rfl) rfl ?_; refine tl_nil ?_; ((refine hK4 ?_; try (clear hK4; clear K4)))
  all_goals (
   refine tc_cond rfl (fun hc => ?_) (fun hc => ?_)
   · try simp only [qn1, qn2, qn3, qn4, qn5, qn6, qn7, qn8] at hc
     all_goals ((exfalso; omega))
   · try simp only [qn1, qn2, qn3, qn4, qn5, qn6, qn7, qn8] at hc
     all_goals refine tc_skip ?_; ((refine hK2 ?_; try (clear hK2; clear K2)))
     all_goals refine tc_seq fun K6 hK6 => ?_; refine tc_region ?_; refine tl_q (y_loadW rfl (by repeat constructor) (by rfl)) rfl ?_; refine tl_q (y_move rfl) rfl ?_; (refine tl_e (e_callV rfl (.cons rfl (.cons rfl .nil)) (fun w' hw' => by have h := errorsOf_c t hv l hl sl pl ll tl lv w' (hr0.ps.fr (hw'.fr (by simp))) (hl2.fr (hw'.fr (by simp))); rw [hee] at h; exact h)) rfl (fun _ _ => ?_))
     all_goals refine tl_q (y_move rfl) rfl ?_; refine tl_q (y_extract rfl rfl) rfl ?_; refine tl_q (y_extract rfl rfl) rfl ?_; refine tl_e (e_allocN rfl) rfl (fun b11 _ => ?_); refine tl_e (e_storeW rfl rfl (by repeat constructor) (by rfl) (by rfl) (by simp [Value.oneCell'])) rfl (fun _ _ => ?_); refine tl_q (y_assign rfl) rfl ?_; refine tl_nil ?_; ((refine hK6 ?_; try (clear hK6; clear K6)))
     all_goals refine tc_seq fun K7 hK7 => ?_; refine tc_seq fun K8 hK8 => ?_; refine tc_region ?_; refine tl_q (y_move rfl) rfl ?_; refine tl_q (y_not rfl) rfl ?_; refine tl_q (y_move rfl) rfl ?_; refine tl_qg rfl rfl (y_loadW rfl (by repeat constructor) (by rfl)) rfl ?_; refine tl_qg rfl rfl (y_move rfl) rfl ?_; refine tl_eg rfl rfl rfl (e_callV rfl (.cons rfl (.cons rfl .nil)) (fun w' hw' => tload_c t k sl pl ll tl w' (hr0.ws.fr (hw'.fr (by simp))))) (fun _ _ => ?_); refine tl_qg rfl rfl (y_not_dec rfl) rfl ?_; refine tl_q (y_pick_f rfl rfl) rfl ?_; refine tl_q (y_move rfl) rfl ?_; ((refine tl_gs rfl rfl (fun hc => ?_) (fun hc => ?_) <;> (try simp only [qn1, qn2, qn3, qn4, qn5, qn6, qn7, qn8] at hc) <;> (first | (exfalso; omega) | refine tl_qg rfl rfl (y_move rfl) rfl ?_)))
     all_goals (refine tl_eg rfl rfl rfl (e_callV rfl (.cons rfl (.cons rfl (.cons rfl .nil))) (fun w' _ => twithin_c _ _ _ w')) (fun _ _ => ?_)); refine tl_qg rfl rfl (y_not_dec rfl) rfl ?_; refine tl_q (y_pick_f rfl rfl) rfl ?_; refine tl_nil ?_; ((refine hK8 ?_; try (clear hK8; clear K8)))
     all_goals (
      refine tc_cond rfl (fun hc => ?_) (fun hc => ?_)
      · try simp only [qn1, qn2, qn3, qn4, qn5, qn6, qn7, qn8] at hc
        all_goals ((exfalso; omega))
      · try simp only [qn1, qn2, qn3, qn4, qn5, qn6, qn7, qn8] at hc
        all_goals refine tc_skip ?_; ((refine hK7 ?_; try (clear hK7; clear K7)))
        all_goals refine tc_seq fun K10 hK10 => ?_; refine tc_drawS ([(b11, .cells #[vi (er3 l).1, vi (er3 l).2.1, vi (er3 l).2.2] 126 (0, 0)), (b4, .cells (trV t sl pl ll tl).cells 38 (0, 0))]) (by kernel_rfl) ?_; refine tx_qS 0 rfl (by kernel_rfl) (y_loadW rfl (by repeat constructor) (by rfl)) rfl (fun _ _ _ h => h) (fun _ h => h.subl SB.s SB.s) ?_; refine tx_qS 2 rfl (by kernel_rfl) (y_loadW rfl (by repeat constructor) (by rfl)) rfl (fun _ _ _ h => h) (fun _ h => h.subl SB.s SB.s) ?_; refine tx_p 3 rfl (by kernel_rfl) (y_move rfl) rfl (fun _ _ _ h => h) (fun _ h => h.subl SB.s SB.s) ?_; refine tx_p 4 rfl (by kernel_rfl) (y_move rfl) rfl (fun _ _ _ h => h) (fun _ h => h.subl SB.s SB.s) ?_; refine tx_p 5 rfl (by kernel_rfl) (y_build_2 rfl rfl rfl rfl) rfl (fun _ _ _ h => h) (fun _ h => h.subl SB.s SB.s) ?_; refine tx_single 1 (by kernel_rfl) (to_e rfl rfl (e_callN rfl (.cons rfl .nil) (fun w' hw' => twork_c t sl pl ll tl hr0.ws.one hr0.ps.one hr0.ls.one hr0.ts.one w')) (.inr ⟨fun _ _ h => h.subl SB.s SB.s, fun _ h => h⟩) (fun x hx => ?_)); refine tx_single 6 (by kernel_rfl) (to_e rfl rfl (e_callUX rfl (.cons rfl (.cons rfl (.cons rfl .nil))) (fun w' hw' => shown_c t hv (er3 l) hbd k d sl pl ll tl w' x.1 x.2 #[] 0 (tw0 (hr0.fr (hw'.fr (by simp))) (hw'.heap _ (HM.mem (by repeat constructor))) (hw'.heap _ (HM.mem (b := x.2) (by repeat constructor))))) (fun _ => (by repeat constructor))) (.inr ⟨fun _ _ h => h.subl SB.s SB.s, fun _ h => h⟩) (fun y hy => ?_)); refine tx_p 7 rfl (by kernel_rfl) (y_assign rfl) rfl (fun _ _ _ h => h) (fun _ h => h.subl SB.s SB.s) ?_; refine tx_p 8 rfl (by kernel_rfl) (y_assign rfl) rfl (fun _ _ _ h => h) (fun _ h => h.subl SB.s SB.s) ?_; refine tx_done (by kernel_rfl) ?_; ((refine hK10 ?_; try (clear hK10; clear K10)))
        all_goals refine tc_ret ?_; (repeat (first | refine tk_then_ret ?_))
        all_goals (refine tk_ret rfl rfl (.cons (.tmp rfl) (.cons (.tmp rfl) .nil)) ?_)
        all_goals (
         first
         | (exfalso; omega)
         | exact fun w' hw' => ⟨y.1.1, rfl, hw'.fr (by simp), hy.1.1.fr (hw'.calm hy.2 (by simp) (List.Sublist.refl _))⟩)))
end Go.Sp
/-
  Slices of slices; what sorting and compacting leave.
-/
namespace Go.Sp
open Go Go.Proofs
/-- A slice of values of one cell, laid open. -/
theorem Reads.openV {w : World} {v : Value} {n : Nat} {vs : List Value} (h : Reads w v 1 n vs) : ∃ ad cap b o, v = .slice ad n cap ∧ (0 < n → ad = some ⟨b, o, none⟩) ∧ ∀ w' S, Fr S w w' → b ∉ S → ∀ i, i < n → w'.cell? ⟨b, o + i, none⟩ = some (vs.getD i (.slice none 0 0)) := by
  by_cases hn : n = 0
  · obtain ⟨_, ad, cap, h2, _⟩ := h
    exact ⟨ad, cap, 0, 0, h2, fun h => by omega, fun _ _ _ _ i hi => by omega⟩
  · obtain ⟨h1, ad, cap, h2, h3⟩ := h
    obtain ⟨b, o, h4, h5⟩ := h3 hn
    refine ⟨ad, cap, b, o, h2, fun _ => h4, fun w' S f hb i hi => ?_⟩
    have hl : i < vs.length := by omega
    have := h5.get i (vs.getD i (.slice none 0 0)) (by rw [List.getD_eq_getElem?_getD, List.getElem?_eq_getElem hl]; rfl)
    exact f.cell (p := ⟨b, o + i, none⟩) hb this
/-- A slice that reads as lists. -/
def RdLL (w : World) (v : Value) (ls : List (List Int)) : Prop := ∃ vs : List Value, Reads w v 1 ls.length vs ∧ ∀ i, i < ls.length → RdI w (vs.getD i (.slice none 0 0)) (ls.getD i [])
theorem RdLL.fr {w w' : World} {v : Value} {ls : List (List Int)} (h : RdLL w v ls) (f : Fr [] w w') : RdLL w' v ls := by
  obtain ⟨vs, h1, h2⟩ := h
  exact ⟨vs, Reads.frS h1 f (by simp), fun i hi => (h2 i hi).fr f⟩
theorem RdLL.one {w : World} {v : Value} {ls : List (List Int)} (h : RdLL w v ls) : v.oneCell' = true := by obtain ⟨_, ⟨_, ad, cap, rfl, _⟩, _⟩ := h; rfl
theorem RdLL.nil (w : World) : RdLL w (.slice none 0 0) [] := ⟨[], ⟨rfl, none, 0, rfl, fun h => absurd rfl h⟩, fun i hi => absurd hi (Nat.not_lt_zero i)⟩
theorem RdLL.open {w : World} {v : Value} {ls : List (List Int)} (h : RdLL w v ls) : ∃ ad cap b o, ∃ vs : List Value, v = .slice ad ls.length cap ∧ (0 < ls.length → ad = some ⟨b, o, none⟩) ∧
    (∀ w', Fr [] w w' → ∀ i, i < ls.length → w'.cell? ⟨b, o + i, none⟩ = some (vs.getD i (.slice none 0 0))) ∧ ∀ w', Fr [] w w' → ∀ i, i < ls.length → RdI w' (vs.getD i (.slice none 0 0)) (ls.getD i []) := by
  obtain ⟨vs, h1, h2⟩ := h
  obtain ⟨ad, cap, b, o, e, had, hc⟩ := h1.openV
  exact ⟨ad, cap, b, o, vs, e, had, fun w' f i hi => hc w' [] f (by simp) i hi, fun w' f i hi => (h2 i hi).fr f⟩
/-- What is asked of a function value that tests a list. -/
def TestsLL (P : Program) (g : FuncId) (first cap : Array Value) (p : List Int → Bool) (ls : List (List Int)) (w : World) : Prop := ∀ (v : Value) (l : List Int) (w' : World), Fr [] w w' → l ∈ ls → RdI w' v l → CnV P g (first ++ #[v] ++ cap) w' (.bool (p l))
theorem TestsLL.fr {P : Program} {g : FuncId} {first cap : Array Value} {p : List Int → Bool} {ls : List (List Int)} {w w1 : World} (h : TestsLL P g first cap p ls w) (f : Fr [] w w1) : TestsLL P g first cap p ls w1 := fun v l w' f' hm hr => h v l w' (f.trans f' (by simp)) hm hr
theorem getD_memL {xs : List (List Int)} {k : Nat} (h : k < xs.length) : xs.getD k [] ∈ xs := by rw [List.getD_eq_getElem?_getD, List.getElem?_eq_getElem h]; exact List.getElem_mem h
def idxLL (xs : List (List Int)) (p : List Int → Bool) : Int := if xs.any p then (xs.findIdx p : Int) else -1
theorem idxLL_hit {xs : List (List Int)} {p : List Int → Bool} {k : Nat} (hk : k < xs.length) (hp : p (xs.getD k []) = true) (hn : ∀ j, j < k → p (xs.getD j []) = false) : idxLL xs p = k := by
  rw [List.getD_eq_getElem?_getD, List.getElem?_eq_getElem hk] at hp
  simp only [Option.getD_some] at hp
  have h1 : xs.any p = true := List.any_eq_true.2 ⟨_, List.getElem_mem hk, hp⟩
  unfold idxLL
  rw [if_pos h1]
  have : xs.findIdx p = k := by
    apply (List.findIdx_eq hk).2
    refine ⟨hp, fun j hj => ?_⟩
    have := hn j hj
    rw [List.getD_eq_getElem?_getD, List.getElem?_eq_getElem (Nat.lt_trans hj hk)] at this
    simpa using this
  rw [this]
theorem idxLL_miss {xs : List (List Int)} {p : List Int → Bool} (hn : ∀ j, j < xs.length → p (xs.getD j []) = false) : idxLL xs p = -1 := by
  unfold idxLL
  rw [if_neg]
  intro h
  obtain ⟨x, hx, hp⟩ := List.any_eq_true.1 h
  obtain ⟨j, hj, rfl⟩ := List.getElem_of_mem hx
  have := hn j hj
  rw [List.getD_eq_getElem?_getD, List.getElem?_eq_getElem hj] at this
  simp only [Option.getD_some] at this
  rw [this] at hp; cases hp
theorem idxLL_any (xs : List (List Int)) (p : List Int → Bool) : decide (0 ≤ idxLL xs p) = xs.any p := by
  unfold idxLL
  cases h : xs.any p
  · simp
  · simp
theorem indexFuncLL_c (g : FuncId) [GoFn Tryz.prog g] (first cap : Array Value) (p : List Int → Bool) (xs : List (List Int)) (hx : (xs.length : Int) ≤ 9000000000000000000) (sl : Value) (w : World) (hr : RdLL w sl xs) (ht : TestsLL Tryz.prog g first cap p xs w) :
    CnV Tryz.prog 165 #[sl, .func (.func g) first cap] w (vi (idxLL xs p)) := by
  obtain ⟨ad, cp, b0, o, vs, rfl, had, hcell, hin⟩ := hr.open
  refine cnv (vs := [_, _]) Tryz.func165 rfl rfl ?_
  all_goals refine tc_seq fun K1 hK1 => ?_; refine tc_region ?_; refine tl_q (y_assign rfl) rfl ?_; refine tl_nil ?_; ((refine hK1 ?_; try (clear hK1; clear K1)))
  all_goals refine tc_seq fun K2 hK2 => ?_; refine tc_seq fun K3 hK3 => ?_; refine tc_region ?_; refine tl_q (y_move rfl) rfl ?_; refine tl_q (y_len rfl) rfl ?_; refine tl_q (y_move rfl) rfl ?_; refine tl_nil ?_; ((refine hK3 ?_; try (clear hK3; clear K3)))
  all_goals refine tc_block ?_
  all_goals (
   refine tc_loop (fun k : Nat => k ≤ xs.length ∧ ∀ j, j < k → p (xs.getD j []) = false) (fun k => [(0, .slice ad xs.length cp), (1, .func (.func g) first cap), (7, vi xs.length), (8, vi k)]) (fun _ => [(w, [])]) (fun _ => []) (fun k => xs.length - k) ?_ ?_
   · exact tk_start 0 ⟨Nat.zero_le _, fun j hj => absurd hj (Nat.not_lt_zero j)⟩ (.cons rfl (.cons rfl (.cons rfl (.cons rfl .nil)))) (fun _ h => h)
   · rintro k ⟨hk, hj⟩
     all_goals refine tc_seq fun K4 hK4 => ?_; refine tc_region ?_; refine tl_q (y_lss rfl rfl) rfl ?_; refine tl_nil ?_; ((refine hK4 ?_; try (clear hK4; clear K4)))
     all_goals refine tc_seq fun K5 hK5 => ?_
     all_goals (
      refine tc_cond rfl (fun hc => ?_) (fun hc => ?_)
      · try simp only [qn1, qn2, qn3, qn4, qn5, qn6, qn7, qn8] at hc
        all_goals refine tc_skip ?_; ((refine hK5 ?_; try (clear hK5; clear K5)))
        all_goals refine tc_seq fun K6 hK6 => ?_; refine tc_block ?_; refine tc_seq fun K7 hK7 => ?_; refine tc_region ?_; refine tl_q (y_move rfl) rfl ?_; refine tl_q (y_assign rfl) rfl ?_; refine tl_nil ?_; ((refine hK7 ?_; try (clear hK7; clear K7)))
        all_goals refine tc_seq fun K8 hK8 => ?_
        have had' := had (by omega)
        all_goals refine tc_region ?_; refine tl_q (y_move rfl) rfl ?_; refine tl_q (y_move rfl) rfl ?_; refine tl_q (y_move rfl) rfl ?_; refine tl_q (y_index rfl rfl (by omega) had') rfl ?_; ((refine tl_q (y_load1o (v := vs.getD k (.slice none 0 0)) rfl (fun w' hw' => by rw [show Int.toNat (k : Int) * 1 = k from by omega]; exact hcell w' (hw'.fr (by simp)) k (by omega))) rfl ?_))
        all_goals refine tl_e (e_callVf rfl rfl (.cons rfl .nil) (fun w' hw' => ht _ (xs.getD k []) w' (hw'.fr (by simp)) (getD_memL (by omega)) (hin w' (hw'.fr (by simp)) k (by omega)))) rfl (fun _ _ => ?_); refine tl_nil ?_; ((refine hK8 ?_; try (clear hK8; clear K8)))
        all_goals (
         refine tc_cond rfl (fun hc => ?_) (fun hc => ?_)
         · all_goals (skip)
           all_goals refine tc_seq fun K9 hK9 => ?_; refine tc_region ?_; refine tl_q (y_move rfl) rfl ?_; refine tl_q (y_assign rfl) rfl ?_; refine tl_nil ?_; ((refine hK9 ?_; try (clear hK9; clear K9)))
           all_goals refine tc_ret ?_; (repeat (first | refine tk_then_ret ?_ | refine tk_block_ret ?_))
           all_goals (refine tk_ret rfl rfl (.cons (.tmp rfl) .nil) ?_)
           all_goals (
            first | exact fun w' hw' => ⟨by rw [idxLL_hit (k := k) (by omega) (by simpa using hc) hj]; rfl, hw'.fr (by simp)⟩ | exact fun w' hw' => ⟨by rw [idxLL_miss (fun j hjj => hj j (by omega))]; rfl, hw'.fr (by simp)⟩)
         · all_goals (skip)
           all_goals refine tc_skip ?_; ((refine hK6 ?_; try (clear hK6; clear K6)))
           all_goals refine tc_region ?_; refine tl_q (y_add rfl rfl (by omega)) rfl ?_; refine tl_q (y_move rfl) rfl ?_; refine tl_nil ?_
           all_goals (
            exact tk_round (k + 1) ⟨by omega, fun j hj' => by rcases Nat.lt_succ_iff_lt_or_eq.1 hj' with h | rfl; exact hj j h; simpa using hc⟩ (by omega) (.cons rfl (.cons rfl (.cons rfl (.cons rfl .nil)))) (fun _ h => h)))
      · try simp only [qn1, qn2, qn3, qn4, qn5, qn6, qn7, qn8] at hc
        all_goals refine tc_exit ?_; ((refine hK2 ?_; try (clear hK2; clear K2)))
        all_goals refine tc_seq fun K10 hK10 => ?_; refine tc_region ?_; refine tl_q (y_assign rfl) rfl ?_; refine tl_nil ?_; ((refine hK10 ?_; try (clear hK10; clear K10)))
        all_goals refine tc_ret ?_; (repeat (first | refine tk_then_ret ?_))
        all_goals (refine tk_ret rfl rfl (.cons (.tmp rfl) .nil) ?_)
        all_goals (
         first | exact fun w' hw' => ⟨by rw [idxLL_hit (k := k) (by omega) (by simpa using hc) hj]; rfl, hw'.fr (by simp)⟩ | exact fun w' hw' => ⟨by rw [idxLL_miss (fun j hjj => hj j (by omega))]; rfl, hw'.fr (by simp)⟩)))
theorem containsFuncLL_c (g : FuncId) [GoFn Tryz.prog g] (first cap : Array Value) (p : List Int → Bool) (xs : List (List Int)) (hx : (xs.length : Int) ≤ 9000000000000000000) (sl : Value) (w : World) (hr : RdLL w sl xs) (ht : TestsLL Tryz.prog g first cap p xs w) :
    CnV Tryz.prog 139 #[sl, .func (.func g) first cap] w (.bool (xs.any p)) := by
  refine cnv (vs := [_, _]) Tryz.func139 rfl rfl ?_
  all_goals refine tc_seq fun K1 hK1 => ?_; refine tc_region ?_; refine tl_q (y_assign rfl) rfl ?_; refine tl_nil ?_; ((refine hK1 ?_; try (clear hK1; clear K1)))
  all_goals refine tc_seq fun K2 hK2 => ?_; refine tc_region ?_; refine tl_q (y_move rfl) rfl ?_; refine tl_q (y_move rfl) rfl ?_; refine tl_e (e_callV rfl (.cons rfl (.cons rfl .nil)) (fun w' hw' => indexFuncLL_c g first cap p xs hx _ w' (hr.fr (hw'.fr (by simp))) (ht.fr (hw'.fr (by simp))))) rfl (fun _ _ => ?_); refine tl_q (y_geq rfl rfl) rfl ?_; refine tl_q (y_assign rfl) rfl ?_; refine tl_nil ?_; ((refine hK2 ?_; try (clear hK2; clear K2)))
  all_goals refine tc_ret ?_; (repeat (first | refine tk_then_ret ?_))
  all_goals (refine tk_ret rfl rfl (.cons (.tmp rfl) .nil) ?_)
  all_goals (
   exact fun w' hw' => ⟨by rw [← idxLL_any]; rfl, hw'.fr (by simp)⟩)
theorem allLL1_c (g : FuncId) [GoFn Tryz.prog g] (first cap : Array Value) (p : List Int → Bool) (v : Value) (l : List Int) (b : Nat) (w : World) (hv : RdI w v l) (hb : w.cell? ⟨b, 0, none⟩ = some (.func (.func g) first cap)) (xs : List (List Int)) (hm : l ∈ xs) (ht : TestsLL Tryz.prog g first cap p xs w) :
    CnV Tryz.prog 140 #[v, .pointer (some ⟨b, 0, none⟩)] w (.bool (!(p l))) := by
  refine cnv (vs := [_, _]) Tryz.func140 rfl rfl ?_
  all_goals refine tc_seq fun K1 hK1 => ?_; refine tc_region ?_; refine tl_q (y_assign rfl) rfl ?_; refine tl_nil ?_; ((refine hK1 ?_; try (clear hK1; clear K1)))
  all_goals refine tc_seq fun K2 hK2 => ?_; refine tc_region ?_; refine tl_q (y_load1o rfl (fun w' hw' => (hw'.fr (S := []) (w0 := w) (by simp)).cell (by simp) hb)) rfl ?_; refine tl_q (y_move rfl) rfl ?_; refine tl_e (e_callVf rfl rfl (.cons rfl .nil) (fun w' hw' => ht v l w' (hw'.fr (by simp)) hm (hv.fr (hw'.fr (by simp))))) rfl (fun _ _ => ?_); refine tl_q (y_not rfl) rfl ?_; refine tl_q (y_assign rfl) rfl ?_; refine tl_nil ?_; ((refine hK2 ?_; try (clear hK2; clear K2)))
  all_goals refine tc_ret ?_; (repeat (first | refine tk_then_ret ?_))
  all_goals (refine tk_ret rfl rfl (.cons (.tmp rfl) .nil) ?_)
  all_goals (
   exact fun w' hw' => ⟨rfl, hw'.fr (by simp)⟩)
theorem allLL_c (g : FuncId) [GoFn Tryz.prog g] (first cap : Array Value) (p : List Int → Bool) (xs : List (List Int)) (hx : (xs.length : Int) ≤ 9000000000000000000) (sl : Value) (w : World) (hr : RdLL w sl xs) (ht : TestsLL Tryz.prog g first cap p xs w) :
    CnV Tryz.prog 90 #[sl, .func (.func g) first cap] w (.bool (xs.all p)) := by
  refine cnv (vs := [_, _]) Tryz.func90 rfl rfl ?_
  all_goals refine tc_seq fun K1 hK1 => ?_; refine tc_region ?_; refine tl_e (e_box rfl rfl rfl) rfl (fun b _ => ?_); refine tl_q (y_assign rfl) rfl ?_; refine tl_nil ?_; ((refine hK1 ?_; try (clear hK1; clear K1)))
  all_goals refine tc_seq fun K2 hK2 => ?_; refine tc_region ?_; refine tl_q (y_move rfl) rfl ?_; refine tl_q (y_fn .nil (.cons rfl .nil)) rfl ?_; refine tl_e (e_callV rfl (.cons rfl (.cons rfl .nil)) (fun w' hw' => containsFuncLL_c 140 #[] #[.pointer (some ⟨b, 0, none⟩)] (fun x => !(p x)) xs hx _ w' (hr.fr (hw'.fr (by simp))) (fun v x w2 f hm hv => by simpa using allLL1_c g first cap p v x b w2 hv (f.cell (by simp) (cellAt_cell? (hw'.heap _ (HM.mem (by repeat constructor))) rfl)) xs hm ((ht.fr (hw'.fr (by simp))).fr f)))) rfl (fun _ _ => ?_); refine tl_q (y_not rfl) rfl ?_; refine tl_q (y_assign rfl) rfl ?_; refine tl_nil ?_; ((refine hK2 ?_; try (clear hK2; clear K2)))
  all_goals refine tc_ret ?_; (repeat (first | refine tk_then_ret ?_))
  all_goals (refine tk_ret rfl rfl (.cons (.tmp rfl) .nil) ?_)
  all_goals (
   exact fun w' hw' => ⟨by simp [outV, List.all_eq_not_any_not], hw'.fr (by simp)⟩)
def uniqS (L : List Int) : List Int := Lib.compact (L.mergeSort fun x y => decide (x ≤ y))
theorem sortedS (L : List Int) : (L.mergeSort fun x y => decide (x ≤ y)).Pairwise (· ≤ ·) := by
  have := List.pairwise_mergeSort (le := fun x y : Int => decide (x ≤ y)) (fun a b c h1 h2 => decide_eq_true (by have := of_decide_eq_true h1; have := of_decide_eq_true h2; omega)) (fun a b => by rw [Bool.or_eq_true, decide_eq_true_eq, decide_eq_true_eq]; omega) L
  exact this.imp fun h => of_decide_eq_true h
theorem compact_sorted {zs : List Int} (h : zs.Pairwise (· ≤ ·)) : (Lib.compact zs).Pairwise (· < ·) ∧ ∀ x, x ∈ Lib.compact zs ↔ x ∈ zs := by
  have hget : ∀ i, i < zs.length → zs.toArray[i]! = zs.getD i 0 := fun i hi => by
    rw [List.getD_eq_getElem?_getD, List.getElem?_eq_getElem hi]
    simp [hi]
  have hle : ∀ i j, i ≤ j → j < zs.length → zs.getD i 0 ≤ zs.getD j 0 := fun i j hij hj => by
    rcases Nat.lt_or_eq_of_le hij with hlt | rfl
    · rw [List.getD_eq_getElem?_getD, List.getD_eq_getElem?_getD, List.getElem?_eq_getElem hj, List.getElem?_eq_getElem (by omega)]
      exact List.pairwise_iff_getElem.1 h i j (by omega) hj hlt
    · exact Int.le_refl _
  have hk : ∀ j, j < zs.length → (Lib.keeps zs.toArray j = true ↔ (j = 0 ∨ zs.getD j 0 ≠ zs.getD (j - 1) 0)) := fun j hj => by
    unfold Lib.keeps
    rw [decide_eq_true_eq, hget j hj, hget (j - 1) (by omega)]
  unfold Lib.compact Lib.compactUpTo
  constructor
  · rw [List.pairwise_map]
    refine (List.pairwise_lt_range.filter _).imp_of_mem fun {i j} hi hj hij => ?_
    have hi1 := List.mem_range.1 (List.mem_filter.1 hi).1
    have hj1 := List.mem_range.1 (List.mem_filter.1 hj).1
    have hj2 := (hk j hj1).1 (List.mem_filter.1 hj).2
    rw [hget i hi1, hget j hj1]
    have h1 := hle i (j - 1) (by omega) (by omega)
    have h2 := hle (j - 1) j (by omega) hj1
    rcases hj2 with e | e
    · omega
    · omega
  · intro x
    constructor
    · intro hx
      obtain ⟨i, hi, rfl⟩ := List.mem_map.1 hx
      have hi1 := List.mem_range.1 (List.mem_filter.1 hi).1
      rw [hget i hi1, List.getD_eq_getElem?_getD, List.getElem?_eq_getElem hi1]
      exact List.getElem_mem hi1
    · intro hx
      obtain ⟨i, hi, rfl⟩ := List.getElem_of_mem hx
      have hex : ∃ j, j < zs.length ∧ zs.getD j 0 = zs[i] := ⟨i, hi, by rw [List.getD_eq_getElem?_getD, List.getElem?_eq_getElem hi]; rfl⟩
      have key : ∀ n j, j ≤ n → j < zs.length → zs.getD j 0 = zs[i] → ∃ k, k < zs.length ∧ zs.getD k 0 = zs[i] ∧ (k = 0 ∨ zs.getD k 0 ≠ zs.getD (k - 1) 0) := by
        intro n
        induction n with
        | zero => intro j hj hjl he; exact ⟨j, hjl, he, .inl (by omega)⟩
        | succ n ih =>
          intro j hj hjl he
          by_cases h0 : j = 0
          · exact ⟨j, hjl, he, .inl h0⟩
          · by_cases h1 : zs.getD j 0 = zs.getD (j - 1) 0
            · exact ih (j - 1) (by omega) (by omega) (by rw [← h1]; exact he)
            · exact ⟨j, hjl, he, .inr h1⟩
      obtain ⟨j, hj, he⟩ := hex
      obtain ⟨k, hk1, hk2, hk3⟩ := key j j (Nat.le_refl _) hj he
      exact List.mem_map.2 ⟨k, List.mem_filter.2 ⟨List.mem_range.2 hk1, (hk k hk1).2 hk3⟩, by rw [hget k hk1, hk2]⟩
theorem uniqS_inc (L : List Int) : (uniqS L).Pairwise (· < ·) := (compact_sorted (sortedS L)).1
theorem uniqS_mem (L : List Int) (x : Int) : x ∈ uniqS L ↔ x ∈ L := by
  unfold uniqS
  rw [(compact_sorted (sortedS L)).2 x]
  exact (List.mergeSort_perm L _).mem_iff
theorem uniqS_eq {L M : List Int} (hM : M.Pairwise (· < ·)) (h : ∀ x, x ∈ M ↔ x ∈ L) : uniqS L = M := inc_ext (uniqS_inc L) hM fun x => by rw [uniqS_mem, h x]
end Go.Sp
/-
  What the statements are made of: two readings, ranges, what is seen.
-/
namespace Go.Sp
open Go Go.Proofs
abbrev v8 (n : Int) : Value := .int .u8 n
end Go.Sp
/-
  The plain laws: what the program computes is what the reference says.
-/
namespace Go.Sp
open Go Go.Proofs
theorem from_le {m v d : Int} (hv : 0 < v) : fromF m v ≤ d ↔ 1000 * m ≤ d * v := by
  unfold fromF
  have h : (1000 * m + v - 1) / v < d + 1 ↔ 1000 * m + v - 1 < (d + 1) * v := Int.ediv_lt_iff_lt_mul hv
  have e : (d + 1) * v = d * v + v := by rw [Int.add_mul, Int.one_mul]
  omega
theorem le_below {m v d : Int} (hv : 0 < v) : d ≤ belowF m v ↔ d * v ≤ 1000 * m := Int.le_ediv_iff_mul_le hv
theorem fl_mem {s : Sn} (hs : VS s) {k d : Int} (h1 : 1 ≤ d) (h2 : d ≤ 2000) : ((floF s k).1 ≤ d ∧ d ≤ (floF s k).2) ↔ rFlo s k d = 0 := by
  have hds := ds_bd hs
  have hv1 := hs.v1
  have a1 := from_le (m := massF s k) (v := s.volume + s.divisions * s.step) (d := d) (by omega)
  have a2 := le_below (m := massF s k) (v := s.volume) (d := d) (by omega)
  have e : d * (s.volume + s.divisions * s.step) = d * s.volume + d * (s.divisions * s.step) := Int.mul_add ..
  unfold floF rFlo
  dsimp only
  split
  · omega
  · split
    · omega
    · omega
theorem flo_cases (s : Sn) (k d : Int) : rFlo s k d = 0 ∨ rFlo s k d = -1 ∨ rFlo s k d = -2 := by
  unfold rFlo; split; exact .inr (.inr rfl); split; exact .inr (.inl rfl); exact .inl rfl
theorem mean_mem {s : Sn} (hs : VS s) {k seen d : Int} (hk0 : 0 ≤ k) (hk1 : k ≤ s.weights.length) (h0 : -2 ≤ seen) (h3 : seen ≤ s.divisions) (h1 : 1 ≤ d) (h2 : d ≤ 2000) : ((meanF s k seen).1 ≤ d ∧ d ≤ (meanF s k seen).2) ↔ rFit s (k, seen) d = true := by
  have hds := ds_bd hs
  have hv1 := hs.v1
  have hw1 := hs.w1
  have a1 := from_le (m := massF s k) (v := s.volume + s.divisions * s.step) (d := d) (by omega)
  have a2 := le_below (m := massF s k) (v := s.volume) (d := d) (by omega)
  have e : d * (s.volume + s.divisions * s.step) = d * s.volume + d * (s.divisions * s.step) := Int.mul_add ..
  have e2 : 0 ≤ d * (s.divisions * s.step) := Int.mul_nonneg (by omega) (by omega)
  have hf := fl_mem hs (k := k) h1 h2
  unfold meanF rFit
  dsimp only
  by_cases c1 : seen = -1
  · subst c1
    rw [if_pos rfl, if_pos (by omega), decide_eq_true_eq]
    unfold rFlo meetF
    dsimp only
    split
    · omega
    · split <;> omega
  · rw [if_neg c1]
    by_cases c2 : seen = -2
    · subst c2
      rw [if_pos rfl, if_pos (by omega), decide_eq_true_eq]
      unfold rFlo meetF
      dsimp only
      split
      · omega
      · split <;> omega
    · rw [if_neg c2]
      have hdv := dv_bd hs (n := seen) (by omega) h3
      have b1 := from_le (m := massF s k) (v := s.volume + seen * s.step + s.width) (d := d) (by omega)
      have hc := flo_cases s k d
      have b4 := massF_bd hs hk0 hk1
      have b3 : s.volume + seen * s.step - s.width ≤ 0 → d * (s.volume + seen * s.step - s.width) ≤ 0 := fun h => Int.mul_nonpos_of_nonneg_of_nonpos (by omega) h
      by_cases c4 : s.width < s.volume + seen * s.step
      · rw [if_pos c4]
        have b2 := le_below (m := massF s k) (v := s.volume + seen * s.step - s.width) (d := d) (by omega)
        by_cases c3 : rFlo s k d < 0
        · rw [if_pos (.inr c3), decide_eq_true_eq]
          simp only [meetF]; omega
        · rw [if_neg (by omega), decide_eq_true_eq]
          simp only [meetF]; omega
      · rw [if_neg c4]
        have b3' := b3 (by omega)
        by_cases c3 : rFlo s k d < 0
        · rw [if_pos (.inr c3), decide_eq_true_eq]
          simp only [meetF]; omega
        · rw [if_neg (by omega), decide_eq_true_eq]
          simp only [meetF]; omega
end Go.Sp
/-
  The plain laws: what loads cover, what is seen.
-/
namespace Go.Sp
open Go Go.Proofs
theorem at_eq {s : Sn} (hs : VS s) {k d : Int} (h1 : 1 ≤ d) (h2 : d ≤ 2000) : atF s k d = rFlo s k d := by
  have hm := fl_mem hs (k := k) h1 h2
  have e : d * (s.volume + s.divisions * s.step) = d * s.volume + d * (s.divisions * s.step) := Int.mul_add ..
  have hds := ds_bd hs
  have e2 : 0 ≤ d * (s.divisions * s.step) := Int.mul_nonneg (by omega) (by omega)
  unfold atF
  by_cases h : rFlo s k d = 0
  · rw [if_pos (hm.2 h), h]
  · rw [if_neg (fun hh => h (hm.1 hh))]
    unfold rFlo at h ⊢
    split
    · rfl
    · rw [if_neg ‹_›] at h
      split
      · rfl
      · rw [if_neg ‹_›] at h; exact absurd rfl h
/-- If it floats, some division can be read. -/
theorem some_div {s : Sn} (hs : VS s) {k d : Int} (h1 : 1 ≤ d) (hf : rFlo s k d = 0) : ∃ i : Nat, (i : Int) ≤ s.divisions ∧ rFit s (k, (i : Int)) d = true := by
  have hw1 := hs.w1
  have hw2 := hs.w2
  have hw3 := hs.w3
  have hs1 := hs.s1
  have hd1 := hs.d1
  have hfl : d * s.volume ≤ 1000 * massF s k ∧ 1000 * massF s k ≤ d * (s.volume + s.divisions * s.step) := by
    unfold rFlo at hf
    split at hf
    · cases hf
    · split at hf
      · cases hf
      · omega
  have hsd : 0 < s.step * d := Int.mul_pos (by omega) (by omega)
  have eD : d * (s.volume + s.divisions * s.step) = d * s.volume + s.divisions * (s.step * d) := by
    rw [Int.mul_add, Int.mul_comm d (s.divisions * s.step), Int.mul_assoc]
  have eA : ∀ n : Int, d * (s.volume + n * s.step - s.width) = d * s.volume + n * (s.step * d) - s.width * d := fun n => by
    rw [Int.mul_sub, Int.mul_add, Int.mul_comm d (n * s.step), Int.mul_assoc, Int.mul_comm d s.width]
  have eB : ∀ n : Int, d * (s.volume + n * s.step + s.width) = d * s.volume + n * (s.step * d) + s.width * d := fun n => by
    rw [Int.mul_add, Int.mul_add, Int.mul_comm d (n * s.step), Int.mul_assoc, Int.mul_comm d s.width]
  have hW : s.step * d ≤ 2 * (s.width * d) := by
    have := Int.mul_le_mul_of_nonneg_right hw3 (show 0 ≤ d by omega)
    rw [Int.mul_assoc] at this
    exact this
  have hWp : 0 < s.width * d := Int.mul_pos (by omega) (by omega)
  obtain ⟨q, hq⟩ : ∃ q, q = 1000 * massF s k - d * s.volume := ⟨_, rfl⟩
  have hq0 : 0 ≤ q := by omega
  have hdm := Int.mul_ediv_add_emod q (s.step * d)
  have hr0 := Int.emod_nonneg q (show s.step * d ≠ 0 by omega)
  have hr1 := Int.emod_lt_of_pos q hsd
  have hi0 : 0 ≤ q / (s.step * d) := Int.ediv_nonneg hq0 (by omega)
  have hiD : q / (s.step * d) ≤ s.divisions := by
    have : q / (s.step * d) ≤ (s.divisions * (s.step * d)) / (s.step * d) := Int.ediv_le_ediv hsd (by omega)
    rwa [Int.mul_ediv_cancel _ (by omega)] at this
  rw [Int.mul_comm] at hdm
  have hfit : ∀ n : Int, 0 ≤ n → n * (s.step * d) - s.width * d ≤ q → q ≤ n * (s.step * d) + s.width * d → rFit s (k, n) d = true := fun n hn g1 g2 => by
    unfold rFit
    rw [if_neg (by dsimp only; omega), decide_eq_true_eq]
    dsimp only
    rw [eA, eB]
    omega
  by_cases hc : q % (s.step * d) ≤ s.width * d
  · refine ⟨(q / (s.step * d)).toNat, by omega, ?_⟩
    rw [show ((q / (s.step * d)).toNat : Int) = q / (s.step * d) by omega]
    exact hfit _ hi0 (by omega) (by omega)
  · have hlt : q / (s.step * d) < s.divisions := by
      rcases Int.lt_or_eq_of_le hiD with h | h
      · exact h
      · rw [h] at hdm; omega
    refine ⟨(q / (s.step * d) + 1).toNat, by omega, ?_⟩
    rw [show ((q / (s.step * d) + 1).toNat : Int) = q / (s.step * d) + 1 by omega]
    have e1 : (q / (s.step * d) + 1) * (s.step * d) = q / (s.step * d) * (s.step * d) + s.step * d := by rw [Int.add_mul, Int.one_mul]
    exact hfit _ (by omega) (by omega) (by omega)
end Go.Sp
/-
  The document's examples hold.
-/
namespace Go.Sp
open Go Go.Proofs
end Go.Sp
/-
  Contracts with known values.
-/
namespace Go.Sp
open Go Go.Proofs
end Go.Sp
/-
  What See returns is what the reference says.
-/
namespace Go.Sp
open Go Go.Proofs
def refStep (s : Sn) (k d : Int) (r : Int × Int) (x : Nat) : Int × Int := if rFit s (k, (x : Int)) d = true then (min r.1 x, max r.2 x) else r
def refAcc (s : Sn) (k d : Int) (n : Nat) : Int × Int := (List.range n).foldl (refStep s k d) (99, -1)
theorem refAcc_succ (s : Sn) (k d : Int) (n : Nat) : refAcc s k d (n + 1) = refStep s k d (refAcc s k d n) n := by simp [refAcc, List.range_succ]
theorem see_ref {s : Sn} (hs : VS s) {k d : Int} (hk0 : 0 ≤ k) (hk1 : k ≤ s.weights.length) (h1 : 1 ≤ d) (h2 : d ≤ 2000) : ∀ n : Nat, n ≤ (s.divisions + 1).toNat →
    ((∀ i : Nat, i < n → rFit s (k, (i : Int)) d = false) ∧ seeAcc s k d n = (s.divisions, 0) ∧ refAcc s k d n = (99, -1)) ∨ seeAcc s k d n = refAcc s k d n := by
  intro n
  have hd1 := hs.d1
  have hd2 := hs.d2
  induction n with
  | zero => intro _; exact .inl ⟨fun i hi => absurd hi (Nat.not_lt_zero i), rfl, rfl⟩
  | succ n ih =>
    intro hn
    have hm := mean_mem hs hk0 hk1 (seen := (n : Int)) (by omega) (by omega) h1 h2
    rw [seeAcc_succ, refAcc_succ]
    unfold seeStep refStep
    cases hf : rFit s (k, (n : Int)) d
    · rw [hf] at hm
      rw [if_neg (fun h => absurd (hm.1 h) Bool.false_ne_true), if_neg Bool.false_ne_true]
      rcases ih (by omega) with ⟨g1, g2, g3⟩ | g
      · exact .inl ⟨fun i hi => by
          rcases Nat.lt_succ_iff_lt_or_eq.1 hi with h | rfl
          · exact g1 i h
          · exact hf, g2, g3⟩
      · exact .inr g
    · rw [hf] at hm
      rw [if_pos (hm.2 rfl), if_pos rfl]
      rcases ih (by omega) with ⟨_, g2, g3⟩ | g
      · rw [g2, g3]
        right
        dsimp only
        rw [show min s.divisions (n : Int) = n by omega, show max (0 : Int) (n : Int) = n by omega, show min (99 : Int) (n : Int) = n by omega, show max (-1 : Int) (n : Int) = n by omega]
      · rw [g]; exact .inr rfl
theorem see_eq {s : Sn} (hs : VS s) {k d : Int} (hk0 : 0 ≤ k) (hk1 : k ≤ s.weights.length) (h1 : 1 ≤ d) (h2 : d ≤ 2000) (hf : rFlo s k d = 0) : seeAcc s k d (s.divisions.toNat + 1) = refAcc s k d (s.divisions + 1).toNat := by
  have hd1 := hs.d1
  rw [show s.divisions.toNat + 1 = (s.divisions + 1).toNat by omega]
  rcases see_ref hs hk0 hk1 h1 h2 (s.divisions + 1).toNat (Nat.le_refl _) with ⟨g, _, _⟩ | g
  · obtain ⟨i, hi, hfit⟩ := some_div hs h1 hf
    rw [g i (by omega)] at hfit; cases hfit
  · exact g
end Go.Sp
/-
  What See and Mean return.
-/
namespace Go.Sp
open Go Go.Proofs
theorem refAcc_spec (s : Sn) (k d : Int) : ∀ n : Nat, n ≤ 30 → ((∀ i : Nat, i < n → rFit s (k, (i : Int)) d = false) ∧ refAcc s k d n = (99, -1)) ∨
    ∃ a b : Nat, a < n ∧ b < n ∧ rFit s (k, (a : Int)) d = true ∧ rFit s (k, (b : Int)) d = true ∧ refAcc s k d n = ((a : Int), (b : Int)) ∧ ∀ i : Nat, i < n → rFit s (k, (i : Int)) d = true → a ≤ i ∧ i ≤ b := by
  intro n
  induction n with
  | zero => intro _; exact .inl ⟨fun i hi => absurd hi (Nat.not_lt_zero i), rfl⟩
  | succ n ih =>
    intro hn
    rw [refAcc_succ]
    unfold refStep
    cases hf : rFit s (k, (n : Int)) d
    · rw [if_neg Bool.false_ne_true]
      rcases ih (by omega) with ⟨g1, g2⟩ | ⟨a, b, h1, h2, h3, h4, h5, h6⟩
      · exact .inl ⟨fun i hi => by
          rcases Nat.lt_succ_iff_lt_or_eq.1 hi with h | rfl
          · exact g1 i h
          · exact hf, g2⟩
      · exact .inr ⟨a, b, by omega, by omega, h3, h4, h5, fun i hi hfi => by
          rcases Nat.lt_succ_iff_lt_or_eq.1 hi with h | rfl
          · exact h6 i h hfi
          · rw [hf] at hfi; cases hfi⟩
    · rw [if_pos rfl]
      rcases ih (by omega) with ⟨g1, g2⟩ | ⟨a, b, h1, h2, h3, h4, h5, h6⟩
      · refine .inr ⟨n, n, by omega, by omega, hf, hf, ?_, fun i hi hfi => ?_⟩
        · rw [g2]; dsimp only; rw [show min (99 : Int) (n : Int) = n by omega, show max (-1 : Int) (n : Int) = n by omega]
        · rcases Nat.lt_succ_iff_lt_or_eq.1 hi with h | rfl
          · rw [g1 i h] at hfi; cases hfi
          · exact ⟨Nat.le_refl _, Nat.le_refl _⟩
      · refine .inr ⟨a, n, by omega, by omega, h3, hf, ?_, fun i hi hfi => ?_⟩
        · rw [h5]; dsimp only; rw [show min (a : Int) (n : Int) = a by omega, show max (b : Int) (n : Int) = n by omega]
        · rcases Nat.lt_succ_iff_lt_or_eq.1 hi with h | rfl
          · have := h6 i h hfi; omega
          · omega
theorem fit_div {s : Sn} {k d i : Int} (hi : 0 ≤ i) : rFit s (k, i) d = true ↔ rFlo s k d = 0 ∧ d * (s.volume + i * s.step - s.width) ≤ 1000 * massF s k ∧ 1000 * massF s k ≤ d * (s.volume + i * s.step + s.width) := by
  have hc := flo_cases s k d
  unfold rFit
  by_cases c : rFlo s k d < 0
  · rw [if_pos (.inr c), decide_eq_true_eq]; dsimp only; omega
  · rw [if_neg (by dsimp only; omega), decide_eq_true_eq]; dsimp only; omega
theorem fit_between {s : Sn} (hs : VS s) {k d i x j : Int} (hd : 1 ≤ d) (hi : 0 ≤ i) (hix : i ≤ x) (hxj : x ≤ j) (h1 : rFit s (k, i) d = true) (h2 : rFit s (k, j) d = true) : rFit s (k, x) d = true := by
  have hs1 := hs.s1
  obtain ⟨a0, a1, a2⟩ := (fit_div hi).1 h1
  obtain ⟨_, b1, b2⟩ := (fit_div (by omega)).1 h2
  have e1 : i * s.step ≤ x * s.step := Int.mul_le_mul_of_nonneg_right hix (by omega)
  have e2 : x * s.step ≤ j * s.step := Int.mul_le_mul_of_nonneg_right hxj (by omega)
  have e3 := Int.mul_le_mul_of_nonneg_left (show s.volume + x * s.step - s.width ≤ s.volume + j * s.step - s.width by omega) (show 0 ≤ d by omega)
  have e4 := Int.mul_le_mul_of_nonneg_left (show s.volume + i * s.step + s.width ≤ s.volume + x * s.step + s.width by omega) (show 0 ≤ d by omega)
  exact (fit_div (by omega)).2 ⟨a0, by omega, by omega⟩
theorem fit_three {s : Sn} (hs : VS s) {k d i j : Int} (hd : 1 ≤ d) (hi : 0 ≤ i) (hij : i ≤ j) (h1 : rFit s (k, i) d = true) (h2 : rFit s (k, j) d = true) : j ≤ i + 2 := by
  have hs1 := hs.s1
  have hw2 := hs.w2
  obtain ⟨a0, a1, a2⟩ := (fit_div hi).1 h1
  obtain ⟨_, b1, b2⟩ := (fit_div (by omega)).1 h2
  have e1 : s.volume + j * s.step - s.width ≤ s.volume + i * s.step + s.width := by
    rcases Int.lt_or_le (s.volume + i * s.step + s.width) (s.volume + j * s.step - s.width) with h | h
    · have := Int.mul_lt_mul_of_pos_left h (show 0 < d by omega)
      omega
    · exact h
  rcases Int.lt_or_le (i + 2) j with h | h
  · have e2 : (i + 3) * s.step ≤ j * s.step := Int.mul_le_mul_of_nonneg_right (by omega) (by omega)
    rw [Int.add_mul] at e2
    omega
  · exact h
/-- What See returns. -/
theorem see_spec {s : Sn} (hs : VS s) {k d : Int} (hk0 : 0 ≤ k) (hk1 : k ≤ s.weights.length) (h1 : 1 ≤ d) (h2 : d ≤ 2000) {r1 r2 e : Int} (h : seeF s k d = ((r1, r2), e)) :
    (rFlo s k d = 0 ∧ e = 0 ∧ 0 ≤ r1 ∧ r1 ≤ r2 ∧ r2 ≤ s.divisions ∧ r2 ≤ r1 + 2 ∧ ∀ i : Int, 0 ≤ i → i ≤ s.divisions → (rFit s (k, i) d = true ↔ r1 ≤ i ∧ i ≤ r2)) ∨ (¬ rFlo s k d = 0 ∧ e = 10 ∧ r1 = 0 ∧ r2 = 0) := by
  have hd1 := hs.d1
  have hd2 := hs.d2
  have ha : askF s k d = 0 := by
    unfold askF
    rw [if_neg (by rw [chkF_valid.2 hs]; exact fun h => h rfl), if_pos ⟨⟨hk0, hk1⟩, h1, h2⟩]
  unfold seeF at h
  rw [if_neg (by omega), at_eq hs h1 h2] at h
  by_cases hf : rFlo s k d = 0
  · rw [if_neg (by omega), see_eq hs hk0 hk1 h1 h2 hf] at h
    left
    rcases refAcc_spec s k d (s.divisions + 1).toNat (by omega) with ⟨g, _⟩ | ⟨a, b, g1, g2, g3, g4, g5, g6⟩
    · obtain ⟨i, hi, hfit⟩ := some_div hs h1 hf
      rw [g i (by omega)] at hfit; cases hfit
    · rw [g5] at h
      cases h
      have hab := g6 a (by omega) g3
      refine ⟨hf, rfl, by omega, by omega, by omega, fit_three hs h1 (by omega) (by omega) g3 g4, fun i hi0 hiD => ⟨fun hfit => ?_, fun hh => fit_between hs h1 (by omega) hh.1 hh.2 g3 g4⟩⟩
      have := g6 i.toNat (by omega) (by rw [show (i.toNat : Int) = i by omega]; exact hfit)
      omega
  · rw [if_pos hf] at h
    cases h
    exact .inr ⟨hf, rfl, rfl, rfl⟩
end Go.Sp
/-
  Trials, plainly: judging; what more tests, wider liquids and other tolerances do.
-/
namespace Go.Sp
open Go Go.Proofs
def possL (t : Tr) (i : Nat) : List Int := ([-3, -2, -1, 0, 1, 2, 3] : List Int).filter fun x => (truthsL t []).any fun e => decide (get3 e i = x)
def possLL (t : Tr) (n : Nat) : List (List Int) := (List.range n).map (possL t)
theorem possLL_succ (t : Tr) (n : Nat) : possLL t (n + 1) = possLL t n ++ [possL t n] := by simp [possLL, List.range_succ]
theorem possLL_len (t : Tr) (n : Nat) : (possLL t n).length = n := by simp [possLL]
theorem mem_truths {t : Tr} {out : List Int} {e : Int × Int × Int} : e ∈ truthsL t out ↔ e ∈ everyL t ∧ denOk t e out = true := List.mem_filter
theorem truths_bd {t : Tr} (hv : VT t) {out : List Int} {e : Int × Int × Int} (h : e ∈ truthsL t out) : ErB e := every_bd hv (mem_truths.1 h).1
theorem poss_mem {t : Tr} (hv : VT t) {i : Nat} {x : Int} : x ∈ possL t i ↔ ∃ e ∈ truthsL t [], get3 e i = x := by
  unfold possL
  rw [List.mem_filter, List.any_eq_true]
  constructor
  · rintro ⟨_, e, he, h⟩
    exact ⟨e, he, of_decide_eq_true h⟩
  · rintro ⟨e, he, rfl⟩
    have := (truths_bd hv he).get i
    refine ⟨?_, e, he, decide_eq_true rfl⟩
    simp only [List.mem_cons, List.not_mem_nil, or_false]
    omega
def goodB (t : Tr) (tol : Int) (e : Int × Int × Int) : Bool := (List.range t.parts.length).all fun i => decide (get3 e i ≤ tol) && decide (-get3 e i ≤ tol)
def judgeJ (t : Tr) (tol : Int) : Int := if (truthsL t []).all (goodB t tol) = true then 1 else if (truthsL t []).any (goodB t tol) = false then 2 else 3
def judgeE (t : Tr) (tol : Int) : Int × Int := if ¬ chkT t = 0 then (0, chkT t) else if tol < 0 then (0, 2) else if ¬ askedE t = 0 then (0, askedE t) else (judgeJ t tol, 0)
theorem asked_v {t : Tr} (hv : VT t) : (askedE t = 0 ∧ 0 < (truthsL t []).length) ∨ (askedE t = 11 ∧ (truthsL t []).length = 0) := by
  unfold askedE
  have h0 := chkT_0.2 hv
  rw [if_neg (by omega)]
  split
  · exact .inr ⟨rfl, by assumption⟩
  · exact .inl ⟨rfl, by omega⟩
theorem nth_in {W n k : Nat} : (-(W : Int) ≤ (nth3 W n k).1 ∧ (nth3 W n k).1 ≤ W) ∧ (-(W : Int) ≤ (nth3 W n k).2.1 ∧ (nth3 W n k).2.1 ≤ W) ∧ (-(W : Int) ≤ (nth3 W n k).2.2 ∧ (nth3 W n k).2.2 ≤ W) ∧ (n < 2 → (nth3 W n k).2.1 = 0) ∧ (n < 3 → (nth3 W n k).2.2 = 0) := by
  unfold nth3
  dsimp only
  have h1 := Nat.mod_lt k (show 0 < 2 * W + 1 by omega)
  have h2 := Nat.mod_lt (k / (2 * W + 1)) (show 0 < 2 * W + 1 by omega)
  have h3 := Nat.mod_lt (k / (2 * W + 1) / (2 * W + 1)) (show 0 < 2 * W + 1 by omega)
  generalize k % (2 * W + 1) = a at h1 ⊢
  generalize k / (2 * W + 1) % (2 * W + 1) = b at h2 ⊢
  generalize k / (2 * W + 1) / (2 * W + 1) % (2 * W + 1) = c at h3 ⊢
  refine ⟨by omega, ?_, ?_, fun h => ?_, fun h => ?_⟩
  · split <;> omega
  · split <;> omega
  · rw [if_neg (by omega)]
  · rw [if_neg (by omega)]
theorem every_in {t : Tr} (hv : VT t) {e : Int × Int × Int} (h : e ∈ everyL t) : (-t.worst ≤ e.1 ∧ e.1 ≤ t.worst) ∧ (-t.worst ≤ e.2.1 ∧ e.2.1 ≤ t.worst) ∧ (-t.worst ≤ e.2.2 ∧ e.2.2 ≤ t.worst) ∧ (t.parts.length < 2 → e.2.1 = 0) ∧ (t.parts.length < 3 → e.2.2 = 0) := by
  have hw := hv.w
  unfold everyL at h
  obtain ⟨k, _, rfl⟩ := List.mem_map.1 h
  have := nth_in (W := t.worst.toNat) (n := t.parts.length) (k := k)
  rw [show ((t.worst.toNat : Nat) : Int) = t.worst from by omega] at this
  exact this
theorem pass_iffT {t : Tr} {e : Int × Int × Int} {i : Nat} {out : List Int} {d : Int} {n : Nat} : passN t e i out d n = true ↔ ∀ j : Nat, j < n → ¬ (t.tests.getD j (0, 0, 0)).1 = i ∨ (j : Int) ∈ out ∨ rightF t e (t.tests.getD j (0, 0, 0)) d = true := by
  unfold passN passF
  simp only [List.all_eq_true, List.mem_range, Bool.or_eq_true, decide_eq_true_eq]
theorem dense_memT {t : Tr} {e : Int × Int × Int} {i : Nat} {out : List Int} {d : Int} : d ∈ denseL t e i out ↔ ((lqAt t i).1 ≤ d ∧ d ≤ (lqAt t i).2) ∧ passN t e i out d t.tests.length = true := by
  unfold denseL denseN lqC
  rw [List.mem_map]
  constructor
  · rintro ⟨j, hj, rfl⟩
    rw [List.mem_filter, List.mem_range] at hj
    exact ⟨by omega, hj.2⟩
  · rintro ⟨h1, h2⟩
    refine ⟨(d - (lqAt t i).1).toNat, ?_, by omega⟩
    rw [List.mem_filter, List.mem_range]
    refine ⟨by omega, ?_⟩
    rw [show (lqAt t i).1 + ((d - (lqAt t i).1).toNat : Int) = d from by omega]
    exact h2
theorem denOk_iff {t : Tr} {e : Int × Int × Int} {out : List Int} : denOk t e out = true ↔ ∀ i : Nat, i < t.liquids.length → ∃ d, d ∈ denseL t e i out := by
  constructor
  · intro h i hi
    rcases Nat.eq_zero_or_pos (denseL t e i out).length with g | g
    · rw [denOk_no hi g] at h; cases h
    · exact List.exists_mem_of_length_pos g
  · intro h
    exact denOk_yes fun i hi => by
      obtain ⟨d, hd⟩ := h i hi
      exact List.length_pos_of_mem hd
theorem fitsT_iffT {t : Tr} {out : List Int} : fitsT t out = true ↔ ∃ e, e ∈ truthsL t out := by
  unfold fitsT
  rw [decide_eq_true_eq]
  exact ⟨List.exists_mem_of_length_pos, fun ⟨e, he⟩ => List.length_pos_of_mem he⟩
end Go.Sp
/-
  Trials, plainly: wider liquids, and one more test.
-/
namespace Go.Sp
open Go Go.Proofs
theorem rightF_eq {t u : Tr} (hs : u.s = t.s) (hp : u.parts = t.parts) (e x : Int × Int × Int) (d : Int) : rightF u e x d = rightF t e x d := by
  have hc : ∀ k y : Int, canF u e k d y = canF t e k d y := fun k y => by unfold canF ofF; rw [hs, hp]
  have hsh : ∀ k : Int, shownL u e k d = shownL t e k d := fun k => by
    have : ∀ n, shownN u e k d n = shownN t e k d n := fun n => by
      unfold shownN
      congr 1
      exact List.filter_congr fun x _ => hc k x
    unfold shownL
    rw [this, hs]
  unfold rightF
  rw [hsh, hc]
theorem every_eq {t u : Tr} (hw : u.worst = t.worst) (hp : u.parts = t.parts) : everyL u = everyL t := by unfold everyL; rw [hw, hp]
/-- What fits in one trial fits in the other, with other tests left out. -/
theorem truths_sub {t u : Tr} (hs : u.s = t.s) (hp : u.parts = t.parts) (hw : u.worst = t.worst) {out out2 : List Int}
    (hd : ∀ e i, i < u.liquids.length → (∃ d, d ∈ denseL t e i out) → ∃ d, d ∈ denseL u e i out2) (hl : u.liquids.length = t.liquids.length) {e : Int × Int × Int} (h : e ∈ truthsL t out) : e ∈ truthsL u out2 := by
  rw [mem_truths] at h ⊢
  rw [every_eq hw hp]
  refine ⟨h.1, denOk_iff.2 fun i hi => hd e i hi ?_⟩
  exact denOk_iff.1 h.2 i (by omega)
/-- One more test. -/
structure Mor (t u : Tr) (x : Int × Int × Int) : Prop where
  s : u.s = t.s
  p : u.parts = t.parts
  w : u.worst = t.worst
  ts : u.tests = t.tests ++ [x]
  l : u.liquids = t.liquids
theorem Mor.old {t u : Tr} {x : Int × Int × Int} (h : Mor t u x) {j : Nat} (hj : j < t.tests.length) : u.tests.getD j (0, 0, 0) = t.tests.getD j (0, 0, 0) := by
  rw [h.ts, List.getD_eq_getElem?_getD, List.getElem?_append_left hj, ← List.getD_eq_getElem?_getD]
theorem Mor.len {t u : Tr} {x : Int × Int × Int} (h : Mor t u x) : u.tests.length = t.tests.length + 1 := by rw [h.ts]; simp
theorem Mor.lqAt {t u : Tr} {x : Int × Int × Int} (h : Mor t u x) (i : Nat) : lqAt u i = lqAt t i := by unfold Go.Sp.lqAt; rw [h.l]
theorem Mor.more {t u : Tr} {x : Int × Int × Int} (h : Mor t u x) {out : List Int} {e : Int × Int × Int} (he : e ∈ truthsL t out) : e ∈ truthsL u (out ++ [(t.tests.length : Int)]) :=
  truths_sub h.s h.p h.w (fun e i hi ⟨d, hd⟩ => ⟨d, by
    rw [dense_memT, pass_iffT] at hd ⊢
    rw [h.lqAt]
    refine ⟨hd.1, fun j hj => ?_⟩
    rw [h.len] at hj
    rcases Nat.lt_succ_iff_lt_or_eq.1 hj with g | rfl
    · have := hd.2 j g
      rw [h.old g, rightF_eq h.s h.p]
      exact this.imp id (Or.imp (fun q => List.mem_append_left _ q) id)
    · exact .inr (.inl (by simp))⟩) (by rw [h.l]) he
theorem poss_ne {t : Tr} (hv : VT t) (ha : askedE t = 0) (i : Nat) : 0 < (possL t i).length := by
  obtain ⟨e, he⟩ := List.exists_mem_of_length_pos (askedE_0 ha).2
  exact List.length_pos_of_mem ((poss_mem hv).2 ⟨e, he, rfl⟩)
end Go.Sp
/-
  Package trial: judging.
-/
namespace Go.Sp
open Go Go.Proofs
inductive PVG (F : List (Nat × Value)) : Nat → Nat → List (Nat × Operand) → List Value → Prop
  | nil {sz k : Nat} : PVG F sz k [] []
  | agg {sz k : Nat} {x : Operand} {cs : List Value} {rest : List (Nat × Operand)} {out : List Value} : evalO F x = some (.agg cs.toArray) → cs.length = sz → PVG F sz (k + 1) rest out → PVG F sz k ((k, x) :: rest) (cs ++ out)
theorem PVG.length {F : List (Nat × Value)} {sz k : Nat} {ps : List (Nat × Operand)} {out : List Value} (h : PVG F sz k ps out) : out.length = ps.length * sz := by
  induction h with
  | nil => simp
  | agg _ hl _ ih => rw [List.length_append, ih, hl, List.length_cons, Nat.add_mul]; omega
theorem foldlSet (o : Nat) : ∀ (cs : List Value) (n : Nat) (pre old junk : List Value), pre.length = o + n → old.length = cs.length →
    (cs.zipIdx n).foldl (fun (a : Array Value) (p : Value × Nat) => a.setIfInBounds (o + p.2) p.1) (pre ++ old ++ junk).toArray = (pre ++ cs ++ junk).toArray := by
  intro cs
  induction cs with
  | nil => intro n pre old junk _ ho; obtain rfl : old = [] := by simpa using ho
           simp
  | cons c cs ih =>
    intro n pre old junk hp ho
    match old, ho with
    | z :: old, ho =>
      rw [List.zipIdx_cons, List.foldl_cons]
      have e : ((pre ++ z :: old ++ junk).toArray : Array Value).setIfInBounds (o + n) c = ((pre ++ [c]) ++ old ++ junk).toArray := by
        rw [List.setIfInBounds_toArray]
        congr 1
        rw [← hp]
        simp
      dsimp only
      rw [e, ih (n + 1) (pre ++ [c]) old junk (by simp [hp]; omega) (by simpa using ho)]
      simp
theorem PVG.fill {F : List (Nat × Value)} {sz k : Nat} {ps : List (Nat × Operand)} {out : List Value} (h : PVG F sz k ps out) {N : NN} {a : Act} (ht : TF N F a) : ∀ (pre junk : List Value), pre.length = k * sz → junk.length = ps.length * sz →
    Instr.fill (fun i => some (i * sz, sz)) (pre ++ junk).toArray (ps.map fun (i, x) => (i, a.eval x)) = some (pre ++ out).toArray := by
  induction h with
  | nil => intro pre junk _ hj; obtain rfl : junk = [] := by simpa using hj
           rfl
  | @agg k x cs rest out hx hl _ ih =>
    intro pre junk hp hj
    simp only [List.length_cons, Nat.add_mul, Nat.one_mul] at hj
    have hsp : junk = junk.take sz ++ junk.drop sz := (List.take_append_drop _ _).symm
    have := ih (pre ++ cs) (junk.drop sz) (by rw [List.length_append, hp, hl, Nat.add_mul]; omega) (by simp; omega)
    simp only [List.map_cons, ht.eval hx]
    refine fill_cons (o := k * sz) (sz := sz) (c := cs.toArray) rfl rfl (by simpa using hl) (by simp; omega) ?_
    have e := foldlSet (k * sz) cs 0 pre (junk.take sz) (junk.drop sz) (by simpa using hp) (by simp; omega)
    rw [List.append_assoc, ← hsp] at e
    rw [Array.zipIdx_toArray, List.foldl_toArray]
    refine Eq.trans (congrArg (fun z => Instr.fill _ z _) ?_) (this.trans (by rw [List.append_assoc]))
    rw [← e]
theorem e_bsliceG {P : Program} {N : NN} {F : List (Nat × Value)} {bs : List (World × List Nat)} {H : List (Nat × Obj)} {ty : TypeId} {pos : String} {after : Array Edge} {g : Option (Nat × Bool)} {dd : Tmp} {t e : TypeId} {sz by_ len : Nat} {ps : List (Nat × Operand)} {out : List Value} [hs : TySlice P t e sz] [hi : TyElem P e sz by_] (hd : Nat.blt dd N.n = true) (hp : PVG F sz 0 ps out) (hl : ps.length = len) (hb : Nat.ble (len * sz) 16777216 = true) :
    OpE P ⟨some dd, .buildSlice t len ps.toArray, ty, pos, after, g⟩ N F bs H (fun _ : Nat => True) (fun b => (dd, .slice (some ⟨b, 0, none⟩) len len) :: F) (fun _ => bs) (fun b => (b, .cells out.toArray e (0, 0)) :: H) := by
  unfold OpE
  intro a w ht hw K Q hK
  obtain ⟨i, z, h1, h2, h3, h4, h5⟩ := hi.info
  have hb' : ¬ len * sz > 2 ^ 24 := by have := Nat.le_of_ble_eq_true hb; omega
  subst hl
  have hmap : (ps.toArray.map fun (i, x) => (i, a.eval x)).toList = ps.map fun (i, x) => (i, a.eval x) := by simp
  have key : ∀ zero : Array Value, Instr.fill (fun i => some (i * sz, sz)) ((Array.range (ps.length * sz)).map (zero[· % zero.size]!)) (ps.map fun (i, x) => (i, a.eval x)) = some out.toArray := fun zero => by
    have := hp.fill ht [] ((Array.range (ps.length * sz)).map (zero[· % zero.size]!)).toList (by simp) (by simp)
    rw [List.nil_append, Array.toArray_toList] at this
    exact this
  have hrun : (Instr.buildSlice t ps.length (ps.toArray.map fun (i, x) => (i, a.eval x))).run P w = .ok (.slice (some ⟨w.heap.size, 0, none⟩) ps.length ps.length) (w.alloc (.cells out.toArray e)) := by
    unfold Instr.buildSlice
    simp only [Sem.run_bind, underlying_run hs.ty, Result.andThen, sizeOf_run hs.info, hb', if_false]
    split
    · simp only [Sem.run_bind, Sem.run_pure, Result.andThen, hmap, key, newRow, run_newObj]; rfl
    · simp only [Sem.run_bind, zeroValue_run h1 h2, Sem.run_pure, Result.andThen, hmap, key, newRow, run_newObj]; rfl
  unfold Oper.wp
  simp only [execOp, Sem.run_bind, hrun, Result.andThen, Sem.run_pure, Oper.upon]
  exact hK w.heap.size _ _ trivial (ht.put hd _) (hw.alloc _)
def tolE (t : Tr) (tol : Int) : Int := if ¬ chkT t = 0 then chkT t else if tol < 0 then 2 else 0
theorem tolerant_c (t : Tr) (hn : NT t) (tol : Int) (sl pl ll tl : Value) (w : World) (hr : RdTr w t sl pl ll tl) : CnV Tryz.prog 83 #[trV t sl pl ll tl, vi tol] w (vi (tolE t tol)) := by
  have hr0 := hr
  refine cnv (vs := [_, _]) Tryz.func83 rfl rfl ?_
  all_goals refine tc_seq fun K1 hK1 => ?_; refine tc_region ?_; refine tl_e (e_box rfl rfl rfl) rfl (fun b2 _ => ?_); refine tl_q (y_assign rfl) rfl ?_; refine tl_nil ?_; ((refine hK1 ?_; try (clear hK1; clear K1)))
  all_goals refine tc_seq fun K2 hK2 => ?_; refine tc_seq fun K3 hK3 => ?_; refine tc_region ?_; refine tl_q (y_loadW rfl (by repeat constructor) (by rfl)) rfl ?_; refine tl_e (e_callV rfl (.cons rfl .nil) (fun w' hw' => checkTrial_c t hn sl pl ll tl w' (hr0.fr (hw'.fr (by simp))))) rfl (fun _ _ => ?_); refine tl_q (y_assign rfl) rfl ?_; refine tl_nil ?_; ((refine hK3 ?_; try (clear hK3; clear K3)))
  all_goals refine tc_seq fun K4 hK4 => ?_; refine tc_region ?_; refine tl_q (y_move rfl) rfl ?_; refine tl_q (y_neq rfl rfl) rfl ?_; refine tl_nil ?_; ((refine hK4 ?_; try (clear hK4; clear K4)))
  all_goals (
   refine tc_cond rfl (fun hc => ?_) (fun hc => ?_)
   · try simp only [qn1, qn2, qn3, qn4, qn5, qn6, qn7, qn8] at hc
     all_goals refine tc_seq fun K5 hK5 => ?_; refine tc_region ?_; refine tl_q (y_move rfl) rfl ?_; refine tl_q (y_assign rfl) rfl ?_; refine tl_nil ?_; ((refine hK5 ?_; try (clear hK5; clear K5)))
     all_goals refine tc_ret ?_; (repeat (refine tk_then_ret ?_))
     all_goals (refine tk_ret rfl rfl (.cons (.tmp rfl) .nil) ?_)
     all_goals (
      refine fun w' hw' => ⟨?_, hw'.fr (by simp)⟩
      unfold tolE
      first
      | (rw [if_pos (by omega)]; rfl)
      | (rw [if_neg (by omega), if_pos (by omega)]; rfl)
      | (rw [if_neg (by omega), if_neg (by omega)]; rfl))
   · try simp only [qn1, qn2, qn3, qn4, qn5, qn6, qn7, qn8] at hc
     all_goals refine tc_skip ?_; ((refine hK2 ?_; try (clear hK2; clear K2)))
     all_goals refine tc_seq fun K6 hK6 => ?_; refine tc_seq fun K7 hK7 => ?_; refine tc_region ?_; refine tl_q (y_move rfl) rfl ?_; refine tl_q (y_lss rfl rfl) rfl ?_; refine tl_nil ?_; ((refine hK7 ?_; try (clear hK7; clear K7)))
     all_goals (
      refine tc_cond rfl (fun hc => ?_) (fun hc => ?_)
      · try simp only [qn1, qn2, qn3, qn4, qn5, qn6, qn7, qn8] at hc
        all_goals refine tc_seq fun K8 hK8 => ?_; refine tc_region ?_; refine tl_q (y_assign rfl) rfl ?_; refine tl_nil ?_; ((refine hK8 ?_; try (clear hK8; clear K8)))
        all_goals refine tc_ret ?_; (repeat (refine tk_then_ret ?_))
        all_goals (refine tk_ret rfl rfl (.cons (.tmp rfl) .nil) ?_)
        all_goals (
         refine fun w' hw' => ⟨?_, hw'.fr (by simp)⟩
         unfold tolE
         first
         | (rw [if_pos (by omega)]; rfl)
         | (rw [if_neg (by omega), if_pos (by omega)]; rfl)
         | (rw [if_neg (by omega), if_neg (by omega)]; rfl))
      · try simp only [qn1, qn2, qn3, qn4, qn5, qn6, qn7, qn8] at hc
        all_goals refine tc_skip ?_; ((refine hK6 ?_; try (clear hK6; clear K6)))
        all_goals refine tc_seq fun K9 hK9 => ?_; refine tc_region ?_; refine tl_q (y_assign rfl) rfl ?_; refine tl_nil ?_; ((refine hK9 ?_; try (clear hK9; clear K9)))
        all_goals refine tc_ret ?_; (repeat (first | refine tk_then_ret ?_))
        all_goals (refine tk_ret rfl rfl (.cons (.tmp rfl) .nil) ?_)
        all_goals (
         refine fun w' hw' => ⟨?_, hw'.fr (by simp)⟩
         unfold tolE
         first
         | (rw [if_pos (by omega)]; rfl)
         | (rw [if_neg (by omega), if_pos (by omega)]; rfl)
         | (rw [if_neg (by omega), if_neg (by omega)]; rfl))))
theorem spanAbove_c (n tol : Int) (hn : -3 ≤ n ∧ n ≤ 3) (ht : 0 ≤ tol ∧ tol ≤ 1000) (w : World) : CnV Tryz.prog 163 #[.agg #[vi n, vi tol]] w (vi (n - tol)) := by
  refine cnv (vs := [_]) Tryz.func163 rfl rfl ?_
  all_goals refine tc_seq fun K1 hK1 => ?_; refine tc_region ?_; refine tl_e (e_box rfl rfl rfl) rfl (fun _ _ => ?_); refine tl_q (y_assign rfl) rfl ?_; refine tl_nil ?_; ((refine hK1 ?_; try (clear hK1; clear K1)))
  all_goals refine tc_seq fun K2 hK2 => ?_; refine tc_region ?_; refine tl_q (y_field rfl) rfl ?_; refine tl_q (y_load1 rfl (by repeat constructor) (by rfl)) rfl ?_; refine tl_q (y_field rfl) rfl ?_; refine tl_q (y_load1 rfl (by repeat constructor) (by rfl)) rfl ?_; refine tl_q (y_sub rfl rfl (by omega)) rfl ?_; refine tl_q (y_assign rfl) rfl ?_; refine tl_nil ?_; ((refine hK2 ?_; try (clear hK2; clear K2)))
  all_goals refine tc_ret ?_; (repeat (first | refine tk_then_ret ?_))
  all_goals (refine tk_ret rfl rfl (.cons (.tmp rfl) .nil) ?_)
  all_goals (
   exact fun w' hw' => ⟨rfl, hw'.fr (by simp)⟩)
theorem spanBelow_c (n tol : Int) (hn : -3 ≤ n ∧ n ≤ 3) (ht : 0 ≤ tol ∧ tol ≤ 1000) (w : World) : CnV Tryz.prog 164 #[.agg #[vi n, vi tol]] w (vi (-n - tol)) := by
  refine cnv (vs := [_]) Tryz.func164 rfl rfl ?_
  all_goals refine tc_seq fun K1 hK1 => ?_; refine tc_region ?_; refine tl_e (e_box rfl rfl rfl) rfl (fun _ _ => ?_); refine tl_q (y_assign rfl) rfl ?_; refine tl_nil ?_; ((refine hK1 ?_; try (clear hK1; clear K1)))
  all_goals refine tc_seq fun K2 hK2 => ?_; refine tc_region ?_; refine tl_q (y_field rfl) rfl ?_; refine tl_q (y_load1 rfl (by repeat constructor) (by rfl)) rfl ?_; refine tl_q (y_neg rfl (by omega)) rfl ?_; refine tl_q (y_field rfl) rfl ?_; refine tl_q (y_load1 rfl (by repeat constructor) (by rfl)) rfl ?_; refine tl_q (y_sub rfl rfl (by omega)) rfl ?_; refine tl_q (y_assign rfl) rfl ?_; refine tl_nil ?_; ((refine hK2 ?_; try (clear hK2; clear K2)))
  all_goals refine tc_ret ?_; (repeat (first | refine tk_then_ret ?_))
  all_goals (refine tk_ret rfl rfl (.cons (.tmp rfl) .nil) ?_)
  all_goals (
   exact fun w' hw' => ⟨rfl, hw'.fr (by simp)⟩)
theorem goodN_no {t : Tr} {tol : Int} {e : Int × Int × Int} {i : Nat} (hi : i < t.parts.length) (h : tol < get3 e i ∨ tol < -get3 e i) : goodB t tol e = false := by
  cases hg : goodB t tol e
  · rfl
  · have := List.all_eq_true.1 hg i (List.mem_range.2 hi)
    rw [Bool.and_eq_true, decide_eq_true_eq, decide_eq_true_eq] at this
    omega
theorem goodN_yes {t : Tr} {tol : Int} {e : Int × Int × Int} (h : ∀ i : Nat, i < t.parts.length → get3 e i ≤ tol ∧ -get3 e i ≤ tol) : goodB t tol e = true :=
  List.all_eq_true.2 fun i hi => by
    have := h i (List.mem_range.1 hi)
    rw [Bool.and_eq_true, decide_eq_true_eq, decide_eq_true_eq]
    exact this
set_option maxHeartbeats 1000000 in
theorem good_c (t : Tr) (hv : VT t) (e : Int × Int × Int) (he : ErB e) (tol : Int) (ht : 0 ≤ tol ∧ tol ≤ 1000) (sl pl ll tl : Value) (w : World) (hp : RdI w pl t.parts) : CnV Tryz.prog 136 #[trV t sl pl ll tl, tsV e, vi tol] w (.bool (goodB t tol e)) := by
  have hp1 := hv.p1
  have hp3 := hv.p3
  obtain ⟨ad, cp, b0, o0, rfl, _, _⟩ := hp.open
  refine cnv (vs := [_, _, _]) Tryz.func136 rfl rfl ?_
  all_goals refine tc_seq fun K1 hK1 => ?_; refine tc_region ?_; refine tl_e (e_box rfl rfl rfl) rfl (fun b3 _ => ?_); refine tl_e (e_box rfl rfl rfl) rfl (fun b4 _ => ?_); refine tl_q (y_assign rfl) rfl ?_; refine tl_nil ?_; ((refine hK1 ?_; try (clear hK1; clear K1)))
  all_goals refine tc_seq fun K2 hK2 => ?_; refine tc_seq fun K3 hK3 => ?_; refine tc_region ?_; refine tl_q (y_field rfl) rfl ?_; refine tl_q (y_load1 rfl (by repeat constructor) (by rfl)) rfl ?_; refine tl_q (y_len rfl) rfl ?_; refine tl_q (y_sliceAT rfl rfl (by omega)) rfl ?_; refine tl_q (y_len rfl) rfl ?_; refine tl_q (y_move rfl) rfl ?_; refine tl_nil ?_; ((refine hK3 ?_; try (clear hK3; clear K3)))
  all_goals refine tc_block ?_
  all_goals (
   refine tc_loop (fun k : Nat => k ≤ t.parts.length ∧ ∀ i : Nat, i < k → get3 e i ≤ tol ∧ -get3 e i ≤ tol) (fun k => [(2, vi tol), (14, .slice (some ⟨b4, 0, none⟩) t.parts.length 3), (15, vi t.parts.length), (16, vi k)]) (fun _ => [(w, [])]) (fun _ => [(b4, .cells (tsV e).cells 126 (0, 0))]) (fun k => t.parts.length - k) ?_ ?_
   · exact tk_start 0 ⟨Nat.zero_le _, fun i hi => absurd hi (Nat.not_lt_zero i)⟩ (.cons rfl (.cons rfl (.cons rfl (.cons rfl .nil)))) (fun _ h => h.subl SB.s SB.s)
   · rintro k ⟨hk, hg⟩
     all_goals refine tc_seq fun K4 hK4 => ?_; refine tc_region ?_; refine tl_q (y_lss rfl rfl) rfl ?_; refine tl_nil ?_; ((refine hK4 ?_; try (clear hK4; clear K4)))
     all_goals refine tc_seq fun K5 hK5 => ?_
     all_goals (
      refine tc_cond rfl (fun hc => ?_) (fun hc => ?_)
      · try simp only [qn1, qn2, qn3, qn4, qn5, qn6, qn7, qn8] at hc
        all_goals refine tc_skip ?_; ((refine hK5 ?_; try (clear hK5; clear K5)))
        all_goals refine tc_seq fun K6 hK6 => ?_; refine tc_block ?_; refine tc_seq fun K7 hK7 => ?_; refine tc_region ?_; refine tl_q (y_index rfl rfl (by omega) rfl) rfl ?_; ((refine tl_q (y_load1 (v := vi (get3 e k)) rfl (by repeat constructor) (by rcases (by omega : k = 0 ∨ k = 1 ∨ k = 2) with rfl | rfl | rfl <;> rfl)) rfl ?_))
        all_goals refine tl_q (y_assign rfl) rfl ?_; refine tl_nil ?_; ((refine hK7 ?_; try (clear hK7; clear K7)))
        all_goals refine tc_seq fun K8 hK8 => ?_; refine tc_region ?_; refine tl_q (y_build_g (by repeat constructor)) rfl ?_; refine tl_q (y_build_g (by repeat constructor)) rfl ?_; refine tl_e (e_bsliceG rfl (.agg rfl rfl (.agg rfl rfl .nil)) rfl rfl) rfl (fun b22 _ => ?_); refine tl_q (y_len rfl) rfl ?_; refine tl_q (y_move rfl) rfl ?_; refine tl_nil ?_; ((refine hK8 ?_; try (clear hK8; clear K8)))
        all_goals refine tc_block ?_
        all_goals (
         refine tc_loop (fun j : Nat => j ≤ 2 ∧ (0 < j → get3 e k ≤ tol) ∧ (1 < j → -get3 e k ≤ tol)) (fun j => [(2, vi tol), (8, vi (get3 e k)), (14, .slice (some ⟨b4, 0, none⟩) t.parts.length 3), (15, vi t.parts.length), (16, vi k), (22, .slice (some ⟨b22, 0, none⟩) 2 2), (23, vi 2), (24, vi j)]) (fun _ => [(w, [])]) (fun _ => [(b22, .cells #[.func (.func 163) #[] #[], .func (.func 164) #[] #[]] 215 (0, 0)), (b4, .cells (tsV e).cells 126 (0, 0))]) (fun j => 2 - j) ?_ ?_
         · exact tk_start 0 ⟨by omega, fun h => by omega, fun h => by omega⟩ (.cons rfl (.cons rfl (.cons rfl (.cons rfl (.cons rfl (.cons rfl (.cons rfl (.cons rfl .nil)))))))) (fun _ h => h.subl SB.s SB.s)
         · rintro j ⟨hj, hj0, hj1⟩
           rcases (by omega : j = 0 ∨ j = 1 ∨ j = 2) with rfl | rfl | rfl
           all_goals refine tc_seq fun K9 hK9 => ?_; refine tc_region ?_; refine tl_q (y_lss rfl rfl) rfl ?_; refine tl_nil ?_; ((refine hK9 ?_; try (clear hK9; clear K9)))
           all_goals refine tc_seq fun K10 hK10 => ?_
           all_goals (
            refine tc_cond rfl (fun hc => ?_) (fun hc => ?_)
            · try simp only [qn1, qn2, qn3, qn4, qn5, qn6, qn7, qn8] at hc
              all_goals ((first | (exfalso; omega) | skip))
              all_goals refine tc_skip ?_; ((refine hK10 ?_; try (clear hK10; clear K10)))
              all_goals refine tc_seq fun K11 hK11 => ?_; refine tc_block ?_; refine tc_seq fun K12 hK12 => ?_; refine tc_region ?_; refine tl_q (y_index rfl rfl (by omega) rfl) rfl ?_; ((refine tl_q (y_loadN rfl (by repeat constructor) (by (repeat (first | exact .nil | apply CA.cons rfl)); done)) rfl ?_))
              all_goals refine tl_e (e_allocN rfl) rfl (fun _ _ => ?_); refine tl_e (e_storeW rfl rfl (by repeat constructor) (by rfl) (by rfl) (by simp [Value.oneCell'])) rfl (fun _ _ => ?_); refine tl_nil ?_; ((refine hK12 ?_; try (clear hK12; clear K12)))
              all_goals refine tc_seq fun K13 hK13 => ?_; refine tc_region ?_; refine tl_q (y_field rfl) rfl ?_; refine tl_q (y_load1 rfl (by repeat constructor) (by rfl)) rfl ?_; refine tl_q (y_move rfl) rfl ?_; refine tl_q (y_move rfl) rfl ?_; refine tl_q (y_build_g (by repeat constructor)) rfl ?_; (first | refine tl_e (e_callVf rfl rfl (.cons rfl .nil) (fun w' hw' => spanAbove_c (get3 e k) tol (he.get k) ht w')) rfl (fun _ _ => ?_) | refine tl_e (e_callVf rfl rfl (.cons rfl .nil) (fun w' hw' => spanBelow_c (get3 e k) tol (he.get k) ht w')) rfl (fun _ _ => ?_)); refine tl_q (y_gtr rfl rfl) rfl ?_; refine tl_nil ?_; ((refine hK13 ?_; try (clear hK13; clear K13)))
              all_goals (
               refine tc_cond rfl (fun hc => ?_) (fun hc => ?_)
               · try simp only [qn1, qn2, qn3, qn4, qn5, qn6, qn7, qn8] at hc
                 all_goals refine tc_seq fun K14 hK14 => ?_; refine tc_region ?_; refine tl_q (y_assign rfl) rfl ?_; refine tl_nil ?_; ((refine hK14 ?_; try (clear hK14; clear K14)))
                 all_goals refine tc_ret ?_; (repeat (first | refine tk_then_ret ?_ | refine tk_block_ret ?_))
                 all_goals (refine tk_ret rfl rfl (.cons (.tmp rfl) .nil) ?_)
                 all_goals (
                  first
                  | exact fun w' hw' => ⟨by rw [goodN_no (t := t) (i := k) (by omega) (by omega)]; rfl, hw'.fr (by simp)⟩
                  | exact fun w' hw' => ⟨by rw [goodN_yes (t := t) (fun i hi => hg i (by omega))]; rfl, hw'.fr (by simp)⟩)
               · try simp only [qn1, qn2, qn3, qn4, qn5, qn6, qn7, qn8] at hc
                 all_goals refine tc_skip ?_; ((refine hK11 ?_; try (clear hK11; clear K11)))
                 all_goals refine tc_region ?_; refine tl_q (y_add rfl rfl (by omega)) rfl ?_; refine tl_q (y_move rfl) rfl ?_; refine tl_nil ?_
                 all_goals (
                  first
                  | exact tk_round 1 ⟨by omega, fun _ => by omega, fun h => by omega⟩ (by omega) (.cons rfl (.cons rfl (.cons rfl (.cons rfl (.cons rfl (.cons rfl (.cons rfl (.cons rfl .nil)))))))) (fun _ h => h.subl SB.s SB.s)
                  | exact tk_round 2 ⟨by omega, fun _ => by omega, fun h => by omega⟩ (by omega) (.cons rfl (.cons rfl (.cons rfl (.cons rfl (.cons rfl (.cons rfl (.cons rfl (.cons rfl .nil)))))))) (fun _ h => h.subl SB.s SB.s)))
            · try simp only [qn1, qn2, qn3, qn4, qn5, qn6, qn7, qn8] at hc
              all_goals ((first | (exfalso; omega) | skip))
              all_goals refine tc_exit ?_; ((refine hK6 ?_; try (clear hK6; clear K6)))
              all_goals refine tc_region ?_; refine tl_q (y_add rfl rfl (by omega)) rfl ?_; refine tl_q (y_move rfl) rfl ?_; refine tl_nil ?_
              all_goals (
               exact tk_round (k + 1) ⟨by omega, fun i hi => by rcases Nat.lt_succ_iff_lt_or_eq.1 hi with g | rfl; exact hg i g; exact ⟨hj0 (by omega), hj1 (by omega)⟩⟩ (by omega) (.cons rfl (.cons rfl (.cons rfl (.cons rfl .nil)))) (fun _ h => h.subl SB.s SB.s))))
      · try simp only [qn1, qn2, qn3, qn4, qn5, qn6, qn7, qn8] at hc
        all_goals refine tc_exit ?_; ((refine hK2 ?_; try (clear hK2; clear K2)))
        all_goals refine tc_seq fun K15 hK15 => ?_; refine tc_region ?_; refine tl_q (y_assign rfl) rfl ?_; refine tl_nil ?_; ((refine hK15 ?_; try (clear hK15; clear K15)))
        all_goals refine tc_ret ?_; (repeat (first | refine tk_then_ret ?_))
        all_goals (refine tk_ret rfl rfl (.cons (.tmp rfl) .nil) ?_)
        all_goals (
         first
         | exact fun w' hw' => ⟨by rw [goodN_no (t := t) (i := k) (by omega) (by omega)]; rfl, hw'.fr (by simp)⟩
         | exact fun w' hw' => ⟨by rw [goodN_yes (t := t) (fun i hi => hg i (by omega))]; rfl, hw'.fr (by simp)⟩)))
end Go.Sp
/-
  What the statements about trials are made of: a trial.
-/
namespace Go.Sp
open Go Go.Proofs
abbrev tr9O (t : Tr) (sl pl ll tl : Value) : Obj := .cells #[vi t.s.mass, vi t.s.volume, vi t.s.step, vi t.s.divisions, vi t.s.width, sl, pl, vi t.worst, ll, tl] 38 (0, 0)
abbrev zr9O : Obj := .cells #[vi 0, vi 0, vi 0, vi 0, vi 0, .slice none 0 0, .slice none 0 0, vi 0, .slice none 0 0, .slice none 0 0] 38 (0, 0)
def outOkT : Nat × Option (Nat × Nat × List Value) → Prop
  | (n, none) => n = 0
  | (n, some (_, cap, junk)) => n ≤ cap ∧ junk.length = (cap - n) * 3
theorem takeT_succ {l : List (Int × Int × Int)} {n : Nat} (h : n < l.length) : l.take (n + 1) = l.take n ++ [l.getD n (0, 0, 0)] := by
  rw [List.take_add_one, List.getElem?_eq_getElem h, List.getD_eq_getElem?_getD, List.getElem?_eq_getElem h]; rfl
theorem trial9_c (t : Tr) (hn1 : t.s.weights.length ≤ 1000) (hn2 : t.parts.length ≤ 1000) (hn3 : t.liquids.length ≤ 1000) (hn4 : t.tests.length ≤ 1000) (sl pl ll tl : Value) (w : World) (hr : RdTr w t sl pl ll tl) :
    CnX Tryz.prog 18 #[trV t sl pl ll tl] w [] (fun x : (Option Addr × Nat) × (Option Addr × Nat) × (Option Addr × Nat) × (Option Addr × Nat) => trV t (slV t.s.weights.length x.1) (slV t.parts.length x.2.1) (slV t.liquids.length x.2.2.1) (slV t.tests.length x.2.2.2))
      (fun x w' => RdTr w' t (slV t.s.weights.length x.1) (slV t.parts.length x.2.1) (slV t.liquids.length x.2.2.1) (slV t.tests.length x.2.2.2)) := by
  have hr0 := hr
  obtain ⟨ad1, cp1, c1, o1, rfl, had1, hcell1⟩ := hr.ls.open
  obtain ⟨ad2, cp2, c2, o2, rfl, had2, hcell2⟩ := hr.ts.open
  refine cnx0 (vs := [_]) Tryz.func18 rfl rfl ?_
  all_goals refine tc_seq fun K1 hK1 => ?_; refine tc_region ?_; refine tl_e (e_box rfl rfl rfl) rfl (fun b1 _ => ?_); refine tl_e (e_allocN rfl) rfl (fun b2 _ => ?_); refine tl_nil ?_; ((refine hK1 ?_; try (clear hK1; clear K1)))
  all_goals (
   refine tc_join (fun z : (World × Nat) × (Option Addr × Nat) × (Option Addr × Nat) => (∀ w', Fr [z.1.2, b2] z.1.1 w' → RdI w' (slV t.s.weights.length z.2.1) t.s.weights) ∧ (∀ w', Fr [z.1.2, b2] z.1.1 w' → RdI w' (slV t.parts.length z.2.2) t.parts) ∧ z.1.1.heap[b1]? = some (.cells (trV t sl pl (.slice ad1 t.liquids.length cp1) (.slice ad2 t.tests.length cp2)).cells 28 (0, 0)) ∧ b1 ∉ [z.1.2, b2]) (fun z => [(1, ptr b1), (2, ptr b2), (3, ptr z.1.2)]) (fun z => [(z.1.1, [z.1.2, b2]), (w, [])]) (fun z => [(z.1.2, tr9O t (slV t.s.weights.length z.2.1) (slV t.parts.length z.2.2) (.slice none 0 0) (.slice none 0 0)), (b2, zr9O)]) ?_ ?_
   · skip
     all_goals refine tc_draw (by kernel_rfl) ?_; refine tx_p 0 rfl (by kernel_rfl) (y_field rfl) rfl (fun _ _ _ h => h) (fun _ h => h.subl SB.s SB.s) ?_; ((refine tx_qS 1 rfl (by kernel_rfl) (y_loadN rfl (by repeat constructor) (by (repeat (first | exact .nil | apply CA.cons rfl)); done)) rfl (fun _ _ _ h => h) (fun _ h => h.subl SB.s SB.s) ?_))
     all_goals refine tx_p 3 rfl (by kernel_rfl) (y_field rfl) rfl (fun _ _ _ h => h) (fun _ h => h.subl SB.s SB.s) ?_; refine tx_qS 4 rfl (by kernel_rfl) (y_load1 rfl (by repeat constructor) (by rfl)) rfl (fun _ _ _ h => h) (fun _ h => h.subl SB.s SB.s) ?_; refine tx_p 6 rfl (by kernel_rfl) (y_field rfl) rfl (fun _ _ _ h => h) (fun _ h => h.subl SB.s SB.s) ?_; refine tx_qS 7 rfl (by kernel_rfl) (y_load1 rfl (by repeat constructor) (by rfl)) rfl (fun _ _ _ h => h) (fun _ h => h.subl SB.s SB.s) ?_
     all_goals (
      refine tx_pair 2 9 (by kernel_rfl) ?_ ?_
      rotate_left
      focus (
       (refine to_e rfl rfl (e_allocN rfl) (.inr ⟨fun _ _ h => h.subl SB.s SB.s, fun _ h => h⟩) (fun b3 _ => ?_))
       all_goals refine tx_single 2 (by kernel_rfl) (to_e rfl rfl (e_callX rfl (.cons rfl .nil) (fun w' hw' => (spindleN_c t.s hn1 _ w' (hr0.ws.fr (hw'.fr (by simp)))).sep hw')) (.inr ⟨fun _ _ h => h.subl SB.s SB.s, fun _ h => h⟩) (fun y hy => ?_)); refine tx_single 5 (by kernel_rfl) (to_e rfl rfl (e_callX rfl (.cons rfl .nil) (fun w' hw' => (list9_c t.parts hn2 _ w' (hr0.ps.fr (hw'.fr (w0 := w) (S := []) MI.m))).sep hw')) (.inr ⟨fun _ _ h => h.subl SB.s SB.s, fun _ h => h⟩) (fun z hz => ?_)); refine tx_p 8 rfl (by kernel_rfl) (y_build_g (by repeat constructor)) rfl (fun _ _ _ h => h) (fun _ h => h.subl SB.s SB.s) ?_; refine tx_single 10 (by kernel_rfl) (to_e (S' := HG [] []) rfl rfl (e_storeW rfl rfl (by repeat constructor) (by rfl) (by rfl) (by simp [Value.oneCell'])) (.inl (by kernel_rfl)) (fun _ _ => ?_))
       all_goals refine tx_done (by kernel_rfl) ?_)
      rotate_right
      focus (
       (refine to_e rfl rfl (e_callX rfl (.cons rfl .nil) (fun w' hw' => (spindleN_c t.s hn1 _ w' (hr0.ws.fr (hw'.fr (by simp)))).sep hw')) (.inr ⟨fun _ _ h => h.subl SB.s SB.s, fun _ h => h⟩) (fun y hy => ?_))
       all_goals (
        refine tx_pair 5 9 (by kernel_rfl) ?_ ?_
        rotate_left
        focus (
         (refine to_e rfl rfl (e_allocN rfl) (.inr ⟨fun _ _ h => h.subl SB.s SB.s, fun _ h => h⟩) (fun b3 _ => ?_))
         all_goals refine tx_single 5 (by kernel_rfl) (to_e rfl rfl (e_callX rfl (.cons rfl .nil) (fun w' hw' => (list9_c t.parts hn2 _ w' (hr0.ps.fr (hw'.fr (w0 := w) (S := []) MI.m))).sep hw')) (.inr ⟨fun _ _ h => h.subl SB.s SB.s, fun _ h => h⟩) (fun z hz => ?_)); refine tx_p 8 rfl (by kernel_rfl) (y_build_g (by repeat constructor)) rfl (fun _ _ _ h => h) (fun _ h => h.subl SB.s SB.s) ?_; refine tx_single 10 (by kernel_rfl) (to_e (S' := HG [] []) rfl rfl (e_storeW rfl rfl (by repeat constructor) (by rfl) (by rfl) (by simp [Value.oneCell'])) (.inl (by kernel_rfl)) (fun _ _ => ?_))
         all_goals refine tx_done (by kernel_rfl) ?_)
        rotate_right
        focus (
         (refine to_e rfl rfl (e_callX rfl (.cons rfl .nil) (fun w' hw' => (list9_c t.parts hn2 _ w' (hr0.ps.fr (hw'.fr (w0 := w) (S := []) MI.m))).sep hw')) (.inr ⟨fun _ _ h => h.subl SB.s SB.s, fun _ h => h⟩) (fun z hz => ?_))
         all_goals refine tx_p 8 rfl (by kernel_rfl) (y_build_g (by repeat constructor)) rfl (fun _ _ _ h => h) (fun _ h => h.subl SB.s SB.s) ?_; refine tx_single 9 (by kernel_rfl) (to_e rfl rfl (e_allocN rfl) (.inr ⟨fun _ _ h => h.subl SB.s SB.s, fun _ h => h⟩) (fun b3 _ => ?_)); refine tx_single 10 (by kernel_rfl) (to_e (S' := HG [] []) rfl rfl (e_storeW rfl rfl (by repeat constructor) (by rfl) (by rfl) (by simp [Value.oneCell'])) (.inl (by kernel_rfl)) (fun _ _ => ?_))
         all_goals refine tx_done (by kernel_rfl) ?_))))
     all_goals (
      refine tk_lay [(b3, tr9O t (slV t.s.weights.length y.1) (slV t.parts.length z.1) (.slice none 0 0) (.slice none 0 0)), (b2, zr9O)] SB.s (fun w1 h1 => ?_)
      refine tk_start ((w1, b3), y.1, z.1) ⟨?_, ?_, ?_, ?_⟩ (.cons rfl (.cons rfl (.cons rfl .nil))) (fun _ h => h.subl SB.s SB.s)
      · refine fun w' f => hy.1.1.frS ((h1.fr (w0 := y.2) MI.m).trans f (fun x hx => ?_)) hy.1.2
        rcases (by simpa using hx : x = b3 ∨ x = b2) with h | h
        · rw [h]; exact h1.own (b3, _) (HM.mem (by repeat constructor)) (y.2, _) MI.m
        · rw [h]; exact h1.own (b2, _) (HM.mem (by repeat constructor)) (y.2, _) MI.m
      · refine fun w' f => hz.1.1.frS ((h1.fr (w0 := z.2) MI.m).trans f (fun x hx => ?_)) hz.1.2
        rcases (by simpa using hx : x = b3 ∨ x = b2) with h | h
        · rw [h]; exact h1.own (b3, _) (HM.mem (by repeat constructor)) (z.2, _) MI.m
        · rw [h]; exact h1.own (b2, _) (HM.mem (by repeat constructor)) (z.2, _) MI.m
      · exact h1.heap _ (HM.mem (b := b1) (by repeat constructor))
      · have := h1.nodup; simp at this ⊢; omega)
   · rintro ⟨⟨w1, b3⟩, x1, x2⟩ ⟨hs1, hs2, hb1, hne⟩
     dsimp only at hs1 hs2 hb1 hne ⊢
     all_goals (
      refine tc_join (fun z : World × (Option Addr × Nat) => ∀ w', Fr [b3, b2] z.1 w' → RdR w' (slV t.liquids.length z.2) t.liquids) (fun z => [(1, ptr b1), (2, ptr b2), (3, ptr b3)]) (fun z => [(z.1, [b3, b2]), (w1, [b3, b2]), (w, [])]) (fun z => [(b3, tr9O t (slV t.s.weights.length x1) (slV t.parts.length x2) (slV t.liquids.length z.2) (.slice none 0 0)), (b2, zr9O)]) ?_ ?_
      · skip
        all_goals refine tc_seq fun K2 hK2 => ?_; refine tc_region ?_; refine tl_q (y_assign rfl) rfl ?_; refine tl_nil ?_; ((refine hK2 ?_; try (clear hK2; clear K2)))
        all_goals refine tc_block ?_
        all_goals (
         refine tc_loop (fun p : Nat × Option (Nat × Nat × List Value) => p.1 ≤ t.liquids.length ∧ outOkR (p.1, p.2)) (fun p => [(1, ptr b1), (2, ptr b2), (3, ptr b3), (4, vi p.1)]) (fun _ => [(w1, [b3, b2]), (w, [])]) (fun p => match p.2 with | none => [(b3, tr9O t (slV t.s.weights.length x1) (slV t.parts.length x2) (.slice none 0 0) (.slice none 0 0)), (b2, zr9O)] | some (bo, cap, junk) => [(bo, .cells (flatR (t.liquids.take p.1) ++ junk).toArray 50 (0, 0)), (b3, tr9O t (slV t.s.weights.length x1) (slV t.parts.length x2) (.slice (some ⟨bo, 0, none⟩) p.1 cap) (.slice none 0 0)), (b2, zr9O)]) (fun p => t.liquids.length - p.1) ?_ ?_
         · exact tk_start (0, none) ⟨Nat.zero_le _, rfl⟩ (.cons rfl (.cons rfl (.cons rfl (.cons rfl .nil)))) (fun _ h => h)
         · rintro ⟨n, oo⟩ ⟨hn, hok⟩
           rcases oo with _ | ⟨bo, cap, junk⟩
           all_goals dsimp only [outOkR] at hn hok ⊢
           all_goals refine tc_seq fun K3 hK3 => ?_; refine tc_seq fun K4 hK4 => ?_; refine tc_region ?_; refine tl_q (y_move rfl) rfl ?_; refine tl_q (y_field rfl) rfl ?_; refine tl_q (y_load1o rfl (fun w' hw' => cellAt_cell? ((hw'.fr (w0 := w1) (S := [b3, b2]) MI.m).keeps hne hb1) rfl)) rfl ?_; refine tl_q (y_len rfl) rfl ?_; refine tl_q (y_lss rfl rfl) rfl ?_; refine tl_nil ?_; ((refine hK4 ?_; try (clear hK4; clear K4)))
           all_goals (
            refine tc_cond rfl (fun hc => ?_) (fun hc => ?_)
            · try simp only [qn1, qn2, qn3, qn4, qn5, qn6, qn7, qn8] at hc
              all_goals refine tc_skip ?_; ((refine hK3 ?_; try (clear hK3; clear K3)))
              all_goals refine tc_seq fun K5 hK5 => ?_; refine tc_block ?_; ((have had1' := had1 (by omega); have hlen : (flatR (t.liquids.take n)).length = n * 2 := by rw [flatR_len, List.length_take]; omega))
              all_goals refine tc_drawS (by first | exact [(b3, tr9O t (slV t.s.weights.length x1) (slV t.parts.length x2) (.slice (some ⟨bo, 0, none⟩) n cap) (.slice none 0 0))] | exact [(b3, tr9O t (slV t.s.weights.length x1) (slV t.parts.length x2) (.slice none 0 0) (.slice none 0 0))]) (by kernel_rfl) ?_; refine tx_p 0 rfl (by kernel_rfl) (y_field rfl) rfl (fun _ _ _ h => h) (fun _ h => h.subl SB.s SB.s) ?_; refine tx_qS 1 rfl (by kernel_rfl) (y_load1 rfl (by repeat constructor) (by rfl)) rfl (fun _ _ _ h => h) (fun _ h => h.subl SB.s SB.s) ?_; refine tx_p 2 rfl (by kernel_rfl) (y_field rfl) rfl (fun _ _ _ h => h) (fun _ h => h.subl SB.s SB.s) ?_; refine tx_qS 3 rfl (by kernel_rfl) (y_load1o rfl (fun w' hw' => cellAt_cell? ((hw'.fr (w0 := w1) (S := [b3, b2]) MI.m).keeps hne hb1) rfl)) rfl (fun _ _ _ h => h) (fun _ h => h.subl SB.s SB.s) ?_; refine tx_p 4 rfl (by kernel_rfl) (y_move rfl) rfl (fun _ _ _ h => h) (fun _ h => h.subl SB.s SB.s) ?_; refine tx_p 5 rfl (by kernel_rfl) (y_index rfl rfl (by omega) had1') rfl (fun _ _ _ h => h) (fun _ h => h.subl SB.s SB.s) ?_; refine tx_qS 6 rfl (by kernel_rfl) (y_loadNo rfl (fun w' hw' => hcell1 w' [] (hw'.fr (w0 := w) (S := []) MI.m) (by simp) (Int.toNat n) (by omega))) rfl (fun _ _ _ h => h) (fun _ h => h.subl SB.s SB.s) ?_; refine tx_single 7 (by kernel_rfl) (to_e rfl rfl (e_callV rfl (.cons rfl .nil) (fun w' _ => to9_c (t.liquids.getD n (0, 0)) w')) (.inr ⟨fun _ _ h => h.subl SB.s SB.s, fun _ h => h⟩) (fun _ _ => ?_)); ((refine tx_single 8 (by kernel_rfl) (to_e rfl rfl (e_bslice rfl (by (repeat (first | exact .nil | apply PV.two rfl)); done) rfl rfl) (.inr ⟨fun _ _ h => h.subl SB.s SB.s, fun _ h => h⟩) (fun _ _ => ?_))))
              all_goals ((first | refine tx_single 9 (by kernel_rfl) (to_e rfl rfl (e_append_own (old := flatR (t.liquids.take n)) (junk := junk) rfl rfl rfl (by repeat constructor) (by rw [hlen]) (by omega) hok.1 (fun w' hw' => RdR.own0 (xs := [t.liquids.getD n (0, 0)]) hw' (by repeat constructor)) (flatR_one _) (by simp only [List.length_cons, List.length_nil]; omega) rfl) (.inr ⟨fun _ _ h => h.subl SB.s SB.s, fun _ h => h⟩) (fun y hy => ?_)) | refine tx_single 9 (by kernel_rfl) (to_e rfl rfl (e_append_nil rfl rfl rfl (fun w' hw' => RdR.own0 (xs := [t.liquids.getD n (0, 0)]) hw' (by repeat constructor)) (flatR_one _) Nat.zero_lt_one (Nat.le_of_ble_eq_true rfl) rfl) (.inr ⟨fun _ _ h => h.subl SB.s SB.s, fun _ h => h⟩) (fun y hy => ?_))))
              all_goals refine tx_p 10 rfl (by kernel_rfl) (y_field rfl) rfl (fun _ _ _ h => h) (fun _ h => h.subl SB.s SB.s) ?_; refine tx_single 11 (by kernel_rfl) (to_e (S' := HG [] []) rfl rfl (e_store1 rfl rfl (by repeat constructor) (by repeat constructor) (by rfl) (by rfl)) (.inl (by kernel_rfl)) (fun _ _ => ?_)); refine tx_done (by kernel_rfl) ?_; ((refine hK5 ?_; try (clear hK5; clear K5)))
              all_goals refine tc_region ?_; refine tl_q (y_move rfl) rfl ?_; refine tl_q (y_add rfl rfl (by omega)) rfl ?_; refine tl_q (y_assign rfl) rfl ?_; refine tl_nil ?_
              all_goals (
               have hs : flatR (t.liquids.take (n + 1)) = flatR (t.liquids.take n) ++ flatR [t.liquids.getD n (0, 0)] := by rw [take_succ' (by omega), flatR_append]
               refine tk_round (n + 1, some (y.1, y.2.1, y.2.2)) ⟨by dsimp only; omega, ?_⟩ (by dsimp only; omega) (.cons rfl (.cons rfl (.cons rfl (.cons rfl .nil)))) (fun _ h => ?_)
               · dsimp only [outOkR]; simp only [List.length_cons, List.length_nil] at hy ⊢; omega
               · dsimp only; rw [hs]
                 first
                 | (rw [show t.liquids.take n = [] from by rw [hok]; rfl, show flatR [] = [] from rfl, List.nil_append, show n + 1 = ([t.liquids.getD n (0, 0)] : List (Int × Int)).length from by simp only [List.length_cons, List.length_nil]; omega]; exact h.subl SB.s SB.s)
                 | exact h.subl SB.s SB.s)
            · try simp only [qn1, qn2, qn3, qn4, qn5, qn6, qn7, qn8] at hc
              all_goals refine tc_exit ?_
              all_goals (
               have e : n = t.liquids.length := by omega
               subst e
               first
               | (refine tk_lay [(b3, tr9O t (slV t.s.weights.length x1) (slV t.parts.length x2) (.slice (some ⟨bo, 0, none⟩) t.liquids.length cap) (.slice none 0 0)), (b2, zr9O)] SB.s (fun w2 h2 => ?_)
                  refine tk_start (w2, some ⟨bo, 0, none⟩, cap) (fun w' f => ?_) (.cons rfl (.cons rfl (.cons rfl .nil))) (fun _ h => h.subl SB.s SB.s)
                  refine Reads.frS (RdR.own (xs := t.liquids) (cap := cap) (junk := junk) (b := bo) h2 (by rw [List.take_length]; exact .head)) f (fun p m c hp => ?_)
                  cases hp
                  have := h2.nodup
                  simp at this ⊢
                  omega)
               | (refine tk_lay [(b3, tr9O t (slV t.s.weights.length x1) (slV t.parts.length x2) (.slice none 0 0) (.slice none 0 0)), (b2, zr9O)] SB.s (fun w2 h2 => ?_)
                  refine tk_start (w2, none, 0) (fun w' f => ?_) (.cons rfl (.cons rfl (.cons rfl .nil))) (fun _ h => by unfold slV; dsimp only; rw [hok]; exact h.subl SB.s SB.s)
                  unfold slV
                  rw [hok, List.eq_nil_of_length_eq_zero hok]
                  exact RdR.nil _))))
      · rintro ⟨w2, x3⟩ hs3
        dsimp only at hs3 ⊢
        all_goals refine tc_seq fun K6 hK6 => ?_; refine tc_seq fun K7 hK7 => ?_; refine tc_region ?_; refine tl_q (y_assign rfl) rfl ?_; refine tl_nil ?_; ((refine hK7 ?_; try (clear hK7; clear K7)))
        all_goals refine tc_block ?_
        all_goals (
         refine tc_loop (fun p : Nat × Option (Nat × Nat × List Value) => p.1 ≤ t.tests.length ∧ outOkT (p.1, p.2)) (fun p => [(1, ptr b1), (2, ptr b2), (3, ptr b3), (5, vi p.1)]) (fun _ => [(w2, [b3, b2]), (w1, [b3, b2]), (w, [])]) (fun p => match p.2 with | none => [(b3, tr9O t (slV t.s.weights.length x1) (slV t.parts.length x2) (slV t.liquids.length x3) (.slice none 0 0)), (b2, zr9O)] | some (bo, cap, junk) => [(bo, .cells (flatT (t.tests.take p.1) ++ junk).toArray 121 (0, 0)), (b3, tr9O t (slV t.s.weights.length x1) (slV t.parts.length x2) (slV t.liquids.length x3) (.slice (some ⟨bo, 0, none⟩) p.1 cap)), (b2, zr9O)]) (fun p => t.tests.length - p.1) ?_ ?_
         · exact tk_start (0, none) ⟨Nat.zero_le _, rfl⟩ (.cons rfl (.cons rfl (.cons rfl (.cons rfl .nil)))) (fun _ h => h)
         · rintro ⟨n, oo⟩ ⟨hn, hok⟩
           rcases oo with _ | ⟨bo, cap, junk⟩
           all_goals dsimp only [outOkT] at hn hok ⊢
           all_goals refine tc_seq fun K8 hK8 => ?_; refine tc_seq fun K9 hK9 => ?_; refine tc_region ?_; refine tl_q (y_move rfl) rfl ?_; refine tl_q (y_field rfl) rfl ?_; refine tl_q (y_load1o rfl (fun w' hw' => cellAt_cell? ((hw'.fr (w0 := w1) (S := [b3, b2]) MI.m).keeps hne hb1) rfl)) rfl ?_; refine tl_q (y_len rfl) rfl ?_; refine tl_q (y_lss rfl rfl) rfl ?_; refine tl_nil ?_; ((refine hK9 ?_; try (clear hK9; clear K9)))
           all_goals (
            refine tc_cond rfl (fun hc => ?_) (fun hc => ?_)
            · try simp only [qn1, qn2, qn3, qn4, qn5, qn6, qn7, qn8] at hc
              all_goals refine tc_skip ?_; ((refine hK8 ?_; try (clear hK8; clear K8)))
              all_goals refine tc_seq fun K10 hK10 => ?_; refine tc_block ?_; ((have had2' := had2 (by omega); have hlen : (flatT (t.tests.take n)).length = n * 3 := by rw [flatT_len, List.length_take]; omega))
              all_goals (have hca : ∀ w', Fr [] w w' → w'.cell? ⟨c2, o2 + n * 3, none⟩ = some (vi (t.tests.getD n (0, 0, 0)).1) ∧ w'.cell? ⟨c2, o2 + n * 3 + 1, none⟩ = some (vi (t.tests.getD n (0, 0, 0)).2.1) ∧ w'.cell? ⟨c2, o2 + n * 3 + 2, none⟩ = some (vi (t.tests.getD n (0, 0, 0)).2.2) := fun w' f => ⟨(hcell2 w' [] f (by simp) n (by omega)).get 0 _ rfl, (hcell2 w' [] f (by simp) n (by omega)).get 1 _ rfl, (hcell2 w' [] f (by simp) n (by omega)).get 2 _ rfl⟩)
              all_goals refine tc_drawS (by first | exact [(b3, tr9O t (slV t.s.weights.length x1) (slV t.parts.length x2) (slV t.liquids.length x3) (.slice (some ⟨bo, 0, none⟩) n cap))] | exact [(b3, tr9O t (slV t.s.weights.length x1) (slV t.parts.length x2) (slV t.liquids.length x3) (.slice none 0 0))]) (by kernel_rfl) ?_; refine tx_p 0 rfl (by kernel_rfl) (y_field rfl) rfl (fun _ _ _ h => h) (fun _ h => h.subl SB.s SB.s) ?_; refine tx_qS 1 rfl (by kernel_rfl) (y_load1 rfl (by repeat constructor) (by rfl)) rfl (fun _ _ _ h => h) (fun _ h => h.subl SB.s SB.s) ?_; refine tx_p 2 rfl (by kernel_rfl) (y_field rfl) rfl (fun _ _ _ h => h) (fun _ h => h.subl SB.s SB.s) ?_; refine tx_qS 3 rfl (by kernel_rfl) (y_load1o rfl (fun w' hw' => cellAt_cell? ((hw'.fr (w0 := w1) (S := [b3, b2]) MI.m).keeps hne hb1) rfl)) rfl (fun _ _ _ h => h) (fun _ h => h.subl SB.s SB.s) ?_; refine tx_p 4 rfl (by kernel_rfl) (y_move rfl) rfl (fun _ _ _ h => h) (fun _ h => h.subl SB.s SB.s) ?_; refine tx_p 5 rfl (by kernel_rfl) (y_index rfl rfl (by omega) had2') rfl (fun _ _ _ h => h) (fun _ h => h.subl SB.s SB.s) ?_; refine tx_p 6 rfl (by kernel_rfl) (y_field rfl) rfl (fun _ _ _ h => h) (fun _ h => h.subl SB.s SB.s) ?_; ((refine tx_qS 7 rfl (by kernel_rfl) (y_load1o (v := vi (t.tests.getD n (0, 0, 0)).1) rfl (fun w' hw' => by rw [show o2 + Int.toNat (n : Int) * 3 + 0 = o2 + n * 3 from by omega]; exact (hca w' (hw'.fr (w0 := w) (S := []) MI.m)).1)) rfl (fun _ _ _ h => h) (fun _ h => h.subl SB.s SB.s) ?_))
              all_goals refine tx_p 8 rfl (by kernel_rfl) (y_field rfl) rfl (fun _ _ _ h => h) (fun _ h => h.subl SB.s SB.s) ?_; refine tx_qS 9 rfl (by kernel_rfl) (y_load1o rfl (fun w' hw' => cellAt_cell? ((hw'.fr (w0 := w1) (S := [b3, b2]) MI.m).keeps hne hb1) rfl)) rfl (fun _ _ _ h => h) (fun _ h => h.subl SB.s SB.s) ?_; refine tx_p 10 rfl (by kernel_rfl) (y_move rfl) rfl (fun _ _ _ h => h) (fun _ h => h.subl SB.s SB.s) ?_; refine tx_p 11 rfl (by kernel_rfl) (y_index rfl rfl (by omega) had2') rfl (fun _ _ _ h => h) (fun _ h => h.subl SB.s SB.s) ?_; refine tx_p 12 rfl (by kernel_rfl) (y_field rfl) rfl (fun _ _ _ h => h) (fun _ h => h.subl SB.s SB.s) ?_; ((refine tx_qS 13 rfl (by kernel_rfl) (y_load1o (v := vi (t.tests.getD n (0, 0, 0)).2.1) rfl (fun w' hw' => by rw [show o2 + Int.toNat (n : Int) * 3 + 1 = o2 + n * 3 + 1 from by omega]; exact (hca w' (hw'.fr (w0 := w) (S := []) MI.m)).2.1)) rfl (fun _ _ _ h => h) (fun _ h => h.subl SB.s SB.s) ?_))
              all_goals refine tx_p 14 rfl (by kernel_rfl) (y_field rfl) rfl (fun _ _ _ h => h) (fun _ h => h.subl SB.s SB.s) ?_; refine tx_qS 15 rfl (by kernel_rfl) (y_load1o rfl (fun w' hw' => cellAt_cell? ((hw'.fr (w0 := w1) (S := [b3, b2]) MI.m).keeps hne hb1) rfl)) rfl (fun _ _ _ h => h) (fun _ h => h.subl SB.s SB.s) ?_; refine tx_p 16 rfl (by kernel_rfl) (y_move rfl) rfl (fun _ _ _ h => h) (fun _ h => h.subl SB.s SB.s) ?_; refine tx_p 17 rfl (by kernel_rfl) (y_index rfl rfl (by omega) had2') rfl (fun _ _ _ h => h) (fun _ h => h.subl SB.s SB.s) ?_; refine tx_p 18 rfl (by kernel_rfl) (y_field rfl) rfl (fun _ _ _ h => h) (fun _ h => h.subl SB.s SB.s) ?_; ((refine tx_qS 19 rfl (by kernel_rfl) (y_load1o (v := vi (t.tests.getD n (0, 0, 0)).2.2) rfl (fun w' hw' => by rw [show o2 + Int.toNat (n : Int) * 3 + 2 = o2 + n * 3 + 2 from by omega]; exact (hca w' (hw'.fr (w0 := w) (S := []) MI.m)).2.2)) rfl (fun _ _ _ h => h) (fun _ h => h.subl SB.s SB.s) ?_))
              all_goals refine tx_p 20 rfl (by kernel_rfl) (y_build_g (by repeat constructor)) rfl (fun _ _ _ h => h) (fun _ h => h.subl SB.s SB.s) ?_; refine tx_single 21 (by kernel_rfl) (to_e rfl rfl (e_bslice31 rfl rfl) (.inr ⟨fun _ _ h => h.subl SB.s SB.s, fun _ h => h⟩) (fun _ _ => ?_)); ((first | refine tx_single 22 (by kernel_rfl) (to_e rfl rfl (e_append_own (old := flatT (t.tests.take n)) (junk := junk) rfl rfl rfl (by repeat constructor) (by rw [hlen]) (by omega) hok.1 (fun w' hw' => RdT.own0 (xs := [t.tests.getD n (0, 0, 0)]) hw' (by repeat constructor)) (flatT_one _) (by simp only [List.length_cons, List.length_nil]; omega) rfl) (.inr ⟨fun _ _ h => h.subl SB.s SB.s, fun _ h => h⟩) (fun y hy => ?_)) | refine tx_single 22 (by kernel_rfl) (to_e rfl rfl (e_append_nil rfl rfl rfl (fun w' hw' => RdT.own0 (xs := [t.tests.getD n (0, 0, 0)]) hw' (by repeat constructor)) (flatT_one _) Nat.zero_lt_one (Nat.le_of_ble_eq_true rfl) rfl) (.inr ⟨fun _ _ h => h.subl SB.s SB.s, fun _ h => h⟩) (fun y hy => ?_))))
              all_goals refine tx_p 23 rfl (by kernel_rfl) (y_field rfl) rfl (fun _ _ _ h => h) (fun _ h => h.subl SB.s SB.s) ?_; refine tx_single 24 (by kernel_rfl) (to_e (S' := HG [] []) rfl rfl (e_store1 rfl rfl (by repeat constructor) (by repeat constructor) (by rfl) (by rfl)) (.inl (by kernel_rfl)) (fun _ _ => ?_)); refine tx_done (by kernel_rfl) ?_; ((refine hK10 ?_; try (clear hK10; clear K10)))
              all_goals refine tc_region ?_; refine tl_q (y_move rfl) rfl ?_; refine tl_q (y_add rfl rfl (by omega)) rfl ?_; refine tl_q (y_assign rfl) rfl ?_; refine tl_nil ?_
              all_goals (
               have hs : flatT (t.tests.take (n + 1)) = flatT (t.tests.take n) ++ flatT [t.tests.getD n (0, 0, 0)] := by rw [takeT_succ (by omega), flatT_append]
               refine tk_round (n + 1, some (y.1, y.2.1, y.2.2)) ⟨by dsimp only; omega, ?_⟩ (by dsimp only; omega) (.cons rfl (.cons rfl (.cons rfl (.cons rfl .nil)))) (fun _ h => ?_)
               · dsimp only [outOkT]; simp only [List.length_cons, List.length_nil] at hy ⊢; omega
               · dsimp only; rw [hs]
                 first
                 | (rw [show t.tests.take n = [] from by rw [hok]; rfl, show flatT [] = [] from rfl, List.nil_append, show n + 1 = ([t.tests.getD n (0, 0, 0)] : List (Int × Int × Int)).length from by simp only [List.length_cons, List.length_nil]; omega]; exact h.subl SB.s SB.s)
                 | exact h.subl SB.s SB.s)
            · try simp only [qn1, qn2, qn3, qn4, qn5, qn6, qn7, qn8] at hc
              all_goals refine tc_exit ?_; ((refine hK6 ?_; try (clear hK6; clear K6)))
              all_goals refine tc_seq fun K11 hK11 => ?_; (have e : n = t.tests.length := by omega)
              all_goals subst e
              all_goals refine tc_region ?_; refine tl_q (y_loadW rfl (by repeat constructor) (by rfl)) rfl ?_; refine tl_e (e_storeW rfl rfl (by repeat constructor) (by rfl) (by rfl) (by simp [Value.oneCell'])) rfl (fun _ _ => ?_); refine tl_nil ?_; ((refine hK11 ?_; try (clear hK11; clear K11)))
              all_goals refine tc_ret ?_; (repeat (first | refine tk_then_ret ?_))
              all_goals (refine tk_ret rfl rfl (.cons (.agg inferInstance rfl (by repeat constructor) (by rfl)) .nil) ?_)
              all_goals (
               first
               | exact fun w' hw' => ⟨(x1, x2, x3, some ⟨bo, 0, none⟩, cap), rfl, hw'.fr (w0 := w) (S := []) MI.m, hs1 w' (hw'.fr MI.m), hs2 w' (hw'.fr MI.m), hs3 w' (hw'.fr MI.m), RdT.own (xs := t.tests) (cap := cap) (junk := junk) (b := bo) hw' (by rw [List.take_length]; repeat constructor)⟩
               | exact fun w' hw' => ⟨(x1, x2, x3, none, 0), by unfold slV; rw [hok]; rfl, hw'.fr (w0 := w) (S := []) MI.m, hs1 w' (hw'.fr MI.m), hs2 w' (hw'.fr MI.m), hs3 w' (hw'.fr MI.m), by unfold slV; rw [hok, List.eq_nil_of_length_eq_zero hok]; exact RdT.nil _⟩)))))
end Go.Sp
/-
  Package trial: errors that are good and errors that are not; judging.
-/
namespace Go.Sp
open Go Go.Proofs
/-- The blocks of a slice in the making: its own, if there is one. -/
def slH (e : TypeId) (vs : List Value) : Option (Nat × Nat × List Value) → List (Nat × Obj)
  | none => []
  | some (b, _, junk) => [(b, .cells (vs ++ junk).toArray e (0, 0))]
theorem slH_none {e : TypeId} {vs : List Value} : slH e vs none = [] := rfl
theorem slH_some {e : TypeId} {vs : List Value} {b c : Nat} {j : List Value} : slH e vs (some (b, c, j)) = [(b, .cells (vs ++ j).toArray e (0, 0))] := rfl
def slS : Option (Nat × Nat × List Value) → List Nat
  | none => []
  | some (b, _, _) => [b]
def filN (p : Int × Int × Int → Bool) (l : List (Int × Int × Int)) (k : Nat) : List (Int × Int × Int) := (l.take k).filter p
theorem filN_succ {p : Int × Int × Int → Bool} {l : List (Int × Int × Int)} {k : Nat} (h : k < l.length) : filN p l (k + 1) = if p (l.getD k (0, 0, 0)) = true then filN p l k ++ [l.getD k (0, 0, 0)] else filN p l k := by
  unfold filN
  rw [takeT_succ h, List.filter_append]
  split
  · rename_i hp; rw [List.filter_cons, if_pos hp]; rfl
  · rename_i hp; rw [List.filter_cons, if_neg hp, List.filter_nil, List.append_nil]
theorem filN_all (p : Int × Int × Int → Bool) (l : List (Int × Int × Int)) : filN p l l.length = l.filter p := by unfold filN; rw [List.take_length]
theorem filN_len (p : Int × Int × Int → Bool) (l : List (Int × Int × Int)) (k : Nat) : (filN p l k).length ≤ k := Nat.le_trans (List.length_filter_le _ _) (by rw [List.length_take]; omega)
def badB (t : Tr) (tol : Int) (e : Int × Int × Int) : Bool := !goodB t tol e
set_option maxHeartbeats 1000000 in
theorem split_c (t : Tr) (hv : VT t) (l : List (Int × Int × Int)) (hl : l.length ≤ 343) (hb : ∀ e ∈ l, ErB e) (tol : Int) (ht : 0 ≤ tol ∧ tol ≤ 1000) (sl pl ll tl lv : Value) (w : World) (hr : RdTr w t sl pl ll tl) (hL : RdT w lv l) :
    CnX Tryz.prog 86 #[trV t sl pl ll tl, lv, vi tol] w [] (fun y : (Option Addr × Nat) × (Option Addr × Nat) => .tuple #[slV (l.filter (goodB t tol)).length y.1, slV (l.filter (badB t tol)).length y.2])
      (fun y w' => (RdT w' (slV (l.filter (goodB t tol)).length y.1) (l.filter (goodB t tol)) ∧ RdT w' (slV (l.filter (badB t tol)).length y.2) (l.filter (badB t tol))) ∧ NewS w (slV (l.filter (goodB t tol)).length y.1) ∧ NewS w (slV (l.filter (badB t tol)).length y.2)) := by
  have hr0 := hr
  obtain ⟨ad, cp, bL, oL, rfl, had, hcell⟩ := hL.open
  refine cnx0 (vs := [_, _, _]) Tryz.func86 rfl rfl ?_
  all_goals refine tc_seq fun K1 hK1 => ?_; refine tc_region ?_; refine tl_e (e_box rfl rfl rfl) rfl (fun b3 _ => ?_); refine tl_q (y_assign rfl) rfl ?_; refine tl_q (y_assign rfl) rfl ?_; refine tl_nil ?_; ((refine hK1 ?_; try (clear hK1; clear K1)))
  all_goals refine tc_seq fun K2 hK2 => ?_; refine tc_seq fun K3 hK3 => ?_; refine tc_region ?_; refine tl_q (y_move rfl) rfl ?_; refine tl_q (y_len rfl) rfl ?_; refine tl_q (y_move rfl) rfl ?_; refine tl_nil ?_; ((refine hK3 ?_; try (clear hK3; clear K3)))
  all_goals refine tc_block ?_
  all_goals (
   refine tc_loop (fun p : Nat × Option (Nat × Nat × List Value) × Option (Nat × Nat × List Value) => p.1 ≤ l.length ∧ outOkT ((filN (goodB t tol) l p.1).length, p.2.1) ∧ outOkT ((filN (badB t tol) l p.1).length, p.2.2)) (fun p => [(2, vi tol), (3, ptr b3), (6, outV' ((filN (goodB t tol) l p.1).length, p.2.1)), (7, outV' ((filN (badB t tol) l p.1).length, p.2.2)), (10, .slice ad l.length cp), (11, vi l.length), (12, vi p.1)]) (fun _ => [(w, [])]) (fun p => slH 126 (flatT (filN (goodB t tol) l p.1)) p.2.1 ++ (slH 126 (flatT (filN (badB t tol) l p.1)) p.2.2 ++ [(b3, .cells (trV t sl pl ll tl).cells 38 (0, 0))])) (fun p => l.length - p.1) ?_ ?_
   · exact tk_start (0, none, none) ⟨Nat.zero_le _, rfl, rfl⟩ (.cons rfl (.cons rfl (.cons rfl (.cons rfl (.cons rfl (.cons rfl (.cons rfl .nil))))))) (fun _ h => h.subl SB.s SB.s)
   · rintro ⟨k, og, ob⟩ ⟨hk, hog, hob⟩
     have hlg := filN_len (goodB t tol) l k
     have hlb := filN_len (badB t tol) l k
     rcases og with _ | ⟨bg, cg, jg⟩ <;> rcases ob with _ | ⟨bb, cb, jb⟩
     all_goals ((dsimp only [outOkT, slH, List.cons_append, List.nil_append] at hk hog hob ⊢; dsimp only [outV']))
     all_goals refine tc_seq fun K4 hK4 => ?_; refine tc_region ?_; refine tl_q (y_lss rfl rfl) rfl ?_; refine tl_nil ?_; ((refine hK4 ?_; try (clear hK4; clear K4)))
     all_goals refine tc_seq fun K5 hK5 => ?_
     all_goals (
      refine tc_cond rfl (fun hc => ?_) (fun hc => ?_)
      · try simp only [qn1, qn2, qn3, qn4, qn5, qn6, qn7, qn8] at hc
        all_goals refine tc_skip ?_; ((refine hK5 ?_; try (clear hK5; clear K5)))
        all_goals refine tc_seq fun K6 hK6 => ?_; refine tc_block ?_; refine tc_seq fun K7 hK7 => ?_; have had' := had (by omega)
        all_goals (have hmem : l.getD k (0, 0, 0) ∈ l := by rw [List.getD_eq_getElem?_getD, List.getElem?_eq_getElem (by omega)]; exact List.getElem_mem (by omega))
        all_goals have hsg := filN_succ (p := goodB t tol) (l := l) (k := k) (by omega)
        all_goals have hsb := filN_succ (p := badB t tol) (l := l) (k := k) (by omega)
        all_goals refine tc_region ?_; refine tl_q (y_index rfl rfl (by omega) had') rfl ?_; ((refine tl_q (y_loadNo (n := 3) rfl (fun w' hw' => by rw [show Int.toNat (k : Int) * 3 = k * 3 from by omega]; exact hcell w' [] (hw'.fr (w0 := w) (S := []) MI.m) (by simp) k (by omega))) rfl ?_))
        all_goals refine tl_e (e_allocN rfl) rfl (fun _ _ => ?_); refine tl_e (e_storeW rfl rfl (by repeat constructor) (by rfl) (by rfl) (by simp [Value.oneCell'])) rfl (fun _ _ => ?_); refine tl_nil ?_; ((refine hK7 ?_; try (clear hK7; clear K7)))
        all_goals refine tc_seq fun K8 hK8 => ?_; refine tc_region ?_; refine tl_q (y_loadW rfl (by repeat constructor) (by rfl)) rfl ?_; refine tl_q (y_loadW rfl (by repeat constructor) (by rfl)) rfl ?_; refine tl_q (y_move rfl) rfl ?_; refine tl_e (e_callV rfl (.cons rfl (.cons rfl (.cons rfl .nil))) (fun w' hw' => good_c t hv (l.getD k (0, 0, 0)) (hb _ hmem) tol ht sl pl ll tl w' (hr0.fr (hw'.fr (w0 := w) (S := []) MI.m)).ps)) rfl (fun _ _ => ?_); refine tl_nil ?_; ((refine hK8 ?_; try (clear hK8; clear K8)))
        all_goals (
         refine tc_cond rfl (fun hc => ?_) (fun hc => ?_)
         · all_goals (skip)
           all_goals refine tc_region ?_; refine tl_q (y_move rfl) rfl ?_; refine tl_q (y_loadW rfl (by repeat constructor) (by rfl)) rfl ?_; refine tl_e (e_bslice31 rfl rfl) rfl (fun _ _ => ?_); ((first | refine tl_e (e_append_own (old := flatT (filN (goodB t tol) l k)) (junk := jg) rfl rfl rfl (by repeat constructor) (flatT_len _) hog.2 hog.1 (fun w' hw' => RdT.own0 (xs := [l.getD k (0, 0, 0)]) hw' (by repeat constructor)) (flatT_one _) (by simp only [List.length_cons, List.length_nil]; omega) rfl) rfl (fun y hy => ?_) | refine tl_e (e_append_nil rfl rfl rfl (fun w' hw' => RdT.own0 (xs := [l.getD k (0, 0, 0)]) hw' (by repeat constructor)) (flatT_one _) Nat.zero_lt_one (Nat.le_of_ble_eq_true rfl) rfl) rfl (fun y hy => ?_)))
           all_goals refine tl_q (y_assign rfl) rfl ?_; refine tl_nil ?_; ((refine hK6 ?_; try (clear hK6; clear K6)))
           all_goals refine tc_region ?_; refine tl_q (y_add rfl rfl (by omega)) rfl ?_; refine tl_q (y_move rfl) rfl ?_; refine tl_nil ?_
           all_goals (
            first
            | (have hs1 : filN (goodB t tol) l (k + 1) = filN (goodB t tol) l k ++ [l.getD k (0, 0, 0)] := by rw [hsg, if_pos hc]
               have hs2 : filN (badB t tol) l (k + 1) = filN (badB t tol) l k := by rw [hsb, if_neg (by unfold badB; rw [hc]; exact Bool.false_ne_true)]
               first
               | (refine tk_round (k + 1, some (y.1, y.2.1, y.2.2), none) ⟨by dsimp only; omega, ?_, (by dsimp only; rw [hs2]; exact hob)⟩ (by dsimp only; omega) (.cons rfl (.cons rfl (.cons ?_ (.cons rfl (.cons rfl (.cons rfl (.cons rfl .nil))))))) (fun _ h => ?_)
                  · dsimp only; rw [hs1, List.length_append]; simp only [List.length_cons, List.length_nil] at hy ⊢; omega
                  · dsimp only; rw [hs1, List.length_append]; first | rfl | (rw [hog]; rfl)
                  · dsimp only [List.cons_append, List.nil_append]; rw [hs1, flatT_append]
                    try rw [show filN (goodB t tol) l k = [] from List.eq_nil_of_length_eq_zero hog, show flatT [] = [] from rfl, List.nil_append]
                    exact h.subl SB.s SB.s)
               | (refine tk_round (k + 1, some (y.1, y.2.1, y.2.2), some (bb, cb, jb)) ⟨by dsimp only; omega, ?_, (by dsimp only; rw [hs2]; exact hob)⟩ (by dsimp only; omega) (.cons rfl (.cons rfl (.cons ?_ (.cons ?_ (.cons rfl (.cons rfl (.cons rfl .nil))))))) (fun _ h => ?_)
                  · dsimp only; rw [hs1, List.length_append]; simp only [List.length_cons, List.length_nil] at hy ⊢; omega
                  · dsimp only; rw [hs1, List.length_append]; first | rfl | (rw [hog]; rfl)
                  · dsimp only; rw [hs2]; rfl
                  · dsimp only [List.cons_append, List.nil_append]; rw [hs1, hs2, flatT_append]
                    try rw [show filN (goodB t tol) l k = [] from List.eq_nil_of_length_eq_zero hog, show flatT [] = [] from rfl, List.nil_append]
                    exact h.subl SB.s SB.s))
            | (have hs1 : filN (goodB t tol) l (k + 1) = filN (goodB t tol) l k := by rw [hsg, if_neg (by rw [hc]; exact Bool.false_ne_true)]
               have hs2 : filN (badB t tol) l (k + 1) = filN (badB t tol) l k ++ [l.getD k (0, 0, 0)] := by rw [hsb, if_pos (by unfold badB; rw [hc]; rfl)]
               first
               | (refine tk_round (k + 1, none, some (y.1, y.2.1, y.2.2)) ⟨by dsimp only; omega, (by dsimp only; rw [hs1]; exact hog), ?_⟩ (by dsimp only; omega) (.cons rfl (.cons rfl (.cons rfl (.cons ?_ (.cons rfl (.cons rfl (.cons rfl .nil))))))) (fun _ h => ?_)
                  · dsimp only; rw [hs2, List.length_append]; simp only [List.length_cons, List.length_nil] at hy ⊢; omega
                  · dsimp only; rw [hs2, List.length_append]; first | rfl | (rw [hob]; rfl)
                  · dsimp only [List.cons_append, List.nil_append]; rw [hs2, flatT_append]
                    try rw [show filN (badB t tol) l k = [] from List.eq_nil_of_length_eq_zero hob, show flatT [] = [] from rfl, List.nil_append]
                    exact h.subl SB.s SB.s)
               | (refine tk_round (k + 1, some (bg, cg, jg), some (y.1, y.2.1, y.2.2)) ⟨by dsimp only; omega, (by dsimp only; rw [hs1]; exact hog), ?_⟩ (by dsimp only; omega) (.cons rfl (.cons rfl (.cons ?_ (.cons ?_ (.cons rfl (.cons rfl (.cons rfl .nil))))))) (fun _ h => ?_)
                  · dsimp only; rw [hs2, List.length_append]; simp only [List.length_cons, List.length_nil] at hy ⊢; omega
                  · dsimp only; rw [hs1]; rfl
                  · dsimp only; rw [hs2, List.length_append]; first | rfl | (rw [hob]; rfl)
                  · dsimp only [List.cons_append, List.nil_append]; rw [hs1, hs2, flatT_append]
                    try rw [show filN (badB t tol) l k = [] from List.eq_nil_of_length_eq_zero hob, show flatT [] = [] from rfl, List.nil_append]
                    exact (h.subl SB.s SB.s).sw)))
         · all_goals (skip)
           all_goals refine tc_region ?_; refine tl_q (y_move rfl) rfl ?_; refine tl_q (y_loadW rfl (by repeat constructor) (by rfl)) rfl ?_; refine tl_e (e_bslice31 rfl rfl) rfl (fun _ _ => ?_); ((first | refine tl_e (e_append_own (old := flatT (filN (badB t tol) l k)) (junk := jb) rfl rfl rfl (by repeat constructor) (flatT_len _) hob.2 hob.1 (fun w' hw' => RdT.own0 (xs := [l.getD k (0, 0, 0)]) hw' (by repeat constructor)) (flatT_one _) (by simp only [List.length_cons, List.length_nil]; omega) rfl) rfl (fun y hy => ?_) | refine tl_e (e_append_nil rfl rfl rfl (fun w' hw' => RdT.own0 (xs := [l.getD k (0, 0, 0)]) hw' (by repeat constructor)) (flatT_one _) Nat.zero_lt_one (Nat.le_of_ble_eq_true rfl) rfl) rfl (fun y hy => ?_)))
           all_goals refine tl_q (y_assign rfl) rfl ?_; refine tl_nil ?_; ((refine hK6 ?_; try (clear hK6; clear K6)))
           all_goals refine tc_region ?_; refine tl_q (y_add rfl rfl (by omega)) rfl ?_; refine tl_q (y_move rfl) rfl ?_; refine tl_nil ?_
           all_goals (
            first
            | (have hs1 : filN (goodB t tol) l (k + 1) = filN (goodB t tol) l k ++ [l.getD k (0, 0, 0)] := by rw [hsg, if_pos hc]
               have hs2 : filN (badB t tol) l (k + 1) = filN (badB t tol) l k := by rw [hsb, if_neg (by unfold badB; rw [hc]; exact Bool.false_ne_true)]
               first
               | (refine tk_round (k + 1, some (y.1, y.2.1, y.2.2), none) ⟨by dsimp only; omega, ?_, (by dsimp only; rw [hs2]; exact hob)⟩ (by dsimp only; omega) (.cons rfl (.cons rfl (.cons ?_ (.cons rfl (.cons rfl (.cons rfl (.cons rfl .nil))))))) (fun _ h => ?_)
                  · dsimp only; rw [hs1, List.length_append]; simp only [List.length_cons, List.length_nil] at hy ⊢; omega
                  · dsimp only; rw [hs1, List.length_append]; first | rfl | (rw [hog]; rfl)
                  · dsimp only [List.cons_append, List.nil_append]; rw [hs1, flatT_append]
                    try rw [show filN (goodB t tol) l k = [] from List.eq_nil_of_length_eq_zero hog, show flatT [] = [] from rfl, List.nil_append]
                    exact h.subl SB.s SB.s)
               | (refine tk_round (k + 1, some (y.1, y.2.1, y.2.2), some (bb, cb, jb)) ⟨by dsimp only; omega, ?_, (by dsimp only; rw [hs2]; exact hob)⟩ (by dsimp only; omega) (.cons rfl (.cons rfl (.cons ?_ (.cons ?_ (.cons rfl (.cons rfl (.cons rfl .nil))))))) (fun _ h => ?_)
                  · dsimp only; rw [hs1, List.length_append]; simp only [List.length_cons, List.length_nil] at hy ⊢; omega
                  · dsimp only; rw [hs1, List.length_append]; first | rfl | (rw [hog]; rfl)
                  · dsimp only; rw [hs2]; rfl
                  · dsimp only [List.cons_append, List.nil_append]; rw [hs1, hs2, flatT_append]
                    try rw [show filN (goodB t tol) l k = [] from List.eq_nil_of_length_eq_zero hog, show flatT [] = [] from rfl, List.nil_append]
                    exact h.subl SB.s SB.s))
            | (have hs1 : filN (goodB t tol) l (k + 1) = filN (goodB t tol) l k := by rw [hsg, if_neg (by rw [hc]; exact Bool.false_ne_true)]
               have hs2 : filN (badB t tol) l (k + 1) = filN (badB t tol) l k ++ [l.getD k (0, 0, 0)] := by rw [hsb, if_pos (by unfold badB; rw [hc]; rfl)]
               first
               | (refine tk_round (k + 1, none, some (y.1, y.2.1, y.2.2)) ⟨by dsimp only; omega, (by dsimp only; rw [hs1]; exact hog), ?_⟩ (by dsimp only; omega) (.cons rfl (.cons rfl (.cons rfl (.cons ?_ (.cons rfl (.cons rfl (.cons rfl .nil))))))) (fun _ h => ?_)
                  · dsimp only; rw [hs2, List.length_append]; simp only [List.length_cons, List.length_nil] at hy ⊢; omega
                  · dsimp only; rw [hs2, List.length_append]; first | rfl | (rw [hob]; rfl)
                  · dsimp only [List.cons_append, List.nil_append]; rw [hs2, flatT_append]
                    try rw [show filN (badB t tol) l k = [] from List.eq_nil_of_length_eq_zero hob, show flatT [] = [] from rfl, List.nil_append]
                    exact h.subl SB.s SB.s)
               | (refine tk_round (k + 1, some (bg, cg, jg), some (y.1, y.2.1, y.2.2)) ⟨by dsimp only; omega, (by dsimp only; rw [hs1]; exact hog), ?_⟩ (by dsimp only; omega) (.cons rfl (.cons rfl (.cons ?_ (.cons ?_ (.cons rfl (.cons rfl (.cons rfl .nil))))))) (fun _ h => ?_)
                  · dsimp only; rw [hs2, List.length_append]; simp only [List.length_cons, List.length_nil] at hy ⊢; omega
                  · dsimp only; rw [hs1]; rfl
                  · dsimp only; rw [hs2, List.length_append]; first | rfl | (rw [hob]; rfl)
                  · dsimp only [List.cons_append, List.nil_append]; rw [hs1, hs2, flatT_append]
                    try rw [show filN (badB t tol) l k = [] from List.eq_nil_of_length_eq_zero hob, show flatT [] = [] from rfl, List.nil_append]
                    exact (h.subl SB.s SB.s).sw))))
      · try simp only [qn1, qn2, qn3, qn4, qn5, qn6, qn7, qn8] at hc
        all_goals refine tc_exit ?_; ((refine hK2 ?_; try (clear hK2; clear K2)))
        all_goals refine tc_seq fun K9 hK9 => ?_; (have hkl : k = l.length := by omega)
        all_goals subst hkl
        all_goals (rw [filN_all] at hog hob hlg hlb)
        all_goals refine tc_region ?_; refine tl_q (y_move rfl) rfl ?_; refine tl_q (y_move rfl) rfl ?_; refine tl_q (y_assign rfl) rfl ?_; refine tl_q (y_assign rfl) rfl ?_; refine tl_nil ?_; ((refine hK9 ?_; try (clear hK9; clear K9)))
        all_goals refine tc_ret ?_; (repeat (first | refine tk_then_ret ?_))
        all_goals (refine tk_ret rfl rfl (.cons (.tmp rfl) (.cons (.tmp rfl) .nil)) ?_)
        all_goals (
         refine fun w' hw' => ?_
         try rw [filN_all] at hw'
         try rw [filN_all] at hw'
         first
         | exact ⟨((none, 0), (none, 0)), by unfold slV; rw [hog, hob]; rfl, hw'.fr (by simp), ⟨by unfold slV; rw [hog, List.eq_nil_of_length_eq_zero hog]; exact RdT.nil _, by unfold slV; rw [hob, List.eq_nil_of_length_eq_zero hob]; exact RdT.nil _⟩, NewS.nil _ _ _, NewS.nil _ _ _⟩
         | exact ⟨((some ⟨bg, 0, none⟩, cg), (none, 0)), by unfold slV; rw [hob]; try rw [filN_all]
                                                            rfl, hw'.fr (by simp), ⟨RdT.own (cap := cg) (junk := jg) (b := bg) hw' (by repeat constructor), by unfold slV; rw [hob, List.eq_nil_of_length_eq_zero hob]; exact RdT.nil _⟩, NewS.own hw' (b := bg) (by repeat constructor) (by simp), NewS.nil _ _ _⟩
         | exact ⟨((none, 0), (some ⟨bb, 0, none⟩, cb)), by unfold slV; rw [hog]; try rw [filN_all]
                                                            rfl, hw'.fr (by simp), ⟨by unfold slV; rw [hog, List.eq_nil_of_length_eq_zero hog]; exact RdT.nil _, RdT.own (cap := cb) (junk := jb) (b := bb) hw' (by repeat constructor)⟩, NewS.nil _ _ _, NewS.own hw' (b := bb) (by repeat constructor) (by simp)⟩
         | exact ⟨((some ⟨bg, 0, none⟩, cg), (some ⟨bb, 0, none⟩, cb)), by rw [filN_all, filN_all]; rfl, hw'.fr (by simp), ⟨RdT.own (cap := cg) (junk := jg) (b := bg) hw' (by repeat constructor), RdT.own (cap := cb) (junk := jb) (b := bb) hw' (by repeat constructor)⟩, NewS.own hw' (b := bg) (by repeat constructor) (by simp), NewS.own hw' (b := bb) (by repeat constructor) (by simp)⟩)))
theorem CnX.weak {P : Program} {f : FuncId} {args : Array Value} {w : World} {S : List Nat} {α : Type} {val : α → Value} {p p' : α → World → Prop} (h : CnX P f args w S val p) (hp : ∀ x w', Fr S w w' → p x w' → p' x w') : CnX P f args w S val p' := h.imp id (fun _ => rfl) (fun _ h => h) hp
theorem asked_rd (t : Tr) (hn : NT t) (he : askedE t = 0) (sl pl ll tl : Value) (w : World) (hr : RdTr w t sl pl ll tl) :
    CnX Tryz.prog 77 #[trV t sl pl ll tl] w [] (fun y : Nat × (Option Addr × Nat) => .tuple #[ptr y.1, slV (truthsL t []).length y.2, vi 0]) (fun y w' => RdT w' (slV (truthsL t []).length y.2) (truthsL t [])) :=
  (asked_ok t hn he sl pl ll tl w hr).imp (fun y => (y.1.1, y.2.1)) (fun _ => rfl) (fun _ h => h) (fun _ _ _ h => h.1.1)
theorem judgeJ_len {t : Tr} {tol : Int} : judgeJ t tol = if ((truthsL t []).filter (badB t tol)).length = 0 then 1 else if ((truthsL t []).filter (goodB t tol)).length = 0 then 2 else 3 := by
  have h1 : ((truthsL t []).filter (badB t tol)).length = 0 ↔ (truthsL t []).all (goodB t tol) = true := by
    rw [List.length_eq_zero_iff, List.filter_eq_nil_iff, List.all_eq_true]
    exact ⟨fun h x hx => by have := h x hx; unfold badB at this; simpa using this, fun h x hx => by unfold badB; rw [h x hx]; exact Bool.false_ne_true⟩
  have h2 : ((truthsL t []).filter (goodB t tol)).length = 0 ↔ (truthsL t []).any (goodB t tol) = false := by
    rw [List.length_eq_zero_iff, List.filter_eq_nil_iff, List.any_eq_false]
  unfold judgeJ
  by_cases c1 : (truthsL t []).all (goodB t tol) = true
  · rw [if_pos c1, if_pos (h1.2 c1)]
  · rw [if_neg c1, if_neg (fun h => c1 (h1.1 h))]
    by_cases c2 : (truthsL t []).any (goodB t tol) = false
    · rw [if_pos c2, if_pos (h2.2 c2)]
    · rw [if_neg c2, if_neg (fun h => c2 (h2.1 h))]
theorem judge_tolE {t : Tr} {tol : Int} (h : ¬ tolE t tol = 0) : judgeE t tol = (0, tolE t tol) := by
  unfold tolE at h ⊢
  unfold judgeE
  by_cases c1 : chkT t = 0
  · rw [if_neg (fun g => g c1)] at h
    rw [if_neg (fun g : ¬ chkT t = 0 => g c1), if_neg (fun g : ¬ chkT t = 0 => g c1)]
    by_cases c2 : tol < 0
    · rw [if_pos c2, if_pos c2]
    · rw [if_neg c2] at h; exact absurd rfl h
  · rw [if_pos c1, if_pos c1]
theorem judge_c (t : Tr) (hn : NT t) (tol : Int) (ht : tol ≤ 1000) (sl pl ll tl : Value) (w : World) (hr : RdTr w t sl pl ll tl) : CnV Tryz.prog 36 #[trV t sl pl ll tl, vi tol] w (.tuple #[vi (judgeE t tol).1, vi (judgeE t tol).2]) := by
  have hr0 := hr
  have htl : VT t → (truthsL t []).length ≤ 343 := fun hv => Nat.le_trans (List.length_filter_le _ _) (every_len hv)
  have hT : tolE t tol = 0 → VT t ∧ 0 ≤ tol := fun h => by
    unfold tolE at h
    split at h
    · omega
    · split at h
      · omega
      · exact ⟨chkT_0.1 (by omega), by omega⟩
  refine cnv (vs := [_, _]) Tryz.func36 rfl rfl ?_
  all_goals refine tc_seq fun K1 hK1 => ?_; refine tc_region ?_; refine tl_e (e_box rfl rfl rfl) rfl (fun b2 _ => ?_); refine tl_q (y_assign rfl) rfl ?_; refine tl_q (y_assign rfl) rfl ?_; refine tl_nil ?_; ((refine hK1 ?_; try (clear hK1; clear K1)))
  all_goals refine tc_seq fun K2 hK2 => ?_; refine tc_seq fun K3 hK3 => ?_; refine tc_region ?_; refine tl_q (y_loadW rfl (by repeat constructor) (by rfl)) rfl ?_; refine tl_q (y_move rfl) rfl ?_; refine tl_e (e_callV rfl (.cons rfl (.cons rfl .nil)) (fun w' hw' => tolerant_c t hn tol sl pl ll tl w' (hr0.fr (hw'.fr (by simp))))) rfl (fun _ _ => ?_); refine tl_q (y_assign rfl) rfl ?_; refine tl_nil ?_; ((refine hK3 ?_; try (clear hK3; clear K3)))
  all_goals refine tc_seq fun K4 hK4 => ?_; refine tc_region ?_; refine tl_q (y_move rfl) rfl ?_; refine tl_q (y_neq rfl rfl) rfl ?_; refine tl_nil ?_; ((refine hK4 ?_; try (clear hK4; clear K4)))
  all_goals (
   refine tc_cond rfl (fun hc => ?_) (fun hc => ?_)
   · try simp only [qn1, qn2, qn3, qn4, qn5, qn6, qn7, qn8] at hc
     all_goals refine tc_seq fun K5 hK5 => ?_; refine tc_region ?_; refine tl_q (y_move rfl) rfl ?_; refine tl_q (y_assign rfl) rfl ?_; refine tl_q (y_assign rfl) rfl ?_; refine tl_nil ?_; ((refine hK5 ?_; try (clear hK5; clear K5)))
     all_goals refine tc_ret ?_; (repeat (refine tk_then_ret ?_))
     all_goals (refine tk_ret rfl rfl (.cons (.tmp rfl) (.cons (.tmp rfl) .nil)) ?_)
     all_goals (
      refine fun w' hw' => ⟨?_, hw'.fr (by simp)⟩
      first
      | (rw [judge_tolE (by assumption)]; rfl)
      | (unfold judgeE; rw [if_neg (by have := chkT_0.2 hv; omega), if_neg (by omega), if_pos (by omega)]; rfl)
      | (unfold judgeE; rw [if_neg (by have := chkT_0.2 hv; omega), if_neg (by omega), if_neg (by omega), judgeJ_len]
         first
         | (rw [if_pos (by omega)]; rfl)
         | (rw [if_neg (by omega), if_pos (by omega)]; rfl)
         | (rw [if_neg (by omega), if_neg (by omega)]; rfl)))
   · try simp only [qn1, qn2, qn3, qn4, qn5, qn6, qn7, qn8] at hc
     all_goals refine tc_skip ?_; ((refine hK2 ?_; try (clear hK2; clear K2)))
     all_goals refine tc_seq fun K6 hK6 => ?_; (obtain ⟨hv, ht0⟩ := hT (by omega))
     all_goals rcases Decidable.em (askedE t = 0) with hA | hA
     all_goals refine tc_region ?_; refine tl_q (y_loadW rfl (by repeat constructor) (by rfl)) rfl ?_; (first | refine tl_e (e_callX rfl (.cons rfl .nil) (fun w' hw' => asked_rd t hn hA sl pl ll tl w' (hr0.fr (hw'.fr (by simp))))) rfl (fun y hy => ?_) | refine tl_e (e_callV rfl (.cons rfl .nil) (fun w' hw' => asked_no t hn hA sl pl ll tl w' (hr0.fr (hw'.fr (by simp))))) rfl (fun y hy => ?_)); refine tl_q (y_move rfl) rfl ?_; refine tl_q (y_extract rfl rfl) rfl ?_; refine tl_q (y_extract rfl rfl) rfl ?_; refine tl_q (y_extract rfl rfl) rfl ?_; refine tl_q (y_assign rfl) rfl ?_; refine tl_q (y_assign rfl) rfl ?_; refine tl_q (y_assign rfl) rfl ?_; refine tl_nil ?_; ((refine hK6 ?_; try (clear hK6; clear K6)))
     all_goals refine tc_seq fun K7 hK7 => ?_; refine tc_seq fun K8 hK8 => ?_; refine tc_region ?_; refine tl_q (y_move rfl) rfl ?_; refine tl_q (y_neq rfl rfl) rfl ?_; refine tl_nil ?_; ((refine hK8 ?_; try (clear hK8; clear K8)))
     all_goals (
      refine tc_cond rfl (fun hc => ?_) (fun hc => ?_)
      · try simp only [qn1, qn2, qn3, qn4, qn5, qn6, qn7, qn8] at hc
        all_goals refine tc_seq fun K9 hK9 => ?_; refine tc_region ?_; refine tl_q (y_move rfl) rfl ?_; refine tl_q (y_assign rfl) rfl ?_; refine tl_q (y_assign rfl) rfl ?_; refine tl_nil ?_; ((refine hK9 ?_; try (clear hK9; clear K9)))
        all_goals refine tc_ret ?_; (repeat (refine tk_then_ret ?_))
        all_goals (refine tk_ret rfl rfl (.cons (.tmp rfl) (.cons (.tmp rfl) .nil)) ?_)
        all_goals (
         refine fun w' hw' => ⟨?_, hw'.fr (by simp)⟩
         first
         | (rw [judge_tolE (by assumption)]; rfl)
         | (unfold judgeE; rw [if_neg (by have := chkT_0.2 hv; omega), if_neg (by omega), if_pos (by omega)]; rfl)
         | (unfold judgeE; rw [if_neg (by have := chkT_0.2 hv; omega), if_neg (by omega), if_neg (by omega), judgeJ_len]
            first
            | (rw [if_pos (by omega)]; rfl)
            | (rw [if_neg (by omega), if_pos (by omega)]; rfl)
            | (rw [if_neg (by omega), if_neg (by omega)]; rfl)))
      · try simp only [qn1, qn2, qn3, qn4, qn5, qn6, qn7, qn8] at hc
        all_goals ((first | (exfalso; omega) | skip))
        all_goals refine tc_skip ?_; ((refine hK7 ?_; try (clear hK7; clear K7)))
        all_goals refine tc_seq fun K10 hK10 => ?_; refine tc_seq fun K11 hK11 => ?_; refine tc_region ?_; refine tl_q (y_loadW rfl (by repeat constructor) (by rfl)) rfl ?_; refine tl_q (y_move rfl) rfl ?_; refine tl_q (y_move rfl) rfl ?_; refine tl_e (e_callX rfl (.cons rfl (.cons rfl (.cons rfl .nil))) (fun w' hw' => (split_c t hv (truthsL t []) (htl hv) (fun e he => truths_bd hv he) tol ⟨ht0, ht⟩ sl pl ll tl _ w' (hr0.fr (hw'.fr (by simp))) (hy.1.fr (hw'.calm hy.2 (by simp) (List.Sublist.refl _)))).weak (p' := fun _ _ => True) (fun _ _ _ _ => trivial))) rfl (fun _ _ => ?_); refine tl_q (y_move rfl) rfl ?_; refine tl_q (y_extract rfl rfl) rfl ?_; refine tl_q (y_extract rfl rfl) rfl ?_; refine tl_q (y_assign rfl) rfl ?_; refine tl_q (y_assign rfl) rfl ?_; refine tl_nil ?_; ((refine hK11 ?_; try (clear hK11; clear K11)))
        all_goals refine tc_block ?_; refine tc_seq fun K12 hK12 => ?_; refine tc_region ?_; refine tl_q (y_move rfl) rfl ?_; refine tl_q (y_len rfl) rfl ?_; refine tl_q (y_eql rfl rfl) rfl ?_; refine tl_q (y_assign rfl) rfl ?_; refine tl_nil ?_; ((refine hK12 ?_; try (clear hK12; clear K12)))
        all_goals (
         refine tc_cond rfl (fun hc => ?_) (fun hc => ?_)
         · try simp only [qn1, qn2, qn3, qn4, qn5, qn6, qn7, qn8] at hc
           all_goals refine tc_seq fun K13 hK13 => ?_; refine tc_region ?_; refine tl_q (y_assign rfl) rfl ?_; refine tl_q (y_assign rfl) rfl ?_; refine tl_nil ?_; ((refine hK13 ?_; try (clear hK13; clear K13)))
           all_goals refine tc_ret ?_; (repeat (first | refine tk_then_ret ?_ | refine tk_block_ret ?_))
           all_goals (refine tk_ret rfl rfl (.cons (.tmp rfl) (.cons (.tmp rfl) .nil)) ?_)
           all_goals (
            refine fun w' hw' => ⟨?_, hw'.fr (by simp)⟩
            first
            | (rw [judge_tolE (by assumption)]; rfl)
            | (unfold judgeE; rw [if_neg (by have := chkT_0.2 hv; omega), if_neg (by omega), if_pos (by omega)]; rfl)
            | (unfold judgeE; rw [if_neg (by have := chkT_0.2 hv; omega), if_neg (by omega), if_neg (by omega), judgeJ_len]
               first
               | (rw [if_pos (by omega)]; rfl)
               | (rw [if_neg (by omega), if_pos (by omega)]; rfl)
               | (rw [if_neg (by omega), if_neg (by omega)]; rfl)))
         · try simp only [qn1, qn2, qn3, qn4, qn5, qn6, qn7, qn8] at hc
           all_goals refine tc_seq fun K14 hK14 => ?_; refine tc_region ?_; refine tl_q (y_move rfl) rfl ?_; refine tl_q (y_len rfl) rfl ?_; refine tl_q (y_eql rfl rfl) rfl ?_; refine tl_q (y_assign rfl) rfl ?_; refine tl_nil ?_; ((refine hK14 ?_; try (clear hK14; clear K14)))
           all_goals (
            refine tc_cond rfl (fun hc => ?_) (fun hc => ?_)
            · try simp only [qn1, qn2, qn3, qn4, qn5, qn6, qn7, qn8] at hc
              all_goals refine tc_seq fun K15 hK15 => ?_; refine tc_region ?_; refine tl_q (y_assign rfl) rfl ?_; refine tl_q (y_assign rfl) rfl ?_; refine tl_nil ?_; ((refine hK15 ?_; try (clear hK15; clear K15)))
              all_goals refine tc_ret ?_; (repeat (first | refine tk_then_ret ?_ | refine tk_block_ret ?_))
              all_goals (refine tk_ret rfl rfl (.cons (.tmp rfl) (.cons (.tmp rfl) .nil)) ?_)
              all_goals (
               refine fun w' hw' => ⟨?_, hw'.fr (by simp)⟩
               first
               | (rw [judge_tolE (by assumption)]; rfl)
               | (unfold judgeE; rw [if_neg (by have := chkT_0.2 hv; omega), if_neg (by omega), if_pos (by omega)]; rfl)
               | (unfold judgeE; rw [if_neg (by have := chkT_0.2 hv; omega), if_neg (by omega), if_neg (by omega), judgeJ_len]
                  first
                  | (rw [if_pos (by omega)]; rfl)
                  | (rw [if_neg (by omega), if_pos (by omega)]; rfl)
                  | (rw [if_neg (by omega), if_neg (by omega)]; rfl)))
            · try simp only [qn1, qn2, qn3, qn4, qn5, qn6, qn7, qn8] at hc
              all_goals refine tc_skip ?_; ((refine hK10 ?_; try (clear hK10; clear K10)))
              all_goals refine tc_seq fun K16 hK16 => ?_; refine tc_region ?_; refine tl_q (y_assign rfl) rfl ?_; refine tl_q (y_assign rfl) rfl ?_; refine tl_nil ?_; ((refine hK16 ?_; try (clear hK16; clear K16)))
              all_goals refine tc_ret ?_; (repeat (first | refine tk_then_ret ?_))
              all_goals (refine tk_ret rfl rfl (.cons (.tmp rfl) (.cons (.tmp rfl) .nil)) ?_)
              all_goals (
               refine fun w' hw' => ⟨?_, hw'.fr (by simp)⟩
               first
               | (rw [judge_tolE (by assumption)]; rfl)
               | (unfold judgeE; rw [if_neg (by have := chkT_0.2 hv; omega), if_neg (by omega), if_pos (by omega)]; rfl)
               | (unfold judgeE; rw [if_neg (by have := chkT_0.2 hv; omega), if_neg (by omega), if_neg (by omega), judgeJ_len]
                  first
                  | (rw [if_pos (by omega)]; rfl)
                  | (rw [if_neg (by omega), if_pos (by omega)]; rfl)
                  | (rw [if_neg (by omega), if_neg (by omega)]; rfl)))))))
end Go.Sp
/-
  Slices of slices in the making.
-/
namespace Go.Sp
open Go Go.Proofs
/-- The slices that lie in a slice so far. -/
def InV (wl : World) (S : List Nat) (vs : List Value) (ls : List (List Int)) : Prop := vs.length = ls.length ∧ ∀ j, j < ls.length → RdI wl (vs.getD j (.slice none 0 0)) (ls.getD j []) ∧ ∀ p m c, vs.getD j (.slice none 0 0) = .slice (some p) m c → p.block < wl.heap.size ∧ p.block ∉ S
theorem InV.nil {wl : World} {S : List Nat} : InV wl S [] [] := ⟨rfl, fun j hj => absurd hj (Nat.not_lt_zero j)⟩
theorem InV.step {wl w1 : World} {S S' : List Nat} {vs : List Value} {ls : List (List Int)} (h : InV wl S vs ls) (f : Fr S wl w1) (hS : ∀ b ∈ S', b ∈ S ∨ wl.heap.size ≤ b) : InV w1 S' vs ls := ⟨h.1, fun j hj => by
  obtain ⟨h1, h2⟩ := h.2 j hj
  refine ⟨h1.frS f (fun p m c e => (h2 p m c e).2), fun p m c e => ?_⟩
  obtain ⟨g1, g2⟩ := h2 p m c e
  refine ⟨Nat.lt_of_lt_of_le g1 f.size, fun hm => ?_⟩
  rcases hS _ hm with h | h
  · exact g2 h
  · omega⟩
theorem InV.snoc {wl : World} {S : List Nat} {vs : List Value} {ls : List (List Int)} {v : Value} {l : List Int} (h : InV wl S vs ls) (hv : RdI wl v l) (hs : ∀ p m c, v = .slice (some p) m c → p.block < wl.heap.size ∧ p.block ∉ S) : InV wl S (vs ++ [v]) (ls ++ [l]) := by
  refine ⟨by simp [h.1], fun j hj => ?_⟩
  have hl := h.1
  rcases Nat.lt_or_ge j ls.length with hjl | hjl
  · obtain ⟨h1, h2⟩ := h.2 j hjl
    rw [List.getD_eq_getElem?_getD, List.getElem?_append_left (by omega), ← List.getD_eq_getElem?_getD, List.getD_eq_getElem?_getD (l := ls ++ [l]), List.getElem?_append_left hjl, ← List.getD_eq_getElem?_getD]
    exact ⟨h1, h2⟩
  · have e : j = ls.length := by simp at hj; omega
    subst e
    rw [List.getD_eq_getElem?_getD, List.getElem?_append_right (by omega), List.getD_eq_getElem?_getD (l := ls ++ [l]), List.getElem?_append_right (by omega), hl]
    simp only [Nat.sub_self, List.getElem?_cons_zero, Option.getD_some]
    exact ⟨hv, hs⟩
theorem InV.rd {wl : World} {S : List Nat} {vs : List Value} {ls : List (List Int)} (h : InV wl S vs ls) {bs : List (World × List Nat)} {H : List (Nat × Obj)} {b cap : Nat} {junk : List Value} {e : TypeId} {f : Nat × Nat} {w' : World} (hw : HG bs H w') (hm : HM b (.cells (vs ++ junk).toArray e f) H) (fr : Fr S wl w') : RdLL w' (.slice (some ⟨b, 0, none⟩) ls.length cap) ls := by
  refine ⟨vs, ⟨by rw [h.1]; simp, some ⟨b, 0, none⟩, cap, rfl, fun _ => ⟨b, 0, rfl, ?_⟩⟩, fun i hi => ((h.step fr (S' := S) (fun b hb => .inl hb)).2 i hi).1⟩
  have := CA_pre vs junk e f
  rw [h.1] at this
  rw [Nat.mul_one]
  exact this.cells (hw.heap _ hm.mem)
theorem Reads.own1 {bs : List (World × List Nat)} {H : List (Nat × Obj)} {w : World} {b : Nat} {v : Value} {e : TypeId} {f : Nat × Nat} {cap : Nat} (hw : HG bs H w) (hm : HM b (.cells #[v] e f) H) : Reads w (.slice (some ⟨b, 0, none⟩) 1 cap) 1 1 [v] :=
  ⟨rfl, _, _, rfl, fun _ => ⟨b, 0, rfl, .cons (cellAt_cell? (hw.heap _ hm.mem) rfl) .nil⟩⟩
theorem RdLL.frM {w w' : World} {v : Value} {ls : List (List Int)} {bm : Nat} (h : RdLL w v ls) (f : Fr [bm] w w') (hm : ∃ es ck, w.heap[bm]? = some (.map es ck)) : RdLL w' v ls := by
  obtain ⟨vs, h1, h2⟩ := h
  exact ⟨vs, Reads.frM h1 f (fun q hq => by rw [List.mem_singleton.1 hq]; exact hm), fun i hi => Reads.frM (h2 i hi) f (fun q hq => by rw [List.mem_singleton.1 hq]; exact hm)⟩
end Go.Sp
/-
  DERIVED: THE SHELF's CONTRACTS AT THIS DUMP, IN PLAIN WORDS (tools/lay-plain.mjs out of 'TryzShelf.lean', which tools/lay-shelf.mjs wrote): THE SAME DECLARATIONS UNDER THE SAME NAMES: 'import', 'namespace', 'open', 'def', 'theorem' AND NOTHING ELSE: no command of the shelf's: FOR A HAND-IN. Each laying: the table of numbers ('.._ren') and one theorem, a field a fact of the dump's own or the kernel's comparison; each contract: ONE APPLICATION.
-/
namespace Go.Proofs
open Go.Shelf
def Tryz.lays189_ren : Go.Shelf.Ren := ⟨fun | 189 => 96 | 125 => 144 | 257 => 143 | 128 => 175 | 129 => 176 | 294 => 166 | 295 => 167 | 296 => 168 | 297 => 169 | 298 => 170 | 299 => 171 | 216 => 172 | 300 => 173 | 301 => 174 | 328 => 178 | 329 => 179 | 330 => 180 | 331 => 181 | 332 => 182 | 215 => 183 | 343 => 184 | n => n, fun | 28 => 22 | 3 => 3 | 46 => 90 | 0 => 0 | 51 => 227 | 53 => 229 | 4 => 4 | 183 => 220 | 182 => 219 | 131 => 224 | 5 => 5 | 9 => 9 | 218 => 231 | 222 => 235 | 228 => 237 | 229 => 238 | n => n, fun | n => n⟩
theorem Tryz.lays189 : Go.Proofs.Lays.n189 Tryz.prog Tryz.lays189_ren := {
  mixed := by kernel_rfl
  f125 := Tryz.func144.trans (congrArg some (by kernel_rfl))
  f128 := Tryz.func175.trans (congrArg some (by kernel_rfl))
  f129 := Tryz.func176.trans (congrArg some (by kernel_rfl))
  f189 := Tryz.func96.trans (congrArg some (by kernel_rfl))
  f215 := Tryz.func183.trans (congrArg some (by kernel_rfl))
  f216 := Tryz.func172.trans (congrArg some (by kernel_rfl))
  f257 := Tryz.func143.trans (congrArg some (by kernel_rfl))
  f294 := Tryz.func166.trans (congrArg some (by kernel_rfl))
  f295 := Tryz.func167.trans (congrArg some (by kernel_rfl))
  f296 := Tryz.func168.trans (congrArg some (by kernel_rfl))
  f297 := Tryz.func169.trans (congrArg some (by kernel_rfl))
  f298 := Tryz.func170.trans (congrArg some (by kernel_rfl))
  f299 := Tryz.func171.trans (congrArg some (by kernel_rfl))
  f300 := Tryz.func173.trans (congrArg some (by kernel_rfl))
  f301 := Tryz.func174.trans (congrArg some (by kernel_rfl))
  f328 := Tryz.func178.trans (congrArg some (by kernel_rfl))
  f329 := Tryz.func179.trans (congrArg some (by kernel_rfl))
  f330 := Tryz.func180.trans (congrArg some (by kernel_rfl))
  f331 := Tryz.func181.trans (congrArg some (by kernel_rfl))
  f332 := Tryz.func182.trans (congrArg some (by kernel_rfl))
  f343 := Tryz.func184.trans (congrArg some (by kernel_rfl))
  t0 := Tryz.underlying0
  a0 := Tryz.isAgg0
  z0 := Tryz.sizeOf0
  v0 := Tryz.zeroValue0
  t3 := Tryz.underlying3
  a3 := Tryz.isAgg3
  z3 := Tryz.sizeOf3
  v3 := Tryz.zeroValue3
  t4 := Tryz.underlying4
  a4 := Tryz.isAgg4
  z4 := Tryz.sizeOf4
  v4 := Tryz.zeroValue4
  t5 := Tryz.underlying5
  a5 := Tryz.isAgg5
  z5 := Tryz.sizeOf5
  v5 := Tryz.zeroValue5
  t9 := Tryz.underlying9
  a9 := Tryz.isAgg9
  z9 := Tryz.sizeOf9
  v9 := Tryz.zeroValue9
  t28 := Tryz.underlying22
  a28 := Tryz.isAgg22
  z28 := Tryz.sizeOf22
  v28 := Tryz.zeroValue22
  t46 := Tryz.underlying90
  a46 := Tryz.isAgg90
  z46 := Tryz.sizeOf90
  v46 := Tryz.zeroValue90
  t51 := Tryz.underlying227
  a51 := Tryz.isAgg227
  z51 := Tryz.sizeOf227
  v51 := Tryz.zeroValue227
  t53 := Tryz.underlying229
  a53 := Tryz.isAgg229
  z53 := Tryz.sizeOf229
  v53 := Tryz.zeroValue229
  t131 := Tryz.underlying224
  a131 := Tryz.isAgg224
  z131 := Tryz.sizeOf224
  v131 := Tryz.zeroValue224
  t182 := Tryz.underlying219
  a182 := Tryz.isAgg219
  z182 := Tryz.sizeOf219
  v182 := Tryz.zeroValue219
  t183 := Tryz.underlying220
  a183 := Tryz.isAgg220
  z183 := Tryz.sizeOf220
  v183 := Tryz.zeroValue220
  t218 := Tryz.underlying231
  a218 := Tryz.isAgg231
  z218 := Tryz.sizeOf231
  v218 := Tryz.zeroValue231
  t222 := Tryz.underlying235
  a222 := Tryz.isAgg235
  z222 := Tryz.sizeOf235
  v222 := Tryz.zeroValue235
  t228 := Tryz.underlying237
  a228 := Tryz.isAgg237
  z228 := Tryz.sizeOf237
  v228 := Tryz.zeroValue237
  t229 := Tryz.underlying238
  a229 := Tryz.isAgg238
  z229 := Tryz.sizeOf238
  v229 := Tryz.zeroValue238 }
def Tryz.lays20_ren : Go.Shelf.Ren := ⟨fun | 20 => 97 | n => n, fun | 22 => 22 | 3 => 3 | 4 => 4 | 0 => 0 | n => n, fun | n => n⟩
theorem Tryz.lays20 : Go.Proofs.Lays2.n20 Tryz.prog Tryz.lays20_ren := {
  mixed := by kernel_rfl
  f20 := Tryz.func97.trans (congrArg some (by kernel_rfl))
  t0 := Tryz.underlying0
  a0 := Tryz.isAgg0
  z0 := Tryz.sizeOf0
  v0 := Tryz.zeroValue0
  t3 := Tryz.underlying3
  a3 := Tryz.isAgg3
  z3 := Tryz.sizeOf3
  v3 := Tryz.zeroValue3
  t4 := Tryz.underlying4
  a4 := Tryz.isAgg4
  z4 := Tryz.sizeOf4
  v4 := Tryz.zeroValue4
  t22 := Tryz.underlying22
  a22 := Tryz.isAgg22
  z22 := Tryz.sizeOf22
  v22 := Tryz.zeroValue22
  i3 := by kernel_rfl }
end Go.Proofs
/-
  Package trial: the possible errors of all parts.
-/
namespace Go.Sp
open Go Go.Proofs
theorem put_world {w w' : World} {n : Nat} {os : Array Obj} {b : Nat} {e : TypeId} {xs ys : List Int} {junk : List Value} (hb : w.heap[b]? = some (.cells (xs.map vi ++ junk).toArray e (0, 0))) (hl : ys.length = xs.length)
    (hw : w' = Sort.grow (Sort.putRow (Value.int .i64) (Sort.ahead w n) b 0 ys.toArray) os) : Fr [b] w w' ∧ w'.heap[b]? = some (.cells (ys.map vi ++ junk).toArray e (0, 0)) := by
  have hlt : b < w.heap.size := (Array.getElem?_eq_some_iff.1 hb).1
  have hsz : (Sort.putRow (Value.int .i64) (Sort.ahead w n) b 0 ys.toArray).heap.size = w.heap.size := by rw [Sort.size_putRow]; rfl
  have hmod : ∀ k : Nat, (Sort.putRow (Value.int .i64) (Sort.ahead w n) b 0 ys.toArray).heap[k]? = if b = k then (w.heap[k]?).map (Sort.onCells (Sort.putCells (Value.int .i64) 0 ys.toArray)) else w.heap[k]? := fun k => by
    unfold Sort.putRow Sort.mapBlock
    show (w.heap.modify b _)[k]? = _
    rw [Array.getElem?_modify]
  subst hw
  refine ⟨⟨rfl, rfl, rfl, by rw [Sort.size_grow, hsz]; omega, fun k hk hn => ?_⟩, ?_⟩
  · rw [Sort.heap_grow_old _ _ (by rw [hsz]; exact hk), hmod k, if_neg (fun h => hn (by rw [h]; simp))]
  · rw [Sort.heap_grow_old _ _ (by rw [hsz]; exact hlt), hmod b, if_pos rfl, hb]
    simp only [Option.map_some, Sort.onCells]
    congr 2
    apply Array.ext_getElem?
    intro k
    simp only [Sort.putCells, Array.getElem?_mapIdx, List.getElem?_toArray, Nat.zero_le, true_and, Nat.zero_add, List.size_toArray, Nat.sub_zero]
    by_cases hk : k < ys.length
    · rw [List.getElem?_append_left (by simp; omega), List.getElem?_append_left (by simpa using hk)]
      simp [hk, show k < xs.length by omega]
    · rw [List.getElem?_append_right (by simp; omega), List.getElem?_append_right (by simp; omega)]
      simp only [List.length_map, hl]
      rw [show xs.length = ys.length from hl.symm]
      cases junk[k - ys.length]? with
      | none => rfl
      | some v => simp [hk]
theorem holds_own {w : World} {b : Nat} {e : TypeId} {xs : List Int} {junk : List Value} (hb : w.heap[b]? = some (.cells (xs.map vi ++ junk).toArray e (0, 0))) : Sort.Holds (Value.int .i64) w b 0 xs.toArray := fun j hj => by
  have hj' : j < xs.length := by simpa using hj
  refine ⟨?_, unfz_at hb rfl rfl⟩
  rw [Nat.zero_add]
  refine cell0 hb ?_
  simp [List.getElem?_append_left, hj']
theorem sort_own (xs : List Int) (n : Nat) (hn : xs.length = n) (hx : n ≤ 1000000) (b cap : Nat) (junk : List Value) (w : World) (hb : w.heap[b]? = some (.cells (xs.map vi ++ junk).toArray 3 (0, 0))) :
    CnX Tryz.prog 96 #[.slice (some ⟨b, 0, none⟩) n cap] w [b] (fun _ : Unit => .tuple #[]) (fun _ w' => True ∧ w'.heap[b]? = some (.cells ((xs.mergeSort fun x y => decide (x ≤ y)).map vi ++ junk).toArray 3 (0, 0))) := by
  subst hn
  have h : Calls Tryz.prog 96 #[.slice (some ⟨b, 0, none⟩) xs.length cap] w _ := Any.slices_Sort_int Tryz.lays189 b 0 cap xs w (holds_own hb) (Array.getElem?_eq_some_iff.1 hb).1 (by omega)
  refine CnX.of (h.mono fun e w' he => ?_)
  obtain ⟨he, n, os, hw⟩ := he
  obtain ⟨h1, h2⟩ := put_world hb (List.length_mergeSort ..) hw
  exact ⟨(), he, h1, trivial, h2⟩
theorem compact_own (xs : List Int) (n : Nat) (hn : xs.length = n) (hx : n ≤ 1000000) (b cap : Nat) (hc : n ≤ cap) (junk : List Value) (w : World) (hb : w.heap[b]? = some (.cells (xs.map vi ++ junk).toArray 3 (0, 0))) :
    CnX Tryz.prog 97 #[.slice (some ⟨b, 0, none⟩) n cap] w [b] (fun _ : Unit => .slice (some ⟨b, 0, none⟩) (Lib.compact xs).length cap) (fun _ w' => True ∧ w'.heap[b]? = some (.cells ((Lib.compact xs).map vi ++ ((List.replicate (n - (Lib.compact xs).length) (vi 0)) ++ junk)).toArray 3 (0, 0))) := by
  subst hn
  have h : Calls Tryz.prog 97 #[.slice (some ⟨b, 0, none⟩) xs.length cap] w _ := Any.slices_Compact_int Tryz.lays20 b 0 cap xs w (holds_own hb) (by omega) hc
  refine CnX.of (h.mono fun e w' he => ?_)
  obtain ⟨he, n, hw⟩ := he
  have hcl : (Lib.compact xs).length ≤ xs.length := by
    unfold Lib.compact Lib.compactUpTo
    rw [List.length_map]
    exact Nat.le_trans (List.length_filter_le _ _) (by simp)
  obtain ⟨h1, h2⟩ := put_world (ys := Lib.compact xs ++ List.replicate (xs.length - (Lib.compact xs).length) 0) hb (by simp; omega) (hw.trans (Sort.grow_empty _).symm)
  refine ⟨(), he, h1, trivial, ?_⟩
  rw [h2, List.map_append, List.map_replicate, List.append_assoc]
theorem poss_uniq {t : Tr} (hv : VT t) (i : Nat) : uniqS ((truthsL t []).map fun e => get3 e i) = possL t i := by
  refine uniqS_eq ?_ fun x => ?_
  · unfold possL
    exact List.Pairwise.filter _ (by decide)
  · unfold possL
    rw [List.mem_filter, List.any_eq_true, List.mem_map]
    constructor
    · rintro ⟨_, e, he, h⟩
      exact ⟨e, he, of_decide_eq_true h⟩
    · rintro ⟨e, he, rfl⟩
      have := (truths_bd hv he).get i
      refine ⟨?_, e, he, decide_eq_true rfl⟩
      simp only [List.mem_cons, List.not_mem_nil, or_false]
      omega
theorem errors_no (t : Tr) (hn : NT t) (he : ¬ askedE t = 0) (sl pl ll tl : Value) (w : World) (hr : RdTr w t sl pl ll tl) : CnV Tryz.prog 35 #[trV t sl pl ll tl] w (.tuple #[.slice none 0 0, vi (askedE t)]) := by
  have hr0 := hr
  refine cnv (vs := [_]) Tryz.func35 rfl rfl ?_
  all_goals refine tc_seq fun K1 hK1 => ?_; refine tc_region ?_; refine tl_e (e_box rfl rfl rfl) rfl (fun b1 _ => ?_); refine tl_q (y_assign rfl) rfl ?_; refine tl_q (y_assign rfl) rfl ?_; refine tl_nil ?_; ((refine hK1 ?_; try (clear hK1; clear K1)))
  all_goals refine tc_seq fun K2 hK2 => ?_; refine tc_region ?_; refine tl_q (y_loadW rfl (by repeat constructor) (by rfl)) rfl ?_; refine tl_e (e_callV rfl (.cons rfl .nil) (fun w' hw' => asked_no t hn he _ _ _ _ w' (hr0.fr (hw'.fr (by simp))))) rfl (fun _ _ => ?_); refine tl_q (y_move rfl) rfl ?_; refine tl_q (y_extract rfl rfl) rfl ?_; refine tl_q (y_extract rfl rfl) rfl ?_; refine tl_q (y_extract rfl rfl) rfl ?_; refine tl_q (y_assign rfl) rfl ?_; refine tl_q (y_assign rfl) rfl ?_; refine tl_q (y_assign rfl) rfl ?_; refine tl_nil ?_; ((refine hK2 ?_; try (clear hK2; clear K2)))
  all_goals refine tc_seq fun K3 hK3 => ?_; refine tc_seq fun K4 hK4 => ?_; refine tc_region ?_; refine tl_q (y_move rfl) rfl ?_; refine tl_q (y_neq rfl rfl) rfl ?_; refine tl_nil ?_; ((refine hK4 ?_; try (clear hK4; clear K4)))
  all_goals (
   refine tc_cond rfl (fun hc => ?_) (fun hc => ?_)
   · try simp only [qn1, qn2, qn3, qn4, qn5, qn6, qn7, qn8] at hc
     all_goals refine tc_seq fun K5 hK5 => ?_; refine tc_region ?_; refine tl_q (y_move rfl) rfl ?_; refine tl_q (y_assign rfl) rfl ?_; refine tl_q (y_assign rfl) rfl ?_; refine tl_nil ?_; ((refine hK5 ?_; try (clear hK5; clear K5)))
     all_goals refine tc_ret ?_; (repeat (refine tk_then_ret ?_))
     all_goals (refine tk_ret rfl rfl (.cons (.tmp rfl) (.cons (.tmp rfl) .nil)) ?_)
     all_goals (
      refine fun w' hw' => ⟨rfl, hw'.fr (by simp)⟩)
   · try simp only [qn1, qn2, qn3, qn4, qn5, qn6, qn7, qn8] at hc
     all_goals ((exfalso; omega))
     all_goals skip)
def gL (t : Tr) (i k : Nat) : List Int := ((truthsL t []).take k).map fun e => get3 e i
theorem gL_len {t : Tr} {i k : Nat} (h : k ≤ (truthsL t []).length) : (gL t i k).length = k := by unfold gL; rw [List.length_map, List.length_take]; omega
theorem gL_0 {t : Tr} {i k : Nat} (h : k = 0) : gL t i k = [] := by rw [h]; rfl
theorem gL_succ {t : Tr} {i k : Nat} (h : k < (truthsL t []).length) : gL t i (k + 1) = gL t i k ++ [get3 ((truthsL t []).getD k (0, 0, 0)) i] := by
  unfold gL
  rw [List.take_add_one, List.getElem?_eq_getElem h, List.map_append, List.getD_eq_getElem?_getD, List.getElem?_eq_getElem h]; rfl
theorem gL_all {t : Tr} (hv : VT t) (i : Nat) : Lib.compact ((gL t i (truthsL t []).length).mergeSort fun x y => decide (x ≤ y)) = possL t i := by
  unfold gL
  rw [List.take_length]
  exact poss_uniq hv i
set_option maxHeartbeats 1000000 in
theorem errors_ok (t : Tr) (hn : NT t) (he : askedE t = 0) (sl pl ll tl : Value) (w : World) (hr : RdTr w t sl pl ll tl) :
    CnX Tryz.prog 35 #[trV t sl pl ll tl] w [] (fun y : Option Addr × Nat => .tuple #[slV t.parts.length y, vi 0]) (fun y w' => RdLL w' (slV t.parts.length y) (possLL t t.parts.length)) := by
  have hr0 := hr
  obtain ⟨hv, hpos⟩ := askedE_0 he
  have hp1 := hv.p1
  have hp3 := hv.p3
  have htl : (truthsL t []).length ≤ 343 := Nat.le_trans (List.length_filter_le _ _) (every_len hv)
  obtain ⟨ad, cp, b0, o0, rfl, had, hcell⟩ := hr.ps.open
  refine cnx0 (vs := [_]) Tryz.func35 rfl rfl ?_
  all_goals refine tc_seq fun K1 hK1 => ?_; refine tc_region ?_; refine tl_e (e_box rfl rfl rfl) rfl (fun b1 _ => ?_); refine tl_q (y_assign rfl) rfl ?_; refine tl_q (y_assign rfl) rfl ?_; refine tl_nil ?_; ((refine hK1 ?_; try (clear hK1; clear K1)))
  all_goals refine tc_seq fun K2 hK2 => ?_; refine tc_lay ([]) SB.s (fun wl1 hl1 => ?_); refine tc_region ?_; refine tl_q (y_loadWf rfl (hl1.at (by repeat constructor)) MI.m (by simp) (by rfl)) rfl ?_; refine tl_e (e_callX rfl (.cons rfl .nil) (fun w' hw' => asked_rd t hn he _ _ _ _ w' (hr0.fr (hw'.fr (w0 := w) (S := []) MI.m)))) rfl (fun y hy => ?_); refine tl_q (y_move rfl) rfl ?_; refine tl_q (y_extract rfl rfl) rfl ?_; refine tl_q (y_extract rfl rfl) rfl ?_; refine tl_q (y_extract rfl rfl) rfl ?_; refine tl_q (y_assign rfl) rfl ?_; refine tl_q (y_assign rfl) rfl ?_; refine tl_q (y_assign rfl) rfl ?_; refine tl_nil ?_; ((refine hK2 ?_; try (clear hK2; clear K2)))
  all_goals refine tc_seq fun K3 hK3 => ?_; refine tc_seq fun K4 hK4 => ?_; refine tc_lay ([]) SB.s (fun wl2 hl2 => ?_); refine tc_region ?_; refine tl_q (y_move rfl) rfl ?_; refine tl_q (y_neq rfl rfl) rfl ?_; refine tl_nil ?_; ((refine hK4 ?_; try (clear hK4; clear K4)))
  all_goals (
   refine tc_cond rfl (fun hc => ?_) (fun hc => ?_)
   · try simp only [qn1, qn2, qn3, qn4, qn5, qn6, qn7, qn8] at hc
   · try simp only [qn1, qn2, qn3, qn4, qn5, qn6, qn7, qn8] at hc
     all_goals refine tc_skip ?_; ((refine hK3 ?_; try (clear hK3; clear K3)))
     all_goals refine tc_seq fun K6 hK6 => ?_; refine tc_lay ([]) SB.s (fun wl4 hl4 => ?_); (obtain ⟨bT, oT, hadT⟩ := hy.1.opens1)
     all_goals (have hadT' := hadT hpos)
     all_goals (have hTat : ∀ w', Fr [] y.2 w' → ∀ k, k < (truthsL t []).length → CA (fun j => w'.cell? ⟨bT, j, none⟩) (oT + k * 3) 3 [vi ((truthsL t []).getD k (0, 0, 0)).1, vi ((truthsL t []).getD k (0, 0, 0)).2.1, vi ((truthsL t []).getD k (0, 0, 0)).2.2] := fun w' f k hk => (hy.1.fr f).at1 hadT' hk)
     all_goals refine tc_region ?_; refine tl_q (y_assign rfl) rfl ?_; refine tl_nil ?_; ((refine hK6 ?_; try (clear hK6; clear K6)))
     all_goals refine tc_seq fun K7 hK7 => ?_; refine tc_seq fun K8 hK8 => ?_; refine tc_lay ([]) SB.s (fun wl5 hl5 => ?_); refine tc_region ?_; refine tl_q (y_field rfl) rfl ?_; refine tl_q (y_load1f rfl (hl1.at (by repeat constructor)) MI.m (by simp) (by rfl)) rfl ?_; refine tl_q (y_len rfl) rfl ?_; refine tl_q (y_move rfl) rfl ?_; refine tl_nil ?_; ((refine hK8 ?_; try (clear hK8; clear K8)))
     all_goals refine tc_block ?_
     all_goals (
      refine tc_loop (fun p : Nat × Option (Nat × Nat × List Value) × List Value × World => p.1 ≤ t.parts.length ∧ outOk (p.1, p.2.1) ∧ InV p.2.2.2 (slS p.2.1) p.2.2.1 (possLL t p.1)) (fun p => [(5, slV (truthsL t []).length y.1.2), (7, outV' (p.1, p.2.1)), (23, vi t.parts.length), (24, vi p.1)]) (fun p => [(p.2.2.2, slS p.2.1), (y.2, []), (w, [])]) (fun p => slH 22 p.2.2.1 p.2.1) (fun p => t.parts.length - p.1) ?_ ?_
      · exact tk_start (0, none, [], y.2) ⟨Nat.zero_le _, rfl, InV.nil⟩ (.cons rfl (.cons rfl (.cons rfl (.cons rfl .nil)))) (fun _ h => h.sub (fun β hβ => by rcases (by simpa [slS] using hβ : β = (y.2, []) ∨ β = (w, [])) with rfl | rfl <;> simp) (List.nil_sublist _))
      · rintro ⟨i, oo, vs, wl⟩ ⟨hi, hok, hin⟩
        dsimp only at hi hok hin ⊢
        all_goals refine tc_seq fun K9 hK9 => ?_; refine tc_region ?_; refine tl_q (y_lss rfl rfl) rfl ?_; refine tl_nil ?_; ((refine hK9 ?_; try (clear hK9; clear K9)))
        all_goals refine tc_seq fun K10 hK10 => ?_
        all_goals (
         refine tc_cond rfl (fun hc => ?_) (fun hc => ?_)
         · try simp only [qn1, qn2, qn3, qn4, qn5, qn6, qn7, qn8] at hc
           all_goals refine tc_skip ?_; ((refine hK10 ?_; try (clear hK10; clear K10)))
           all_goals refine tc_seq fun K11 hK11 => ?_; refine tc_block ?_; refine tc_seq fun K12 hK12 => ?_; refine tc_region ?_; refine tl_q (y_move rfl) rfl ?_; refine tl_q (y_assign rfl) rfl ?_; refine tl_nil ?_; ((refine hK12 ?_; try (clear hK12; clear K12)))
           all_goals refine tc_seq fun K13 hK13 => ?_; refine tc_region ?_; refine tl_q (y_assign rfl) rfl ?_; refine tl_nil ?_; ((refine hK13 ?_; try (clear hK13; clear K13)))
           all_goals refine tc_seq fun K14 hK14 => ?_; refine tc_seq fun K15 hK15 => ?_; refine tc_region ?_; refine tl_q (y_move rfl) rfl ?_; refine tl_q (y_len rfl) rfl ?_; refine tl_q (y_move rfl) rfl ?_; refine tl_nil ?_; ((refine hK15 ?_; try (clear hK15; clear K15)))
           all_goals refine tc_block ?_
           all_goals (
            refine tc_loop (fun q : Nat × Option (Nat × Nat × List Value) => q.1 ≤ (truthsL t []).length ∧ outOk (q.1, q.2)) (fun q => [(5, slV (truthsL t []).length y.1.2), (7, outV' (i, oo)), (8, vi i), (9, outV' (q.1, q.2)), (23, vi t.parts.length), (24, vi i), (27, slV (truthsL t []).length y.1.2), (28, vi (truthsL t []).length), (29, vi q.1)]) (fun _ => [(wl, slS oo), (y.2, []), (w, [])]) (fun q => slH 3 ((gL t i q.1).map vi) q.2 ++ slH 22 vs oo) (fun q => (truthsL t []).length - q.1) ?_ ?_
            · exact tk_start (0, none) ⟨Nat.zero_le _, rfl⟩ (.cons rfl (.cons rfl (.cons rfl (.cons rfl (.cons rfl (.cons rfl (.cons rfl (.cons rfl (.cons rfl .nil))))))))) (fun _ h => h)
            · rintro ⟨k, o2⟩ ⟨hk, hok2⟩
              have hgl := gL_len (i := i) hk
              rcases o2 with _ | ⟨b2, cap2, junk2⟩
              all_goals ((dsimp only [outOk] at hk hok2; dsimp only [slH_none, slH_some, List.cons_append, List.nil_append]; dsimp only [outV']))
              all_goals refine tc_seq fun K16 hK16 => ?_; refine tc_region ?_; refine tl_q (y_lss rfl rfl) rfl ?_; refine tl_nil ?_; ((refine hK16 ?_; try (clear hK16; clear K16)))
              all_goals refine tc_seq fun K17 hK17 => ?_
              all_goals (
               refine tc_cond rfl (fun hc => ?_) (fun hc => ?_)
               · try simp only [qn1, qn2, qn3, qn4, qn5, qn6, qn7, qn8] at hc
                 all_goals refine tc_skip ?_; ((refine hK17 ?_; try (clear hK17; clear K17)))
                 all_goals refine tc_seq fun K18 hK18 => ?_; refine tc_block ?_; refine tc_seq fun K19 hK19 => ?_; refine tc_region ?_; refine tl_q (y_index rfl rfl (by omega) hadT') rfl ?_; ((refine tl_q (y_loadNo (n := 3) rfl (fun w' hw' => by rw [show Int.toNat (k : Int) * 3 = k * 3 from by omega]; exact hTat w' (hw'.fr (w0 := y.2) (S := []) MI.m) k (by omega))) rfl ?_))
                 all_goals refine tl_e (e_allocN rfl) rfl (fun b11 _ => ?_); refine tl_e (e_storeW rfl rfl (by repeat constructor) (by rfl) (by rfl) (by simp [Value.oneCell'])) rfl (fun _ _ => ?_); refine tl_nil ?_; ((refine hK19 ?_; try (clear hK19; clear K19)))
                 all_goals refine tc_region ?_; refine tl_q (y_move rfl) rfl ?_; refine tl_q (y_move rfl) rfl ?_; refine tl_q (y_indexA rfl rfl (by omega)) rfl ?_; ((refine tl_q (y_load1 (v := vi (get3 ((truthsL t []).getD k (0, 0, 0)) i)) rfl (by repeat constructor) (by rcases (by omega : i = 0 ∨ i = 1 ∨ i = 2) with rfl | rfl | rfl <;> rfl)) rfl ?_))
                 all_goals (refine tl_e (e_bslice rfl (by (repeat (first | exact .nil | apply PV.one rfl rfl)); done) rfl rfl) rfl (fun _ _ => ?_))
                 all_goals ((first | refine tl_e (e_append_own (old := (gL t i k).map vi) (junk := junk2) rfl rfl rfl (by repeat constructor) (by simp; omega) (by omega) hok2.1 (fun w' hw' => RdI.own0 (xs := [get3 ((truthsL t []).getD k (0, 0, 0)) i]) hw' (by repeat constructor)) (fun u hu => by obtain ⟨_, _, rfl⟩ := List.mem_map.1 hu; rfl) (by simp only [List.length_cons, List.length_nil]; omega) rfl) rfl (fun z hz => ?_) | refine tl_e (e_append_nil rfl rfl rfl (fun w' hw' => RdI.own0 (xs := [get3 ((truthsL t []).getD k (0, 0, 0)) i]) hw' (by repeat constructor)) (fun u hu => by obtain ⟨_, _, rfl⟩ := List.mem_map.1 hu; rfl) Nat.zero_lt_one (Nat.le_of_ble_eq_true rfl) rfl) rfl (fun z hz => ?_)))
                 all_goals refine tl_q (y_assign rfl) rfl ?_; refine tl_nil ?_; ((refine hK18 ?_; try (clear hK18; clear K18)))
                 all_goals refine tc_region ?_; refine tl_q (y_add rfl rfl (by omega)) rfl ?_; refine tl_q (y_move rfl) rfl ?_; refine tl_nil ?_
                 all_goals (
                  have hts := gL_succ (t := t) (i := i) (k := k) (by omega)
                  refine tk_round (k + 1, some (z.1, z.2.1, z.2.2)) ⟨by dsimp only; omega, ?_⟩ (by dsimp only; omega) (.cons rfl (.cons rfl (.cons rfl (.cons ?_ (.cons rfl (.cons rfl (.cons rfl (.cons rfl (.cons rfl .nil))))))))) (fun _ h => ?_)
                  · dsimp only [outOk]; simp only [List.length_cons, List.length_nil] at hz ⊢; omega
                  · dsimp only [outV']; first | rfl | (rw [show k = 0 from hok2]; rfl)
                  · dsimp only [slH_some, List.cons_append, List.nil_append]; rw [hts, List.map_append]
                    try rw [show gL t i k = [] from gL_0 hok2, List.map_nil, List.nil_append]
                    exact h.subl SB.s SB.s)
               · try simp only [qn1, qn2, qn3, qn4, qn5, qn6, qn7, qn8] at hc
                 all_goals ((first | (exfalso; omega) | skip))
                 all_goals refine tc_exit ?_; ((refine hK14 ?_; try (clear hK14; clear K14)))
                 all_goals refine tc_seq fun K20 hK20 => ?_; (have hkl : k = (truthsL t []).length := by omega)
                 all_goals subst hkl
                 all_goals refine tc_region ?_; refine tl_q (y_move rfl) rfl ?_; refine tl_e (e_callU (val := fun _ : Unit => .tuple #[]) (p := fun _ => True) (ob := fun _ => .cells (((gL t i (truthsL t []).length).mergeSort fun x y => decide (x ≤ y)).map vi ++ junk2).toArray 3 (0, 0)) rfl (.cons rfl .nil) (fun w' hw' => sort_own (gL t i (truthsL t []).length) _ hgl (by omega) b2 cap2 junk2 w' (hw'.heap _ (HM.mem (by repeat constructor)))) (fun _ => (by repeat constructor))) rfl (fun _ _ => ?_); refine tl_nil ?_; ((refine hK20 ?_; try (clear hK20; clear K20)))
                 all_goals rcases oo with _ | ⟨bo, cap, junk⟩
                 all_goals ((dsimp only [outOk, slS] at hok hin ⊢; dsimp only [slH_none, slH_some, List.cons_append, List.nil_append]; dsimp only [outV']))
                 all_goals refine tc_region ?_; refine tl_q (y_move rfl) rfl ?_; refine tl_q (y_move rfl) rfl ?_; refine tl_e (e_callU (val := fun _ : Unit => .slice (some ⟨b2, 0, none⟩) (Lib.compact ((gL t i (truthsL t []).length).mergeSort fun x y => decide (x ≤ y))).length cap2) (p := fun _ => True) (ob := fun _ => .cells ((Lib.compact ((gL t i (truthsL t []).length).mergeSort fun x y => decide (x ≤ y))).map vi ++ ((List.replicate ((truthsL t []).length - (Lib.compact ((gL t i (truthsL t []).length).mergeSort fun x y => decide (x ≤ y))).length) (vi 0)) ++ junk2)).toArray 3 (0, 0)) rfl (.cons rfl .nil) (fun w' hw' => compact_own ((gL t i (truthsL t []).length).mergeSort fun x y => decide (x ≤ y)) _ (by rw [List.length_mergeSort, hgl]) (by omega) b2 cap2 hok2.1 junk2 w' (hw'.heap _ (HM.mem (by repeat constructor)))) (fun _ => (by repeat constructor))) rfl (fun _ _ => ?_); (refine tl_e (e_bslice rfl (by (repeat (first | exact .nil | apply PV.one rfl rfl)); done) rfl rfl) rfl (fun _ _ => ?_))
                 all_goals ((first | refine tl_e (e_append_own (old := vs) (junk := junk) rfl rfl rfl (by repeat constructor) (by rw [hin.1, possLL_len, Nat.mul_one]) (by omega) hok.1 (fun w' hw' => Reads.own1 hw' (by repeat constructor)) (fun u hu => by obtain rfl := List.mem_singleton.1 hu; rfl) (by omega) rfl) rfl (fun z hz => ?_) | refine tl_e (e_append_nil rfl rfl rfl (fun w' hw' => Reads.own1 hw' (by repeat constructor)) (fun u hu => by obtain rfl := List.mem_singleton.1 hu; rfl) Nat.zero_lt_one (Nat.le_of_ble_eq_true rfl) rfl) rfl (fun z hz => ?_)))
                 all_goals refine tl_q (y_assign rfl) rfl ?_; refine tl_nil ?_; ((refine hK11 ?_; try (clear hK11; clear K11)))
                 all_goals refine tc_region ?_; refine tl_q (y_add rfl rfl (by omega)) rfl ?_; refine tl_q (y_move rfl) rfl ?_; refine tl_nil ?_
                 all_goals (
                  rw [gL_all hv i]
                  refine tk_lay [(z.1, _)] SB.s (fun w2 h2 => ?_)
                  have hz1 := h2.own (z.1, _) (HM.mem (by repeat constructor)) (wl, _) MI.m
                  have hnd := h2.nodup
                  have hv2 : RdI w2 (.slice (some ⟨b2, 0, none⟩) (possL t i).length cap2) (possL t i) := RdI.own h2 (b := b2) (by repeat constructor)
                  have hin2 : InV w2 [z.1] (vs ++ [Value.slice (some ⟨b2, 0, none⟩) (possL t i).length cap2]) (possLL t (i + 1)) := by
                    rw [possLL_succ]
                    refine (hin.step (h2.fr (w0 := wl) MI.m) (S' := [z.1]) (fun b hb => by obtain rfl := List.mem_singleton.1 hb; exact hz1)).snoc hv2 (fun p m c e => ?_)
                    cases e
                    have hzb : ¬ z.1 = b2 := fun e => by rw [e] at hnd; simp at hnd
                    exact ⟨h2.lt (HM.mem (b := b2) (by repeat constructor)), fun hm => hzb (List.mem_singleton.1 hm).symm⟩
                  refine tk_round (i + 1, some (z.1, z.2.1, z.2.2), vs ++ [Value.slice (some ⟨b2, 0, none⟩) (possL t i).length cap2], w2) ⟨by dsimp only; omega, ?_, hin2⟩ (by dsimp only; omega) (.cons rfl (.cons ?_ (.cons rfl (.cons rfl .nil)))) (fun _ h => ?_)
                  · dsimp only [outOk]; first | omega | (simp only [List.length_cons, List.length_nil] at hz ⊢; omega)
                  · dsimp only [outV']; first | rfl | (rw [show i = 0 from hok]; rfl)
                  · dsimp only [slH_some, slS]
                    try rw [show vs = [] from List.eq_nil_of_length_eq_zero (by rw [hin.1, possLL_len]; exact hok), List.nil_append]
                    exact h.subl SB.s SB.s)))
         · try simp only [qn1, qn2, qn3, qn4, qn5, qn6, qn7, qn8] at hc
           all_goals refine tc_exit ?_; ((refine hK7 ?_; try (clear hK7; clear K7)))
           all_goals refine tc_seq fun K21 hK21 => ?_; (have hil : i = t.parts.length := by omega)
           all_goals subst hil
           all_goals rcases oo with _ | ⟨bo, cap, junk⟩
           all_goals ((dsimp only [outOk, slS] at hok hin ⊢; dsimp only [slH_none, slH_some]))
           all_goals refine tc_region ?_; refine tl_q (y_move rfl) rfl ?_; refine tl_q (y_assign rfl) rfl ?_; refine tl_q (y_assign rfl) rfl ?_; refine tl_nil ?_; ((refine hK21 ?_; try (clear hK21; clear K21)))
           all_goals refine tc_ret ?_; (repeat (first | refine tk_then_ret ?_))
           all_goals (refine tk_ret rfl rfl (.cons (.tmp rfl) (.cons (.tmp rfl) .nil)) ?_)
           all_goals (
            first
            | (exfalso; omega)
            | (refine fun w' hw' => ⟨(some ⟨bo, 0, none⟩, cap), rfl, hw'.fr MI.m, ?_⟩
               have := hin.rd hw' (b := bo) (cap := cap) (by repeat constructor) (hw'.fr MI.m)
               rw [possLL_len] at this
               exact this)))))
end Go.Sp
/-
  Package trial: the certificate.
-/
namespace Go.Sp
open Go Go.Proofs
theorem RdLL.opensL {w : World} {ls : List (List Int)} {n : Nat} (hn : ls.length = n) {x : Option Addr × Nat} (h : RdLL w (slV n x) ls) : ∃ b o, ∃ vs : List Value, (0 < ls.length → x.1 = some ⟨b, o, none⟩) ∧
    (∀ w', Fr [] w w' → ∀ i, i < ls.length → w'.cell? ⟨b, o + i, none⟩ = some (vs.getD i (.slice none 0 0))) ∧ ∀ w', Fr [] w w' → ∀ i, i < ls.length → RdI w' (vs.getD i (.slice none 0 0)) (ls.getD i []) := by
  obtain ⟨ad, cap, b, o, vs, e, had, hc, hi⟩ := h.open
  injection e with e1 e2 e3
  subst e1
  exact ⟨b, o, vs, had, hc, hi⟩
theorem possLL_get {t : Tr} {n i : Nat} (h : i < n) : (possLL t n).getD i [] = possL t i := by
  unfold possLL
  rw [List.getD_eq_getElem?_getD, List.getElem?_map, List.getElem?_range h]; rfl
theorem poss_bd (t : Tr) {i j : Nat} : -3 ≤ (possL t i).getD j 0 ∧ (possL t i).getD j 0 ≤ 3 := by
  rcases Nat.lt_or_ge j (possL t i).length with h | h
  · have hm : (possL t i).getD j 0 ∈ possL t i := by rw [List.getD_eq_getElem?_getD, List.getElem?_eq_getElem h]; exact List.getElem_mem h
    have := (List.mem_filter.1 hm).1
    simp only [List.mem_cons, List.not_mem_nil, or_false] at this
    omega
  · rw [List.getD_eq_getElem?_getD, List.getElem?_eq_none h]; simp
def certLn (p : List Int) : Int × Int := ((p.getD 0 0 + p.getD (p.length - 1) 0) / 2, p.getD (p.length - 1) 0 - (p.getD 0 0 + p.getD (p.length - 1) 0) / 2)
def certL (t : Tr) (n : Nat) : List (Int × Int) := (List.range n).map fun i => certLn (possL t i)
theorem certL_succ (t : Tr) (n : Nat) : certL t (n + 1) = certL t n ++ [certLn (possL t n)] := by simp [certL, List.range_succ]
theorem certL_len (t : Tr) (n : Nat) : (certL t n).length = n := by simp [certL]
theorem certL_0 {t : Tr} {n : Nat} (h : n = 0) : certL t n = [] := by rw [h]; rfl
theorem y_shr1 {P : Program} {F : List (Nat × Value)} {bs : List (World × List Nat)} {H : List (Nat × Obj)} {d : Option Tmp} {ty : TypeId} {pos : String} {after : Array Edge} {g : Option (Nat × Bool)} {x y : Operand} {t t' : TypeId} {k' : IntKind} {m : Int} (hx : evalO F x = some (.int .i64 m)) (hy : evalO F y = some (.int k' 1)) :
    OpY P ⟨d, .binOp .shr t x y t', ty, pos, after, g⟩ F bs H (.int .i64 (m / 2)) := by
  have := y_shr (P := P) (bs := bs) (H := H) (d := d) (ty := ty) (pos := pos) (after := after) (g := g) (t := t) (t' := t') hx hy (by omega)
  exact this
theorem certificate_no (t : Tr) (hn : NT t) (he : ¬ askedE t = 0) (sl pl ll tl : Value) (w : World) (hr : RdTr w t sl pl ll tl) : CnV Tryz.prog 47 #[trV t sl pl ll tl] w (.tuple #[.slice none 0 0, vi (askedE t)]) := by
  have hr0 := hr
  refine cnv (vs := [_]) Tryz.func47 rfl rfl ?_
  all_goals refine tc_seq fun K1 hK1 => ?_; refine tc_region ?_; refine tl_e (e_box rfl rfl rfl) rfl (fun b1 _ => ?_); refine tl_q (y_assign rfl) rfl ?_; refine tl_q (y_assign rfl) rfl ?_; refine tl_nil ?_; ((refine hK1 ?_; try (clear hK1; clear K1)))
  all_goals refine tc_seq fun K2 hK2 => ?_; refine tc_region ?_; refine tl_q (y_loadW rfl (by repeat constructor) (by rfl)) rfl ?_; refine tl_e (e_callV rfl (.cons rfl .nil) (fun w' hw' => errors_no t hn he sl pl ll tl w' (hr0.fr (hw'.fr (by simp))))) rfl (fun _ _ => ?_); refine tl_q (y_move rfl) rfl ?_; refine tl_q (y_extract rfl rfl) rfl ?_; refine tl_q (y_extract rfl rfl) rfl ?_; refine tl_q (y_assign rfl) rfl ?_; refine tl_q (y_assign rfl) rfl ?_; refine tl_nil ?_; ((refine hK2 ?_; try (clear hK2; clear K2)))
  all_goals refine tc_seq fun K3 hK3 => ?_; refine tc_seq fun K4 hK4 => ?_; refine tc_region ?_; refine tl_q (y_move rfl) rfl ?_; refine tl_q (y_neq rfl rfl) rfl ?_; refine tl_nil ?_; ((refine hK4 ?_; try (clear hK4; clear K4)))
  all_goals (
   refine tc_cond rfl (fun hc => ?_) (fun hc => ?_)
   · try simp only [qn1, qn2, qn3, qn4, qn5, qn6, qn7, qn8] at hc
     all_goals refine tc_seq fun K5 hK5 => ?_; refine tc_region ?_; refine tl_q (y_move rfl) rfl ?_; refine tl_q (y_assign rfl) rfl ?_; refine tl_q (y_assign rfl) rfl ?_; refine tl_nil ?_; ((refine hK5 ?_; try (clear hK5; clear K5)))
     all_goals refine tc_ret ?_; (repeat (refine tk_then_ret ?_))
     all_goals (refine tk_ret rfl rfl (.cons (.tmp rfl) (.cons (.tmp rfl) .nil)) ?_)
     all_goals (
      refine fun w' hw' => ⟨rfl, hw'.fr (by simp)⟩)
   · try simp only [qn1, qn2, qn3, qn4, qn5, qn6, qn7, qn8] at hc
     all_goals ((exfalso; omega))
     all_goals skip)
theorem certificate_ok (t : Tr) (hn : NT t) (he : askedE t = 0) (sl pl ll tl : Value) (w : World) (hr : RdTr w t sl pl ll tl) :
    CnX Tryz.prog 47 #[trV t sl pl ll tl] w [] (fun y : Option Addr × Nat => .tuple #[slV t.parts.length y, vi 0]) (fun y w' => RdR w' (slV t.parts.length y) (certL t t.parts.length)) := by
  have hr0 := hr
  obtain ⟨hv, hpos⟩ := askedE_0 he
  have hp1 := hv.p1
  have hp3 := hv.p3
  refine cnx0 (vs := [_]) Tryz.func47 rfl rfl ?_
  all_goals refine tc_seq fun K1 hK1 => ?_; refine tc_region ?_; refine tl_e (e_box rfl rfl rfl) rfl (fun b1 _ => ?_); refine tl_q (y_assign rfl) rfl ?_; refine tl_q (y_assign rfl) rfl ?_; refine tl_nil ?_; ((refine hK1 ?_; try (clear hK1; clear K1)))
  all_goals refine tc_seq fun K2 hK2 => ?_; refine tc_lay ([]) SB.s (fun wl1 hl1 => ?_); refine tc_region ?_; refine tl_q (y_loadWf rfl (hl1.at (by repeat constructor)) MI.m (by simp) (by rfl)) rfl ?_; refine tl_e (e_callX rfl (.cons rfl .nil) (fun w' hw' => errors_ok t hn he sl pl ll tl w' (hr0.fr (hw'.fr (w0 := w) (S := []) MI.m)))) rfl (fun y hy => ?_); refine tl_q (y_move rfl) rfl ?_; refine tl_q (y_extract rfl rfl) rfl ?_; refine tl_q (y_extract rfl rfl) rfl ?_; refine tl_q (y_assign rfl) rfl ?_; refine tl_q (y_assign rfl) rfl ?_; refine tl_nil ?_; ((refine hK2 ?_; try (clear hK2; clear K2)))
  all_goals refine tc_seq fun K3 hK3 => ?_; refine tc_seq fun K4 hK4 => ?_; refine tc_lay ([]) SB.s (fun wl2 hl2 => ?_); refine tc_region ?_; refine tl_q (y_move rfl) rfl ?_; refine tl_q (y_neq rfl rfl) rfl ?_; refine tl_nil ?_; ((refine hK4 ?_; try (clear hK4; clear K4)))
  all_goals (
   refine tc_cond rfl (fun hc => ?_) (fun hc => ?_)
   · try simp only [qn1, qn2, qn3, qn4, qn5, qn6, qn7, qn8] at hc
   · try simp only [qn1, qn2, qn3, qn4, qn5, qn6, qn7, qn8] at hc
     all_goals refine tc_skip ?_; ((refine hK3 ?_; try (clear hK3; clear K3)))
     all_goals refine tc_seq fun K6 hK6 => ?_; refine tc_lay ([]) SB.s (fun wl4 hl4 => ?_); (obtain ⟨bE, oE, vs, hadE, hcE, hiE⟩ := hy.1.opensL (possLL_len ..))
     all_goals (rw [possLL_len] at hadE hcE hiE)
     all_goals (have hadE' := hadE (by omega))
     all_goals refine tc_region ?_; refine tl_q (y_assign rfl) rfl ?_; refine tl_nil ?_; ((refine hK6 ?_; try (clear hK6; clear K6)))
     all_goals refine tc_seq fun K7 hK7 => ?_; refine tc_seq fun K8 hK8 => ?_; refine tc_lay ([]) SB.s (fun wl5 hl5 => ?_); refine tc_region ?_; refine tl_q (y_move rfl) rfl ?_; refine tl_q (y_len rfl) rfl ?_; refine tl_q (y_move rfl) rfl ?_; refine tl_nil ?_; ((refine hK8 ?_; try (clear hK8; clear K8)))
     all_goals refine tc_block ?_
     all_goals (
      refine tc_loop (fun p : Nat × Option (Nat × Nat × List Value) => p.1 ≤ t.parts.length ∧ outOkR (p.1, p.2)) (fun p => [(6, outV' (p.1, p.2)), (20, slV t.parts.length y.1), (21, vi t.parts.length), (22, vi p.1)]) (fun _ => [(y.2, []), (w, [])]) (fun p => slH 104 (flatR (certL t p.1)) p.2) (fun p => t.parts.length - p.1) ?_ ?_
      · exact tk_start (0, none) ⟨Nat.zero_le _, rfl⟩ (.cons rfl (.cons rfl (.cons rfl (.cons rfl .nil)))) (fun _ h => h.subl SB.s SB.s)
      · rintro ⟨i, oo⟩ ⟨hi, hok⟩
        rcases oo with _ | ⟨bo, cap, junk⟩
        all_goals ((dsimp only [outOkR] at hi hok; dsimp only [slH_none, slH_some, outV']))
        all_goals refine tc_seq fun K9 hK9 => ?_; refine tc_region ?_; refine tl_q (y_lss rfl rfl) rfl ?_; refine tl_nil ?_; ((refine hK9 ?_; try (clear hK9; clear K9)))
        all_goals refine tc_seq fun K10 hK10 => ?_
        all_goals (
         refine tc_cond rfl (fun hc => ?_) (fun hc => ?_)
         · try simp only [qn1, qn2, qn3, qn4, qn5, qn6, qn7, qn8] at hc
           all_goals refine tc_skip ?_; ((refine hK10 ?_; try (clear hK10; clear K10)))
           all_goals refine tc_seq fun K11 hK11 => ?_; refine tc_block ?_; refine tc_seq fun K12 hK12 => ?_; ((have hri := hiE y.2 (Fr.refl _ _) i (by omega); rw [possLL_get (by omega)] at hri))
           all_goals (obtain ⟨ad2, cp2, b2, o2, e2, had2, hc2⟩ := hri.open)
           all_goals (have hpn := poss_ne hv he i)
           all_goals (have had2' := had2 hpn)
           all_goals ((have hb0 := poss_bd t (i := i) (j := 0); have hb1 := poss_bd t (i := i) (j := (possL t i).length - 1)))
           all_goals (have hpl : (possL t i).length ≤ 7 := List.length_filter_le _ _)
           all_goals refine tc_region ?_; refine tl_q (y_index rfl rfl (by omega) hadE') rfl ?_; ((refine tl_q (y_load1o (v := .slice ad2 (possL t i).length cp2) rfl (fun w' hw' => by rw [show Int.toNat (i : Int) * 1 = i from by omega, ← e2]; exact hcE w' (hw'.fr (w0 := y.2) (S := []) MI.m) i (by omega))) rfl ?_))
           all_goals refine tl_q (y_assign rfl) rfl ?_; refine tl_nil ?_; ((refine hK12 ?_; try (clear hK12; clear K12)))
           all_goals refine tc_seq fun K13 hK13 => ?_; refine tc_draw (by kernel_rfl) ?_; refine tx_p 0 rfl (by kernel_rfl) (y_move rfl) rfl (fun _ _ _ h => h) (fun _ h => h) ?_; refine tx_p 1 rfl (by kernel_rfl) (y_index rfl rfl (by omega) had2') rfl (fun _ _ _ h => h) (fun _ h => h) ?_; refine tx_q 2 rfl (by kernel_rfl) (y_load1o (v := vi ((possL t i).getD 0 0)) rfl (fun w' hw' => hc2 w' (hw'.fr (w0 := y.2) (S := []) MI.m) 0 hpn)) rfl (fun _ _ _ h => h) (fun _ h => h) ?_; refine tx_p 3 rfl (by kernel_rfl) (y_move rfl) rfl (fun _ _ _ h => h) (fun _ h => h) ?_; refine tx_p 4 rfl (by kernel_rfl) (y_move rfl) rfl (fun _ _ _ h => h) (fun _ h => h) ?_; refine tx_q 5 rfl (by kernel_rfl) (y_len rfl) rfl (fun _ _ _ h => h) (fun _ h => h) ?_; refine tx_p 6 rfl (by kernel_rfl) (y_sub rfl rfl (by omega)) rfl (fun _ _ _ h => h) (fun _ h => h) ?_; refine tx_p 7 rfl (by kernel_rfl) (y_index rfl rfl (by omega) had2') rfl (fun _ _ _ h => h) (fun _ h => h) ?_; ((refine tx_q 8 rfl (by kernel_rfl) (y_load1o (v := vi ((possL t i).getD ((possL t i).length - 1) 0)) rfl (fun w' hw' => by rw [show Int.toNat (((possL t i).length : Int) - 1) * 1 = (possL t i).length - 1 from by omega]; exact hc2 w' (hw'.fr (w0 := y.2) (S := []) MI.m) ((possL t i).length - 1) (by omega))) rfl (fun _ _ _ h => h) (fun _ h => h) ?_))
           all_goals refine tx_p 9 rfl (by kernel_rfl) (y_assign rfl) rfl (fun _ _ _ h => h) (fun _ h => h) ?_; refine tx_p 10 rfl (by kernel_rfl) (y_assign rfl) rfl (fun _ _ _ h => h) (fun _ h => h) ?_; refine tx_done (by kernel_rfl) ?_; ((refine hK13 ?_; try (clear hK13; clear K13)))
           all_goals refine tc_seq fun K14 hK14 => ?_; refine tc_region ?_; refine tl_q (y_move rfl) rfl ?_; refine tl_q (y_move rfl) rfl ?_; refine tl_q (y_add rfl rfl (by omega)) rfl ?_; refine tl_q (y_shr1 rfl rfl) rfl ?_; refine tl_q (y_assign rfl) rfl ?_; refine tl_nil ?_; ((refine hK14 ?_; try (clear hK14; clear K14)))
           all_goals refine tc_region ?_; refine tl_q (y_move rfl) rfl ?_; refine tl_q (y_move rfl) rfl ?_; refine tl_q (y_move rfl) rfl ?_; refine tl_q (y_move rfl) rfl ?_; refine tl_q (y_sub rfl rfl (by omega)) rfl ?_; refine tl_q (y_build_2 rfl rfl rfl rfl) rfl ?_; (refine tl_e (e_bslice rfl (by (repeat (first | exact .nil | apply PV.two rfl)); done) rfl rfl) rfl (fun _ _ => ?_))
           all_goals ((first | refine tl_e (e_append_own (old := flatR (certL t i)) (junk := junk) rfl rfl rfl (by repeat constructor) (by rw [flatR_len, certL_len]) (by omega) hok.1 (fun w' hw' => RdR.own0 (xs := [certLn (possL t i)]) hw' (by repeat constructor)) (flatR_one _) (by simp only [List.length_cons, List.length_nil]; omega) rfl) rfl (fun z hz => ?_) | refine tl_e (e_append_nil rfl rfl rfl (fun w' hw' => RdR.own0 (xs := [certLn (possL t i)]) hw' (by repeat constructor)) (flatR_one _) Nat.zero_lt_one (Nat.le_of_ble_eq_true rfl) rfl) rfl (fun z hz => ?_)))
           all_goals refine tl_q (y_assign rfl) rfl ?_; refine tl_nil ?_; ((refine hK11 ?_; try (clear hK11; clear K11)))
           all_goals refine tc_region ?_; refine tl_q (y_add rfl rfl (by omega)) rfl ?_; refine tl_q (y_move rfl) rfl ?_; refine tl_nil ?_
           all_goals (
            refine tk_round (i + 1, some (z.1, z.2.1, z.2.2)) ⟨by dsimp only; omega, ?_⟩ (by dsimp only; omega) (.cons ?_ (.cons rfl (.cons rfl (.cons rfl .nil)))) (fun _ h => ?_)
            · dsimp only [outOkR]; simp only [List.length_cons, List.length_nil] at hz ⊢; omega
            · dsimp only [outV']; first | rfl | (rw [show i = 0 from hok]; rfl)
            · dsimp only [slH_some]; rw [certL_succ, flatR_append]
              try rw [show certL t i = [] from certL_0 hok, show flatR [] = [] from rfl, List.nil_append]
              exact h.subl SB.s SB.s)
         · try simp only [qn1, qn2, qn3, qn4, qn5, qn6, qn7, qn8] at hc
           all_goals ((first | (exfalso; omega) | skip))
           all_goals refine tc_exit ?_; ((refine hK7 ?_; try (clear hK7; clear K7)))
           all_goals refine tc_seq fun K15 hK15 => ?_; (have hil : i = t.parts.length := by omega)
           all_goals subst hil
           all_goals refine tc_region ?_; refine tl_q (y_move rfl) rfl ?_; refine tl_q (y_assign rfl) rfl ?_; refine tl_q (y_assign rfl) rfl ?_; refine tl_nil ?_; ((refine hK15 ?_; try (clear hK15; clear K15)))
           all_goals refine tc_ret ?_; (repeat (first | refine tk_then_ret ?_))
           all_goals (refine tk_ret rfl rfl (.cons (.tmp rfl) (.cons (.tmp rfl) .nil)) ?_)
           all_goals (
            first
            | (exfalso; omega)
            | (refine fun w' hw' => ⟨(some ⟨bo, 0, none⟩, cap), rfl, hw'.fr MI.m, ?_⟩
               have := RdR.own (xs := certL t t.parts.length) (cap := cap) (junk := junk) hw' (b := bo) (by repeat constructor)
               rw [certL_len] at this
               exact this)))))
end Go.Sp
/-
  Package trial: what a division means, corrected.
-/
namespace Go.Sp
open Go Go.Proofs
def corrStep (t : Tr) (k n : Int) (o : Int × Int) (e : Int × Int × Int) : Int × Int :=
  if (meanE t.s k (n - ofF t e n)).2 = 0 ∧ (0 ≤ n - ofF t e n ∧ n - ofF t e n ≤ t.s.divisions) then
    (min (min o.1 (meanE t.s k (n - ofF t e n)).1.1) (meanE t.s k (n - ofF t e n)).1.2, max (max o.2 (meanE t.s k (n - ofF t e n)).1.1) (meanE t.s k (n - ofF t e n)).1.2) else o
def corrN (t : Tr) (k n : Int) (j : Nat) : Int × Int := ((truthsL t []).take j).foldl (corrStep t k n) (2001, 0)
theorem corrN_succ {t : Tr} {k n : Int} {j : Nat} (h : j < (truthsL t []).length) : corrN t k n (j + 1) = corrStep t k n (corrN t k n j) ((truthsL t []).getD j (0, 0, 0)) := by
  unfold corrN
  rw [takeT_succ h, List.foldl_append]; rfl
def correctE (t : Tr) (k n : Int) : (Int × Int) × Int :=
  if ¬ chkT t = 0 then ((0, 0), chkT t) else if ¬ ((0 ≤ k ∧ k ≤ t.s.weights.length) ∧ (0 ≤ n ∧ n ≤ t.s.divisions)) then ((0, 0), 2) else if ¬ askedE t = 0 then ((0, 0), askedE t)
  else if (corrN t k n (truthsL t []).length).2 = 0 then ((0, 0), 7) else (corrN t k n (truthsL t []).length, 0)
set_option maxHeartbeats 2000000 in
theorem correct_c (t : Tr) (hn : NT t) (k n : Int) (sl pl ll tl : Value) (w : World) (hr : RdTr w t sl pl ll tl) : CnV Tryz.prog 27 #[trV t sl pl ll tl, vi k, vi n] w (.tuple #[rV (correctE t k n).1, vi (correctE t k n).2]) := by
  have hr0 := hr
  refine cnv (vs := [_, _, _]) Tryz.func27 rfl rfl ?_
  all_goals refine tc_seq fun K1 hK1 => ?_; refine tc_region ?_; refine tl_e (e_box rfl rfl rfl) rfl (fun b3 _ => ?_); refine tl_e (e_allocN rfl) rfl (fun b6 _ => ?_); refine tl_q (y_assign rfl) rfl ?_; refine tl_nil ?_; ((refine hK1 ?_; try (clear hK1; clear K1)))
  all_goals refine tc_seq fun K2 hK2 => ?_; refine tc_seq fun K3 hK3 => ?_; refine tc_region ?_; refine tl_q (y_loadW rfl (by repeat constructor) (by rfl)) rfl ?_; refine tl_e (e_callV rfl (.cons rfl .nil) (fun w' hw' => checkTrial_c t hn sl pl ll tl w' (hr0.fr (hw'.fr (w0 := w) (S := []) MI.m)))) rfl (fun _ _ => ?_); refine tl_q (y_assign rfl) rfl ?_; refine tl_nil ?_; ((refine hK3 ?_; try (clear hK3; clear K3)))
  all_goals refine tc_seq fun K4 hK4 => ?_; refine tc_region ?_; refine tl_q (y_move rfl) rfl ?_; refine tl_q (y_neq rfl rfl) rfl ?_; refine tl_nil ?_; ((refine hK4 ?_; try (clear hK4; clear K4)))
  all_goals (
   refine tc_cond rfl (fun hc => ?_) (fun hc => ?_)
   · try simp only [qn1, qn2, qn3, qn4, qn5, qn6, qn7, qn8] at hc
     all_goals refine tc_seq fun K5 hK5 => ?_; refine tc_region ?_; refine tl_q (y_build_0) rfl ?_; refine tl_q (y_move rfl) rfl ?_; refine tl_e (e_storeW rfl rfl (by repeat constructor) (by rfl) (by rfl) (by simp [Value.oneCell'])) rfl (fun _ _ => ?_); refine tl_q (y_assign rfl) rfl ?_; refine tl_nil ?_; ((refine hK5 ?_; try (clear hK5; clear K5)))
     all_goals refine tc_ret ?_; (repeat (refine tk_then_ret ?_))
     all_goals (refine tk_ret rfl rfl (.cons (.agg inferInstance rfl (by repeat constructor) (by rfl)) (.cons (.tmp rfl) .nil)) ?_)
     all_goals (
      refine fun w' hw' => ⟨?_, hw'.fr (w0 := w) (S := []) MI.m⟩
      unfold correctE
      first
      | (rw [if_pos (by omega)]; rfl)
      | (rw [if_neg (by omega), if_pos (by omega)]; rfl)
      | (rw [if_neg (by omega), if_neg (by omega), if_pos (by omega)]; rfl)
      | (rw [if_neg (by omega), if_neg (by omega), if_neg (by omega), if_pos (by omega)]; rfl)
      | (rw [if_neg (by omega), if_neg (by omega), if_neg (by omega), if_neg (by omega)]; rfl))
   · try simp only [qn1, qn2, qn3, qn4, qn5, qn6, qn7, qn8] at hc
     all_goals refine tc_skip ?_; ((refine hK2 ?_; try (clear hK2; clear K2)))
     all_goals refine tc_seq fun K6 hK6 => ?_; refine tc_seq fun K7 hK7 => ?_; (have hv := chkT_0.1 (show chkT t = 0 by omega))
     all_goals refine tc_region ?_; refine tl_q (y_loadW rfl (by repeat constructor) (by rfl)) rfl ?_; refine tl_q (y_move rfl) rfl ?_; refine tl_e (e_callV rfl (.cons rfl (.cons rfl .nil)) (fun w' hw' => tload_c t k sl pl ll tl w' (hr0.fr (hw'.fr (w0 := w) (S := []) MI.m)).ws)) rfl (fun _ _ => ?_); refine tl_q (y_not_dec rfl) rfl ?_; refine tl_q (y_move rfl) rfl ?_; ((refine tl_gs rfl rfl (fun hc => ?_) (fun hc => ?_) <;> (try simp only [qn1, qn2, qn3, qn4, qn5, qn6, qn7, qn8] at hc) <;> (first | refine tl_sk rfl rfl rfl rfl ?_ | refine tl_qg rfl rfl (y_loadW rfl (by repeat constructor) (by rfl)) rfl ?_)))
     all_goals (first | refine tl_sk rfl rfl rfl rfl ?_ | refine tl_qg rfl rfl (y_move rfl) rfl ?_); (first | refine tl_sk rfl rfl rfl rfl ?_ | refine tl_eg rfl rfl rfl (e_callV rfl (.cons rfl (.cons rfl .nil)) (fun w' _ => tdivision_c t n sl pl ll tl w')) (fun _ _ => ?_)); (first | refine tl_sk rfl rfl rfl rfl ?_ | refine tl_qg rfl rfl (y_not_dec rfl) rfl ?_); (first | refine tl_q (y_pick_t rfl rfl) rfl ?_ | refine tl_q (y_pick_f rfl rfl) rfl ?_); refine tl_nil ?_; ((refine hK7 ?_; try (clear hK7; clear K7)))
     all_goals (
      refine tc_cond rfl (fun hc => ?_) (fun hc => ?_)
      · try simp only [qn1, qn2, qn3, qn4, qn5, qn6, qn7, qn8] at hc
        all_goals refine tc_seq fun K8 hK8 => ?_; refine tc_region ?_; refine tl_q (y_build_0) rfl ?_; refine tl_e (e_storeW rfl rfl (by repeat constructor) (by rfl) (by rfl) (by simp [Value.oneCell'])) rfl (fun _ _ => ?_); refine tl_q (y_assign rfl) rfl ?_; refine tl_nil ?_; ((refine hK8 ?_; try (clear hK8; clear K8)))
        all_goals refine tc_ret ?_; (repeat (refine tk_then_ret ?_))
        all_goals (refine tk_ret rfl rfl (.cons (.agg inferInstance rfl (by repeat constructor) (by rfl)) (.cons (.tmp rfl) .nil)) ?_)
        all_goals (
         refine fun w' hw' => ⟨?_, hw'.fr (w0 := w) (S := []) MI.m⟩
         unfold correctE
         first
         | (rw [if_pos (by omega)]; rfl)
         | (rw [if_neg (by omega), if_pos (by omega)]; rfl)
         | (rw [if_neg (by omega), if_neg (by omega), if_pos (by omega)]; rfl)
         | (rw [if_neg (by omega), if_neg (by omega), if_neg (by omega), if_pos (by omega)]; rfl)
         | (rw [if_neg (by omega), if_neg (by omega), if_neg (by omega), if_neg (by omega)]; rfl))
      · try simp only [qn1, qn2, qn3, qn4, qn5, qn6, qn7, qn8] at hc
        all_goals ((first | (exfalso; with_reducible exact btf hc) | skip))
        all_goals refine tc_skip ?_; ((refine hK6 ?_; try (clear hK6; clear K6)))
        all_goals refine tc_seq fun K9 hK9 => ?_; rcases Decidable.em (askedE t = 0) with hA | hA
        all_goals refine tc_region ?_; refine tl_q (y_loadW rfl (by repeat constructor) (by rfl)) rfl ?_; (first | refine tl_e (e_callX rfl (.cons rfl .nil) (fun w' hw' => asked_rd t hn hA sl pl ll tl w' (hr0.fr (hw'.fr (w0 := w) (S := []) MI.m)))) rfl (fun y hy => ?_) | refine tl_e (e_callV rfl (.cons rfl .nil) (fun w' hw' => asked_no t hn hA sl pl ll tl w' (hr0.fr (hw'.fr (w0 := w) (S := []) MI.m)))) rfl (fun y hy => ?_)); refine tl_q (y_move rfl) rfl ?_; refine tl_q (y_extract rfl rfl) rfl ?_; refine tl_q (y_extract rfl rfl) rfl ?_; refine tl_q (y_extract rfl rfl) rfl ?_; refine tl_q (y_assign rfl) rfl ?_; refine tl_q (y_assign rfl) rfl ?_; refine tl_q (y_assign rfl) rfl ?_; refine tl_nil ?_; ((refine hK9 ?_; try (clear hK9; clear K9)))
        all_goals refine tc_seq fun K10 hK10 => ?_; refine tc_seq fun K11 hK11 => ?_; refine tc_region ?_; refine tl_q (y_move rfl) rfl ?_; refine tl_q (y_neq rfl rfl) rfl ?_; refine tl_nil ?_; ((refine hK11 ?_; try (clear hK11; clear K11)))
        all_goals (
         refine tc_cond rfl (fun hc => ?_) (fun hc => ?_)
         · try simp only [qn1, qn2, qn3, qn4, qn5, qn6, qn7, qn8] at hc
           all_goals refine tc_seq fun K12 hK12 => ?_; refine tc_region ?_; refine tl_q (y_build_0) rfl ?_; refine tl_q (y_move rfl) rfl ?_; refine tl_e (e_storeW rfl rfl (by repeat constructor) (by rfl) (by rfl) (by simp [Value.oneCell'])) rfl (fun _ _ => ?_); refine tl_q (y_assign rfl) rfl ?_; refine tl_nil ?_; ((refine hK12 ?_; try (clear hK12; clear K12)))
           all_goals refine tc_ret ?_; (repeat (refine tk_then_ret ?_))
           all_goals (refine tk_ret rfl rfl (.cons (.agg inferInstance rfl (by repeat constructor) (by rfl)) (.cons (.tmp rfl) .nil)) ?_)
           all_goals (
            refine fun w' hw' => ⟨?_, hw'.fr (w0 := w) (S := []) MI.m⟩
            unfold correctE
            first
            | (rw [if_pos (by omega)]; rfl)
            | (rw [if_neg (by omega), if_pos (by omega)]; rfl)
            | (rw [if_neg (by omega), if_neg (by omega), if_pos (by omega)]; rfl)
            | (rw [if_neg (by omega), if_neg (by omega), if_neg (by omega), if_pos (by omega)]; rfl)
            | (rw [if_neg (by omega), if_neg (by omega), if_neg (by omega), if_neg (by omega)]; rfl))
         · try simp only [qn1, qn2, qn3, qn4, qn5, qn6, qn7, qn8] at hc
           all_goals ((first | (exfalso; omega) | skip))
           all_goals refine tc_skip ?_; ((refine hK10 ?_; try (clear hK10; clear K10)))
           all_goals refine tc_seq fun K13 hK13 => ?_; ((have hd2 := hv.s.d2; have htl : (truthsL t []).length ≤ 343 := Nat.le_trans (List.length_filter_le _ _) (every_len hv)))
           all_goals (obtain ⟨bT, oT, hadT⟩ := hy.1.opens1)
           all_goals refine tc_region ?_; refine tl_q (y_build_2 rfl rfl rfl rfl) rfl ?_; refine tl_e (e_allocN rfl) rfl (fun b12 _ => ?_); refine tl_e (e_storeW rfl rfl (by repeat constructor) (by rfl) (by rfl) (by simp [Value.oneCell'])) rfl (fun _ _ => ?_); refine tl_nil ?_; ((refine hK13 ?_; try (clear hK13; clear K13)))
           all_goals refine tc_seq fun K14 hK14 => ?_; refine tc_seq fun K15 hK15 => ?_; refine tc_region ?_; refine tl_q (y_move rfl) rfl ?_; refine tl_q (y_len rfl) rfl ?_; refine tl_q (y_move rfl) rfl ?_; refine tl_nil ?_; ((refine hK15 ?_; try (clear hK15; clear K15)))
           all_goals refine tc_block ?_
           all_goals (
            refine tc_loop (fun j : Nat => j ≤ (truthsL t []).length) (fun j => [(1, vi k), (2, vi n), (3, ptr b3), (6, ptr b6), (12, ptr b12), (45, slV (truthsL t []).length y.1.2), (46, vi (truthsL t []).length), (47, vi j)]) (fun _ => [(y.2, [b6, b3]), (w, [])]) (fun j => [(b12, .cells #[vi (corrN t k n j).1, vi (corrN t k n j).2] 50 (0, 0)), (b6, .cells #[vi 0, vi 0] 50 (0, 0)), (b3, .cells (trV t sl pl ll tl).cells 38 (0, 0))]) (fun j => (truthsL t []).length - j) ?_ ?_
            · exact tk_start 0 (Nat.zero_le _) (.cons rfl (.cons rfl (.cons rfl (.cons rfl (.cons rfl (.cons rfl (.cons rfl (.cons rfl .nil)))))))) (fun _ h => h.subl SB.s SB.s)
            · rintro j hj
              all_goals refine tc_seq fun K16 hK16 => ?_; refine tc_region ?_; refine tl_q (y_lss rfl rfl) rfl ?_; refine tl_nil ?_; ((refine hK16 ?_; try (clear hK16; clear K16)))
              all_goals refine tc_seq fun K17 hK17 => ?_
              all_goals (
               refine tc_cond rfl (fun hc => ?_) (fun hc => ?_)
               · try simp only [qn1, qn2, qn3, qn4, qn5, qn6, qn7, qn8] at hc
                 all_goals refine tc_skip ?_; ((refine hK17 ?_; try (clear hK17; clear K17)))
                 all_goals refine tc_seq fun K18 hK18 => ?_; refine tc_block ?_; refine tc_seq fun K19 hK19 => ?_; (have hadT' := hadT (by omega))
                 all_goals (obtain ⟨ej, hej0⟩ : ∃ e, (truthsL t [])[j]? = some e := ⟨_, List.getElem?_eq_getElem (by omega)⟩)
                 all_goals ((have hejd : (truthsL t []).getD j (0, 0, 0) = ej := by rw [List.getD_eq_getElem?_getD, hej0]; rfl))
                 all_goals (have hej : ErB ej := truths_bd hv (List.mem_of_getElem? hej0))
                 all_goals (have hof : -3 ≤ ofF t ej n ∧ ofF t ej n ≤ 3 := ErB.get hej (ofFrom t.parts n (t.parts.length - 1)))
                 all_goals ((have hcs := corrN_succ (t := t) (k := k) (n := n) (j := j) (by omega); rw [hejd] at hcs))
                 all_goals refine tc_region ?_; refine tl_q (y_index rfl rfl (by omega) hadT') rfl ?_; ((refine tl_q (y_loadNo (n := 3) (vs := [vi ej.1, vi ej.2.1, vi ej.2.2]) rfl (fun w' hw' => by rw [show Int.toNat (j : Int) * 3 = j * 3 from by omega, ← hejd]; exact (hy.1.fr (hw'.calm hy.2 MI.m SB.s)).at1 hadT' (by omega))) rfl ?_))
                 all_goals refine tl_e (e_allocN rfl) rfl (fun b14 _ => ?_); refine tl_e (e_storeW rfl rfl (by repeat constructor) (by rfl) (by rfl) (by simp [Value.oneCell'])) rfl (fun _ _ => ?_); refine tl_nil ?_; ((refine hK19 ?_; try (clear hK19; clear K19)))
                 all_goals refine tc_seq fun K20 hK20 => ?_; refine tc_drawS ([(b14, .cells #[vi ej.1, vi ej.2.1, vi ej.2.2] 126 (0, 0)), (b12, .cells #[vi (corrN t k n j).1, vi (corrN t k n j).2] 50 (0, 0)), (b6, .cells #[vi 0, vi 0] 50 (0, 0)), (b3, .cells (trV t sl pl ll tl).cells 38 (0, 0))]) (by kernel_rfl) ?_; refine tx_p 0 rfl (by kernel_rfl) (y_field rfl) rfl (fun _ _ _ h => h) (fun _ h => h.subl SB.s SB.s) ?_; ((refine tx_qS 1 rfl (by kernel_rfl) (y_loadN rfl (by repeat constructor) (by (repeat (first | exact .nil | apply CA.cons rfl)); done)) rfl (fun _ _ _ h => h) (fun _ h => h.subl SB.s SB.s) ?_))
                 all_goals refine tx_p 2 rfl (by kernel_rfl) (y_move rfl) rfl (fun _ _ _ h => h) (fun _ h => h.subl SB.s SB.s) ?_; refine tx_p 3 rfl (by kernel_rfl) (y_move rfl) rfl (fun _ _ _ h => h) (fun _ h => h.subl SB.s SB.s) ?_; refine tx_qS 4 rfl (by kernel_rfl) (y_loadW rfl (by repeat constructor) (by rfl)) rfl (fun _ _ _ h => h) (fun _ h => h.subl SB.s SB.s) ?_; refine tx_qS 5 rfl (by kernel_rfl) (y_loadW rfl (by repeat constructor) (by rfl)) rfl (fun _ _ _ h => h) (fun _ h => h.subl SB.s SB.s) ?_; refine tx_p 6 rfl (by kernel_rfl) (y_move rfl) rfl (fun _ _ _ h => h) (fun _ h => h.subl SB.s SB.s) ?_
                 all_goals (
                  refine tx_pair 7 13 (by kernel_rfl) ?_ ?_
                  rotate_left
                  focus (
                   (refine to_e rfl rfl (e_allocN rfl) (.inr ⟨fun _ _ h => h.subl SB.s SB.s, fun _ h => h⟩) (fun b15 _ => ?_))
                   all_goals refine tx_single 7 (by kernel_rfl) (to_e rfl rfl (e_callV rfl (.cons rfl (.cons rfl (.cons rfl .nil))) (fun w' hw' => tof_c t hv ej n (by omega) sl pl ll tl w' (hr0.fr (hw'.fr (w0 := w) (S := []) MI.m)).ps)) (.inr ⟨fun _ _ h => h.subl SB.s SB.s, fun _ h => h⟩) (fun _ _ => ?_)); refine tx_p 8 rfl (by kernel_rfl) (y_sub rfl rfl (by omega)) rfl (fun _ _ _ h => h) (fun _ h => h.subl SB.s SB.s) ?_; refine tx_single 9 (by kernel_rfl) (to_e rfl rfl (e_callV rfl (.cons rfl (.cons rfl (.cons rfl .nil))) (fun w' hw' => mean_e t.s hn.ws k (n - ofF t ej n) sl w' (hr0.fr (hw'.fr (w0 := w) (S := []) MI.m)).ws)) (.inr ⟨fun _ _ h => h.subl SB.s SB.s, fun _ h => h⟩) (fun _ _ => ?_)); refine tx_p 10 rfl (by kernel_rfl) (y_move rfl) rfl (fun _ _ _ h => h) (fun _ h => h.subl SB.s SB.s) ?_; refine tx_p 11 rfl (by kernel_rfl) (y_extract rfl rfl) rfl (fun _ _ _ h => h) (fun _ h => h.subl SB.s SB.s) ?_; refine tx_p 12 rfl (by kernel_rfl) (y_extract rfl rfl) rfl (fun _ _ _ h => h) (fun _ h => h.subl SB.s SB.s) ?_; refine tx_single 14 (by kernel_rfl) (to_e (S' := HG [] []) rfl rfl (e_storeW rfl rfl (by repeat constructor) (by rfl) (by rfl) (by simp [Value.oneCell'])) (.inl (by kernel_rfl)) (fun _ _ => ?_)); refine tx_p 15 rfl (by kernel_rfl) (y_assign rfl) rfl (fun _ _ _ h => h) (fun _ h => h.subl SB.s SB.s) ?_
                   all_goals refine tx_done (by kernel_rfl) ?_)
                  rotate_right
                  focus (
                   (refine to_e rfl rfl (e_callV rfl (.cons rfl (.cons rfl (.cons rfl .nil))) (fun w' hw' => tof_c t hv ej n (by omega) sl pl ll tl w' (hr0.fr (hw'.fr (w0 := w) (S := []) MI.m)).ps)) (.inr ⟨fun _ _ h => h.subl SB.s SB.s, fun _ h => h⟩) (fun _ _ => ?_))
                   all_goals refine tx_p 8 rfl (by kernel_rfl) (y_sub rfl rfl (by omega)) rfl (fun _ _ _ h => h) (fun _ h => h.subl SB.s SB.s) ?_
                   all_goals (
                    refine tx_pair 9 13 (by kernel_rfl) ?_ ?_
                    rotate_left
                    focus (
                     (refine to_e rfl rfl (e_allocN rfl) (.inr ⟨fun _ _ h => h.subl SB.s SB.s, fun _ h => h⟩) (fun b15 _ => ?_))
                     all_goals refine tx_single 9 (by kernel_rfl) (to_e rfl rfl (e_callV rfl (.cons rfl (.cons rfl (.cons rfl .nil))) (fun w' hw' => mean_e t.s hn.ws k (n - ofF t ej n) sl w' (hr0.fr (hw'.fr (w0 := w) (S := []) MI.m)).ws)) (.inr ⟨fun _ _ h => h.subl SB.s SB.s, fun _ h => h⟩) (fun _ _ => ?_)); refine tx_p 10 rfl (by kernel_rfl) (y_move rfl) rfl (fun _ _ _ h => h) (fun _ h => h.subl SB.s SB.s) ?_; refine tx_p 11 rfl (by kernel_rfl) (y_extract rfl rfl) rfl (fun _ _ _ h => h) (fun _ h => h.subl SB.s SB.s) ?_; refine tx_p 12 rfl (by kernel_rfl) (y_extract rfl rfl) rfl (fun _ _ _ h => h) (fun _ h => h.subl SB.s SB.s) ?_; refine tx_single 14 (by kernel_rfl) (to_e (S' := HG [] []) rfl rfl (e_storeW rfl rfl (by repeat constructor) (by rfl) (by rfl) (by simp [Value.oneCell'])) (.inl (by kernel_rfl)) (fun _ _ => ?_)); refine tx_p 15 rfl (by kernel_rfl) (y_assign rfl) rfl (fun _ _ _ h => h) (fun _ h => h.subl SB.s SB.s) ?_
                     all_goals refine tx_done (by kernel_rfl) ?_)
                    rotate_right
                    focus (
                     (refine to_e rfl rfl (e_callV rfl (.cons rfl (.cons rfl (.cons rfl .nil))) (fun w' hw' => mean_e t.s hn.ws k (n - ofF t ej n) sl w' (hr0.fr (hw'.fr (w0 := w) (S := []) MI.m)).ws)) (.inr ⟨fun _ _ h => h.subl SB.s SB.s, fun _ h => h⟩) (fun _ _ => ?_))
                     all_goals refine tx_p 10 rfl (by kernel_rfl) (y_move rfl) rfl (fun _ _ _ h => h) (fun _ h => h.subl SB.s SB.s) ?_; refine tx_p 11 rfl (by kernel_rfl) (y_extract rfl rfl) rfl (fun _ _ _ h => h) (fun _ h => h.subl SB.s SB.s) ?_; refine tx_p 12 rfl (by kernel_rfl) (y_extract rfl rfl) rfl (fun _ _ _ h => h) (fun _ h => h.subl SB.s SB.s) ?_; refine tx_single 13 (by kernel_rfl) (to_e rfl rfl (e_allocN rfl) (.inr ⟨fun _ _ h => h.subl SB.s SB.s, fun _ h => h⟩) (fun b15 _ => ?_)); refine tx_single 14 (by kernel_rfl) (to_e (S' := HG [] []) rfl rfl (e_storeW rfl rfl (by repeat constructor) (by rfl) (by rfl) (by simp [Value.oneCell'])) (.inl (by kernel_rfl)) (fun _ _ => ?_)); refine tx_p 15 rfl (by kernel_rfl) (y_assign rfl) rfl (fun _ _ _ h => h) (fun _ h => h.subl SB.s SB.s) ?_
                     all_goals refine tx_done (by kernel_rfl) ?_))))
                 all_goals ((refine hK20 ?_; try (clear hK20; clear K20)))
                 all_goals refine tc_seq fun K21 hK21 => ?_; refine tc_draw (by kernel_rfl) ?_; refine tx_p 0 rfl (by kernel_rfl) (y_move rfl) rfl (fun _ _ _ h => h) (fun _ h => h) ?_; refine tx_p 1 rfl (by kernel_rfl) (y_eql rfl rfl) rfl (fun _ _ _ h => h) (fun _ h => h) ?_; refine tx_p 2 rfl (by kernel_rfl) (y_move rfl) rfl (fun _ _ _ h => h) (fun _ h => h) ?_; ((refine tx_gs 66 rfl (fun hc => ?_) (fun hc => ?_) <;> (try simp only [qn1, qn2, qn3, qn4, qn5, qn6, qn7, qn8] at hc) <;> (first | refine tx_sk 3 rfl (by kernel_rfl) rfl rfl rfl rfl (fun _ _ _ h => h) (fun _ h => h) ?_ | refine tx_qg 3 rfl (by kernel_rfl) rfl rfl (y_loadW rfl (by repeat constructor) (by rfl)) rfl (fun _ _ _ h => h) (fun _ h => h) ?_)))
                 all_goals (first | refine tx_sk 4 rfl (by kernel_rfl) rfl rfl rfl rfl (fun _ _ _ h => h) (fun _ h => h) ?_ | refine tx_pg 4 rfl (by kernel_rfl) rfl rfl (y_move rfl) rfl (fun _ _ _ h => h) (fun _ h => h) ?_); (first | refine tx_sk 5 rfl (by kernel_rfl) rfl rfl rfl rfl (fun _ _ _ h => h) (fun _ h => h) ?_ | refine tx_qg 5 rfl (by kernel_rfl) rfl rfl (y_loadW rfl (by repeat constructor) (by rfl)) rfl (fun _ _ _ h => h) (fun _ h => h) ?_); (first | refine tx_sk 6 rfl (by kernel_rfl) rfl rfl rfl rfl (fun _ _ _ h => h) (fun _ h => h) ?_ | refine tx_qg 6 rfl (by kernel_rfl) rfl rfl (y_loadW rfl (by repeat constructor) (by rfl)) rfl (fun _ _ _ h => h) (fun _ h => h) ?_); (first | refine tx_sk 7 rfl (by kernel_rfl) rfl rfl rfl rfl (fun _ _ _ h => h) (fun _ h => h) ?_ | refine tx_pg 7 rfl (by kernel_rfl) rfl rfl (y_move rfl) rfl (fun _ _ _ h => h) (fun _ h => h) ?_); (first | refine tx_sk 8 rfl (by kernel_rfl) rfl rfl rfl rfl (fun _ _ _ h => h) (fun _ h => h) ?_ | refine tx_eg 8 rfl (by kernel_rfl) rfl rfl rfl (e_callV rfl (.cons rfl (.cons rfl (.cons rfl .nil))) (fun w' hw' => tof_c t hv ej n (by omega) sl pl ll tl w' (hr0.fr (hw'.fr (w0 := w) (S := []) MI.m)).ps)) (.inr fun _ _ h => h) (fun _ _ => ?_)); (first | refine tx_sk 9 rfl (by kernel_rfl) rfl rfl rfl rfl (fun _ _ _ h => h) (fun _ h => h) ?_ | refine tx_pg 9 rfl (by kernel_rfl) rfl rfl (y_sub rfl rfl (by omega)) rfl (fun _ _ _ h => h) (fun _ h => h) ?_); (first | refine tx_sk 10 rfl (by kernel_rfl) rfl rfl rfl rfl (fun _ _ _ h => h) (fun _ h => h) ?_ | refine tx_eg 10 rfl (by kernel_rfl) rfl rfl rfl (e_callV rfl (.cons rfl (.cons rfl .nil)) (fun w' _ => tdivision_c t (n - ofF t ej n) sl pl ll tl w')) (.inr fun _ _ h => h) (fun _ _ => ?_)); (first | refine tx_p 11 rfl (by kernel_rfl) (y_pick_t rfl rfl) rfl (fun _ _ _ h => h) (fun _ h => h) ?_ | refine tx_p 11 rfl (by kernel_rfl) (y_pick_f rfl rfl) rfl (fun _ _ _ h => h) (fun _ h => h) ?_); refine tx_done (by kernel_rfl) ?_; ((refine hK21 ?_; try (clear hK21; clear K21)))
                 all_goals (
                  refine tc_cond rfl (fun hc => ?_) (fun hc => ?_)
                  · try simp only [qn1, qn2, qn3, qn4, qn5, qn6, qn7, qn8] at hc
                    all_goals ((first | (exfalso; with_reducible exact bft hc) | skip))
                    all_goals refine tc_draw (by kernel_rfl) ?_; refine tx_q 0 rfl (by kernel_rfl) (y_loadW rfl (by repeat constructor) (by rfl)) rfl (fun _ _ _ h => h) (fun _ h => h) ?_; refine tx_p 1 rfl (by kernel_rfl) (y_field rfl) rfl (fun _ _ _ h => h) (fun _ h => h) ?_; refine tx_q 2 rfl (by kernel_rfl) (y_load1 rfl (by repeat constructor) (by rfl)) rfl (fun _ _ _ h => h) (fun _ h => h) ?_; refine tx_p 4 rfl (by kernel_rfl) (y_field rfl) rfl (fun _ _ _ h => h) (fun _ h => h) ?_; refine tx_q 5 rfl (by kernel_rfl) (y_load1 rfl (by repeat constructor) (by rfl)) rfl (fun _ _ _ h => h) (fun _ h => h) ?_; refine tx_e 3 rfl (by kernel_rfl) rfl (e_callV rfl (.cons rfl (.cons rfl .nil)) (fun w' _ => wider_c _ _ w')) (.inr fun _ _ h => h) (fun _ _ => ?_); refine tx_e 6 rfl (by kernel_rfl) rfl (e_callV rfl (.cons rfl (.cons rfl .nil)) (fun w' _ => wider_c _ _ w')) (.inr fun _ _ h => h) (fun _ _ => ?_); refine tx_e 7 rfl (by kernel_rfl) rfl (e_storeW rfl rfl (by repeat constructor) (by rfl) (by rfl) (by simp [Value.oneCell'])) (.inl (by kernel_rfl)) (fun _ _ => ?_); refine tx_done (by kernel_rfl) ?_; ((refine hK18 ?_; try (clear hK18; clear K18)))
                    all_goals refine tc_region ?_; refine tl_q (y_add rfl rfl (by omega)) rfl ?_; refine tl_q (y_move rfl) rfl ?_; refine tl_nil ?_
                    all_goals (
                     first
                     | (have h1 : corrStep t k n (corrN t k n j) ej = (min (min (corrN t k n j).1 (meanE t.s k (n - ofF t ej n)).1.1) (meanE t.s k (n - ofF t ej n)).1.2, max (max (corrN t k n j).2 (meanE t.s k (n - ofF t ej n)).1.1) (meanE t.s k (n - ofF t ej n)).1.2) := if_pos ⟨by omega, by omega⟩
                        exact tk_round (j + 1) (by omega) (by omega) (.cons rfl (.cons rfl (.cons rfl (.cons rfl (.cons rfl (.cons rfl (.cons rfl (.cons rfl .nil)))))))) (fun _ h => by rw [hcs, h1]; exact h.subl SB.s SB.s))
                     | (have h1 : corrStep t k n (corrN t k n j) ej = corrN t k n j := if_neg (by omega)
                        exact tk_round (j + 1) (by omega) (by omega) (.cons rfl (.cons rfl (.cons rfl (.cons rfl (.cons rfl (.cons rfl (.cons rfl (.cons rfl .nil)))))))) (fun _ h => by rw [hcs, h1]; exact h.subl SB.s SB.s)))
                  · try simp only [qn1, qn2, qn3, qn4, qn5, qn6, qn7, qn8] at hc
                    all_goals refine tc_skip ?_; ((refine hK18 ?_; try (clear hK18; clear K18)))
                    all_goals refine tc_region ?_; refine tl_q (y_add rfl rfl (by omega)) rfl ?_; refine tl_q (y_move rfl) rfl ?_; refine tl_nil ?_
                    all_goals (
                     first
                     | (have h1 : corrStep t k n (corrN t k n j) ej = (min (min (corrN t k n j).1 (meanE t.s k (n - ofF t ej n)).1.1) (meanE t.s k (n - ofF t ej n)).1.2, max (max (corrN t k n j).2 (meanE t.s k (n - ofF t ej n)).1.1) (meanE t.s k (n - ofF t ej n)).1.2) := if_pos ⟨by omega, by omega⟩
                        exact tk_round (j + 1) (by omega) (by omega) (.cons rfl (.cons rfl (.cons rfl (.cons rfl (.cons rfl (.cons rfl (.cons rfl (.cons rfl .nil)))))))) (fun _ h => by rw [hcs, h1]; exact h.subl SB.s SB.s))
                     | (have h1 : corrStep t k n (corrN t k n j) ej = corrN t k n j := if_neg (by omega)
                        exact tk_round (j + 1) (by omega) (by omega) (.cons rfl (.cons rfl (.cons rfl (.cons rfl (.cons rfl (.cons rfl (.cons rfl (.cons rfl .nil)))))))) (fun _ h => by rw [hcs, h1]; exact h.subl SB.s SB.s))))
               · try simp only [qn1, qn2, qn3, qn4, qn5, qn6, qn7, qn8] at hc
                 all_goals refine tc_exit ?_; ((refine hK14 ?_; try (clear hK14; clear K14)))
                 all_goals refine tc_seq fun K22 hK22 => ?_; refine tc_seq fun K23 hK23 => ?_; (have hjl : j = (truthsL t []).length := by omega)
                 all_goals subst hjl
                 all_goals refine tc_region ?_; refine tl_q (y_field rfl) rfl ?_; refine tl_q (y_load1 rfl (by repeat constructor) (by rfl)) rfl ?_; refine tl_q (y_eql rfl rfl) rfl ?_; refine tl_nil ?_; ((refine hK23 ?_; try (clear hK23; clear K23)))
                 all_goals (
                  refine tc_cond rfl (fun hc => ?_) (fun hc => ?_)
                  · try simp only [qn1, qn2, qn3, qn4, qn5, qn6, qn7, qn8] at hc
                    all_goals refine tc_seq fun K24 hK24 => ?_; refine tc_region ?_; refine tl_q (y_build_0) rfl ?_; refine tl_e (e_storeW rfl rfl (by repeat constructor) (by rfl) (by rfl) (by simp [Value.oneCell'])) rfl (fun _ _ => ?_); refine tl_q (y_assign rfl) rfl ?_; refine tl_nil ?_; ((refine hK24 ?_; try (clear hK24; clear K24)))
                    all_goals refine tc_ret ?_; (repeat (refine tk_then_ret ?_))
                    all_goals (refine tk_ret rfl rfl (.cons (.agg inferInstance rfl (by repeat constructor) (by rfl)) (.cons (.tmp rfl) .nil)) ?_)
                    all_goals (
                     refine fun w' hw' => ⟨?_, hw'.fr (w0 := w) (S := []) MI.m⟩
                     unfold correctE
                     first
                     | (rw [if_pos (by omega)]; rfl)
                     | (rw [if_neg (by omega), if_pos (by omega)]; rfl)
                     | (rw [if_neg (by omega), if_neg (by omega), if_pos (by omega)]; rfl)
                     | (rw [if_neg (by omega), if_neg (by omega), if_neg (by omega), if_pos (by omega)]; rfl)
                     | (rw [if_neg (by omega), if_neg (by omega), if_neg (by omega), if_neg (by omega)]; rfl))
                  · try simp only [qn1, qn2, qn3, qn4, qn5, qn6, qn7, qn8] at hc
                    all_goals refine tc_skip ?_; ((refine hK22 ?_; try (clear hK22; clear K22)))
                    all_goals refine tc_seq fun K25 hK25 => ?_; refine tc_region ?_; refine tl_q (y_loadW rfl (by repeat constructor) (by rfl)) rfl ?_; refine tl_e (e_storeW rfl rfl (by repeat constructor) (by rfl) (by rfl) (by simp [Value.oneCell'])) rfl (fun _ _ => ?_); refine tl_q (y_assign rfl) rfl ?_; refine tl_nil ?_; ((refine hK25 ?_; try (clear hK25; clear K25)))
                    all_goals refine tc_ret ?_; (repeat (first | refine tk_then_ret ?_))
                    all_goals (refine tk_ret rfl rfl (.cons (.agg inferInstance rfl (by repeat constructor) (by rfl)) (.cons (.tmp rfl) .nil)) ?_)
                    all_goals (
                     refine fun w' hw' => ⟨?_, hw'.fr (w0 := w) (S := []) MI.m⟩
                     unfold correctE
                     first
                     | (rw [if_pos (by omega)]; rfl)
                     | (rw [if_neg (by omega), if_pos (by omega)]; rfl)
                     | (rw [if_neg (by omega), if_neg (by omega), if_pos (by omega)]; rfl)
                     | (rw [if_neg (by omega), if_neg (by omega), if_neg (by omega), if_pos (by omega)]; rfl)
                     | (rw [if_neg (by omega), if_neg (by omega), if_neg (by omega), if_neg (by omega)]; rfl))))))))
end Go.Sp
