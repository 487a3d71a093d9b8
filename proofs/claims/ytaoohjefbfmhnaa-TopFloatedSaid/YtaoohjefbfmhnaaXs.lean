/-
  Package trial: the reference's error of a trial.
-/
import Derived.Test.YtaoohjefbfmhnaaXr
import Derived.Test.YtaoohjefbfmhnaaL
set_option linter.unusedVariables false
set_option linter.unusedSimpArgs false
set_option linter.deprecated false
namespace Go.Sp
open Go Go.Proofs
theorem chkT_bad {t : Tr} (h0 : chkF t.s = 0) (h1 : ¬ (3 < t.parts.length ∨ 3 < t.liquids.length ∨ 6 < t.tests.length)) (h : partB t = false ∨ ¬ (0 ≤ t.worst ∧ t.worst ≤ 3) ∨ t.liquids.length = 0 ∨ t.liquids.all lqB = false ∨ t.tests.all (tsB t) = false) : chkT t = 1 := by
  unfold chkT
  rw [if_neg (by omega), if_neg h1, if_neg]
  rintro ⟨g1, g2, g3, g4, g5⟩
  rcases h with h | h | h | h | h
  · rw [g1] at h; cases h
  · exact h g2
  · exact g3 h
  · rw [g4] at h; cases h
  · rw [g5] at h; cases h
theorem all_bad {α : Type} {l : List α} {p : α → Bool} {i : Nat} {x : α} (hi : i < l.length) (h : p (l.getD i x) = false) : l.all p = false := by
  cases hb : l.all p
  · rfl
  · have := List.all_eq_true.1 hb (l.getD i x) (by rw [List.getD_eq_getElem?_getD, List.getElem?_eq_getElem hi]; exact List.getElem_mem hi)
    rw [h] at this; cases this
theorem all_good {α : Type} {l : List α} {p : α → Bool} {x : α} (h : ∀ i : Nat, i < l.length → p (l.getD i x) = true) : l.all p = true := List.all_eq_true.2 fun y hy => by
  obtain ⟨i, hi, rfl⟩ := List.getElem_of_mem hy
  have := h i hi
  rw [List.getD_eq_getElem?_getD, List.getElem?_eq_getElem hi] at this
  exact this
theorem partB_bad {t : Tr} {i : Nat} (hi : i < t.parts.length) (h : okAt (partQ t) (-1) t.parts i = false) : partB t = false := by
  unfold partB
  cases hb : allS (partQ t) (-1) t.parts
  · rw [Bool.and_false]
  · have := List.all_eq_true.1 hb i (List.mem_range.2 hi)
    rw [h] at this; cases this
theorem okAt_i {t : Tr} {i : Nat} (h : 0 < i) : okAt (partQ t) (-1) t.parts i = decide (t.parts.getD (i - 1) 0 < t.parts.getD i 0 ∧ (0 ≤ t.parts.getD i 0 ∧ t.parts.getD i 0 ≤ t.s.divisions)) := by
  unfold okAt lastAt partQ
  rw [if_neg (by omega)]
theorem partB_0 {t : Tr} (h : t.parts.length = 0 ∨ ¬ t.parts.getD 0 0 = 0) : partB t = false := by
  unfold partB; rw [decide_eq_false (by omega), Bool.false_and]
theorem bad7 {t : Tr} (h : t.parts.length = 0 ∨ ¬ t.parts.getD 0 0 = 0 ∨ ¬ (0 ≤ t.worst ∧ t.worst ≤ 3) ∨ t.liquids.length = 0) : partB t = false ∨ ¬ (0 ≤ t.worst ∧ t.worst ≤ 3) ∨ t.liquids.length = 0 ∨ t.liquids.all lqB = false ∨ t.tests.all (tsB t) = false := by
  rcases h with h | h | h | h
  · exact .inl (partB_0 (.inl h))
  · exact .inl (partB_0 (.inr h))
  · exact .inr (.inl h)
  · exact .inr (.inr (.inl h))
theorem lqB_eq (r : Int × Int) : lqB r = (denseF r && decide (r.2 - r.1 ≤ 40)) := by
  unfold lqB denseF
  rw [Bool.eq_iff_iff, Bool.and_eq_true]
  simp only [decide_eq_true_eq]
  omega
theorem partB_yes {t : Tr} (h1 : 1 ≤ t.parts.length) (h0 : t.parts.getD 0 0 = 0) (hd : 1 ≤ t.s.divisions) (h : ∀ j : Nat, 0 < j → j < t.parts.length → okAt (partQ t) (-1) t.parts j = true) : partB t = true := by
  unfold partB
  rw [Bool.and_eq_true]
  refine ⟨decide_eq_true ⟨by omega, h0⟩, List.all_eq_true.2 fun j hj => ?_⟩
  by_cases e : j = 0
  · subst e
    unfold okAt lastAt partQ
    rw [if_pos rfl, h0]; exact decide_eq_true (by omega)
  · exact h j (by omega) (List.mem_range.1 hj)
theorem chkT_good {t : Tr} (h0 : chkF t.s = 0) (h1 : ¬ (3 < t.parts.length ∨ 3 < t.liquids.length ∨ 6 < t.tests.length)) (g1 : partB t = true) (g2 : 0 ≤ t.worst ∧ t.worst ≤ 3) (g3 : ¬ t.liquids.length = 0) (g4 : t.liquids.all lqB = true) (g5 : t.tests.all (tsB t) = true) : chkT t = 0 := by
  unfold chkT
  rw [if_neg (by omega), if_neg h1, if_pos ⟨g1, g2, g3, g4, g5⟩]
set_option maxHeartbeats 1000000 in
theorem faultT_c (t : Tr) (hn : NT t) (sl pl ll tl : Value) (w : World) (hr : RdTr w t sl pl ll tl) : CnV Try.prog 7 #[trV t sl pl ll tl] w (vi (chkT t)) := by
  have hr0 := hr
  obtain ⟨ad1, cp1, bp, op, rfl, hadp, hcp⟩ := hr.ps.open
  obtain ⟨ad2, cp2, bl, ol, rfl, hadl, hcl⟩ := hr.ls.open
  obtain ⟨ad3, cp3, bt, ot, rfl, hadt, hct⟩ := hr.ts.open
  obtain ⟨ad0, cp0, b0, o0, rfl, _, _⟩ := hr.ws.open
  refine cnv (vs := [_]) Try.func7 rfl rfl ?_
  all_goals refine tc_seq fun K1 hK1 => ?_
  all_goals refine tc_region ?_
  all_goals refine tl_e (e_box rfl rfl rfl) rfl (fun b1 _ => ?_)
  all_goals refine tl_q (y_assign rfl) rfl ?_
  all_goals refine tl_nil ?_
  all_goals (refine hK1 ?_; try (clear hK1; clear K1))
  all_goals refine tc_seq fun K2 hK2 => ?_
  all_goals refine tc_seq fun K3 hK3 => ?_
  all_goals refine tc_region ?_
  all_goals refine tl_q (y_field rfl) rfl ?_
  all_goals (refine tl_q (y_loadN rfl (by repeat constructor) (by (repeat (first | exact .nil | apply CA.cons rfl)); done)) rfl ?_)
  all_goals refine tl_e (e_callV rfl (.cons rfl .nil) (fun w' hw' => fault_c t.s hn.ws _ w' (hr0.ws.fr (hw'.fr (by simp))))) rfl (fun _ _ => ?_)
  all_goals refine tl_q (y_assign rfl) rfl ?_
  all_goals refine tl_nil ?_
  all_goals (refine hK3 ?_; try (clear hK3; clear K3))
  all_goals refine tc_seq fun K4 hK4 => ?_
  all_goals refine tc_region ?_
  all_goals refine tl_q (y_move rfl) rfl ?_
  all_goals refine tl_q (y_neq rfl rfl) rfl ?_
  all_goals refine tl_nil ?_
  all_goals (refine hK4 ?_; try (clear hK4; clear K4))
  all_goals (
   refine tc_cond rfl (fun hc => ?_) (fun hc => ?_)
   · try simp only [decide_eq_true_eq, decide_eq_false_iff_not, Int.not_lt, Int.not_le, Bool.not_eq_true', Bool.not_eq_false', Decidable.not_not, not_true_eq_false] at hc
     all_goals first | (exfalso; with_reducible exact bft hc) | (exfalso; with_reducible exact btf hc) | (exfalso; omega) | skip
     all_goals refine tc_seq fun K5 hK5 => ?_
     all_goals refine tc_region ?_
     all_goals refine tl_q (y_move rfl) rfl ?_
     all_goals refine tl_q (y_assign rfl) rfl ?_
     all_goals refine tl_nil ?_
     all_goals (refine hK5 ?_; try (clear hK5; clear K5))
     all_goals refine tc_ret ?_
     all_goals (repeat (refine tk_then_ret ?_))
     all_goals first | refine tk_ret rfl rfl (.cons (.tmp rfl) .nil) ?_ | refine tk_retM rfl (by repeat constructor) rfl (.cons (.tmp rfl) .nil) ?_
     all_goals (
      refine fun w' hw' => ⟨congrArg (fun n => Ending.returned (Value.int .i64 n)) ?_, hw'.fr (by simp)⟩
      first
      | exact hfin.symm
      | exact (chkT_bad hc0 (by omega) hbad).symm
      | (unfold chkT; rw [if_neg (by omega), if_pos (by omega)])
      | (unfold chkT; rw [if_pos (by omega)]))
   · try simp only [decide_eq_true_eq, decide_eq_false_iff_not, Int.not_lt, Int.not_le, Bool.not_eq_true', Bool.not_eq_false', Decidable.not_not, not_true_eq_false] at hc
     all_goals first | (exfalso; with_reducible exact bft hc) | (exfalso; with_reducible exact btf hc) | (exfalso; omega) | skip
     all_goals refine tc_skip ?_
     all_goals (refine hK2 ?_; try (clear hK2; clear K2))
     all_goals refine tc_seq fun K6 hK6 => ?_
     all_goals refine tc_seq fun K7 hK7 => ?_
     all_goals (have hc0 : chkF t.s = 0 := by omega)
     all_goals (have hvs := chkF_valid.1 hc0; have hd1 := hvs.d1; have hd2 := hvs.d2)
     all_goals refine tc_region ?_
     all_goals refine tl_q (y_field rfl) rfl ?_
     all_goals (refine tl_q (y_load1 rfl (by repeat constructor) (by rfl)) rfl ?_)
     all_goals refine tl_q (y_len rfl) rfl ?_
     all_goals refine tl_q (y_gtr rfl rfl) rfl ?_
     all_goals refine tl_q (y_move rfl) rfl ?_
     all_goals (refine tl_gs rfl rfl (fun hc => ?_) (fun hc => ?_) <;> (try simp only [decide_eq_true_eq, decide_eq_false_iff_not, Int.not_lt, Int.not_le, Bool.not_eq_true', Bool.not_eq_false', Decidable.not_not, not_true_eq_false] at hc) <;> (first | refine tl_sk rfl rfl rfl rfl ?_ | refine tl_qg rfl rfl (y_field rfl) rfl ?_))
     all_goals (first | refine tl_sk rfl rfl rfl rfl ?_ | refine tl_qg rfl rfl (y_load1 rfl (by repeat constructor) (by rfl)) rfl ?_)
     all_goals (first | refine tl_sk rfl rfl rfl rfl ?_ | refine tl_qg rfl rfl (y_len rfl) rfl ?_)
     all_goals (first | refine tl_sk rfl rfl rfl rfl ?_ | refine tl_qg rfl rfl (y_gtr rfl rfl) rfl ?_)
     all_goals (first | refine tl_q (y_pick_t rfl rfl) rfl ?_ | refine tl_q (y_pick_f rfl rfl) rfl ?_)
     all_goals refine tl_q (y_move rfl) rfl ?_
     all_goals (first | refine tl_sk rfl rfl rfl rfl ?_ | (refine tl_gs rfl rfl (fun hc => ?_) (fun hc => ?_) <;> (try simp only [decide_eq_true_eq, decide_eq_false_iff_not, Int.not_lt, Int.not_le, Bool.not_eq_true', Bool.not_eq_false', Decidable.not_not, not_true_eq_false] at hc) <;> (first | refine tl_sk rfl rfl rfl rfl ?_ | refine tl_qg rfl rfl (y_field rfl) rfl ?_)))
     all_goals (first | refine tl_sk rfl rfl rfl rfl ?_ | refine tl_qg rfl rfl (y_load1 rfl (by repeat constructor) (by rfl)) rfl ?_)
     all_goals (first | refine tl_sk rfl rfl rfl rfl ?_ | refine tl_qg rfl rfl (y_len rfl) rfl ?_)
     all_goals (first | refine tl_sk rfl rfl rfl rfl ?_ | refine tl_qg rfl rfl (y_gtr rfl rfl) rfl ?_)
     all_goals (first | refine tl_q (y_pick_t rfl rfl) rfl ?_ | refine tl_q (y_pick_f rfl rfl) rfl ?_)
     all_goals refine tl_nil ?_
     all_goals (refine hK7 ?_; try (clear hK7; clear K7))
     all_goals (
      refine tc_cond rfl (fun hc => ?_) (fun hc => ?_)
      · try simp only [decide_eq_true_eq, decide_eq_false_iff_not, Int.not_lt, Int.not_le, Bool.not_eq_true', Bool.not_eq_false', Decidable.not_not, not_true_eq_false] at hc
        all_goals first | (exfalso; with_reducible exact bft hc) | (exfalso; with_reducible exact btf hc) | (exfalso; omega) | skip
        all_goals refine tc_seq fun K8 hK8 => ?_
        all_goals refine tc_region ?_
        all_goals refine tl_q (y_assign rfl) rfl ?_
        all_goals refine tl_nil ?_
        all_goals (refine hK8 ?_; try (clear hK8; clear K8))
        all_goals refine tc_ret ?_
        all_goals (repeat (refine tk_then_ret ?_))
        all_goals first | refine tk_ret rfl rfl (.cons (.tmp rfl) .nil) ?_ | refine tk_retM rfl (by repeat constructor) rfl (.cons (.tmp rfl) .nil) ?_
        all_goals (
         refine fun w' hw' => ⟨congrArg (fun n => Ending.returned (Value.int .i64 n)) ?_, hw'.fr (by simp)⟩
         first
         | exact hfin.symm
         | exact (chkT_bad hc0 (by omega) hbad).symm
         | (unfold chkT; rw [if_neg (by omega), if_pos (by omega)])
         | (unfold chkT; rw [if_pos (by omega)]))
      · try simp only [decide_eq_true_eq, decide_eq_false_iff_not, Int.not_lt, Int.not_le, Bool.not_eq_true', Bool.not_eq_false', Decidable.not_not, not_true_eq_false] at hc
        all_goals first | (exfalso; with_reducible exact bft hc) | (exfalso; with_reducible exact btf hc) | (exfalso; omega) | skip
        all_goals refine tc_skip ?_
        all_goals (refine hK6 ?_; try (clear hK6; clear K6))
        all_goals refine tc_seq fun K9 hK9 => ?_
        all_goals refine tc_seq fun K10 hK10 => ?_
        all_goals refine tc_region ?_
        all_goals refine tl_q (y_field rfl) rfl ?_
        all_goals (refine tl_q (y_load1 rfl (by repeat constructor) (by rfl)) rfl ?_)
        all_goals refine tl_q (y_len rfl) rfl ?_
        all_goals refine tl_q (y_eql rfl rfl) rfl ?_
        all_goals refine tl_q (y_move rfl) rfl ?_
        all_goals (refine tl_gs rfl rfl (fun hc => ?_) (fun hc => ?_) <;> (try simp only [decide_eq_true_eq, decide_eq_false_iff_not, Int.not_lt, Int.not_le, Bool.not_eq_true', Bool.not_eq_false', Decidable.not_not, not_true_eq_false] at hc) <;> (first | refine tl_sk rfl rfl rfl rfl ?_ | refine tl_qg rfl rfl (y_field rfl) rfl ?_))
        all_goals (first | refine tl_sk rfl rfl rfl rfl ?_ | refine tl_qg rfl rfl (y_load1 rfl (by repeat constructor) (by rfl)) rfl ?_)
        all_goals (first | refine tl_sk rfl rfl rfl rfl ?_ | refine tl_qg rfl rfl (y_index rfl rfl (by omega) (hadp (by omega))) rfl ?_)
        all_goals (first | refine tl_sk rfl rfl rfl rfl ?_ | refine tl_qg rfl rfl (y_load1o (v := vi (t.parts.getD 0 0)) rfl (fun w' hw' => hcp w' (hw'.fr (w0 := w) (S := []) (by simp)) 0 (by omega))) rfl ?_)
        all_goals (first | refine tl_sk rfl rfl rfl rfl ?_ | refine tl_qg rfl rfl (y_neq rfl rfl) rfl ?_)
        all_goals (first | refine tl_q (y_pick_t rfl rfl) rfl ?_ | refine tl_q (y_pick_f rfl rfl) rfl ?_)
        all_goals refine tl_q (y_move rfl) rfl ?_
        all_goals (first | refine tl_sk rfl rfl rfl rfl ?_ | (refine tl_gs rfl rfl (fun hc => ?_) (fun hc => ?_) <;> (try simp only [decide_eq_true_eq, decide_eq_false_iff_not, Int.not_lt, Int.not_le, Bool.not_eq_true', Bool.not_eq_false', Decidable.not_not, not_true_eq_false] at hc) <;> (first | refine tl_sk rfl rfl rfl rfl ?_ | refine tl_qg rfl rfl (y_field rfl) rfl ?_)))
        all_goals (first | refine tl_sk rfl rfl rfl rfl ?_ | refine tl_qg rfl rfl (y_load1 rfl (by repeat constructor) (by rfl)) rfl ?_)
        all_goals (first | refine tl_sk rfl rfl rfl rfl ?_ | refine tl_eg rfl rfl rfl (e_callV rfl (.cons rfl (.cons rfl (.cons rfl .nil))) (fun w' _ => in_c _ _ _ w')) (fun _ _ => ?_))
        all_goals (first | refine tl_sk rfl rfl rfl rfl ?_ | refine tl_qg rfl rfl (y_not_dec rfl) rfl ?_)
        all_goals (first | refine tl_q (y_pick_t rfl rfl) rfl ?_ | refine tl_q (y_pick_f rfl rfl) rfl ?_)
        all_goals refine tl_q (y_move rfl) rfl ?_
        all_goals (first | refine tl_sk rfl rfl rfl rfl ?_ | (refine tl_gs rfl rfl (fun hc => ?_) (fun hc => ?_) <;> (try simp only [decide_eq_true_eq, decide_eq_false_iff_not, Int.not_lt, Int.not_le, Bool.not_eq_true', Bool.not_eq_false', Decidable.not_not, not_true_eq_false] at hc) <;> (first | refine tl_sk rfl rfl rfl rfl ?_ | refine tl_qg rfl rfl (y_field rfl) rfl ?_)))
        all_goals (first | refine tl_sk rfl rfl rfl rfl ?_ | refine tl_qg rfl rfl (y_load1 rfl (by repeat constructor) (by rfl)) rfl ?_)
        all_goals (first | refine tl_sk rfl rfl rfl rfl ?_ | refine tl_qg rfl rfl (y_len rfl) rfl ?_)
        all_goals (first | refine tl_sk rfl rfl rfl rfl ?_ | refine tl_qg rfl rfl (y_eql rfl rfl) rfl ?_)
        all_goals (first | refine tl_q (y_pick_t rfl rfl) rfl ?_ | refine tl_q (y_pick_f rfl rfl) rfl ?_)
        all_goals refine tl_nil ?_
        all_goals (refine hK10 ?_; try (clear hK10; clear K10))
        all_goals (
         refine tc_cond rfl (fun hc => ?_) (fun hc => ?_)
         · try simp only [decide_eq_true_eq, decide_eq_false_iff_not, Int.not_lt, Int.not_le, Bool.not_eq_true', Bool.not_eq_false', Decidable.not_not, not_true_eq_false] at hc
           all_goals first | (exfalso; with_reducible exact bft hc) | (exfalso; with_reducible exact btf hc) | (exfalso; omega) | skip
           all_goals refine tc_seq fun K11 hK11 => ?_
           all_goals (have hbad := bad7 (t := t) (by omega))
           all_goals refine tc_region ?_
           all_goals refine tl_q (y_assign rfl) rfl ?_
           all_goals refine tl_nil ?_
           all_goals (refine hK11 ?_; try (clear hK11; clear K11))
           all_goals refine tc_ret ?_
           all_goals (repeat (refine tk_then_ret ?_))
           all_goals first | refine tk_ret rfl rfl (.cons (.tmp rfl) .nil) ?_ | refine tk_retM rfl (by repeat constructor) rfl (.cons (.tmp rfl) .nil) ?_
           all_goals (
            refine fun w' hw' => ⟨congrArg (fun n => Ending.returned (Value.int .i64 n)) ?_, hw'.fr (by simp)⟩
            first
            | exact hfin.symm
            | exact (chkT_bad hc0 (by omega) hbad).symm
            | (unfold chkT; rw [if_neg (by omega), if_pos (by omega)])
            | (unfold chkT; rw [if_pos (by omega)]))
         · try simp only [decide_eq_true_eq, decide_eq_false_iff_not, Int.not_lt, Int.not_le, Bool.not_eq_true', Bool.not_eq_false', Decidable.not_not, not_true_eq_false] at hc
           all_goals first | (exfalso; with_reducible exact bft hc) | (exfalso; with_reducible exact btf hc) | (exfalso; omega) | skip
           all_goals refine tc_skip ?_
           all_goals (refine hK9 ?_; try (clear hK9; clear K9))
           all_goals refine tc_seq fun K12 hK12 => ?_
           all_goals refine tc_seq fun K13 hK13 => ?_
           all_goals refine tc_region ?_
           all_goals refine tl_q (y_assign rfl) rfl ?_
           all_goals refine tl_nil ?_
           all_goals (refine hK13 ?_; try (clear hK13; clear K13))
           all_goals refine tc_block ?_
           all_goals (
            refine tc_loop (fun i : Nat => 1 ≤ i ∧ i ≤ t.parts.length ∧ (0 ≤ t.parts.getD (i - 1) 0 ∧ t.parts.getD (i - 1) 0 ≤ t.s.divisions) ∧ ∀ j : Nat, 0 < j → j < i → okAt (partQ t) (-1) t.parts j = true) (fun i => [(1, ptr b1), (4, vi i)]) (fun _ => [(w, [])]) (fun i => [(b1, .cells (trV t (.slice ad0 t.s.weights.length cp0) (.slice ad1 t.parts.length cp1) (.slice ad2 t.liquids.length cp2) (.slice ad3 t.tests.length cp3)).cells 35 (0, 0))]) (fun i => t.parts.length - i) ?_ ?_
            · exact tk_start 1 ⟨Nat.le_refl _, by omega, (by omega : 0 ≤ t.parts.getD 0 0 ∧ t.parts.getD 0 0 ≤ t.s.divisions), fun j h1 h2 => absurd h1 (by omega)⟩ (.cons rfl (.cons rfl .nil)) (fun _ h => h)
            · rintro i ⟨hi1, hi, hpi, hI⟩
              all_goals refine tc_seq fun K14 hK14 => ?_
              all_goals refine tc_seq fun K15 hK15 => ?_
              all_goals refine tc_region ?_
              all_goals refine tl_q (y_move rfl) rfl ?_
              all_goals refine tl_q (y_field rfl) rfl ?_
              all_goals (refine tl_q (y_load1 rfl (by repeat constructor) (by rfl)) rfl ?_)
              all_goals refine tl_q (y_len rfl) rfl ?_
              all_goals refine tl_q (y_lss rfl rfl) rfl ?_
              all_goals refine tl_nil ?_
              all_goals (refine hK15 ?_; try (clear hK15; clear K15))
              all_goals (
               refine tc_cond rfl (fun hc => ?_) (fun hc => ?_)
               · try simp only [decide_eq_true_eq, decide_eq_false_iff_not, Int.not_lt, Int.not_le, Bool.not_eq_true', Bool.not_eq_false', Decidable.not_not, not_true_eq_false] at hc
                 all_goals first | (exfalso; with_reducible exact bft hc) | (exfalso; with_reducible exact btf hc) | (exfalso; omega) | skip
                 all_goals refine tc_skip ?_
                 all_goals (refine hK14 ?_; try (clear hK14; clear K14))
                 all_goals refine tc_seq fun K16 hK16 => ?_
                 all_goals refine tc_block ?_
                 all_goals refine tc_seq fun K17 hK17 => ?_
                 all_goals (have hok := okAt_i (t := t) (i := i) (by omega))
                 all_goals refine tc_draw (by kernel_rfl) ?_
                 all_goals refine tx_p 0 rfl (by kernel_rfl) (y_field rfl) rfl (fun _ _ _ h => h) (fun _ h => h) ?_
                 all_goals (refine tx_q 1 rfl (by kernel_rfl) (y_load1 rfl (by repeat constructor) (by rfl)) rfl (fun _ _ _ h => h) (fun _ h => h) ?_)
                 all_goals refine tx_p 2 rfl (by kernel_rfl) (y_move rfl) rfl (fun _ _ _ h => h) (fun _ h => h) ?_
                 all_goals (refine tx_p 3 rfl (by kernel_rfl) (y_index rfl rfl (by omega) (hadp (by omega))) rfl (fun _ _ _ h => h) (fun _ h => h) ?_)
                 all_goals (refine tx_q 4 rfl (by kernel_rfl) (y_load1o (v := vi (t.parts.getD i 0)) rfl (fun w' hw' => by rw [show Int.toNat (i : Int) * 1 = i from by omega]; exact hcp w' (hw'.fr (w0 := w) (S := []) (by simp)) i (by omega))) rfl (fun _ _ _ h => h) (fun _ h => h) ?_)
                 all_goals refine tx_p 5 rfl (by kernel_rfl) (y_field rfl) rfl (fun _ _ _ h => h) (fun _ h => h) ?_
                 all_goals (refine tx_q 6 rfl (by kernel_rfl) (y_load1 rfl (by repeat constructor) (by rfl)) rfl (fun _ _ _ h => h) (fun _ h => h) ?_)
                 all_goals refine tx_p 7 rfl (by kernel_rfl) (y_move rfl) rfl (fun _ _ _ h => h) (fun _ h => h) ?_
                 all_goals refine tx_p 8 rfl (by kernel_rfl) (y_sub rfl rfl (by omega)) rfl (fun _ _ _ h => h) (fun _ h => h) ?_
                 all_goals (refine tx_p 9 rfl (by kernel_rfl) (y_index rfl rfl (by omega) (hadp (by omega))) rfl (fun _ _ _ h => h) (fun _ h => h) ?_)
                 all_goals (refine tx_q 10 rfl (by kernel_rfl) (y_load1o (v := vi (t.parts.getD (i - 1) 0)) rfl (fun w' hw' => by rw [show Int.toNat ((i : Int) - 1) * 1 = i - 1 from by omega]; exact hcp w' (hw'.fr (w0 := w) (S := []) (by simp)) (i - 1) (by omega))) rfl (fun _ _ _ h => h) (fun _ h => h) ?_)
                 all_goals refine tx_p 11 rfl (by kernel_rfl) (y_add rfl rfl (by omega)) rfl (fun _ _ _ h => h) (fun _ h => h) ?_
                 all_goals refine tx_p 12 rfl (by kernel_rfl) (y_field rfl) rfl (fun _ _ _ h => h) (fun _ h => h) ?_
                 all_goals refine tx_p 13 rfl (by kernel_rfl) (y_field rfl) rfl (fun _ _ _ h => h) (fun _ h => h) ?_
                 all_goals (refine tx_q 14 rfl (by kernel_rfl) (y_load1 rfl (by repeat constructor) (by rfl)) rfl (fun _ _ _ h => h) (fun _ h => h) ?_)
                 all_goals refine tx_e 15 rfl (by kernel_rfl) rfl (e_callV rfl (.cons rfl (.cons rfl (.cons rfl .nil))) (fun w' _ => in_c _ _ _ w')) (.inr fun _ _ h => h) (fun _ _ => ?_)
                 all_goals (refine tx_p 16 rfl (by kernel_rfl) (y_not_dec rfl) rfl (fun _ _ _ h => h) (fun _ h => h) ?_)
                 all_goals refine tx_done (by kernel_rfl) ?_
                 all_goals (refine hK17 ?_; try (clear hK17; clear K17))
                 all_goals (
                  refine tc_cond rfl (fun hc => ?_) (fun hc => ?_)
                  · try simp only [decide_eq_true_eq, decide_eq_false_iff_not, Int.not_lt, Int.not_le, Bool.not_eq_true', Bool.not_eq_false', Decidable.not_not, not_true_eq_false] at hc
                    all_goals first | (exfalso; with_reducible exact bft hc) | (exfalso; with_reducible exact btf hc) | (exfalso; omega) | skip
                    all_goals refine tc_seq fun K18 hK18 => ?_
                    all_goals (have hbad : partB t = false ∨ ¬ (0 ≤ t.worst ∧ t.worst ≤ 3) ∨ t.liquids.length = 0 ∨ t.liquids.all lqB = false ∨ t.tests.all (tsB t) = false := .inl (partB_bad (i := i) (by omega) (hok.trans (decide_eq_false (by omega)))))
                    all_goals refine tc_region ?_
                    all_goals refine tl_q (y_assign rfl) rfl ?_
                    all_goals refine tl_nil ?_
                    all_goals (refine hK18 ?_; try (clear hK18; clear K18))
                    all_goals refine tc_ret ?_
                    all_goals (repeat (first | refine tk_then_ret ?_ | refine tk_block_ret ?_))
                    all_goals first | refine tk_ret rfl rfl (.cons (.tmp rfl) .nil) ?_ | refine tk_retM rfl (by repeat constructor) rfl (.cons (.tmp rfl) .nil) ?_
                    all_goals (
                     refine fun w' hw' => ⟨congrArg (fun n => Ending.returned (Value.int .i64 n)) ?_, hw'.fr (by simp)⟩
                     first
                     | exact hfin.symm
                     | exact (chkT_bad hc0 (by omega) hbad).symm
                     | (unfold chkT; rw [if_neg (by omega), if_pos (by omega)])
                     | (unfold chkT; rw [if_pos (by omega)]))
                  · try simp only [decide_eq_true_eq, decide_eq_false_iff_not, Int.not_lt, Int.not_le, Bool.not_eq_true', Bool.not_eq_false', Decidable.not_not, not_true_eq_false] at hc
                    all_goals first | (exfalso; with_reducible exact bft hc) | (exfalso; with_reducible exact btf hc) | (exfalso; omega) | skip
                    all_goals refine tc_skip ?_
                    all_goals (refine hK16 ?_; try (clear hK16; clear K16))
                    all_goals refine tc_region ?_
                    all_goals refine tl_q (y_move rfl) rfl ?_
                    all_goals refine tl_q (y_add rfl rfl (by omega)) rfl ?_
                    all_goals refine tl_q (y_assign rfl) rfl ?_
                    all_goals refine tl_nil ?_
                    all_goals (
                     exact tk_round (i + 1) ⟨by omega, by omega, by rw [Nat.add_sub_cancel]; omega, fun j h1 h2 => by rcases Nat.lt_succ_iff_lt_or_eq.1 h2 with h | rfl; exact hI j h1 h; rw [hok]; exact decide_eq_true (by omega)⟩ (by omega) (.cons rfl (.cons rfl .nil)) (fun _ h => h)))
               · try simp only [decide_eq_true_eq, decide_eq_false_iff_not, Int.not_lt, Int.not_le, Bool.not_eq_true', Bool.not_eq_false', Decidable.not_not, not_true_eq_false] at hc
                 all_goals first | (exfalso; with_reducible exact bft hc) | (exfalso; with_reducible exact btf hc) | (exfalso; omega) | skip
                 all_goals refine tc_exit ?_
                 all_goals (refine hK12 ?_; try (clear hK12; clear K12))
                 all_goals refine tc_seq fun K19 hK19 => ?_
                 all_goals refine tc_seq fun K20 hK20 => ?_
                 all_goals (have hil : i = t.parts.length := by omega)
                 all_goals subst hil
                 all_goals (have hPB := partB_yes (t := t) (by omega) (by omega) hd1 hI)
                 all_goals refine tc_region ?_
                 all_goals refine tl_q (y_assign rfl) rfl ?_
                 all_goals refine tl_nil ?_
                 all_goals (refine hK20 ?_; try (clear hK20; clear K20))
                 all_goals refine tc_block ?_
                 all_goals (
                  refine tc_loop (fun i : Nat => i ≤ t.liquids.length ∧ ∀ j : Nat, j < i → lqB (t.liquids.getD j (0, 0)) = true) (fun i => [(1, ptr b1), (5, vi i)]) (fun _ => [(w, [])]) (fun i => [(b1, .cells (trV t (.slice ad0 t.s.weights.length cp0) (.slice ad1 t.parts.length cp1) (.slice ad2 t.liquids.length cp2) (.slice ad3 t.tests.length cp3)).cells 35 (0, 0))]) (fun i => t.liquids.length - i) ?_ ?_
                  · exact tk_start 0 ⟨Nat.zero_le _, fun j h => absurd h (Nat.not_lt_zero j)⟩ (.cons rfl (.cons rfl .nil)) (fun _ h => h)
                  · rintro i ⟨hi, hI1⟩
                    all_goals refine tc_seq fun K21 hK21 => ?_
                    all_goals refine tc_seq fun K22 hK22 => ?_
                    all_goals refine tc_region ?_
                    all_goals refine tl_q (y_move rfl) rfl ?_
                    all_goals refine tl_q (y_field rfl) rfl ?_
                    all_goals (refine tl_q (y_load1 rfl (by repeat constructor) (by rfl)) rfl ?_)
                    all_goals refine tl_q (y_len rfl) rfl ?_
                    all_goals refine tl_q (y_lss rfl rfl) rfl ?_
                    all_goals refine tl_nil ?_
                    all_goals (refine hK22 ?_; try (clear hK22; clear K22))
                    all_goals (
                     refine tc_cond rfl (fun hc => ?_) (fun hc => ?_)
                     · try simp only [decide_eq_true_eq, decide_eq_false_iff_not, Int.not_lt, Int.not_le, Bool.not_eq_true', Bool.not_eq_false', Decidable.not_not, not_true_eq_false] at hc
                       all_goals first | (exfalso; with_reducible exact bft hc) | (exfalso; with_reducible exact btf hc) | (exfalso; omega) | skip
                       all_goals refine tc_skip ?_
                       all_goals (refine hK21 ?_; try (clear hK21; clear K21))
                       all_goals refine tc_seq fun K23 hK23 => ?_
                       all_goals refine tc_block ?_
                       all_goals refine tc_seq fun K24 hK24 => ?_
                       all_goals refine tc_draw (by kernel_rfl) ?_
                       all_goals refine tx_p 0 rfl (by kernel_rfl) (y_field rfl) rfl (fun _ _ _ h => h) (fun _ h => h) ?_
                       all_goals (refine tx_q 1 rfl (by kernel_rfl) (y_load1 rfl (by repeat constructor) (by rfl)) rfl (fun _ _ _ h => h) (fun _ h => h) ?_)
                       all_goals refine tx_p 2 rfl (by kernel_rfl) (y_move rfl) rfl (fun _ _ _ h => h) (fun _ h => h) ?_
                       all_goals (refine tx_p 3 rfl (by kernel_rfl) (y_index rfl rfl (by omega) (hadl (by omega))) rfl (fun _ _ _ h => h) (fun _ h => h) ?_)
                       all_goals (refine tx_q 4 rfl (by kernel_rfl) (y_loadNo (n := 2) rfl (fun w' hw' => by rw [show Int.toNat (i : Int) * 2 = i * 2 from by omega]; exact hcl w' [] (hw'.fr (w0 := w) (S := []) (by simp)) (by simp) i (by omega))) rfl (fun _ _ _ h => h) (fun _ h => h) ?_)
                       all_goals refine tx_e 5 rfl (by kernel_rfl) rfl (e_callV rfl (.cons rfl .nil) (fun w' _ => dense_c _ w')) (.inr fun _ _ h => h) (fun _ _ => ?_)
                       all_goals (refine tx_p 6 rfl (by kernel_rfl) (y_not_dec rfl) rfl (fun _ _ _ h => h) (fun _ h => h) ?_)
                       all_goals refine tx_p 7 rfl (by kernel_rfl) (y_move rfl) rfl (fun _ _ _ h => h) (fun _ h => h) ?_
                       all_goals (refine tx_gs 91 rfl (fun hc => ?_) (fun hc => ?_) <;> (try simp only [decide_eq_true_eq, decide_eq_false_iff_not, Int.not_lt, Int.not_le, Bool.not_eq_true', Bool.not_eq_false', Decidable.not_not, not_true_eq_false] at hc) <;> (first | refine tx_sk 8 rfl (by kernel_rfl) rfl rfl rfl rfl (fun _ _ _ h => h) (fun _ h => h) ?_ | refine tx_pg 8 rfl (by kernel_rfl) rfl rfl (y_field rfl) rfl (fun _ _ _ h => h) (fun _ h => h) ?_))
                       all_goals (first | refine tx_sk 9 rfl (by kernel_rfl) rfl rfl rfl rfl (fun _ _ _ h => h) (fun _ h => h) ?_ | refine tx_qg 9 rfl (by kernel_rfl) rfl rfl (y_load1 rfl (by repeat constructor) (by rfl)) rfl (fun _ _ _ h => h) (fun _ h => h) ?_)
                       all_goals (first | refine tx_sk 10 rfl (by kernel_rfl) rfl rfl rfl rfl (fun _ _ _ h => h) (fun _ h => h) ?_ | refine tx_pg 10 rfl (by kernel_rfl) rfl rfl (y_move rfl) rfl (fun _ _ _ h => h) (fun _ h => h) ?_)
                       all_goals (first | refine tx_sk 11 rfl (by kernel_rfl) rfl rfl rfl rfl (fun _ _ _ h => h) (fun _ h => h) ?_ | refine tx_pg 11 rfl (by kernel_rfl) rfl rfl (y_index rfl rfl (by omega) (hadl (by omega))) rfl (fun _ _ _ h => h) (fun _ h => h) ?_)
                       all_goals (first | refine tx_sk 12 rfl (by kernel_rfl) rfl rfl rfl rfl (fun _ _ _ h => h) (fun _ h => h) ?_ | refine tx_pg 12 rfl (by kernel_rfl) rfl rfl (y_field rfl) rfl (fun _ _ _ h => h) (fun _ h => h) ?_)
                       all_goals (first | refine tx_sk 13 rfl (by kernel_rfl) rfl rfl rfl rfl (fun _ _ _ h => h) (fun _ h => h) ?_ | refine tx_qg 13 rfl (by kernel_rfl) rfl rfl (y_load1o (v := vi (t.liquids.getD i (0, 0)).2) rfl (fun w' hw' => by rw [show Int.toNat (i : Int) * 2 = i * 2 from by omega]; exact (hcl w' [] (hw'.fr (w0 := w) (S := []) (by simp)) (by simp) i (by omega)).get 1 _ rfl)) rfl (fun _ _ _ h => h) (fun _ h => h) ?_)
                       all_goals (first | refine tx_sk 14 rfl (by kernel_rfl) rfl rfl rfl rfl (fun _ _ _ h => h) (fun _ h => h) ?_ | refine tx_pg 14 rfl (by kernel_rfl) rfl rfl (y_field rfl) rfl (fun _ _ _ h => h) (fun _ h => h) ?_)
                       all_goals (first | refine tx_sk 15 rfl (by kernel_rfl) rfl rfl rfl rfl (fun _ _ _ h => h) (fun _ h => h) ?_ | refine tx_qg 15 rfl (by kernel_rfl) rfl rfl (y_load1 rfl (by repeat constructor) (by rfl)) rfl (fun _ _ _ h => h) (fun _ h => h) ?_)
                       all_goals (first | refine tx_sk 16 rfl (by kernel_rfl) rfl rfl rfl rfl (fun _ _ _ h => h) (fun _ h => h) ?_ | refine tx_pg 16 rfl (by kernel_rfl) rfl rfl (y_move rfl) rfl (fun _ _ _ h => h) (fun _ h => h) ?_)
                       all_goals (first | refine tx_sk 17 rfl (by kernel_rfl) rfl rfl rfl rfl (fun _ _ _ h => h) (fun _ h => h) ?_ | refine tx_pg 17 rfl (by kernel_rfl) rfl rfl (y_index rfl rfl (by omega) (hadl (by omega))) rfl (fun _ _ _ h => h) (fun _ h => h) ?_)
                       all_goals (first | refine tx_sk 18 rfl (by kernel_rfl) rfl rfl rfl rfl (fun _ _ _ h => h) (fun _ h => h) ?_ | refine tx_pg 18 rfl (by kernel_rfl) rfl rfl (y_field rfl) rfl (fun _ _ _ h => h) (fun _ h => h) ?_)
                       all_goals (first | refine tx_sk 19 rfl (by kernel_rfl) rfl rfl rfl rfl (fun _ _ _ h => h) (fun _ h => h) ?_ | refine tx_qg 19 rfl (by kernel_rfl) rfl rfl (y_load1o (v := vi (t.liquids.getD i (0, 0)).1) rfl (fun w' hw' => by rw [show Int.toNat (i : Int) * 2 = i * 2 from by omega]; exact (hcl w' [] (hw'.fr (w0 := w) (S := []) (by simp)) (by simp) i (by omega)).get 0 _ rfl)) rfl (fun _ _ _ h => h) (fun _ h => h) ?_)
                       all_goals (first | refine tx_sk 20 rfl (by kernel_rfl) rfl rfl rfl rfl (fun _ _ _ h => h) (fun _ h => h) ?_ | refine tx_pg 20 rfl (by kernel_rfl) rfl rfl (y_sub rfl rfl (by omega)) rfl (fun _ _ _ h => h) (fun _ h => h) ?_)
                       all_goals (first | refine tx_sk 21 rfl (by kernel_rfl) rfl rfl rfl rfl (fun _ _ _ h => h) (fun _ h => h) ?_ | refine tx_pg 21 rfl (by kernel_rfl) rfl rfl (y_gtr rfl rfl) rfl (fun _ _ _ h => h) (fun _ h => h) ?_)
                       all_goals (first | refine tx_p 22 rfl (by kernel_rfl) (y_pick_t rfl rfl) rfl (fun _ _ _ h => h) (fun _ h => h) ?_ | refine tx_p 22 rfl (by kernel_rfl) (y_pick_f rfl rfl) rfl (fun _ _ _ h => h) (fun _ h => h) ?_)
                       all_goals refine tx_done (by kernel_rfl) ?_
                       all_goals (refine hK24 ?_; try (clear hK24; clear K24))
                       all_goals (
                        refine tc_cond rfl (fun hc => ?_) (fun hc => ?_)
                        · try simp only [decide_eq_true_eq, decide_eq_false_iff_not, Int.not_lt, Int.not_le, Bool.not_eq_true', Bool.not_eq_false', Decidable.not_not, not_true_eq_false] at hc
                          all_goals first | (exfalso; with_reducible exact bft hc) | (exfalso; with_reducible exact btf hc) | (exfalso; omega) | skip
                          all_goals refine tc_seq fun K25 hK25 => ?_
                          all_goals (have hl0 : lqB (t.liquids.getD i (0, 0)) = false := decide_eq_false (by omega))
                          all_goals (have hbad : partB t = false ∨ ¬ (0 ≤ t.worst ∧ t.worst ≤ 3) ∨ t.liquids.length = 0 ∨ t.liquids.all lqB = false ∨ t.tests.all (tsB t) = false := .inr (.inr (.inr (.inl (all_bad (i := i) (x := (0, 0)) (by omega) hl0)))))
                          all_goals refine tc_region ?_
                          all_goals refine tl_q (y_assign rfl) rfl ?_
                          all_goals refine tl_nil ?_
                          all_goals (refine hK25 ?_; try (clear hK25; clear K25))
                          all_goals refine tc_ret ?_
                          all_goals (repeat (first | refine tk_then_ret ?_ | refine tk_block_ret ?_))
                          all_goals first | refine tk_ret rfl rfl (.cons (.tmp rfl) .nil) ?_ | refine tk_retM rfl (by repeat constructor) rfl (.cons (.tmp rfl) .nil) ?_
                          all_goals (
                           refine fun w' hw' => ⟨congrArg (fun n => Ending.returned (Value.int .i64 n)) ?_, hw'.fr (by simp)⟩
                           first
                           | exact hfin.symm
                           | exact (chkT_bad hc0 (by omega) hbad).symm
                           | (unfold chkT; rw [if_neg (by omega), if_pos (by omega)])
                           | (unfold chkT; rw [if_pos (by omega)]))
                        · try simp only [decide_eq_true_eq, decide_eq_false_iff_not, Int.not_lt, Int.not_le, Bool.not_eq_true', Bool.not_eq_false', Decidable.not_not, not_true_eq_false] at hc
                          all_goals first | (exfalso; with_reducible exact bft hc) | (exfalso; with_reducible exact btf hc) | (exfalso; omega) | skip
                          all_goals refine tc_skip ?_
                          all_goals (refine hK23 ?_; try (clear hK23; clear K23))
                          all_goals refine tc_region ?_
                          all_goals refine tl_q (y_move rfl) rfl ?_
                          all_goals refine tl_q (y_add rfl rfl (by omega)) rfl ?_
                          all_goals refine tl_q (y_assign rfl) rfl ?_
                          all_goals refine tl_nil ?_
                          all_goals (
                           have hl0 : lqB (t.liquids.getD i (0, 0)) = true := decide_eq_true (by omega)
                           exact tk_round (i + 1) ⟨by omega, fun j h2 => by rcases Nat.lt_succ_iff_lt_or_eq.1 h2 with h | rfl; exact hI1 j h; exact hl0⟩ (by omega) (.cons rfl (.cons rfl .nil)) (fun _ h => h)))
                     · try simp only [decide_eq_true_eq, decide_eq_false_iff_not, Int.not_lt, Int.not_le, Bool.not_eq_true', Bool.not_eq_false', Decidable.not_not, not_true_eq_false] at hc
                       all_goals first | (exfalso; with_reducible exact bft hc) | (exfalso; with_reducible exact btf hc) | (exfalso; omega) | skip
                       all_goals refine tc_exit ?_
                       all_goals (refine hK19 ?_; try (clear hK19; clear K19))
                       all_goals refine tc_seq fun K26 hK26 => ?_
                       all_goals refine tc_seq fun K27 hK27 => ?_
                       all_goals (have hil : i = t.liquids.length := by omega)
                       all_goals subst hil
                       all_goals (have hLQ : t.liquids.all lqB = true := all_good (x := (0, 0)) hI1)
                       all_goals refine tc_region ?_
                       all_goals refine tl_q (y_assign rfl) rfl ?_
                       all_goals refine tl_nil ?_
                       all_goals (refine hK27 ?_; try (clear hK27; clear K27))
                       all_goals refine tc_block ?_
                       all_goals (
                        refine tc_loop (fun i : Nat => i ≤ t.tests.length ∧ ∀ j : Nat, j < i → tsB t (t.tests.getD j (0, 0, 0)) = true) (fun i => [(1, ptr b1), (6, vi i)]) (fun _ => [(w, [])]) (fun i => [(b1, .cells (trV t (.slice ad0 t.s.weights.length cp0) (.slice ad1 t.parts.length cp1) (.slice ad2 t.liquids.length cp2) (.slice ad3 t.tests.length cp3)).cells 35 (0, 0))]) (fun i => t.tests.length - i) ?_ ?_
                        · exact tk_start 0 ⟨Nat.zero_le _, fun j h => absurd h (Nat.not_lt_zero j)⟩ (.cons rfl (.cons rfl .nil)) (fun _ h => h)
                        · rintro i ⟨hi, hI2⟩
                          all_goals refine tc_seq fun K28 hK28 => ?_
                          all_goals refine tc_seq fun K29 hK29 => ?_
                          all_goals refine tc_region ?_
                          all_goals refine tl_q (y_move rfl) rfl ?_
                          all_goals refine tl_q (y_field rfl) rfl ?_
                          all_goals (refine tl_q (y_load1 rfl (by repeat constructor) (by rfl)) rfl ?_)
                          all_goals refine tl_q (y_len rfl) rfl ?_
                          all_goals refine tl_q (y_lss rfl rfl) rfl ?_
                          all_goals refine tl_nil ?_
                          all_goals (refine hK29 ?_; try (clear hK29; clear K29))
                          all_goals (
                           refine tc_cond rfl (fun hc => ?_) (fun hc => ?_)
                           · try simp only [decide_eq_true_eq, decide_eq_false_iff_not, Int.not_lt, Int.not_le, Bool.not_eq_true', Bool.not_eq_false', Decidable.not_not, not_true_eq_false] at hc
                             all_goals first | (exfalso; with_reducible exact bft hc) | (exfalso; with_reducible exact btf hc) | (exfalso; omega) | skip
                             all_goals refine tc_skip ?_
                             all_goals (refine hK28 ?_; try (clear hK28; clear K28))
                             all_goals refine tc_seq fun K30 hK30 => ?_
                             all_goals refine tc_block ?_
                             all_goals refine tc_seq fun K31 hK31 => ?_
                             all_goals refine tc_region ?_
                             all_goals refine tl_q (y_field rfl) rfl ?_
                             all_goals (refine tl_q (y_load1 rfl (by repeat constructor) (by rfl)) rfl ?_)
                             all_goals refine tl_q (y_move rfl) rfl ?_
                             all_goals (refine tl_q (y_index rfl rfl (by omega) (hadt (by omega))) rfl ?_)
                             all_goals (refine tl_q (y_loadNo (n := 3) rfl (fun w' hw' => by rw [show Int.toNat (i : Int) * 3 = i * 3 from by omega]; exact hct w' [] (hw'.fr (w0 := w) (S := []) (by simp)) (by simp) i (by omega))) rfl ?_)
                             all_goals refine tl_e (e_allocN rfl) rfl (fun b7 _ => ?_)
                             all_goals refine tl_e (e_storeW rfl rfl (by repeat constructor) (by rfl) (by rfl) (by simp [Value.oneCell'])) rfl (fun _ _ => ?_)
                             all_goals refine tl_nil ?_
                             all_goals (refine hK31 ?_; try (clear hK31; clear K31))
                             all_goals refine tc_seq fun K32 hK32 => ?_
                             all_goals refine tc_region ?_
                             all_goals refine tl_q (y_field rfl) rfl ?_
                             all_goals (refine tl_q (y_load1 rfl (by repeat constructor) (by rfl)) rfl ?_)
                             all_goals refine tl_q (y_field rfl) rfl ?_
                             all_goals (refine tl_q (y_load1 rfl (by repeat constructor) (by rfl)) rfl ?_)
                             all_goals refine tl_q (y_len rfl) rfl ?_
                             all_goals refine tl_q (y_sub rfl rfl (by omega)) rfl ?_
                             all_goals refine tl_e (e_callV rfl (.cons rfl (.cons rfl (.cons rfl .nil))) (fun w' _ => in_c _ _ _ w')) rfl (fun _ _ => ?_)
                             all_goals (refine tl_q (y_not_dec rfl) rfl ?_)
                             all_goals refine tl_q (y_move rfl) rfl ?_
                             all_goals (refine tl_gs rfl rfl (fun hc => ?_) (fun hc => ?_) <;> (try simp only [decide_eq_true_eq, decide_eq_false_iff_not, Int.not_lt, Int.not_le, Bool.not_eq_true', Bool.not_eq_false', Decidable.not_not, not_true_eq_false] at hc) <;> (first | refine tl_sk rfl rfl rfl rfl ?_ | refine tl_qg rfl rfl (y_field rfl) rfl ?_))
                             all_goals (first | refine tl_sk rfl rfl rfl rfl ?_ | refine tl_qg rfl rfl (y_load1 rfl (by repeat constructor) (by rfl)) rfl ?_)
                             all_goals (first | refine tl_sk rfl rfl rfl rfl ?_ | refine tl_qg rfl rfl (y_field rfl) rfl ?_)
                             all_goals (first | refine tl_sk rfl rfl rfl rfl ?_ | refine tl_qg rfl rfl (y_field rfl) rfl ?_)
                             all_goals (first | refine tl_sk rfl rfl rfl rfl ?_ | refine tl_qg rfl rfl (y_load1 rfl (by repeat constructor) (by rfl)) rfl ?_)
                             all_goals (first | refine tl_sk rfl rfl rfl rfl ?_ | refine tl_qg rfl rfl (y_len rfl) rfl ?_)
                             all_goals (first | refine tl_sk rfl rfl rfl rfl ?_ | refine tl_eg rfl rfl rfl (e_callV rfl (.cons rfl (.cons rfl (.cons rfl .nil))) (fun w' _ => in_c _ _ _ w')) (fun _ _ => ?_))
                             all_goals (first | refine tl_sk rfl rfl rfl rfl ?_ | refine tl_qg rfl rfl (y_not_dec rfl) rfl ?_)
                             all_goals (first | refine tl_q (y_pick_t rfl rfl) rfl ?_ | refine tl_q (y_pick_f rfl rfl) rfl ?_)
                             all_goals refine tl_q (y_move rfl) rfl ?_
                             all_goals (first | refine tl_sk rfl rfl rfl rfl ?_ | (refine tl_gs rfl rfl (fun hc => ?_) (fun hc => ?_) <;> (try simp only [decide_eq_true_eq, decide_eq_false_iff_not, Int.not_lt, Int.not_le, Bool.not_eq_true', Bool.not_eq_false', Decidable.not_not, not_true_eq_false] at hc) <;> (first | refine tl_sk rfl rfl rfl rfl ?_ | refine tl_qg rfl rfl (y_field rfl) rfl ?_)))
                             all_goals (first | refine tl_sk rfl rfl rfl rfl ?_ | refine tl_qg rfl rfl (y_load1 rfl (by repeat constructor) (by rfl)) rfl ?_)
                             all_goals (first | refine tl_sk rfl rfl rfl rfl ?_ | refine tl_qg rfl rfl (y_field rfl) rfl ?_)
                             all_goals (first | refine tl_sk rfl rfl rfl rfl ?_ | refine tl_qg rfl rfl (y_field rfl) rfl ?_)
                             all_goals (first | refine tl_sk rfl rfl rfl rfl ?_ | refine tl_qg rfl rfl (y_load1 rfl (by repeat constructor) (by rfl)) rfl ?_)
                             all_goals (first | refine tl_sk rfl rfl rfl rfl ?_ | refine tl_eg rfl rfl rfl (e_callV rfl (.cons rfl (.cons rfl (.cons rfl .nil))) (fun w' _ => in_c _ _ _ w')) (fun _ _ => ?_))
                             all_goals (first | refine tl_sk rfl rfl rfl rfl ?_ | refine tl_qg rfl rfl (y_not_dec rfl) rfl ?_)
                             all_goals (first | refine tl_q (y_pick_t rfl rfl) rfl ?_ | refine tl_q (y_pick_f rfl rfl) rfl ?_)
                             all_goals refine tl_nil ?_
                             all_goals (refine hK32 ?_; try (clear hK32; clear K32))
                             all_goals (
                              refine tc_cond rfl (fun hc => ?_) (fun hc => ?_)
                              · try simp only [decide_eq_true_eq, decide_eq_false_iff_not, Int.not_lt, Int.not_le, Bool.not_eq_true', Bool.not_eq_false', Decidable.not_not, not_true_eq_false] at hc
                                all_goals first | (exfalso; with_reducible exact bft hc) | (exfalso; with_reducible exact btf hc) | (exfalso; omega) | skip
                                all_goals refine tc_seq fun K33 hK33 => ?_
                                all_goals (have hl0 : tsB t (t.tests.getD i (0, 0, 0)) = false := decide_eq_false (by omega))
                                all_goals (have hbad : partB t = false ∨ ¬ (0 ≤ t.worst ∧ t.worst ≤ 3) ∨ t.liquids.length = 0 ∨ t.liquids.all lqB = false ∨ t.tests.all (tsB t) = false := .inr (.inr (.inr (.inr (all_bad (i := i) (x := (0, 0, 0)) (by omega) hl0)))))
                                all_goals refine tc_region ?_
                                all_goals refine tl_q (y_assign rfl) rfl ?_
                                all_goals refine tl_nil ?_
                                all_goals (refine hK33 ?_; try (clear hK33; clear K33))
                                all_goals refine tc_ret ?_
                                all_goals (repeat (first | refine tk_then_ret ?_ | refine tk_block_ret ?_))
                                all_goals first | refine tk_ret rfl rfl (.cons (.tmp rfl) .nil) ?_ | refine tk_retM rfl (by repeat constructor) rfl (.cons (.tmp rfl) .nil) ?_
                                all_goals (
                                 refine fun w' hw' => ⟨congrArg (fun n => Ending.returned (Value.int .i64 n)) ?_, hw'.fr (by simp)⟩
                                 first
                                 | exact hfin.symm
                                 | exact (chkT_bad hc0 (by omega) hbad).symm
                                 | (unfold chkT; rw [if_neg (by omega), if_pos (by omega)])
                                 | (unfold chkT; rw [if_pos (by omega)]))
                              · try simp only [decide_eq_true_eq, decide_eq_false_iff_not, Int.not_lt, Int.not_le, Bool.not_eq_true', Bool.not_eq_false', Decidable.not_not, not_true_eq_false] at hc
                                all_goals first | (exfalso; with_reducible exact bft hc) | (exfalso; with_reducible exact btf hc) | (exfalso; omega) | skip
                                all_goals refine tc_skip ?_
                                all_goals (refine hK30 ?_; try (clear hK30; clear K30))
                                all_goals refine tc_region ?_
                                all_goals refine tl_q (y_move rfl) rfl ?_
                                all_goals refine tl_q (y_add rfl rfl (by omega)) rfl ?_
                                all_goals refine tl_q (y_assign rfl) rfl ?_
                                all_goals refine tl_nil ?_
                                all_goals (
                                 have hl0 : tsB t (t.tests.getD i (0, 0, 0)) = true := decide_eq_true (by omega)
                                 exact tk_round (i + 1) ⟨by omega, fun j h2 => by rcases Nat.lt_succ_iff_lt_or_eq.1 h2 with h | rfl; exact hI2 j h; exact hl0⟩ (by omega) (.cons rfl (.cons rfl .nil)) (fun _ h => h.subl (SB.s (by repeat constructor)) (SB.s (by repeat constructor)))))
                           · try simp only [decide_eq_true_eq, decide_eq_false_iff_not, Int.not_lt, Int.not_le, Bool.not_eq_true', Bool.not_eq_false', Decidable.not_not, not_true_eq_false] at hc
                             all_goals first | (exfalso; with_reducible exact bft hc) | (exfalso; with_reducible exact btf hc) | (exfalso; omega) | skip
                             all_goals refine tc_exit ?_
                             all_goals (refine hK26 ?_; try (clear hK26; clear K26))
                             all_goals refine tc_seq fun K34 hK34 => ?_
                             all_goals (have hil : i = t.tests.length := by omega)
                             all_goals subst hil
                             all_goals (have hTS : t.tests.all (tsB t) = true := all_good (x := (0, 0, 0)) hI2)
                             all_goals (have hfin := chkT_good hc0 (by omega) hPB (by omega) (by omega) hLQ hTS)
                             all_goals refine tc_region ?_
                             all_goals refine tl_q (y_assign rfl) rfl ?_
                             all_goals refine tl_nil ?_
                             all_goals (refine hK34 ?_; try (clear hK34; clear K34))
                             all_goals refine tc_ret ?_
                             all_goals (repeat (first | refine tk_then_ret ?_))
                             all_goals first | refine tk_ret rfl rfl (.cons (.tmp rfl) .nil) ?_ | refine tk_retM rfl (by repeat constructor) rfl (.cons (.tmp rfl) .nil) ?_
                             all_goals (
                              refine fun w' hw' => ⟨congrArg (fun n => Ending.returned (Value.int .i64 n)) ?_, hw'.fr (by simp)⟩
                              first
                              | exact hfin.symm
                              | exact (chkT_bad hc0 (by omega) hbad).symm
                              | (unfold chkT; rw [if_neg (by omega), if_pos (by omega)])
                              | (unfold chkT; rw [if_pos (by omega)])))))))))))
end Go.Sp
