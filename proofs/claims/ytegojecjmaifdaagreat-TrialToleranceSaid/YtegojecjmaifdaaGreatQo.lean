
/-
  TrialTolerance: the law's function returns true.
-/
import Derived.Test.YtegojecjmaifdaaGreatM5
set_option linter.unusedVariables false
set_option linter.unusedSimpArgs false
set_option linter.deprecated false
namespace Go.Sp
open Go Go.Proofs
theorem RdTr.w0 {w : World} {t : Tr} {sl pl ll tl : Value} (h : RdTr w t sl pl ll tl) : RdTr w { t with worst := 0 } sl pl ll tl := ⟨h.ws, h.ps, h.ls, h.ts⟩
/-- What can be shown without errors, element by element. -/
theorem shown_w0l {t : Tr} (hv : VT t) {k d : Int} (hk0 : 0 ≤ k) (hk1 : k ≤ t.s.weights.length) (h1 : 1 ≤ d) (h2 : d ≤ 2000) {r1 r2 e : Int} (h : seeF t.s k d = ((r1, r2), e)) :
    (e = 10 ∧ shownL t (0, 0, 0) k d = [-1]) ∨ (e = 0 ∧ (((shownL t (0, 0, 0) k d).length : Nat) : Int) = r2 - r1 + 1 ∧ (0 ≤ r1 ∧ r1 ≤ r2 ∧ r2 ≤ t.s.divisions) ∧ ∀ m : Nat, m < (shownL t (0, 0, 0) k d).length → (shownL t (0, 0, 0) k d).getD m 0 = r1 + m) := by
  rcases shown_w0 hv hk0 hk1 h1 h2 h with ⟨g1, g2⟩ | ⟨g1, g2, g3⟩
  · exact .inl ⟨g1, g2⟩
  · right
    have hb : 0 ≤ r1 ∧ r1 ≤ r2 ∧ r2 ≤ t.s.divisions := by
      rcases see_spec hv.s hk0 hk1 h1 h2 h with ⟨_, _, hr0, hr1, hr2, _, _⟩ | ⟨_, he, _, _⟩
      · omega
      · omega
    refine ⟨g1, by rw [g3, List.length_map, List.length_range]; omega, hb, fun m hm => ?_⟩
    rw [g3] at hm ⊢
    rw [List.length_map, List.length_range] at hm
    rw [List.getD_eq_getElem?_getD, List.getElem?_map, List.getElem?_range hm]; rfl
theorem mz1 : madeCells (vi 0).cells (1 * 1) = (([0] : List Int).map vi).toArray := by kernel_rfl
theorem mz2 : madeCells (vi 0).cells (2 * 1) = (([0, 0] : List Int).map vi).toArray := by kernel_rfl
theorem mz3 : madeCells (vi 0).cells (3 * 1) = (([0, 0, 0] : List Int).map vi).toArray := by kernel_rfl
theorem made_z {t : Tr} (hv : VT t) : madeCells (vi 0).cells (t.parts.length * 1) = ((List.replicate t.parts.length (0 : Int)).map vi).toArray := by
  have h1 := hv.p1
  have h3 := hv.p3
  rcases (by omega : t.parts.length = 1 ∨ t.parts.length = 2 ∨ t.parts.length = 3) with h | h | h <;> rw [h]
  · exact mz1
  · exact mz2
  · exact mz3
theorem zeros_e {t : Tr} (hv : VT t) : er3 (List.replicate t.parts.length 0) = (0, 0, 0) := by
  have h1 := hv.p1
  have h3 := hv.p3
  rcases (by omega : t.parts.length = 1 ∨ t.parts.length = 2 ∨ t.parts.length = 3) with h | h | h <;> rw [h] <;> rfl
theorem zeros_ok {t : Tr} (hv : VT t) {k d : Int} (hk : 0 ≤ k ∧ k ≤ t.s.weights.length) (hd : 1 ≤ d ∧ d ≤ 2000) : shownE t (List.replicate t.parts.length 0) k d = (shownL t (0, 0, 0) k d, 0) := by
  have hb : errB t (List.replicate t.parts.length 0) = true := by
    unfold errB
    rw [List.length_replicate, decide_eq_true rfl, Bool.true_and, List.all_eq_true]
    intro x hx
    have := List.eq_of_mem_replicate hx
    have hw := hv.w
    exact decide_eq_true (by omega)
  unfold shownE
  have := chkT_0.2 hv
  rw [if_neg (by omega), if_neg (by rw [hb]; simp only [Bool.true_eq_false, false_or, not_or, Decidable.not_not]; omega), zeros_e hv]
set_option maxHeartbeats 4000000 in
theorem tolerance_c (t : Tr) (n1 n2 n3 n4 : Int) (w1 : 0 ≤ n1 ∧ n1 ≤ 255) (w2 : 0 ≤ n2 ∧ n2 ≤ 255) (w3 : 0 ≤ n3 ∧ n3 ≤ 255) (w4 : 0 ≤ n4 ∧ n4 ≤ 65535) (sl pl ll tl : Value) (w : World) (hr : RdTr w t sl pl ll tl) :
    CnV Tryz.prog 7 #[trV t sl pl ll tl, v8 n1, v8 n2, v8 n3, v16 n4] w (.bool true) := by
  have hr0 := hr
  obtain ⟨aw, cw, _, _, rfl, _, _⟩ := hr.ws.open
  obtain ⟨ap, cp, _, _, rfl, _, _⟩ := hr.ps.open
  obtain ⟨k, hk⟩ : ∃ k, k = n3 % ((t.s.weights.length : Int) + 1) := ⟨_, rfl⟩
  obtain ⟨d, hd⟩ : ∃ d, d = 1 + n4 % 2000 := ⟨_, rfl⟩
  have hkb : 0 ≤ k ∧ k ≤ t.s.weights.length := by
    have := Int.emod_lt_of_pos n3 (show 0 < (t.s.weights.length : Int) + 1 by omega)
    have := Int.emod_nonneg n3 (show (t.s.weights.length : Int) + 1 ≠ 0 by omega)
    omega
  have hdb : 1 ≤ d ∧ d ≤ 2000 := by omega
  rcases hA : judgeE t (n1 % 4) with ⟨a, e⟩
  rcases hB : judgeE t (n1 % 4 + n2 % 3) with ⟨b, f⟩
  rcases hC : judgeE { t with worst := 0 } (n1 % 4) with ⟨c, g⟩
  rcases hS : seeF t.s k d with ⟨⟨r1, r2⟩, e2⟩
  refine cnv (vs := [_, _, _, _, _]) Tryz.func7 rfl rfl ?_
  all_goals refine tc_seq fun K1 hK1 => ?_
  all_goals refine tc_region ?_
  all_goals refine tl_e (e_box rfl rfl rfl) rfl (fun b5 _ => ?_)
  all_goals refine tl_q (y_assign rfl) rfl ?_
  all_goals refine tl_nil ?_
  all_goals (refine hK1 ?_; try (clear hK1; clear K1))
  all_goals refine tc_seq fun K2 hK2 => ?_
  all_goals refine tc_seq fun K3 hK3 => ?_
  all_goals refine tc_lay ([]) (SB.s (by repeat constructor)) (fun wl1 hl1 => ?_)
  all_goals refine tc_region ?_
  all_goals (refine tl_q (y_loadWf rfl (hl1.at (by repeat constructor)) (MI.m (by repeat constructor)) (by simp) (by rfl)) rfl ?_)
  all_goals refine tl_e (e_callV rfl (.cons rfl .nil) (fun w' hw' => ready9_c t _ _ ll tl w' (hr0.fr (hw'.fr (w0 := w) (S := []) (MI.m (by repeat constructor)))))) rfl (fun _ _ => ?_)
  all_goals (refine tl_q (y_not_dec rfl) rfl ?_)
  all_goals refine tl_nil ?_
  all_goals (refine hK3 ?_; try (clear hK3; clear K3))
  all_goals (
   refine tc_cond rfl (fun hc => ?_) (fun hc => ?_)
   · try simp only [decide_eq_true_eq, decide_eq_false_iff_not, Int.not_lt, Int.not_le, Bool.not_eq_true', Bool.not_eq_false', Decidable.not_not, not_true_eq_false] at hc
     all_goals first | (exfalso; with_reducible exact bft hc) | (exfalso; with_reducible exact btf hc) | (exfalso; omega) | skip
     all_goals refine tc_seq fun K4 hK4 => ?_
     all_goals refine tc_lay ([]) (SB.s (by repeat constructor)) (fun wl2 hl2 => ?_)
     all_goals refine tc_region ?_
     all_goals refine tl_e (e_callV rfl .nil (fun w' _ => awake9_c w')) rfl (fun _ _ => ?_)
     all_goals refine tl_q (y_assign rfl) rfl ?_
     all_goals refine tl_nil ?_
     all_goals (refine hK4 ?_; try (clear hK4; clear K4))
     all_goals refine tc_ret ?_
     all_goals (repeat (refine tk_then_ret ?_))
     all_goals first | refine tk_ret rfl rfl (.cons (.tmp rfl) .nil) ?_ | refine tk_retM rfl (by repeat constructor) rfl (.cons (.tmp rfl) .nil) ?_
     all_goals (
      exact fun w' hw' => ⟨rfl, hw'.fr (w0 := w) (S := []) (MI.m (by repeat constructor))⟩)
   · try simp only [decide_eq_true_eq, decide_eq_false_iff_not, Int.not_lt, Int.not_le, Bool.not_eq_true', Bool.not_eq_false', Decidable.not_not, not_true_eq_false] at hc
     all_goals first | (exfalso; with_reducible exact bft hc) | (exfalso; with_reducible exact btf hc) | (exfalso; omega) | skip
     all_goals refine tc_skip ?_
     all_goals (refine hK2 ?_; try (clear hK2; clear K2))
     all_goals refine tc_seq fun K5 hK5 => ?_
     all_goals refine tc_lay ([]) (SB.s (by repeat constructor)) (fun wl3 hl3 => ?_)
     all_goals (obtain ⟨hth, hch⟩ := hc)
     all_goals (have hv := chkT_0.1 hch; have hn := hth.nt; obtain ⟨ht1, ht2, ht3, ht4⟩ := hth)
     all_goals (have hjt := judge_tol hv (a := n1 % 4) (b := n1 % 4 + n2 % 3) (by omega) (by omega) hA hB; have hj0 := judge_w0 hv (by omega) hC)
     all_goals (have hp1 := hv.p1; have hp3 := hv.p3; have ht6 := hv.t6; have hl3 := hv.l3)
     all_goals refine tc_region ?_
     all_goals refine tl_q (y_move rfl) rfl ?_
     all_goals (refine tl_q (y_conv64 rfl (by omega)) rfl ?_)
     all_goals refine tl_q (y_rem rfl rfl (by omega) (by omega)) rfl ?_
     all_goals refine tl_q (y_assign rfl) rfl ?_
     all_goals refine tl_nil ?_
     all_goals (refine hK5 ?_; try (clear hK5; clear K5))
     all_goals refine tc_seq fun K6 hK6 => ?_
     all_goals refine tc_lay ([]) (SB.s (by repeat constructor)) (fun wl4 hl4 => ?_)
     all_goals refine tc_region ?_
     all_goals (refine tl_q (y_loadWf rfl (hl1.at (by repeat constructor)) (MI.m (by repeat constructor)) (by simp) (by rfl)) rfl ?_)
     all_goals (refine tl_e (e_callX rfl (.cons rfl .nil) (fun w' hw' => trial9_c t (by omega) (by omega) (by omega) (by omega) _ _ ll tl w' (hr0.fr (hw'.fr (w0 := w) (S := []) (MI.m (by repeat constructor)))))) rfl (fun x4 hx4 => ?_))
     all_goals refine tl_q (y_move rfl) rfl ?_
     all_goals refine tl_e (e_callV rfl (.cons rfl (.cons rfl .nil)) (fun w' hw' => by have h := judge_c t hn (n1 % 4) (by omega) _ _ _ _ w' (hx4.1.fr (hw'.fr (MI.m (by repeat constructor)))); rw [hA] at h; exact h)) rfl (fun _ _ => ?_)
     all_goals refine tl_q (y_move rfl) rfl ?_
     all_goals refine tl_q (y_extract rfl rfl) rfl ?_
     all_goals refine tl_q (y_extract rfl rfl) rfl ?_
     all_goals refine tl_q (y_assign rfl) rfl ?_
     all_goals refine tl_q (y_assign rfl) rfl ?_
     all_goals refine tl_nil ?_
     all_goals (refine hK6 ?_; try (clear hK6; clear K6))
     all_goals refine tc_seq fun K7 hK7 => ?_
     all_goals refine tc_lay ([]) (SB.s (by repeat constructor)) (fun wl5 hl5 => ?_)
     all_goals refine tc_region ?_
     all_goals (refine tl_q (y_loadWf rfl (hl1.at (by repeat constructor)) (MI.m (by repeat constructor)) (by simp) (by rfl)) rfl ?_)
     all_goals (refine tl_e (e_callX rfl (.cons rfl .nil) (fun w' hw' => trial9_c t (by omega) (by omega) (by omega) (by omega) _ _ ll tl w' (hr0.fr (hw'.fr (w0 := w) (S := []) (MI.m (by repeat constructor)))))) rfl (fun x5 hx5 => ?_))
     all_goals refine tl_q (y_move rfl) rfl ?_
     all_goals refine tl_q (y_move rfl) rfl ?_
     all_goals (refine tl_q (y_conv64 rfl (by omega)) rfl ?_)
     all_goals refine tl_q (y_rem rfl rfl (by omega) (by omega)) rfl ?_
     all_goals refine tl_q (y_add rfl rfl (by omega)) rfl ?_
     all_goals refine tl_e (e_callV rfl (.cons rfl (.cons rfl .nil)) (fun w' hw' => by have h := judge_c t hn (n1 % 4 + n2 % 3) (by omega) _ _ _ _ w' (hx5.1.fr (hw'.fr (MI.m (by repeat constructor)))); rw [hB] at h; exact h)) rfl (fun _ _ => ?_)
     all_goals refine tl_q (y_move rfl) rfl ?_
     all_goals refine tl_q (y_extract rfl rfl) rfl ?_
     all_goals refine tl_q (y_extract rfl rfl) rfl ?_
     all_goals refine tl_q (y_assign rfl) rfl ?_
     all_goals refine tl_q (y_assign rfl) rfl ?_
     all_goals refine tl_nil ?_
     all_goals (refine hK7 ?_; try (clear hK7; clear K7))
     all_goals (
      refine tc_join (fun _ : Unit => True) (fun _ => [(3, v8 n3), (4, v16 n4), (5, ptr b5), (11, vi (n1 % 4))]) (fun _ => [(wl1, []), (w, [])]) (fun _ => []) ?_ ?_
      · skip
        all_goals refine tc_seq fun K8 hK8 => ?_
        all_goals refine tc_lay ([]) (SB.s (by repeat constructor)) (fun wl6 hl6 => ?_)
        all_goals refine tc_region ?_
        all_goals refine tl_q (y_move rfl) rfl ?_
        all_goals refine tl_q (y_move rfl) rfl ?_
        all_goals refine tl_q (y_neq rfl rfl) rfl ?_
        all_goals refine tl_q (y_move rfl) rfl ?_
        all_goals (refine tl_gs rfl rfl (fun hc => ?_) (fun hc => ?_) <;> (try simp only [decide_eq_true_eq, decide_eq_false_iff_not, Int.not_lt, Int.not_le, Bool.not_eq_true', Bool.not_eq_false', Decidable.not_not, not_true_eq_false] at hc) <;> (first | (exfalso; omega) | refine tl_qg rfl rfl (y_move rfl) rfl ?_))
        all_goals (refine tl_qg rfl rfl (y_neq rfl rfl) rfl ?_)
        all_goals (refine tl_qg rfl rfl (y_move rfl) rfl ?_)
        all_goals (refine tl_gs rfl rfl (fun hc => ?_) (fun hc => ?_) <;> (try simp only [decide_eq_true_eq, decide_eq_false_iff_not, Int.not_lt, Int.not_le, Bool.not_eq_true', Bool.not_eq_false', Decidable.not_not, not_true_eq_false] at hc) <;> (first | refine tl_sk rfl rfl rfl rfl ?_ | refine tl_qg rfl rfl (y_move rfl) rfl ?_))
        all_goals (first | refine tl_sk rfl rfl rfl rfl ?_ | refine tl_qg rfl rfl (y_neq rfl rfl) rfl ?_)
        all_goals (first | refine tl_qg rfl rfl (y_pick_t rfl rfl) rfl ?_ | refine tl_qg rfl rfl (y_pick_f rfl rfl) rfl ?_)
        all_goals (refine tl_q (y_pick_f rfl rfl) rfl ?_)
        all_goals refine tl_q (y_move rfl) rfl ?_
        all_goals (first | refine tl_qg rfl rfl (y_move rfl) rfl ?_ | (refine tl_gs rfl rfl (fun hc => ?_) (fun hc => ?_) <;> (try simp only [decide_eq_true_eq, decide_eq_false_iff_not, Int.not_lt, Int.not_le, Bool.not_eq_true', Bool.not_eq_false', Decidable.not_not, not_true_eq_false] at hc) <;> (first | (exfalso; omega) | refine tl_qg rfl rfl (y_move rfl) rfl ?_)))
        all_goals (refine tl_qg rfl rfl (y_eql rfl rfl) rfl ?_)
        all_goals (refine tl_qg rfl rfl (y_move rfl) rfl ?_)
        all_goals (refine tl_gs rfl rfl (fun hc => ?_) (fun hc => ?_) <;> (try simp only [decide_eq_true_eq, decide_eq_false_iff_not, Int.not_lt, Int.not_le, Bool.not_eq_true', Bool.not_eq_false', Decidable.not_not, not_true_eq_false] at hc) <;> (first | refine tl_sk rfl rfl rfl rfl ?_ | refine tl_qg rfl rfl (y_move rfl) rfl ?_))
        all_goals (first | refine tl_sk rfl rfl rfl rfl ?_ | refine tl_qg rfl rfl (y_neq rfl rfl) rfl ?_)
        all_goals (first | refine tl_qg rfl rfl (y_pick_t rfl rfl) rfl ?_ | refine tl_qg rfl rfl (y_pick_f rfl rfl) rfl ?_)
        all_goals (refine tl_q (y_pick_f rfl rfl) rfl ?_)
        all_goals refine tl_q (y_move rfl) rfl ?_
        all_goals (first | refine tl_qg rfl rfl (y_move rfl) rfl ?_ | (refine tl_gs rfl rfl (fun hc => ?_) (fun hc => ?_) <;> (try simp only [decide_eq_true_eq, decide_eq_false_iff_not, Int.not_lt, Int.not_le, Bool.not_eq_true', Bool.not_eq_false', Decidable.not_not, not_true_eq_false] at hc) <;> (first | (exfalso; omega) | refine tl_qg rfl rfl (y_move rfl) rfl ?_)))
        all_goals (refine tl_qg rfl rfl (y_eql rfl rfl) rfl ?_)
        all_goals (refine tl_qg rfl rfl (y_move rfl) rfl ?_)
        all_goals (refine tl_gs rfl rfl (fun hc => ?_) (fun hc => ?_) <;> (try simp only [decide_eq_true_eq, decide_eq_false_iff_not, Int.not_lt, Int.not_le, Bool.not_eq_true', Bool.not_eq_false', Decidable.not_not, not_true_eq_false] at hc) <;> (first | (exfalso; omega) | refine tl_sk rfl rfl rfl rfl ?_ | refine tl_qg rfl rfl (y_move rfl) rfl ?_))
        all_goals (first | refine tl_sk rfl rfl rfl rfl ?_ | refine tl_qg rfl rfl (y_neq rfl rfl) rfl ?_)
        all_goals (first | refine tl_qg rfl rfl (y_pick_t rfl rfl) rfl ?_ | refine tl_qg rfl rfl (y_pick_f rfl rfl) rfl ?_)
        all_goals (refine tl_q (y_pick_f rfl rfl) rfl ?_)
        all_goals refine tl_nil ?_
        all_goals (refine hK8 ?_; try (clear hK8; clear K8))
        all_goals (
         refine tc_cond rfl (fun hc => ?_) (fun hc => ?_)
         · try simp only [decide_eq_true_eq, decide_eq_false_iff_not, Int.not_lt, Int.not_le, Bool.not_eq_true', Bool.not_eq_false', Decidable.not_not, not_true_eq_false] at hc
           all_goals first | (exfalso; with_reducible exact bft hc) | (exfalso; with_reducible exact btf hc) | (exfalso; omega) | skip
           all_goals refine tc_seq fun K9 hK9 => ?_
           all_goals refine tc_lay ([]) (SB.s (by repeat constructor)) (fun wl7 hl7 => ?_)
           all_goals refine tc_region ?_
           all_goals refine tl_q (y_assign rfl) rfl ?_
           all_goals refine tl_nil ?_
           all_goals (refine hK9 ?_; try (clear hK9; clear K9))
           all_goals refine tc_ret ?_
           all_goals (repeat (first | refine tk_then_ret ?_))
           all_goals first | refine tk_ret rfl rfl (.cons (.tmp rfl) .nil) ?_ | refine tk_retM rfl (by repeat constructor) rfl (.cons (.tmp rfl) .nil) ?_
           all_goals (
            exact fun w' hw' => ⟨rfl, hw'.fr (w0 := w) (S := []) (MI.m (by repeat constructor))⟩)
         · try simp only [decide_eq_true_eq, decide_eq_false_iff_not, Int.not_lt, Int.not_le, Bool.not_eq_true', Bool.not_eq_false', Decidable.not_not, not_true_eq_false] at hc
           all_goals first | (exfalso; with_reducible exact bft hc) | (exfalso; with_reducible exact btf hc) | (exfalso; omega) | skip
           all_goals refine tc_skip ?_
           all_goals (
            exact tk_start () trivial (.cons rfl (.cons rfl (.cons rfl (.cons rfl .nil)))) (fun _ h => h.subl (SB.s (by repeat constructor)) (SB.s (by repeat constructor)))))
      · rintro ⟨⟩ _
        all_goals refine tc_seq fun K10 hK10 => ?_
        all_goals refine tc_lay ([]) (SB.s (by repeat constructor)) (fun wl8 hl8 => ?_)
        all_goals refine tc_region ?_
        all_goals (refine tl_q (y_loadWf rfl (hl1.at (by repeat constructor)) (MI.m (by repeat constructor)) (by simp) (by rfl)) rfl ?_)
        all_goals refine tl_e (e_allocN rfl) rfl (fun b16 _ => ?_)
        all_goals (refine tl_e (e_storeW (cs := #[vi t.s.mass, vi t.s.volume, vi t.s.step, vi t.s.divisions, vi t.s.width, .slice aw t.s.weights.length cw, .slice ap t.parts.length cp, vi t.worst, ll, tl]) rfl rfl (by repeat constructor) (by rfl) (by rfl) (tr_ones rfl rfl hr0.ls.one hr0.ts.one)) rfl (fun _ _ => ?_))
        all_goals refine tl_nil ?_
        all_goals (refine hK10 ?_; try (clear hK10; clear K10))
        all_goals refine tc_seq fun K11 hK11 => ?_
        all_goals refine tc_lay ([(b16, .cells #[vi t.s.mass, vi t.s.volume, vi t.s.step, vi t.s.divisions, vi t.s.width, .slice aw t.s.weights.length cw, .slice ap t.parts.length cp, vi t.worst, ll, tl] 28 (0, 0))]) (SB.s (by repeat constructor)) (fun wl9 hl9 => ?_)
        all_goals refine tc_region ?_
        all_goals refine tl_q (y_field rfl) rfl ?_
        all_goals refine tl_e (e_store1 rfl rfl (by repeat constructor) (by repeat constructor) (by rfl) (by rfl)) rfl (fun _ _ => ?_)
        all_goals refine tl_nil ?_
        all_goals (refine hK11 ?_; try (clear hK11; clear K11))
        all_goals refine tc_seq fun K12 hK12 => ?_
        all_goals refine tc_lay ([]) (SB.s (by repeat constructor)) (fun wl10 hl10 => ?_)
        all_goals refine tc_region ?_
        all_goals (refine tl_q (y_loadWf rfl (hl10.at (b := b16) (by repeat constructor)) (MI.m (by repeat constructor)) (by simp) (by rfl)) rfl ?_)
        all_goals (refine tl_e (e_callX rfl (.cons rfl .nil) (fun w' hw' => trial9_c { t with worst := 0 } (by dsimp only; omega) (by dsimp only; omega) (by dsimp only; omega) (by dsimp only; omega) _ _ ll tl w' (hr0.fr (hw'.fr (w0 := w) (S := []) (MI.m (by repeat constructor)))).w0)) rfl (fun x10 hx10 => ?_))
        all_goals refine tl_q (y_move rfl) rfl ?_
        all_goals refine tl_e (e_callV rfl (.cons rfl (.cons rfl .nil)) (fun w' hw' => by have h := judge_c { t with worst := 0 } hv.w0.nt (n1 % 4) (by omega) _ _ _ _ w' (hx10.1.fr (hw'.fr (MI.m (by repeat constructor)))); rw [hC] at h; exact h)) rfl (fun _ _ => ?_)
        all_goals refine tl_q (y_move rfl) rfl ?_
        all_goals refine tl_q (y_extract rfl rfl) rfl ?_
        all_goals refine tl_q (y_extract rfl rfl) rfl ?_
        all_goals refine tl_q (y_assign rfl) rfl ?_
        all_goals refine tl_q (y_assign rfl) rfl ?_
        all_goals refine tl_nil ?_
        all_goals (refine hK12 ?_; try (clear hK12; clear K12))
        all_goals (
         refine tc_join (fun _ : Unit => True) (fun _ => [(3, v8 n3), (4, v16 n4), (5, ptr b5), (16, ptr b16)]) (fun _ => [(wl10, []), (wl1, []), (w, [])]) (fun _ => []) ?_ ?_
         · skip
           all_goals refine tc_seq fun K13 hK13 => ?_
           all_goals refine tc_lay ([]) (SB.s (by repeat constructor)) (fun wl11 hl11 => ?_)
           all_goals refine tc_region ?_
           all_goals refine tl_q (y_move rfl) rfl ?_
           all_goals refine tl_q (y_neq rfl rfl) rfl ?_
           all_goals refine tl_q (y_move rfl) rfl ?_
           all_goals (refine tl_gs rfl rfl (fun hc => ?_) (fun hc => ?_) <;> (try simp only [decide_eq_true_eq, decide_eq_false_iff_not, Int.not_lt, Int.not_le, Bool.not_eq_true', Bool.not_eq_false', Decidable.not_not, not_true_eq_false] at hc) <;> (first | refine tl_sk rfl rfl rfl rfl ?_ | refine tl_qg rfl rfl (y_move rfl) rfl ?_))
           all_goals (first | refine tl_sk rfl rfl rfl rfl ?_ | refine tl_qg rfl rfl (y_neq rfl rfl) rfl ?_)
           all_goals (first | refine tl_q (y_pick_t rfl rfl) rfl ?_ | refine tl_q (y_pick_f rfl rfl) rfl ?_)
           all_goals refine tl_q (y_move rfl) rfl ?_
           all_goals (first | refine tl_qg rfl rfl (y_move rfl) rfl ?_ | (refine tl_gs rfl rfl (fun hc => ?_) (fun hc => ?_) <;> (try simp only [decide_eq_true_eq, decide_eq_false_iff_not, Int.not_lt, Int.not_le, Bool.not_eq_true', Bool.not_eq_false', Decidable.not_not, not_true_eq_false] at hc) <;> (first | (exfalso; omega) | refine tl_qg rfl rfl (y_move rfl) rfl ?_)))
           all_goals (refine tl_qg rfl rfl (y_eql rfl rfl) rfl ?_)
           all_goals (refine tl_qg rfl rfl (y_move rfl) rfl ?_)
           all_goals (refine tl_gs rfl rfl (fun hc => ?_) (fun hc => ?_) <;> (try simp only [decide_eq_true_eq, decide_eq_false_iff_not, Int.not_lt, Int.not_le, Bool.not_eq_true', Bool.not_eq_false', Decidable.not_not, not_true_eq_false] at hc) <;> (first | (exfalso; omega) | refine tl_sk rfl rfl rfl rfl ?_ | refine tl_qg rfl rfl (y_move rfl) rfl ?_))
           all_goals (first | refine tl_sk rfl rfl rfl rfl ?_ | refine tl_qg rfl rfl (y_neq rfl rfl) rfl ?_)
           all_goals (first | refine tl_qg rfl rfl (y_pick_t rfl rfl) rfl ?_ | refine tl_qg rfl rfl (y_pick_f rfl rfl) rfl ?_)
           all_goals (refine tl_q (y_pick_f rfl rfl) rfl ?_)
           all_goals refine tl_nil ?_
           all_goals (refine hK13 ?_; try (clear hK13; clear K13))
           all_goals (
            refine tc_cond rfl (fun hc => ?_) (fun hc => ?_)
            · try simp only [decide_eq_true_eq, decide_eq_false_iff_not, Int.not_lt, Int.not_le, Bool.not_eq_true', Bool.not_eq_false', Decidable.not_not, not_true_eq_false] at hc
              all_goals first | (exfalso; with_reducible exact bft hc) | (exfalso; with_reducible exact btf hc) | (exfalso; omega) | skip
              all_goals refine tc_seq fun K14 hK14 => ?_
              all_goals refine tc_lay ([]) (SB.s (by repeat constructor)) (fun wl12 hl12 => ?_)
              all_goals refine tc_region ?_
              all_goals refine tl_q (y_assign rfl) rfl ?_
              all_goals refine tl_nil ?_
              all_goals (refine hK14 ?_; try (clear hK14; clear K14))
              all_goals refine tc_ret ?_
              all_goals (repeat (first | refine tk_then_ret ?_))
              all_goals first | refine tk_ret rfl rfl (.cons (.tmp rfl) .nil) ?_ | refine tk_retM rfl (by repeat constructor) rfl (.cons (.tmp rfl) .nil) ?_
              all_goals (
               exact fun w' hw' => ⟨rfl, hw'.fr (w0 := w) (S := []) (MI.m (by repeat constructor))⟩)
            · try simp only [decide_eq_true_eq, decide_eq_false_iff_not, Int.not_lt, Int.not_le, Bool.not_eq_true', Bool.not_eq_false', Decidable.not_not, not_true_eq_false] at hc
              all_goals first | (exfalso; with_reducible exact bft hc) | (exfalso; with_reducible exact btf hc) | (exfalso; omega) | skip
              all_goals refine tc_skip ?_
              all_goals (
               exact tk_start () trivial (.cons rfl (.cons rfl (.cons rfl (.cons rfl .nil)))) (fun _ h => h.subl (SB.s (by repeat constructor)) (SB.s (by repeat constructor)))))
         · rintro ⟨⟩ _
           all_goals refine tc_seq fun K15 hK15 => ?_
           all_goals refine tc_lay ([]) (SB.s (by repeat constructor)) (fun wl13 hl13 => ?_)
           all_goals refine tc_region ?_
           all_goals refine tl_q (y_move rfl) rfl ?_
           all_goals (refine tl_q (y_conv64 rfl (by omega)) rfl ?_)
           all_goals refine tl_q (y_field rfl) rfl ?_
           all_goals refine tl_q (y_field rfl) rfl ?_
           all_goals (refine tl_q (y_load1f rfl (hl1.at (by repeat constructor)) (MI.m (by repeat constructor)) (by simp) (by rfl)) rfl ?_)
           all_goals refine tl_q (y_len rfl) rfl ?_
           all_goals refine tl_q (y_add rfl rfl (by omega)) rfl ?_
           all_goals refine tl_q (y_rem rfl rfl (by omega) (by omega)) rfl ?_
           all_goals refine tl_q (y_move rfl) rfl ?_
           all_goals (refine tl_q (y_conv64 rfl (by omega)) rfl ?_)
           all_goals refine tl_q (y_rem rfl rfl (by omega) (by omega)) rfl ?_
           all_goals refine tl_q (y_add rfl rfl (by omega)) rfl ?_
           all_goals refine tl_q (y_assign rfl) rfl ?_
           all_goals refine tl_q (y_assign rfl) rfl ?_
           all_goals refine tl_nil ?_
           all_goals (refine hK15 ?_; try (clear hK15; clear K15))
           all_goals refine tc_seq fun K16 hK16 => ?_
           all_goals refine tc_lay ([]) (SB.s (by repeat constructor)) (fun wl14 hl14 => ?_)
           all_goals rw [← hk, ← hd]
           all_goals have hz := zeros_ok hv.w0 hkb hdb
           all_goals (have hzz : madeCells (vi 0).cells (t.parts.length * 1) = ((List.replicate t.parts.length (0 : Int)).map vi).toArray := made_z hv)
           all_goals have hzl : (List.replicate t.parts.length (0 : Int)).length = t.parts.length := List.length_replicate
           all_goals have hcs := shown_w0l hv.w0 hkb.1 hkb.2 hdb.1 hdb.2 hS
           all_goals refine tc_draw (by kernel_rfl) ?_
           all_goals (refine tx_qS 0 rfl (by kernel_rfl) (y_loadWf rfl (hl10.at (b := b16) (by repeat constructor)) (MI.m (by repeat constructor)) (by simp) (by rfl)) rfl (fun _ _ _ h => h) (fun _ h => h.subl (SB.s (by repeat constructor)) (SB.s (by repeat constructor))) ?_)
           all_goals refine tx_p 2 rfl (by kernel_rfl) (y_field rfl) rfl (fun _ _ _ h => h) (fun _ h => h.subl (SB.s (by repeat constructor)) (SB.s (by repeat constructor))) ?_
           all_goals (refine tx_qS 3 rfl (by kernel_rfl) (y_load1f rfl (hl1.at (by repeat constructor)) (MI.m (by repeat constructor)) (by simp) (by rfl)) rfl (fun _ _ _ h => h) (fun _ h => h.subl (SB.s (by repeat constructor)) (SB.s (by repeat constructor))) ?_)
           all_goals refine tx_qS 4 rfl (by kernel_rfl) (y_len rfl) rfl (fun _ _ _ h => h) (fun _ h => h.subl (SB.s (by repeat constructor)) (SB.s (by repeat constructor))) ?_
           all_goals refine tx_p 6 rfl (by kernel_rfl) (y_move rfl) rfl (fun _ _ _ h => h) (fun _ h => h.subl (SB.s (by repeat constructor)) (SB.s (by repeat constructor))) ?_
           all_goals refine tx_p 7 rfl (by kernel_rfl) (y_move rfl) rfl (fun _ _ _ h => h) (fun _ h => h.subl (SB.s (by repeat constructor)) (SB.s (by repeat constructor))) ?_
           all_goals (
            refine tx_pair 1 5 (by kernel_rfl) ?_ ?_
            rotate_left
            focus (
             (refine to_e rfl rfl (e_mkS (sz := 1) (z := vi 0) (by_ := 8) (n := t.parts.length) (out := (List.replicate t.parts.length (0 : Int)).map vi) (by kernel_rfl) rfl rfl rfl (by omega) (by omega) (by omega) hzz) (.inr ⟨fun _ _ h => h.subl (SB.s (by repeat constructor)) (SB.s (by repeat constructor)), fun _ h => h⟩) (fun b119 _ => ?_))
             all_goals (refine tx_single 1 (by kernel_rfl) (to_e rfl rfl (e_callX rfl (.cons rfl .nil) (fun w' hw' => trial9_c { t with worst := 0 } (by dsimp only; omega) (by dsimp only; omega) (by dsimp only; omega) (by dsimp only; omega) _ _ ll tl w' (hr0.fr (hw'.fr (w0 := w) (S := []) (MI.m (by repeat constructor)))).w0)) (.inr ⟨fun _ _ h => h.subl (SB.s (by repeat constructor)) (SB.s (by repeat constructor)), fun _ h => h⟩) (fun x14 hx14 => ?_)))
             all_goals refine tx_single 8 (by kernel_rfl) (to_e rfl rfl (e_callX rfl (.cons rfl (.cons rfl (.cons rfl (.cons rfl .nil)))) (fun w' hw' => by have h := shown_ok { t with worst := 0 } hv.w0.nt (List.replicate t.parts.length 0) (by rw [hzl]; omega) k d (by rw [hz]) _ _ _ _ _ w' (hx14.1.fr (hw'.calm hx14.2 (MI.m (by repeat constructor)) (SB.s (by repeat constructor)))) (by have := RdI.own0 (xs := List.replicate t.parts.length 0) (cap := t.parts.length) hw' (b := b119) (by repeat constructor); rw [hzl] at this; exact this); rw [show er3 (List.replicate t.parts.length 0) = (0, 0, 0) from zeros_e hv] at h; exact h)) (.inr ⟨fun _ _ h => h.subl (SB.s (by repeat constructor)) (SB.s (by repeat constructor)), fun _ h => h⟩) (fun y14 hy14 => ?_))
             all_goals refine tx_p 9 rfl (by kernel_rfl) (y_move rfl) rfl (fun _ _ _ h => h) (fun _ h => h.subl (SB.s (by repeat constructor)) (SB.s (by repeat constructor))) ?_
             all_goals refine tx_p 10 rfl (by kernel_rfl) (y_extract rfl rfl) rfl (fun _ _ _ h => h) (fun _ h => h.subl (SB.s (by repeat constructor)) (SB.s (by repeat constructor))) ?_
             all_goals refine tx_p 11 rfl (by kernel_rfl) (y_extract rfl rfl) rfl (fun _ _ _ h => h) (fun _ h => h.subl (SB.s (by repeat constructor)) (SB.s (by repeat constructor))) ?_
             all_goals refine tx_p 12 rfl (by kernel_rfl) (y_assign rfl) rfl (fun _ _ _ h => h) (fun _ h => h.subl (SB.s (by repeat constructor)) (SB.s (by repeat constructor))) ?_
             all_goals refine tx_p 13 rfl (by kernel_rfl) (y_assign rfl) rfl (fun _ _ _ h => h) (fun _ h => h.subl (SB.s (by repeat constructor)) (SB.s (by repeat constructor))) ?_
             all_goals refine tx_done (by kernel_rfl) ?_)
            rotate_right
            focus (
             (refine to_e rfl rfl (e_callX rfl (.cons rfl .nil) (fun w' hw' => trial9_c { t with worst := 0 } (by dsimp only; omega) (by dsimp only; omega) (by dsimp only; omega) (by dsimp only; omega) _ _ ll tl w' (hr0.fr (hw'.fr (w0 := w) (S := []) (MI.m (by repeat constructor)))).w0)) (.inr ⟨fun _ _ h => h.subl (SB.s (by repeat constructor)) (SB.s (by repeat constructor)), fun _ h => h⟩) (fun x14 hx14 => ?_))
             all_goals refine tx_single 5 (by kernel_rfl) (to_e rfl rfl (e_mkS (sz := 1) (z := vi 0) (by_ := 8) (n := t.parts.length) (out := (List.replicate t.parts.length (0 : Int)).map vi) (by kernel_rfl) rfl rfl rfl (by omega) (by omega) (by omega) hzz) (.inr ⟨fun _ _ h => h.subl (SB.s (by repeat constructor)) (SB.s (by repeat constructor)), fun _ h => h⟩) (fun b119 _ => ?_))
             all_goals refine tx_single 8 (by kernel_rfl) (to_e rfl rfl (e_callX rfl (.cons rfl (.cons rfl (.cons rfl (.cons rfl .nil)))) (fun w' hw' => by have h := shown_ok { t with worst := 0 } hv.w0.nt (List.replicate t.parts.length 0) (by rw [hzl]; omega) k d (by rw [hz]) _ _ _ _ _ w' (hx14.1.fr (hw'.calm hx14.2 (MI.m (by repeat constructor)) (SB.s (by repeat constructor)))) (by have := RdI.own0 (xs := List.replicate t.parts.length 0) (cap := t.parts.length) hw' (b := b119) (by repeat constructor); rw [hzl] at this; exact this); rw [show er3 (List.replicate t.parts.length 0) = (0, 0, 0) from zeros_e hv] at h; exact h)) (.inr ⟨fun _ _ h => h.subl (SB.s (by repeat constructor)) (SB.s (by repeat constructor)), fun _ h => h⟩) (fun y14 hy14 => ?_))
             all_goals refine tx_p 9 rfl (by kernel_rfl) (y_move rfl) rfl (fun _ _ _ h => h) (fun _ h => h.subl (SB.s (by repeat constructor)) (SB.s (by repeat constructor))) ?_
             all_goals refine tx_p 10 rfl (by kernel_rfl) (y_extract rfl rfl) rfl (fun _ _ _ h => h) (fun _ h => h.subl (SB.s (by repeat constructor)) (SB.s (by repeat constructor))) ?_
             all_goals refine tx_p 11 rfl (by kernel_rfl) (y_extract rfl rfl) rfl (fun _ _ _ h => h) (fun _ h => h.subl (SB.s (by repeat constructor)) (SB.s (by repeat constructor))) ?_
             all_goals refine tx_p 12 rfl (by kernel_rfl) (y_assign rfl) rfl (fun _ _ _ h => h) (fun _ h => h.subl (SB.s (by repeat constructor)) (SB.s (by repeat constructor))) ?_
             all_goals refine tx_p 13 rfl (by kernel_rfl) (y_assign rfl) rfl (fun _ _ _ h => h) (fun _ h => h.subl (SB.s (by repeat constructor)) (SB.s (by repeat constructor))) ?_
             all_goals refine tx_done (by kernel_rfl) ?_))
           all_goals (refine hK16 ?_; try (clear hK16; clear K16))
           all_goals refine tc_seq fun K17 hK17 => ?_
           all_goals refine tc_lay ([]) (SB.s (by repeat constructor)) (fun wl15 hl15 => ?_)
           all_goals have r14 := hy14.1.fr (hl15.calm hy14.2 (MI.m (by repeat constructor)) (SB.s (by repeat constructor)))
           all_goals refine tc_region ?_
           all_goals refine tl_q (y_field rfl) rfl ?_
           all_goals (refine tl_q (y_loadNo (n := 6) (vs := [vi t.s.mass, vi t.s.volume, vi t.s.step, vi t.s.divisions, vi t.s.width, .slice aw t.s.weights.length cw]) rfl (fun w' hw' => (CA_pre [vi t.s.mass, vi t.s.volume, vi t.s.step, vi t.s.divisions, vi t.s.width, .slice aw t.s.weights.length cw] [.slice ap t.parts.length cp, vi t.worst, ll, tl] 28 (0, 0)).cells ((hw'.fr (w0 := wl1) (S := []) (MI.m (by repeat constructor))).keep (hl1.at (b := b5) (by repeat constructor))))) rfl ?_)
           all_goals refine tl_e (e_callX rfl (.cons rfl .nil) (fun w' hw' => (spindleN_c t.s (by omega) _ w' (hr0.fr (hw'.fr (w0 := w) (S := []) (MI.m (by repeat constructor)))).ws).weak (p' := fun x w2 => RdI w2 (slV t.s.weights.length x) t.s.weights) (fun _ _ _ h => h.1))) rfl (fun x15 hx15 => ?_)
           all_goals refine tl_q (y_move rfl) rfl ?_
           all_goals refine tl_q (y_move rfl) rfl ?_
           all_goals refine tl_e (e_callV rfl (.cons rfl (.cons rfl (.cons rfl .nil))) (fun w' hw' => see_v t.s hn.ws k d hS _ w' (hx15.1.fr (hw'.fr (MI.m (by repeat constructor)))))) rfl (fun _ _ => ?_)
           all_goals refine tl_q (y_move rfl) rfl ?_
           all_goals refine tl_q (y_extract rfl rfl) rfl ?_
           all_goals refine tl_q (y_extract rfl rfl) rfl ?_
           all_goals refine tl_e (e_allocN rfl) rfl (fun b23 _ => ?_)
           all_goals (refine tl_e (e_storeW rfl rfl (by repeat constructor) (by rfl) (by rfl) (by simp [Value.oneCell'])) rfl (fun _ _ => ?_))
           all_goals refine tl_q (y_assign rfl) rfl ?_
           all_goals refine tl_nil ?_
           all_goals (refine hK17 ?_; try (clear hK17; clear K17))
           all_goals refine tc_seq fun K18 hK18 => ?_
           all_goals refine tc_seq fun K19 hK19 => ?_
           all_goals refine tc_lay ([]) (SB.s (by repeat constructor)) (fun wl16 hl16 => ?_)
           all_goals (have hd2 := hv.s.d2)
           all_goals rcases hcs with ⟨rfl, hsh⟩ | ⟨rfl, hln, hrb, hget⟩
           all_goals (try dsimp only at hrb)
           all_goals refine tc_region ?_
           all_goals refine tl_q (y_move rfl) rfl ?_
           all_goals refine tl_q (y_neq rfl rfl) rfl ?_
           all_goals refine tl_nil ?_
           all_goals (refine hK19 ?_; try (clear hK19; clear K19))
           all_goals (
            refine tc_cond rfl (fun hc => ?_) (fun hc => ?_)
            · try simp only [decide_eq_true_eq, decide_eq_false_iff_not, Int.not_lt, Int.not_le, Bool.not_eq_true', Bool.not_eq_false', Decidable.not_not, not_true_eq_false] at hc
              all_goals first | (exfalso; with_reducible exact bft hc) | (exfalso; with_reducible exact btf hc) | (exfalso; omega) | skip
              all_goals refine tc_seq fun K20 hK20 => ?_
              all_goals refine tc_lay ([]) (SB.s (by repeat constructor)) (fun wl17 hl17 => ?_)
              all_goals refine tc_region ?_
              all_goals refine tl_q (y_assign rfl) rfl ?_
              all_goals refine tl_nil ?_
              all_goals (refine hK20 ?_; try (clear hK20; clear K20))
              all_goals refine tc_ret ?_
              all_goals (repeat (first | refine tk_then_ret ?_))
              all_goals first | refine tk_ret rfl rfl (.cons (.tmp rfl) .nil) ?_ | refine tk_retM rfl (by repeat constructor) rfl (.cons (.tmp rfl) .nil) ?_
              all_goals (
               exact fun w' hw' => ⟨rfl, hw'.fr (w0 := w) (S := []) (MI.m (by repeat constructor))⟩)
            · try simp only [decide_eq_true_eq, decide_eq_false_iff_not, Int.not_lt, Int.not_le, Bool.not_eq_true', Bool.not_eq_false', Decidable.not_not, not_true_eq_false] at hc
              all_goals first | (exfalso; with_reducible exact bft hc) | (exfalso; with_reducible exact btf hc) | (exfalso; omega) | skip
              all_goals refine tc_skip ?_
              all_goals (refine hK18 ?_; try (clear hK18; clear K18))
              all_goals refine tc_seq fun K21 hK21 => ?_
              all_goals refine tc_seq fun K22 hK22 => ?_
              all_goals refine tc_lay ([]) (SB.s (by repeat constructor)) (fun wl18 hl18 => ?_)
              all_goals refine tc_region ?_
              all_goals refine tl_q (y_move rfl) rfl ?_
              all_goals refine tl_q (y_neq rfl rfl) rfl ?_
              all_goals refine tl_nil ?_
              all_goals (refine hK22 ?_; try (clear hK22; clear K22))
              all_goals (
               refine tc_cond rfl (fun hc => ?_) (fun hc => ?_)
               · try simp only [decide_eq_true_eq, decide_eq_false_iff_not, Int.not_lt, Int.not_le, Bool.not_eq_true', Bool.not_eq_false', Decidable.not_not, not_true_eq_false] at hc
                 all_goals first | (exfalso; with_reducible exact bft hc) | (exfalso; with_reducible exact btf hc) | (exfalso; omega) | skip
                 all_goals refine tc_seq fun K23 hK23 => ?_
                 all_goals refine tc_region ?_
                 all_goals refine tl_q (y_move rfl) rfl ?_
                 all_goals refine tl_q (y_eql rfl rfl) rfl ?_
                 all_goals refine tl_q (y_move rfl) rfl ?_
                 all_goals (refine tl_qg rfl rfl (y_move rfl) rfl ?_)
                 all_goals (refine tl_eg rfl rfl rfl (e_bslice rfl (by (repeat (first | exact .nil | apply PV.one rfl rfl)); done) rfl rfl) (fun _ _ => ?_))
                 all_goals (refine tl_eg rfl rfl rfl (e_callV rfl (.cons rfl (.cons rfl .nil)) (fun w' hw' => ints9_t (shownL { t with worst := 0 } (0, 0, 0) k d) (by rw [hsh]; decide) _ _ w' (r14.fr (hw'.fr (w0 := wl15) (S := []) (MI.m (by repeat constructor)))) (by rw [hsh]; exact RdI.own0 (xs := [-1]) hw' (by repeat constructor)))) (fun _ _ => ?_))
                 all_goals (refine tl_q (y_pick_t rfl rfl) rfl ?_)
                 all_goals refine tl_q (y_move rfl) rfl ?_
                 all_goals (refine tl_eg rfl rfl rfl (e_callV rfl .nil (fun w' _ => awake9_c w')) (fun _ _ => ?_))
                 all_goals (refine tl_q (y_pick_t rfl rfl) rfl ?_)
                 all_goals refine tl_q (y_assign rfl) rfl ?_
                 all_goals refine tl_nil ?_
                 all_goals (refine hK23 ?_; try (clear hK23; clear K23))
                 all_goals refine tc_ret ?_
                 all_goals (repeat (refine tk_then_ret ?_))
                 all_goals first | refine tk_ret rfl rfl (.cons (.tmp rfl) .nil) ?_ | refine tk_retM rfl (by repeat constructor) rfl (.cons (.tmp rfl) .nil) ?_
                 all_goals (
                  exact fun w' hw' => ⟨rfl, hw'.fr (w0 := w) (S := []) (MI.m (by repeat constructor))⟩)
               · try simp only [decide_eq_true_eq, decide_eq_false_iff_not, Int.not_lt, Int.not_le, Bool.not_eq_true', Bool.not_eq_false', Decidable.not_not, not_true_eq_false] at hc
                 all_goals first | (exfalso; with_reducible exact bft hc) | (exfalso; with_reducible exact btf hc) | (exfalso; omega) | skip
                 all_goals refine tc_skip ?_
                 all_goals (refine hK21 ?_; try (clear hK21; clear K21))
                 all_goals refine tc_seq fun K24 hK24 => ?_
                 all_goals refine tc_seq fun K25 hK25 => ?_
                 all_goals refine tc_lay ([]) (SB.s (by repeat constructor)) (fun wl20 hl20 => ?_)
                 all_goals refine tc_region ?_
                 all_goals refine tl_q (y_move rfl) rfl ?_
                 all_goals refine tl_q (y_len rfl) rfl ?_
                 all_goals refine tl_q (y_field rfl) rfl ?_
                 all_goals (refine tl_q (y_load1f rfl (hl16.at (by repeat constructor)) (MI.m (by repeat constructor)) (by simp) (by rfl)) rfl ?_)
                 all_goals refine tl_q (y_field rfl) rfl ?_
                 all_goals (refine tl_q (y_load1f rfl (hl16.at (by repeat constructor)) (MI.m (by repeat constructor)) (by simp) (by rfl)) rfl ?_)
                 all_goals refine tl_q (y_sub rfl rfl (by omega)) rfl ?_
                 all_goals refine tl_q (y_add rfl rfl (by omega)) rfl ?_
                 all_goals refine tl_q (y_neq rfl rfl) rfl ?_
                 all_goals refine tl_nil ?_
                 all_goals (refine hK25 ?_; try (clear hK25; clear K25))
                 all_goals (
                  refine tc_cond rfl (fun hc => ?_) (fun hc => ?_)
                  · try simp only [decide_eq_true_eq, decide_eq_false_iff_not, Int.not_lt, Int.not_le, Bool.not_eq_true', Bool.not_eq_false', Decidable.not_not, not_true_eq_false] at hc
                    all_goals first | (exfalso; with_reducible exact bft hc) | (exfalso; with_reducible exact btf hc) | (exfalso; omega) | skip
                    all_goals refine tc_seq fun K26 hK26 => ?_
                    all_goals refine tc_lay ([]) (SB.s (by repeat constructor)) (fun wl21 hl21 => ?_)
                    all_goals refine tc_region ?_
                    all_goals refine tl_q (y_assign rfl) rfl ?_
                    all_goals refine tl_nil ?_
                    all_goals (refine hK26 ?_; try (clear hK26; clear K26))
                    all_goals refine tc_ret ?_
                    all_goals (repeat (first | refine tk_then_ret ?_))
                    all_goals first | refine tk_ret rfl rfl (.cons (.tmp rfl) .nil) ?_ | refine tk_retM rfl (by repeat constructor) rfl (.cons (.tmp rfl) .nil) ?_
                    all_goals (
                     exact fun w' hw' => ⟨rfl, hw'.fr (w0 := w) (S := []) (MI.m (by repeat constructor))⟩)
                  · try simp only [decide_eq_true_eq, decide_eq_false_iff_not, Int.not_lt, Int.not_le, Bool.not_eq_true', Bool.not_eq_false', Decidable.not_not, not_true_eq_false] at hc
                    all_goals first | (exfalso; with_reducible exact bft hc) | (exfalso; with_reducible exact btf hc) | (exfalso; omega) | skip
                    all_goals refine tc_skip ?_
                    all_goals (refine hK24 ?_; try (clear hK24; clear K24))
                    all_goals refine tc_seq fun K27 hK27 => ?_
                    all_goals refine tc_seq fun K28 hK28 => ?_
                    all_goals refine tc_lay ([]) (SB.s (by repeat constructor)) (fun wl22 hl22 => ?_)
                    all_goals (obtain ⟨bS, oS, hadS, hcS⟩ := r14.opensT)
                    all_goals (have hadS' := hadS (by omega))
                    all_goals refine tc_region ?_
                    all_goals refine tl_q (y_assign rfl) rfl ?_
                    all_goals refine tl_nil ?_
                    all_goals (refine hK28 ?_; try (clear hK28; clear K28))
                    all_goals refine tc_block ?_
                    all_goals (
                     refine tc_loop (fun m : Nat => m ≤ (shownL { t with worst := 0 } (0, 0, 0) k d).length) (fun m => [(21, slV (shownL { t with worst := 0 } (0, 0, 0) k d).length y14.1), (23, ptr b23), (25, vi m)]) (fun _ => [(wl22, []), (wl16, []), (wl15, []), (w, [])]) (fun _ => []) (fun m => (shownL { t with worst := 0 } (0, 0, 0) k d).length - m) ?_ ?_
                     · exact tk_start 0 (Nat.zero_le _) (.cons rfl (.cons rfl (.cons rfl .nil))) (fun _ h => h.subl (SB.s (by repeat constructor)) (SB.s (by repeat constructor)))
                     · rintro m hm
                       all_goals refine tc_seq fun K29 hK29 => ?_
                       all_goals refine tc_seq fun K30 hK30 => ?_
                       all_goals refine tc_region ?_
                       all_goals refine tl_q (y_move rfl) rfl ?_
                       all_goals refine tl_q (y_move rfl) rfl ?_
                       all_goals refine tl_q (y_len rfl) rfl ?_
                       all_goals refine tl_q (y_lss rfl rfl) rfl ?_
                       all_goals refine tl_nil ?_
                       all_goals (refine hK30 ?_; try (clear hK30; clear K30))
                       all_goals (
                        refine tc_cond rfl (fun hc => ?_) (fun hc => ?_)
                        · try simp only [decide_eq_true_eq, decide_eq_false_iff_not, Int.not_lt, Int.not_le, Bool.not_eq_true', Bool.not_eq_false', Decidable.not_not, not_true_eq_false] at hc
                          all_goals first | (exfalso; with_reducible exact bft hc) | (exfalso; with_reducible exact btf hc) | (exfalso; omega) | skip
                          all_goals refine tc_skip ?_
                          all_goals (refine hK29 ?_; try (clear hK29; clear K29))
                          all_goals refine tc_seq fun K31 hK31 => ?_
                          all_goals refine tc_block ?_
                          all_goals refine tc_seq fun K32 hK32 => ?_
                          all_goals (have hgm := hget m (by omega))
                          all_goals refine tc_draw (by kernel_rfl) ?_
                          all_goals refine tx_p 0 rfl (by kernel_rfl) (y_move rfl) rfl (fun _ _ _ h => h) (fun _ h => h) ?_
                          all_goals refine tx_p 1 rfl (by kernel_rfl) (y_move rfl) rfl (fun _ _ _ h => h) (fun _ h => h) ?_
                          all_goals (refine tx_p 2 rfl (by kernel_rfl) (y_index rfl rfl (by omega) hadS') rfl (fun _ _ _ h => h) (fun _ h => h) ?_)
                          all_goals (refine tx_q 3 rfl (by kernel_rfl) (y_load1o (v := vi ((shownL { t with worst := 0 } (0, 0, 0) k d).getD m 0)) rfl (fun w' hw' => by rw [show Int.toNat (m : Int) * 1 = m from by omega]; exact hcS w' (hw'.fr (w0 := wl15) (S := []) (MI.m (by repeat constructor))) m (by omega))) rfl (fun _ _ _ h => h) (fun _ h => h) ?_)
                          all_goals refine tx_p 4 rfl (by kernel_rfl) (y_field rfl) rfl (fun _ _ _ h => h) (fun _ h => h) ?_
                          all_goals (refine tx_q 5 rfl (by kernel_rfl) (y_load1f rfl (hl16.at (by repeat constructor)) (MI.m (by repeat constructor)) (by simp) (by rfl)) rfl (fun _ _ _ h => h) (fun _ h => h) ?_)
                          all_goals refine tx_p 6 rfl (by kernel_rfl) (y_move rfl) rfl (fun _ _ _ h => h) (fun _ h => h) ?_
                          all_goals refine tx_p 7 rfl (by kernel_rfl) (y_add rfl rfl (by omega)) rfl (fun _ _ _ h => h) (fun _ h => h) ?_
                          all_goals refine tx_p 8 rfl (by kernel_rfl) (y_neq rfl rfl) rfl (fun _ _ _ h => h) (fun _ h => h) ?_
                          all_goals refine tx_done (by kernel_rfl) ?_
                          all_goals (refine hK32 ?_; try (clear hK32; clear K32))
                          all_goals (
                           refine tc_cond rfl (fun hc => ?_) (fun hc => ?_)
                           · try simp only [decide_eq_true_eq, decide_eq_false_iff_not, Int.not_lt, Int.not_le, Bool.not_eq_true', Bool.not_eq_false', Decidable.not_not, not_true_eq_false] at hc
                             all_goals first | (exfalso; with_reducible exact bft hc) | (exfalso; with_reducible exact btf hc) | (exfalso; omega) | skip
                             all_goals refine tc_seq fun K33 hK33 => ?_
                             all_goals refine tc_region ?_
                             all_goals refine tl_q (y_assign rfl) rfl ?_
                             all_goals refine tl_nil ?_
                             all_goals (refine hK33 ?_; try (clear hK33; clear K33))
                             all_goals refine tc_ret ?_
                             all_goals (repeat (first | refine tk_then_ret ?_))
                             all_goals first | refine tk_ret rfl rfl (.cons (.tmp rfl) .nil) ?_ | refine tk_retM rfl (by repeat constructor) rfl (.cons (.tmp rfl) .nil) ?_
                             all_goals (
                              exact fun w' hw' => ⟨rfl, hw'.fr (w0 := w) (S := []) (MI.m (by repeat constructor))⟩)
                           · try simp only [decide_eq_true_eq, decide_eq_false_iff_not, Int.not_lt, Int.not_le, Bool.not_eq_true', Bool.not_eq_false', Decidable.not_not, not_true_eq_false] at hc
                             all_goals first | (exfalso; with_reducible exact bft hc) | (exfalso; with_reducible exact btf hc) | (exfalso; omega) | skip
                             all_goals refine tc_skip ?_
                             all_goals (refine hK31 ?_; try (clear hK31; clear K31))
                             all_goals refine tc_region ?_
                             all_goals refine tl_q (y_move rfl) rfl ?_
                             all_goals refine tl_q (y_add rfl rfl (by omega)) rfl ?_
                             all_goals refine tl_q (y_assign rfl) rfl ?_
                             all_goals refine tl_nil ?_
                             all_goals (
                              exact tk_round (m + 1) (by omega) (by omega) (.cons rfl (.cons rfl (.cons rfl .nil))) (fun _ h => h.subl (SB.s (by repeat constructor)) (SB.s (by repeat constructor)))))
                        · try simp only [decide_eq_true_eq, decide_eq_false_iff_not, Int.not_lt, Int.not_le, Bool.not_eq_true', Bool.not_eq_false', Decidable.not_not, not_true_eq_false] at hc
                          all_goals first | (exfalso; with_reducible exact bft hc) | (exfalso; with_reducible exact btf hc) | (exfalso; omega) | skip
                          all_goals refine tc_exit ?_
                          all_goals (refine hK27 ?_; try (clear hK27; clear K27))
                          all_goals refine tc_seq fun K34 hK34 => ?_
                          all_goals refine tc_lay ([]) (SB.s (by repeat constructor)) (fun wl27 hl27 => ?_)
                          all_goals refine tc_region ?_
                          all_goals refine tl_e (e_callV rfl .nil (fun w' _ => awake9_c w')) rfl (fun _ _ => ?_)
                          all_goals refine tl_q (y_assign rfl) rfl ?_
                          all_goals refine tl_nil ?_
                          all_goals (refine hK34 ?_; try (clear hK34; clear K34))
                          all_goals refine tc_ret ?_
                          all_goals (repeat (first | refine tk_then_ret ?_))
                          all_goals first | refine tk_ret rfl rfl (.cons (.tmp rfl) .nil) ?_ | refine tk_retM rfl (by repeat constructor) rfl (.cons (.tmp rfl) .nil) ?_
                          all_goals (
                           exact fun w' hw' => ⟨rfl, hw'.fr (w0 := w) (S := []) (MI.m (by repeat constructor))⟩)))))))))
end Go.Sp
