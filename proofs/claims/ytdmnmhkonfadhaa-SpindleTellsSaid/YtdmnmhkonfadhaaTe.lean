/-
  SpindleTells: the law's function returns true.
-/
import Derived.Test.YtdmnmhkonfadhaaTea
set_option linter.unusedVariables false
set_option linter.unusedSimpArgs false
set_option linter.deprecated false
namespace Go.Sp
open Go Go.Proofs
theorem ranges_v (a b : Int) (ha : 0 ≤ a ∧ a ≤ 65535) (hb : 0 ≤ b ∧ b ≤ 65535) {r1 r2 : Int} (h : rangesF a b = (r1, r2)) (w : World) : CnV Try.prog 46 #[v16 a, v16 b] w (.agg #[vi r1, vi r2]) := by
  have := ranges_c a b ha hb w
  rw [h] at this; exact this
theorem seen_v (s : Sn) (hs : VS s) (k d word : Int) (h0 : 0 ≤ k) (h1 : k ≤ s.weights.length) (h2 : 1 ≤ d) (h3 : d ≤ 2000) (hw0 : 0 ≤ word) {x : Int} (hx : seenF s k d word = x) (sl : Value) (w : World) (hr : RdI w sl s.weights) :
    CnV Try.prog 47 #[spV s sl, vi k, vi d, vi word] w (vi x) := by
  subst hx; exact seen2_c s hs k d word h0 h1 h2 h3 hw0 (fun hf => can_ne hs h2 hf) sl w hr
theorem mean_step {s : Sn} (hs : VS s) {k seen : Int} (h0 : 0 ≤ k) (h1 : k ≤ s.weights.length) (h2 : -2 ≤ seen) (h3 : seen ≤ s.divisions) {x1 x2 g : Int} (h : meanE s k seen = ((x1, x2), g)) : (g = 0 ∨ g = 7) ∧ (0 ≤ x1 ∧ x1 ≤ 6000001) ∧ 0 ≤ x2 ∧ x2 ≤ 2000 := by
  have hbd := mean_bd hs h0 h1 h2 h3
  rcases meanE_cases hs h0 h1 h2 h3 with ⟨q1, _⟩ | ⟨q1, _⟩
  · rw [q1] at h; cases h; omega
  · rw [q1] at h
    have e1 := congrArg Prod.fst h
    have e2 := congrArg Prod.snd h
    dsimp only at e1 e2
    rw [e1] at hbd
    dsimp only at hbd
    omega
set_option maxHeartbeats 4000000 in
theorem tells_c (s : Sn) (an bn tn on wn : Int) (ha : 0 ≤ an ∧ an ≤ 65535) (hb : 0 ≤ bn ∧ bn ≤ 65535) (ht : 0 ≤ tn ∧ tn ≤ 65535) (ho : 0 ≤ on ∧ on ≤ 255) (hw : 0 ≤ wn ∧ wn ≤ 255) (sl : Value) (w : World) (hr : RdI w sl s.weights) :
    CnV Try.prog 11 #[spV s sl, v16 an, v16 bn, v16 tn, v8 on, v8 wn] w (.bool true) := by
  have hr0 := hr
  obtain ⟨ad, cap, b0, o, rfl, _, _⟩ := hr.open
  rcases hrr : rangesF an bn with ⟨r1, r2⟩
  have hrb : 1 ≤ r1 ∧ r1 ≤ r2 ∧ r2 ≤ 2000 := by
    unfold rangesF at hrr
    have e1 := congrArg Prod.fst hrr
    have e2 := congrArg Prod.snd hrr
    dsimp only at e1 e2
    omega
  obtain ⟨d, hd⟩ : ∃ d, d = r1 + tn % (r2 - r1 + 1) := ⟨_, rfl⟩
  obtain ⟨i, hi⟩ : ∃ i, i = on % ((s.weights.length : Int) + 1) := ⟨_, rfl⟩
  have hd1 : r1 ≤ d ∧ d ≤ r2 := by
    have := Int.emod_lt_of_pos tn (show 0 < r2 - r1 + 1 by omega)
    have := Int.emod_nonneg tn (show r2 - r1 + 1 ≠ 0 by omega)
    omega
  have hib : 0 ≤ i ∧ i ≤ s.weights.length := by
    have := Int.emod_lt_of_pos on (show 0 < (s.weights.length : Int) + 1 by omega)
    have := Int.emod_nonneg on (show (s.weights.length : Int) + 1 ≠ 0 by omega)
    omega
  rcases hB : bestE s (r1, r2) with ⟨⟨k, n⟩, e⟩
  obtain ⟨q, hq⟩ : ∃ q, seenF s k d wn = q := ⟨_, rfl⟩
  rcases hM : meanE s k q with ⟨⟨m1, m2⟩, f⟩
  have hcase : chkF s = 0 → e = 0 ∧ (0 ≤ k ∧ k ≤ s.weights.length) ∧ (1 ≤ n ∧ n ≤ r2 - r1 + 1) ∧ (f = 0 ∧ (m1 ≤ d ∧ d ≤ m2) ∧ fitF (m1, m2) (r1, r2) ≤ n ∧ (1 ≤ m1 ∧ m1 ≤ 6000001) ∧ (0 ≤ m2 ∧ m2 ≤ 2000)) ∧
      n ≤ mostN s (r1, r2) i (s.divisions + 3).toNat ∧ (i = k → mostN s (r1, r2) i (s.divisions + 3).toNat = n) ∧ (i < k → n < mostN s (r1, r2) i (s.divisions + 3).toNat) := fun hc => by
    obtain ⟨g1, g2, g3, g4, g5⟩ := tells_spec (chkF_valid.1 hc) (r := (r1, r2)) hrb.1 hrb.2.1 hrb.2.2 hd1.1 hd1.2 hw.1 hB hib.1 hib.2
    exact ⟨g1, g2, g3, g4 m1 m2 f (by rw [hq]; exact hM), g5⟩
  refine cnv (vs := [_, _, _, _, _, _]) Try.func11 rfl rfl ?_
  all_goals refine tc_seq fun K1 hK1 => ?_
  all_goals refine tc_region ?_
  all_goals refine tl_e (e_box rfl rfl rfl) rfl (fun b6 _ => ?_)
  all_goals refine tl_q (y_assign rfl) rfl ?_
  all_goals refine tl_nil ?_
  all_goals (refine hK1 ?_; try (clear hK1; clear K1))
  all_goals refine tc_seq fun K2 hK2 => ?_
  all_goals refine tc_seq fun K3 hK3 => ?_
  all_goals refine tc_lay ([]) (SB.s (by repeat constructor)) (fun wl1 hl1 => ?_)
  all_goals refine tc_region ?_
  all_goals (first | refine tl_q (y_loadW rfl (by repeat constructor) (by rfl)) rfl ?_ | refine tl_q (y_loadN rfl (by repeat constructor) (by (repeat (first | exact .nil | apply CA.cons rfl)); done)) rfl ?_ | refine tl_q (y_loadWf rfl (hl1.at (by repeat constructor)) (MI.m (by repeat constructor)) (by simp) (by rfl)) rfl ?_ | refine tl_q (y_load1f rfl (hl1.at (by repeat constructor)) (MI.m (by repeat constructor)) (by simp) (by rfl)) rfl ?_)
  all_goals refine tl_e (e_callV rfl (.cons rfl .nil) (fun w' hw' => ready2_c s _ w' (hr0.fr (hw'.fr (w0 := w) (S := []) (MI.m (by repeat constructor)))))) rfl (fun _ _ => ?_)
  all_goals (first | refine tl_q (y_not_dec rfl) rfl ?_ | refine tl_q (y_not rfl) rfl ?_)
  all_goals refine tl_nil ?_
  all_goals (refine hK3 ?_; try (clear hK3; clear K3))
  all_goals (
   refine tc_cond rfl (fun hc => ?_) (fun hc => ?_)
   · try simp only [decide_eq_true_eq, decide_eq_false_iff_not, Int.not_lt, Int.not_le, Bool.not_eq_true', Bool.not_eq_false', Decidable.not_not, not_true_eq_false] at hc
     all_goals first | (exfalso; with_reducible exact bft hc) | (exfalso; with_reducible exact btf hc) | (exfalso; omega) | skip
     all_goals refine tc_seq fun K4 hK4 => ?_
     all_goals refine tc_lay ([]) (SB.s (by repeat constructor)) (fun wl2 hl2 => ?_)
     all_goals refine tc_region ?_
     all_goals refine tl_e (e_callV rfl .nil (fun w' _ => awake_c w')) rfl (fun _ _ => ?_)
     all_goals refine tl_q (y_assign rfl) rfl ?_
     all_goals refine tl_nil ?_
     all_goals (refine hK4 ?_; try (clear hK4; clear K4))
     all_goals refine tc_ret ?_
     all_goals (repeat (first | refine tk_then_ret ?_ | refine tk_block_ret ?_ | refine tk_scope_ret ?_))
     all_goals first | refine tk_ret rfl rfl (.cons (.tmp rfl) .nil) ?_ | refine tk_retM rfl (by repeat constructor) rfl (.cons (.tmp rfl) .nil) ?_
     all_goals (
      refine fun w' hw' => ⟨?_, hw'.fr (w0 := w) (S := []) (MI.m (by repeat constructor))⟩
      first
      | rfl
      | (exfalso; omega))
   · try simp only [decide_eq_true_eq, decide_eq_false_iff_not, Int.not_lt, Int.not_le, Bool.not_eq_true', Bool.not_eq_false', Decidable.not_not, not_true_eq_false] at hc
     all_goals first | (exfalso; with_reducible exact bft hc) | (exfalso; with_reducible exact btf hc) | (exfalso; omega) | skip
     all_goals refine tc_skip ?_
     all_goals (refine hK2 ?_; try (clear hK2; clear K2))
     all_goals refine tc_seq fun K5 hK5 => ?_
     all_goals refine tc_lay ([]) (SB.s (by repeat constructor)) (fun wl3 hl3 => ?_)
     all_goals (have hs := chkF_valid.1 hc; have hl6 := hs.n; have hD1 := hs.d1; have hD2 := hs.d2; obtain ⟨he, hk, hn, ⟨hf, hmd, hft, hm1, hm2⟩, hge, heq, hgt⟩ := hcase hc)
     all_goals refine tc_region ?_
     all_goals refine tl_q (y_move rfl) rfl ?_
     all_goals refine tl_q (y_move rfl) rfl ?_
     all_goals refine tl_e (e_callV rfl (.cons rfl (.cons rfl .nil)) (fun w' _ => ranges_v an bn ha hb hrr w')) rfl (fun _ _ => ?_)
     all_goals refine tl_e (e_allocN rfl) rfl (fun b13 _ => ?_)
     all_goals refine tl_e (e_storeW rfl rfl (by repeat constructor) (by rfl) (by rfl) (by simp [Value.oneCell'])) rfl (fun _ _ => ?_)
     all_goals refine tl_nil ?_
     all_goals (refine hK5 ?_; try (clear hK5; clear K5))
     all_goals refine tc_seq fun K6 hK6 => ?_
     all_goals refine tc_lay ([]) (SB.s (by repeat constructor)) (fun wl4 hl4 => ?_)
     all_goals refine tc_draw (by kernel_rfl) ?_
     all_goals refine tx_p 0 rfl (by kernel_rfl) (y_field rfl) rfl (fun _ _ _ h => h) (fun _ h => h) ?_
     all_goals (first | refine tx_q 1 rfl (by kernel_rfl) (y_load1 rfl (by repeat constructor) (by rfl)) rfl (fun _ _ _ h => h) (fun _ h => h) ?_ | refine tx_q 1 rfl (by kernel_rfl) (y_load1f rfl (hl4.at (by repeat constructor)) (MI.m (by repeat constructor)) (by simp) (by rfl)) rfl (fun _ _ _ h => h) (fun _ h => h) ?_)
     all_goals refine tx_p 2 rfl (by kernel_rfl) (y_move rfl) rfl (fun _ _ _ h => h) (fun _ h => h) ?_
     all_goals (first | refine tx_p 3 rfl (by kernel_rfl) (y_conv64 rfl (by omega)) rfl (fun _ _ _ h => h) (fun _ h => h) ?_ | refine tx_p 3 rfl (by kernel_rfl) (y_conv rfl (by simp only [IntKind.wrap, IntKind.bits, IntKind.signed, Bool.false_and, Bool.true_and, Bool.false_eq_true, if_false, decide_eq_true_eq]; omega)) rfl (fun _ _ _ h => h) (fun _ h => h) ?_)
     all_goals refine tx_p 4 rfl (by kernel_rfl) (y_field rfl) rfl (fun _ _ _ h => h) (fun _ h => h) ?_
     all_goals (first | refine tx_q 5 rfl (by kernel_rfl) (y_load1 rfl (by repeat constructor) (by rfl)) rfl (fun _ _ _ h => h) (fun _ h => h) ?_ | refine tx_q 5 rfl (by kernel_rfl) (y_load1f rfl (hl4.at (by repeat constructor)) (MI.m (by repeat constructor)) (by simp) (by rfl)) rfl (fun _ _ _ h => h) (fun _ h => h) ?_)
     all_goals refine tx_p 6 rfl (by kernel_rfl) (y_field rfl) rfl (fun _ _ _ h => h) (fun _ h => h) ?_
     all_goals (first | refine tx_q 7 rfl (by kernel_rfl) (y_load1 rfl (by repeat constructor) (by rfl)) rfl (fun _ _ _ h => h) (fun _ h => h) ?_ | refine tx_q 7 rfl (by kernel_rfl) (y_load1f rfl (hl4.at (by repeat constructor)) (MI.m (by repeat constructor)) (by simp) (by rfl)) rfl (fun _ _ _ h => h) (fun _ h => h) ?_)
     all_goals refine tx_p 8 rfl (by kernel_rfl) (y_sub rfl rfl (by omega)) rfl (fun _ _ _ h => h) (fun _ h => h) ?_
     all_goals refine tx_p 9 rfl (by kernel_rfl) (y_add rfl rfl (by omega)) rfl (fun _ _ _ h => h) (fun _ h => h) ?_
     all_goals refine tx_p 10 rfl (by kernel_rfl) (y_rem rfl rfl (by omega) (by omega)) rfl (fun _ _ _ h => h) (fun _ h => h) ?_
     all_goals refine tx_p 11 rfl (by kernel_rfl) (y_add rfl rfl (by omega)) rfl (fun _ _ _ h => h) (fun _ h => h) ?_
     all_goals refine tx_p 12 rfl (by kernel_rfl) (y_assign rfl) rfl (fun _ _ _ h => h) (fun _ h => h) ?_
     all_goals refine tx_done (by kernel_rfl) ?_
     all_goals (refine hK6 ?_; try (clear hK6; clear K6))
     all_goals refine tc_seq fun K7 hK7 => ?_
     all_goals refine tc_lay ([]) (SB.s (by repeat constructor)) (fun wl5 hl5 => ?_)
     all_goals rw [← hd]
     all_goals refine tc_draw (by kernel_rfl) ?_
     all_goals (first | refine tx_q 0 rfl (by kernel_rfl) (y_loadW rfl (by repeat constructor) (by rfl)) rfl (fun _ _ _ h => h) (fun _ h => h) ?_ | refine tx_q 0 rfl (by kernel_rfl) (y_loadN rfl (by repeat constructor) (by (repeat (first | exact .nil | apply CA.cons rfl)); done)) rfl (fun _ _ _ h => h) (fun _ h => h) ?_ | refine tx_q 0 rfl (by kernel_rfl) (y_loadWf rfl (hl1.at (by repeat constructor)) (MI.m (by repeat constructor)) (by simp) (by rfl)) rfl (fun _ _ _ h => h) (fun _ h => h) ?_ | refine tx_q 0 rfl (by kernel_rfl) (y_load1f rfl (hl1.at (by repeat constructor)) (MI.m (by repeat constructor)) (by simp) (by rfl)) rfl (fun _ _ _ h => h) (fun _ h => h) ?_)
     all_goals (first | refine tx_q 2 rfl (by kernel_rfl) (y_loadW rfl (by repeat constructor) (by rfl)) rfl (fun _ _ _ h => h) (fun _ h => h) ?_ | refine tx_q 2 rfl (by kernel_rfl) (y_loadN rfl (by repeat constructor) (by (repeat (first | exact .nil | apply CA.cons rfl)); done)) rfl (fun _ _ _ h => h) (fun _ h => h) ?_ | refine tx_q 2 rfl (by kernel_rfl) (y_loadWf rfl (hl4.at (by repeat constructor)) (MI.m (by repeat constructor)) (by simp) (by rfl)) rfl (fun _ _ _ h => h) (fun _ h => h) ?_ | refine tx_q 2 rfl (by kernel_rfl) (y_load1f rfl (hl4.at (by repeat constructor)) (MI.m (by repeat constructor)) (by simp) (by rfl)) rfl (fun _ _ _ h => h) (fun _ h => h) ?_)
     all_goals refine tx_e 1 rfl (by kernel_rfl) rfl (e_callX rfl (.cons rfl .nil) (fun w' hw' => spindle_c s (by omega) _ w' (hr0.fr (hw'.fr (w0 := w) (S := []) (MI.m (by repeat constructor)))))) (.inr fun _ _ h => h.sub (fun _ h => List.mem_cons_of_mem _ h) (List.Sublist.refl _)) (fun x hx => ?_)
     all_goals refine tx_e 3 rfl (by kernel_rfl) rfl (e_callV rfl (.cons rfl .nil) (fun w' _ => (show CnV Try.prog 31 #[.agg #[vi r1, vi r2]] w' (.agg #[vi r1, vi r2]) from to_c (r1, r2) w'))) (.inr fun _ _ h => h) (fun _ _ => ?_)
     all_goals refine tx_e 4 rfl (by kernel_rfl) rfl (e_callV rfl (.cons rfl (.cons rfl .nil)) (fun w' hw' => best_v s (nb9 (by omega)) _ hB _ w' (hx.1.fr (hw'.fr (MI.m (by repeat constructor)))))) (.inr fun _ _ h => h) (fun _ _ => ?_)
     all_goals refine tx_p 5 rfl (by kernel_rfl) (y_move rfl) rfl (fun _ _ _ h => h) (fun _ h => h) ?_
     all_goals refine tx_p 6 rfl (by kernel_rfl) (y_extract rfl rfl) rfl (fun _ _ _ h => h) (fun _ h => h) ?_
     all_goals refine tx_p 7 rfl (by kernel_rfl) (y_extract rfl rfl) rfl (fun _ _ _ h => h) (fun _ h => h) ?_
     all_goals refine tx_p 8 rfl (by kernel_rfl) (y_extract rfl rfl) rfl (fun _ _ _ h => h) (fun _ h => h) ?_
     all_goals refine tx_p 9 rfl (by kernel_rfl) (y_assign rfl) rfl (fun _ _ _ h => h) (fun _ h => h) ?_
     all_goals refine tx_p 10 rfl (by kernel_rfl) (y_assign rfl) rfl (fun _ _ _ h => h) (fun _ h => h) ?_
     all_goals refine tx_p 11 rfl (by kernel_rfl) (y_assign rfl) rfl (fun _ _ _ h => h) (fun _ h => h) ?_
     all_goals refine tx_done (by kernel_rfl) ?_
     all_goals (refine hK7 ?_; try (clear hK7; clear K7))
     all_goals refine tc_seq fun K8 hK8 => ?_
     all_goals refine tc_seq fun K9 hK9 => ?_
     all_goals refine tc_lay ([]) (SB.s (by repeat constructor)) (fun wl6 hl6 => ?_)
     all_goals refine tc_region ?_
     all_goals refine tl_q (y_move rfl) rfl ?_
     all_goals refine tl_q (y_neq rfl rfl) rfl ?_
     all_goals refine tl_q (y_move rfl) rfl ?_
     all_goals (first | refine tl_sk rfl rfl rfl rfl ?_ | refine tl_qg rfl rfl (y_move rfl) rfl ?_ | refine tl_su rfl rfl rfl ?_ | (refine tl_gs rfl rfl (fun hc => ?_) (fun hc => ?_) <;> (try simp only [decide_eq_true_eq, decide_eq_false_iff_not, Int.not_lt, Int.not_le, Bool.not_eq_true', Bool.not_eq_false', Decidable.not_not, not_true_eq_false] at hc) <;> (first | (exfalso; omega) | refine tl_sk rfl rfl rfl rfl ?_ | refine tl_qg rfl rfl (y_move rfl) rfl ?_ | refine tl_su rfl rfl rfl ?_)))
     all_goals (first | refine tl_sk rfl rfl rfl rfl ?_ | refine tl_qg rfl rfl (y_lss rfl rfl) rfl ?_ | refine tl_su rfl rfl rfl ?_ | (refine tl_gs rfl rfl (fun hc => ?_) (fun hc => ?_) <;> (try simp only [decide_eq_true_eq, decide_eq_false_iff_not, Int.not_lt, Int.not_le, Bool.not_eq_true', Bool.not_eq_false', Decidable.not_not, not_true_eq_false] at hc) <;> (first | (exfalso; omega) | refine tl_sk rfl rfl rfl rfl ?_ | refine tl_qg rfl rfl (y_lss rfl rfl) rfl ?_ | refine tl_su rfl rfl rfl ?_)))
     all_goals (first | refine tl_q (y_pick_t rfl rfl) rfl ?_ | refine tl_q (y_pick_f rfl rfl) rfl ?_)
     all_goals refine tl_q (y_move rfl) rfl ?_
     all_goals (first | refine tl_sk rfl rfl rfl rfl ?_ | refine tl_qg rfl rfl (y_move rfl) rfl ?_ | refine tl_su rfl rfl rfl ?_ | (refine tl_gs rfl rfl (fun hc => ?_) (fun hc => ?_) <;> (try simp only [decide_eq_true_eq, decide_eq_false_iff_not, Int.not_lt, Int.not_le, Bool.not_eq_true', Bool.not_eq_false', Decidable.not_not, not_true_eq_false] at hc) <;> (first | (exfalso; omega) | refine tl_sk rfl rfl rfl rfl ?_ | refine tl_qg rfl rfl (y_move rfl) rfl ?_ | refine tl_su rfl rfl rfl ?_)))
     all_goals (first | refine tl_sk rfl rfl rfl rfl ?_ | refine tl_qg rfl rfl (y_field rfl) rfl ?_ | refine tl_su rfl rfl rfl ?_ | (refine tl_gs rfl rfl (fun hc => ?_) (fun hc => ?_) <;> (try simp only [decide_eq_true_eq, decide_eq_false_iff_not, Int.not_lt, Int.not_le, Bool.not_eq_true', Bool.not_eq_false', Decidable.not_not, not_true_eq_false] at hc) <;> (first | (exfalso; omega) | refine tl_sk rfl rfl rfl rfl ?_ | refine tl_qg rfl rfl (y_field rfl) rfl ?_ | refine tl_su rfl rfl rfl ?_)))
     all_goals (first | refine tl_sk rfl rfl rfl rfl ?_ | refine tl_qg rfl rfl (y_load1 rfl (by repeat constructor) (by rfl)) rfl ?_ | refine tl_qg rfl rfl (y_load1f rfl (hl1.at (by repeat constructor)) (MI.m (by repeat constructor)) (by simp) (by rfl)) rfl ?_ | refine tl_su rfl rfl rfl ?_ | (refine tl_gs rfl rfl (fun hc => ?_) (fun hc => ?_) <;> (try simp only [decide_eq_true_eq, decide_eq_false_iff_not, Int.not_lt, Int.not_le, Bool.not_eq_true', Bool.not_eq_false', Decidable.not_not, not_true_eq_false] at hc) <;> (first | (exfalso; omega) | refine tl_sk rfl rfl rfl rfl ?_ | refine tl_qg rfl rfl (y_load1 rfl (by repeat constructor) (by rfl)) rfl ?_ | refine tl_qg rfl rfl (y_load1f rfl (hl1.at (by repeat constructor)) (MI.m (by repeat constructor)) (by simp) (by rfl)) rfl ?_ | refine tl_su rfl rfl rfl ?_)))
     all_goals (first | refine tl_sk rfl rfl rfl rfl ?_ | refine tl_qg rfl rfl (y_len rfl) rfl ?_ | refine tl_su rfl rfl rfl ?_ | (refine tl_gs rfl rfl (fun hc => ?_) (fun hc => ?_) <;> (try simp only [decide_eq_true_eq, decide_eq_false_iff_not, Int.not_lt, Int.not_le, Bool.not_eq_true', Bool.not_eq_false', Decidable.not_not, not_true_eq_false] at hc) <;> (first | (exfalso; omega) | refine tl_sk rfl rfl rfl rfl ?_ | refine tl_qg rfl rfl (y_len rfl) rfl ?_ | refine tl_su rfl rfl rfl ?_)))
     all_goals (first | refine tl_sk rfl rfl rfl rfl ?_ | refine tl_qg rfl rfl (y_gtr rfl rfl) rfl ?_ | refine tl_su rfl rfl rfl ?_ | (refine tl_gs rfl rfl (fun hc => ?_) (fun hc => ?_) <;> (try simp only [decide_eq_true_eq, decide_eq_false_iff_not, Int.not_lt, Int.not_le, Bool.not_eq_true', Bool.not_eq_false', Decidable.not_not, not_true_eq_false] at hc) <;> (first | (exfalso; omega) | refine tl_sk rfl rfl rfl rfl ?_ | refine tl_qg rfl rfl (y_gtr rfl rfl) rfl ?_ | refine tl_su rfl rfl rfl ?_)))
     all_goals (first | refine tl_q (y_pick_t rfl rfl) rfl ?_ | refine tl_q (y_pick_f rfl rfl) rfl ?_)
     all_goals refine tl_q (y_move rfl) rfl ?_
     all_goals (first | refine tl_sk rfl rfl rfl rfl ?_ | refine tl_qg rfl rfl (y_move rfl) rfl ?_ | refine tl_su rfl rfl rfl ?_ | (refine tl_gs rfl rfl (fun hc => ?_) (fun hc => ?_) <;> (try simp only [decide_eq_true_eq, decide_eq_false_iff_not, Int.not_lt, Int.not_le, Bool.not_eq_true', Bool.not_eq_false', Decidable.not_not, not_true_eq_false] at hc) <;> (first | (exfalso; omega) | refine tl_sk rfl rfl rfl rfl ?_ | refine tl_qg rfl rfl (y_move rfl) rfl ?_ | refine tl_su rfl rfl rfl ?_)))
     all_goals (first | refine tl_sk rfl rfl rfl rfl ?_ | refine tl_qg rfl rfl (y_lss rfl rfl) rfl ?_ | refine tl_su rfl rfl rfl ?_ | (refine tl_gs rfl rfl (fun hc => ?_) (fun hc => ?_) <;> (try simp only [decide_eq_true_eq, decide_eq_false_iff_not, Int.not_lt, Int.not_le, Bool.not_eq_true', Bool.not_eq_false', Decidable.not_not, not_true_eq_false] at hc) <;> (first | (exfalso; omega) | refine tl_sk rfl rfl rfl rfl ?_ | refine tl_qg rfl rfl (y_lss rfl rfl) rfl ?_ | refine tl_su rfl rfl rfl ?_)))
     all_goals (first | refine tl_q (y_pick_t rfl rfl) rfl ?_ | refine tl_q (y_pick_f rfl rfl) rfl ?_)
     all_goals refine tl_q (y_move rfl) rfl ?_
     all_goals (first | refine tl_sk rfl rfl rfl rfl ?_ | refine tl_qg rfl rfl (y_move rfl) rfl ?_ | refine tl_su rfl rfl rfl ?_ | (refine tl_gs rfl rfl (fun hc => ?_) (fun hc => ?_) <;> (try simp only [decide_eq_true_eq, decide_eq_false_iff_not, Int.not_lt, Int.not_le, Bool.not_eq_true', Bool.not_eq_false', Decidable.not_not, not_true_eq_false] at hc) <;> (first | (exfalso; omega) | refine tl_sk rfl rfl rfl rfl ?_ | refine tl_qg rfl rfl (y_move rfl) rfl ?_ | refine tl_su rfl rfl rfl ?_)))
     all_goals (first | refine tl_sk rfl rfl rfl rfl ?_ | refine tl_qg rfl rfl (y_field rfl) rfl ?_ | refine tl_su rfl rfl rfl ?_ | (refine tl_gs rfl rfl (fun hc => ?_) (fun hc => ?_) <;> (try simp only [decide_eq_true_eq, decide_eq_false_iff_not, Int.not_lt, Int.not_le, Bool.not_eq_true', Bool.not_eq_false', Decidable.not_not, not_true_eq_false] at hc) <;> (first | (exfalso; omega) | refine tl_sk rfl rfl rfl rfl ?_ | refine tl_qg rfl rfl (y_field rfl) rfl ?_ | refine tl_su rfl rfl rfl ?_)))
     all_goals (first | refine tl_sk rfl rfl rfl rfl ?_ | refine tl_qg rfl rfl (y_load1 rfl (by repeat constructor) (by rfl)) rfl ?_ | refine tl_qg rfl rfl (y_load1f rfl (hl4.at (by repeat constructor)) (MI.m (by repeat constructor)) (by simp) (by rfl)) rfl ?_ | refine tl_su rfl rfl rfl ?_ | (refine tl_gs rfl rfl (fun hc => ?_) (fun hc => ?_) <;> (try simp only [decide_eq_true_eq, decide_eq_false_iff_not, Int.not_lt, Int.not_le, Bool.not_eq_true', Bool.not_eq_false', Decidable.not_not, not_true_eq_false] at hc) <;> (first | (exfalso; omega) | refine tl_sk rfl rfl rfl rfl ?_ | refine tl_qg rfl rfl (y_load1 rfl (by repeat constructor) (by rfl)) rfl ?_ | refine tl_qg rfl rfl (y_load1f rfl (hl4.at (by repeat constructor)) (MI.m (by repeat constructor)) (by simp) (by rfl)) rfl ?_ | refine tl_su rfl rfl rfl ?_)))
     all_goals (first | refine tl_sk rfl rfl rfl rfl ?_ | refine tl_qg rfl rfl (y_field rfl) rfl ?_ | refine tl_su rfl rfl rfl ?_ | (refine tl_gs rfl rfl (fun hc => ?_) (fun hc => ?_) <;> (try simp only [decide_eq_true_eq, decide_eq_false_iff_not, Int.not_lt, Int.not_le, Bool.not_eq_true', Bool.not_eq_false', Decidable.not_not, not_true_eq_false] at hc) <;> (first | (exfalso; omega) | refine tl_sk rfl rfl rfl rfl ?_ | refine tl_qg rfl rfl (y_field rfl) rfl ?_ | refine tl_su rfl rfl rfl ?_)))
     all_goals (first | refine tl_sk rfl rfl rfl rfl ?_ | refine tl_qg rfl rfl (y_load1 rfl (by repeat constructor) (by rfl)) rfl ?_ | refine tl_qg rfl rfl (y_load1f rfl (hl4.at (by repeat constructor)) (MI.m (by repeat constructor)) (by simp) (by rfl)) rfl ?_ | refine tl_su rfl rfl rfl ?_ | (refine tl_gs rfl rfl (fun hc => ?_) (fun hc => ?_) <;> (try simp only [decide_eq_true_eq, decide_eq_false_iff_not, Int.not_lt, Int.not_le, Bool.not_eq_true', Bool.not_eq_false', Decidable.not_not, not_true_eq_false] at hc) <;> (first | (exfalso; omega) | refine tl_sk rfl rfl rfl rfl ?_ | refine tl_qg rfl rfl (y_load1 rfl (by repeat constructor) (by rfl)) rfl ?_ | refine tl_qg rfl rfl (y_load1f rfl (hl4.at (by repeat constructor)) (MI.m (by repeat constructor)) (by simp) (by rfl)) rfl ?_ | refine tl_su rfl rfl rfl ?_)))
     all_goals (first | refine tl_sk rfl rfl rfl rfl ?_ | refine tl_qg rfl rfl (y_sub rfl rfl (by omega)) rfl ?_ | refine tl_su rfl rfl rfl ?_ | (refine tl_gs rfl rfl (fun hc => ?_) (fun hc => ?_) <;> (try simp only [decide_eq_true_eq, decide_eq_false_iff_not, Int.not_lt, Int.not_le, Bool.not_eq_true', Bool.not_eq_false', Decidable.not_not, not_true_eq_false] at hc) <;> (first | (exfalso; omega) | refine tl_sk rfl rfl rfl rfl ?_ | refine tl_qg rfl rfl (y_sub rfl rfl (by omega)) rfl ?_ | refine tl_su rfl rfl rfl ?_)))
     all_goals (first | refine tl_sk rfl rfl rfl rfl ?_ | refine tl_qg rfl rfl (y_add rfl rfl (by omega)) rfl ?_ | refine tl_su rfl rfl rfl ?_ | (refine tl_gs rfl rfl (fun hc => ?_) (fun hc => ?_) <;> (try simp only [decide_eq_true_eq, decide_eq_false_iff_not, Int.not_lt, Int.not_le, Bool.not_eq_true', Bool.not_eq_false', Decidable.not_not, not_true_eq_false] at hc) <;> (first | (exfalso; omega) | refine tl_sk rfl rfl rfl rfl ?_ | refine tl_qg rfl rfl (y_add rfl rfl (by omega)) rfl ?_ | refine tl_su rfl rfl rfl ?_)))
     all_goals (first | refine tl_sk rfl rfl rfl rfl ?_ | refine tl_qg rfl rfl (y_gtr rfl rfl) rfl ?_ | refine tl_su rfl rfl rfl ?_ | (refine tl_gs rfl rfl (fun hc => ?_) (fun hc => ?_) <;> (try simp only [decide_eq_true_eq, decide_eq_false_iff_not, Int.not_lt, Int.not_le, Bool.not_eq_true', Bool.not_eq_false', Decidable.not_not, not_true_eq_false] at hc) <;> (first | (exfalso; omega) | refine tl_sk rfl rfl rfl rfl ?_ | refine tl_qg rfl rfl (y_gtr rfl rfl) rfl ?_ | refine tl_su rfl rfl rfl ?_)))
     all_goals (first | refine tl_q (y_pick_t rfl rfl) rfl ?_ | refine tl_q (y_pick_f rfl rfl) rfl ?_)
     all_goals refine tl_nil ?_
     all_goals (refine hK9 ?_; try (clear hK9; clear K9))
     all_goals (
      refine tc_cond rfl (fun hc => ?_) (fun hc => ?_)
      · try simp only [decide_eq_true_eq, decide_eq_false_iff_not, Int.not_lt, Int.not_le, Bool.not_eq_true', Bool.not_eq_false', Decidable.not_not, not_true_eq_false] at hc
        all_goals first | (exfalso; with_reducible exact bft hc) | (exfalso; with_reducible exact btf hc) | (exfalso; omega) | skip
        all_goals refine tc_seq fun K10 hK10 => ?_
        all_goals refine tc_lay ([]) (SB.s (by repeat constructor)) (fun wl7 hl7 => ?_)
        all_goals refine tc_region ?_
        all_goals refine tl_q (y_assign rfl) rfl ?_
        all_goals refine tl_nil ?_
        all_goals (refine hK10 ?_; try (clear hK10; clear K10))
        all_goals refine tc_ret ?_
        all_goals (repeat (first | refine tk_then_ret ?_ | refine tk_block_ret ?_ | refine tk_scope_ret ?_))
        all_goals first | refine tk_ret rfl rfl (.cons (.tmp rfl) .nil) ?_ | refine tk_retM rfl (by repeat constructor) rfl (.cons (.tmp rfl) .nil) ?_
        all_goals (
         refine fun w' hw' => ⟨?_, hw'.fr (w0 := w) (S := []) (MI.m (by repeat constructor))⟩
         first
         | rfl
         | (exfalso; omega))
      · try simp only [decide_eq_true_eq, decide_eq_false_iff_not, Int.not_lt, Int.not_le, Bool.not_eq_true', Bool.not_eq_false', Decidable.not_not, not_true_eq_false] at hc
        all_goals first | (exfalso; with_reducible exact bft hc) | (exfalso; with_reducible exact btf hc) | (exfalso; omega) | skip
        all_goals refine tc_skip ?_
        all_goals (refine hK8 ?_; try (clear hK8; clear K8))
        all_goals refine tc_seq fun K11 hK11 => ?_
        all_goals refine tc_lay ([]) (SB.s (by repeat constructor)) (fun wl8 hl8 => ?_)
        all_goals refine tc_draw (by kernel_rfl) ?_
        all_goals (first | refine tx_qS 0 rfl (by kernel_rfl) (y_loadW rfl (by repeat constructor) (by rfl)) rfl (fun _ _ _ h => h) (fun _ h => h.subl (SB.s (by repeat constructor)) (SB.s (by repeat constructor))) ?_ | refine tx_qS 0 rfl (by kernel_rfl) (y_loadN rfl (by repeat constructor) (by (repeat (first | exact .nil | apply CA.cons rfl)); done)) rfl (fun _ _ _ h => h) (fun _ h => h.subl (SB.s (by repeat constructor)) (SB.s (by repeat constructor))) ?_ | refine tx_qS 0 rfl (by kernel_rfl) (y_loadWf rfl (hl1.at (by repeat constructor)) (MI.m (by repeat constructor)) (by simp) (by rfl)) rfl (fun _ _ _ h => h) (fun _ h => h.subl (SB.s (by repeat constructor)) (SB.s (by repeat constructor))) ?_ | refine tx_qS 0 rfl (by kernel_rfl) (y_load1f rfl (hl1.at (by repeat constructor)) (MI.m (by repeat constructor)) (by simp) (by rfl)) rfl (fun _ _ _ h => h) (fun _ h => h.subl (SB.s (by repeat constructor)) (SB.s (by repeat constructor))) ?_)
        all_goals refine tx_p 2 rfl (by kernel_rfl) (y_move rfl) rfl (fun _ _ _ h => h) (fun _ h => h.subl (SB.s (by repeat constructor)) (SB.s (by repeat constructor))) ?_
        all_goals (first | refine tx_qS 3 rfl (by kernel_rfl) (y_loadW rfl (by repeat constructor) (by rfl)) rfl (fun _ _ _ h => h) (fun _ h => h.subl (SB.s (by repeat constructor)) (SB.s (by repeat constructor))) ?_ | refine tx_qS 3 rfl (by kernel_rfl) (y_loadN rfl (by repeat constructor) (by (repeat (first | exact .nil | apply CA.cons rfl)); done)) rfl (fun _ _ _ h => h) (fun _ h => h.subl (SB.s (by repeat constructor)) (SB.s (by repeat constructor))) ?_ | refine tx_qS 3 rfl (by kernel_rfl) (y_loadWf rfl (hl1.at (by repeat constructor)) (MI.m (by repeat constructor)) (by simp) (by rfl)) rfl (fun _ _ _ h => h) (fun _ h => h.subl (SB.s (by repeat constructor)) (SB.s (by repeat constructor))) ?_ | refine tx_qS 3 rfl (by kernel_rfl) (y_load1f rfl (hl1.at (by repeat constructor)) (MI.m (by repeat constructor)) (by simp) (by rfl)) rfl (fun _ _ _ h => h) (fun _ h => h.subl (SB.s (by repeat constructor)) (SB.s (by repeat constructor))) ?_)
        all_goals refine tx_p 4 rfl (by kernel_rfl) (y_move rfl) rfl (fun _ _ _ h => h) (fun _ h => h.subl (SB.s (by repeat constructor)) (SB.s (by repeat constructor))) ?_
        all_goals refine tx_p 5 rfl (by kernel_rfl) (y_move rfl) rfl (fun _ _ _ h => h) (fun _ h => h.subl (SB.s (by repeat constructor)) (SB.s (by repeat constructor))) ?_
        all_goals refine tx_p 6 rfl (by kernel_rfl) (y_move rfl) rfl (fun _ _ _ h => h) (fun _ h => h.subl (SB.s (by repeat constructor)) (SB.s (by repeat constructor))) ?_
        all_goals (first | refine tx_p 7 rfl (by kernel_rfl) (y_conv64 rfl (by omega)) rfl (fun _ _ _ h => h) (fun _ h => h.subl (SB.s (by repeat constructor)) (SB.s (by repeat constructor))) ?_ | refine tx_p 7 rfl (by kernel_rfl) (y_conv rfl (by simp only [IntKind.wrap, IntKind.bits, IntKind.signed, Bool.false_and, Bool.true_and, Bool.false_eq_true, if_false, decide_eq_true_eq]; omega)) rfl (fun _ _ _ h => h) (fun _ h => h.subl (SB.s (by repeat constructor)) (SB.s (by repeat constructor))) ?_)
        all_goals (
         refine tx_pair 1 13 (by kernel_rfl) ?_ ?_
         rotate_left
         focus (
          (first | refine to_e rfl rfl (e_allocN rfl) (.inr ⟨fun _ _ h => h.subl (SB.s (by repeat constructor)) (SB.s (by repeat constructor)), fun _ h => h⟩) (fun b18 _ => ?_))
          all_goals refine tx_single 1 (by kernel_rfl) (to_e rfl rfl (e_callX rfl (.cons rfl .nil) (fun w' hw' => spindle_c s (by omega) _ w' (hr0.fr (hw'.fr (w0 := w) (S := []) (MI.m (by repeat constructor)))))) (.inr ⟨fun _ _ h => h.subl (SB.s (by repeat constructor)) (SB.s (by repeat constructor)), fun _ h => h⟩) (fun y hy => ?_))
          all_goals refine tx_single 8 (by kernel_rfl) (to_e rfl rfl (e_callV rfl (.cons rfl (.cons rfl (.cons rfl (.cons rfl .nil)))) (fun w' hw' => seen_v s hs k d wn hk.1 hk.2 (by omega) (by omega) hw.1 hq _ w' (hr0.fr (hw'.fr (w0 := w) (S := []) (MI.m (by repeat constructor)))))) (.inr ⟨fun _ _ h => h.subl (SB.s (by repeat constructor)) (SB.s (by repeat constructor)), fun _ h => h⟩) (fun _ _ => ?_))
          all_goals (first | refine tx_single 9 (by kernel_rfl) (to_e rfl rfl (e_callV rfl (.cons rfl (.cons rfl (.cons rfl .nil))) (fun w' hw' => mean_v s (nb9 (by omega)) k q hM _ w' (hy.1.fr (hw'.calm hy.2 (MI.m (by repeat constructor)) (SB.s (by repeat constructor)))))) (.inr ⟨fun _ _ h => h.subl (SB.s (by repeat constructor)) (SB.s (by repeat constructor)), fun _ h => h⟩) (fun _ _ => ?_)) | refine tx_single 9 (by kernel_rfl) (to_e rfl rfl (e_callV rfl (.cons rfl (.cons rfl (.cons rfl .nil))) (fun w' hw' => mean_v s (nb9 (by omega)) i _ hMj _ w' (hz.1.fr (hw'.fr (MI.m (by repeat constructor)))))) (.inr ⟨fun _ _ h => h.subl (SB.s (by repeat constructor)) (SB.s (by repeat constructor)), fun _ h => h⟩) (fun _ _ => ?_)))
          all_goals refine tx_p 10 rfl (by kernel_rfl) (y_move rfl) rfl (fun _ _ _ h => h) (fun _ h => h.subl (SB.s (by repeat constructor)) (SB.s (by repeat constructor))) ?_
          all_goals refine tx_p 11 rfl (by kernel_rfl) (y_extract rfl rfl) rfl (fun _ _ _ h => h) (fun _ h => h.subl (SB.s (by repeat constructor)) (SB.s (by repeat constructor))) ?_
          all_goals refine tx_p 12 rfl (by kernel_rfl) (y_extract rfl rfl) rfl (fun _ _ _ h => h) (fun _ h => h.subl (SB.s (by repeat constructor)) (SB.s (by repeat constructor))) ?_
          all_goals refine tx_single 14 (by kernel_rfl) (to_e (S' := HG [] []) rfl rfl (e_storeW rfl rfl (by repeat constructor) (by rfl) (by rfl) (by simp [Value.oneCell'])) (.inl (by kernel_rfl)) (fun _ _ => ?_))
          all_goals refine tx_p 15 rfl (by kernel_rfl) (y_assign rfl) rfl (fun _ _ _ h => h) (fun _ h => h.subl (SB.s (by repeat constructor)) (SB.s (by repeat constructor))) ?_
          all_goals refine tx_done (by kernel_rfl) ?_)
         rotate_right
         focus (
          (first | refine to_e rfl rfl (e_callX rfl (.cons rfl .nil) (fun w' hw' => spindle_c s (by omega) _ w' (hr0.fr (hw'.fr (w0 := w) (S := []) (MI.m (by repeat constructor)))))) (.inr ⟨fun _ _ h => h.subl (SB.s (by repeat constructor)) (SB.s (by repeat constructor)), fun _ h => h⟩) (fun y hy => ?_))
          all_goals (
           refine tx_pair 8 13 (by kernel_rfl) ?_ ?_
           rotate_left
           focus (
            (first | refine to_e rfl rfl (e_allocN rfl) (.inr ⟨fun _ _ h => h.subl (SB.s (by repeat constructor)) (SB.s (by repeat constructor)), fun _ h => h⟩) (fun b18 _ => ?_))
            all_goals refine tx_single 8 (by kernel_rfl) (to_e rfl rfl (e_callV rfl (.cons rfl (.cons rfl (.cons rfl (.cons rfl .nil)))) (fun w' hw' => seen_v s hs k d wn hk.1 hk.2 (by omega) (by omega) hw.1 hq _ w' (hr0.fr (hw'.fr (w0 := w) (S := []) (MI.m (by repeat constructor)))))) (.inr ⟨fun _ _ h => h.subl (SB.s (by repeat constructor)) (SB.s (by repeat constructor)), fun _ h => h⟩) (fun _ _ => ?_))
            all_goals (first | refine tx_single 9 (by kernel_rfl) (to_e rfl rfl (e_callV rfl (.cons rfl (.cons rfl (.cons rfl .nil))) (fun w' hw' => mean_v s (nb9 (by omega)) k q hM _ w' (hy.1.fr (hw'.calm hy.2 (MI.m (by repeat constructor)) (SB.s (by repeat constructor)))))) (.inr ⟨fun _ _ h => h.subl (SB.s (by repeat constructor)) (SB.s (by repeat constructor)), fun _ h => h⟩) (fun _ _ => ?_)) | refine tx_single 9 (by kernel_rfl) (to_e rfl rfl (e_callV rfl (.cons rfl (.cons rfl (.cons rfl .nil))) (fun w' hw' => mean_v s (nb9 (by omega)) i _ hMj _ w' (hz.1.fr (hw'.fr (MI.m (by repeat constructor)))))) (.inr ⟨fun _ _ h => h.subl (SB.s (by repeat constructor)) (SB.s (by repeat constructor)), fun _ h => h⟩) (fun _ _ => ?_)))
            all_goals refine tx_p 10 rfl (by kernel_rfl) (y_move rfl) rfl (fun _ _ _ h => h) (fun _ h => h.subl (SB.s (by repeat constructor)) (SB.s (by repeat constructor))) ?_
            all_goals refine tx_p 11 rfl (by kernel_rfl) (y_extract rfl rfl) rfl (fun _ _ _ h => h) (fun _ h => h.subl (SB.s (by repeat constructor)) (SB.s (by repeat constructor))) ?_
            all_goals refine tx_p 12 rfl (by kernel_rfl) (y_extract rfl rfl) rfl (fun _ _ _ h => h) (fun _ h => h.subl (SB.s (by repeat constructor)) (SB.s (by repeat constructor))) ?_
            all_goals refine tx_single 14 (by kernel_rfl) (to_e (S' := HG [] []) rfl rfl (e_storeW rfl rfl (by repeat constructor) (by rfl) (by rfl) (by simp [Value.oneCell'])) (.inl (by kernel_rfl)) (fun _ _ => ?_))
            all_goals refine tx_p 15 rfl (by kernel_rfl) (y_assign rfl) rfl (fun _ _ _ h => h) (fun _ h => h.subl (SB.s (by repeat constructor)) (SB.s (by repeat constructor))) ?_
            all_goals refine tx_done (by kernel_rfl) ?_)
           rotate_right
           focus (
            (first | refine to_e rfl rfl (e_callV rfl (.cons rfl (.cons rfl (.cons rfl (.cons rfl .nil)))) (fun w' hw' => seen_v s hs k d wn hk.1 hk.2 (by omega) (by omega) hw.1 hq _ w' (hr0.fr (hw'.fr (w0 := w) (S := []) (MI.m (by repeat constructor)))))) (.inr ⟨fun _ _ h => h.subl (SB.s (by repeat constructor)) (SB.s (by repeat constructor)), fun _ h => h⟩) (fun _ _ => ?_))
            all_goals (
             refine tx_pair 9 13 (by kernel_rfl) ?_ ?_
             rotate_left
             focus (
              (first | refine to_e rfl rfl (e_allocN rfl) (.inr ⟨fun _ _ h => h.subl (SB.s (by repeat constructor)) (SB.s (by repeat constructor)), fun _ h => h⟩) (fun b18 _ => ?_))
              all_goals (first | refine tx_single 9 (by kernel_rfl) (to_e rfl rfl (e_callV rfl (.cons rfl (.cons rfl (.cons rfl .nil))) (fun w' hw' => mean_v s (nb9 (by omega)) k q hM _ w' (hy.1.fr (hw'.calm hy.2 (MI.m (by repeat constructor)) (SB.s (by repeat constructor)))))) (.inr ⟨fun _ _ h => h.subl (SB.s (by repeat constructor)) (SB.s (by repeat constructor)), fun _ h => h⟩) (fun _ _ => ?_)) | refine tx_single 9 (by kernel_rfl) (to_e rfl rfl (e_callV rfl (.cons rfl (.cons rfl (.cons rfl .nil))) (fun w' hw' => mean_v s (nb9 (by omega)) i _ hMj _ w' (hz.1.fr (hw'.fr (MI.m (by repeat constructor)))))) (.inr ⟨fun _ _ h => h.subl (SB.s (by repeat constructor)) (SB.s (by repeat constructor)), fun _ h => h⟩) (fun _ _ => ?_)))
              all_goals refine tx_p 10 rfl (by kernel_rfl) (y_move rfl) rfl (fun _ _ _ h => h) (fun _ h => h.subl (SB.s (by repeat constructor)) (SB.s (by repeat constructor))) ?_
              all_goals refine tx_p 11 rfl (by kernel_rfl) (y_extract rfl rfl) rfl (fun _ _ _ h => h) (fun _ h => h.subl (SB.s (by repeat constructor)) (SB.s (by repeat constructor))) ?_
              all_goals refine tx_p 12 rfl (by kernel_rfl) (y_extract rfl rfl) rfl (fun _ _ _ h => h) (fun _ h => h.subl (SB.s (by repeat constructor)) (SB.s (by repeat constructor))) ?_
              all_goals refine tx_single 14 (by kernel_rfl) (to_e (S' := HG [] []) rfl rfl (e_storeW rfl rfl (by repeat constructor) (by rfl) (by rfl) (by simp [Value.oneCell'])) (.inl (by kernel_rfl)) (fun _ _ => ?_))
              all_goals refine tx_p 15 rfl (by kernel_rfl) (y_assign rfl) rfl (fun _ _ _ h => h) (fun _ h => h.subl (SB.s (by repeat constructor)) (SB.s (by repeat constructor))) ?_
              all_goals refine tx_done (by kernel_rfl) ?_)
             rotate_right
             focus (
              (first | refine to_e rfl rfl (e_callV rfl (.cons rfl (.cons rfl (.cons rfl .nil))) (fun w' hw' => mean_v s (nb9 (by omega)) k q hM _ w' (hy.1.fr (hw'.calm hy.2 (MI.m (by repeat constructor)) (SB.s (by repeat constructor)))))) (.inr ⟨fun _ _ h => h.subl (SB.s (by repeat constructor)) (SB.s (by repeat constructor)), fun _ h => h⟩) (fun _ _ => ?_) | refine to_e rfl rfl (e_callV rfl (.cons rfl (.cons rfl (.cons rfl .nil))) (fun w' hw' => mean_v s (nb9 (by omega)) i _ hMj _ w' (hz.1.fr (hw'.fr (MI.m (by repeat constructor)))))) (.inr ⟨fun _ _ h => h.subl (SB.s (by repeat constructor)) (SB.s (by repeat constructor)), fun _ h => h⟩) (fun _ _ => ?_))
              all_goals refine tx_p 10 rfl (by kernel_rfl) (y_move rfl) rfl (fun _ _ _ h => h) (fun _ h => h.subl (SB.s (by repeat constructor)) (SB.s (by repeat constructor))) ?_
              all_goals refine tx_p 11 rfl (by kernel_rfl) (y_extract rfl rfl) rfl (fun _ _ _ h => h) (fun _ h => h.subl (SB.s (by repeat constructor)) (SB.s (by repeat constructor))) ?_
              all_goals refine tx_p 12 rfl (by kernel_rfl) (y_extract rfl rfl) rfl (fun _ _ _ h => h) (fun _ h => h.subl (SB.s (by repeat constructor)) (SB.s (by repeat constructor))) ?_
              all_goals refine tx_single 13 (by kernel_rfl) (to_e rfl rfl (e_allocN rfl) (.inr ⟨fun _ _ h => h.subl (SB.s (by repeat constructor)) (SB.s (by repeat constructor)), fun _ h => h⟩) (fun b18 _ => ?_))
              all_goals refine tx_single 14 (by kernel_rfl) (to_e (S' := HG [] []) rfl rfl (e_storeW rfl rfl (by repeat constructor) (by rfl) (by rfl) (by simp [Value.oneCell'])) (.inl (by kernel_rfl)) (fun _ _ => ?_))
              all_goals refine tx_p 15 rfl (by kernel_rfl) (y_assign rfl) rfl (fun _ _ _ h => h) (fun _ h => h.subl (SB.s (by repeat constructor)) (SB.s (by repeat constructor))) ?_
              all_goals refine tx_done (by kernel_rfl) ?_))))))
        all_goals (refine hK11 ?_; try (clear hK11; clear K11))
        all_goals refine tc_seq fun K12 hK12 => ?_
        all_goals refine tc_seq fun K13 hK13 => ?_
        all_goals refine tc_lay ([]) (SB.s (by repeat constructor)) (fun wl9 hl9 => ?_)
        all_goals refine tc_region ?_
        all_goals refine tl_q (y_move rfl) rfl ?_
        all_goals refine tl_q (y_neq rfl rfl) rfl ?_
        all_goals refine tl_q (y_move rfl) rfl ?_
        all_goals (first | refine tl_sk rfl rfl rfl rfl ?_ | refine tl_qg rfl rfl (y_move rfl) rfl ?_ | refine tl_su rfl rfl rfl ?_ | (refine tl_gs rfl rfl (fun hc => ?_) (fun hc => ?_) <;> (try simp only [decide_eq_true_eq, decide_eq_false_iff_not, Int.not_lt, Int.not_le, Bool.not_eq_true', Bool.not_eq_false', Decidable.not_not, not_true_eq_false] at hc) <;> (first | (exfalso; omega) | refine tl_sk rfl rfl rfl rfl ?_ | refine tl_qg rfl rfl (y_move rfl) rfl ?_ | refine tl_su rfl rfl rfl ?_)))
        all_goals (first | refine tl_sk rfl rfl rfl rfl ?_ | refine tl_qg rfl rfl (y_field rfl) rfl ?_ | refine tl_su rfl rfl rfl ?_ | (refine tl_gs rfl rfl (fun hc => ?_) (fun hc => ?_) <;> (try simp only [decide_eq_true_eq, decide_eq_false_iff_not, Int.not_lt, Int.not_le, Bool.not_eq_true', Bool.not_eq_false', Decidable.not_not, not_true_eq_false] at hc) <;> (first | (exfalso; omega) | refine tl_sk rfl rfl rfl rfl ?_ | refine tl_qg rfl rfl (y_field rfl) rfl ?_ | refine tl_su rfl rfl rfl ?_)))
        all_goals (first | refine tl_sk rfl rfl rfl rfl ?_ | refine tl_qg rfl rfl (y_load1 rfl (by repeat constructor) (by rfl)) rfl ?_ | refine tl_qg rfl rfl (y_load1f rfl (hl9.at (by repeat constructor)) (MI.m (by repeat constructor)) (by simp) (by rfl)) rfl ?_ | refine tl_su rfl rfl rfl ?_ | (refine tl_gs rfl rfl (fun hc => ?_) (fun hc => ?_) <;> (try simp only [decide_eq_true_eq, decide_eq_false_iff_not, Int.not_lt, Int.not_le, Bool.not_eq_true', Bool.not_eq_false', Decidable.not_not, not_true_eq_false] at hc) <;> (first | (exfalso; omega) | refine tl_sk rfl rfl rfl rfl ?_ | refine tl_qg rfl rfl (y_load1 rfl (by repeat constructor) (by rfl)) rfl ?_ | refine tl_qg rfl rfl (y_load1f rfl (hl9.at (by repeat constructor)) (MI.m (by repeat constructor)) (by simp) (by rfl)) rfl ?_ | refine tl_su rfl rfl rfl ?_)))
        all_goals (first | refine tl_sk rfl rfl rfl rfl ?_ | refine tl_qg rfl rfl (y_lss rfl rfl) rfl ?_ | refine tl_su rfl rfl rfl ?_ | (refine tl_gs rfl rfl (fun hc => ?_) (fun hc => ?_) <;> (try simp only [decide_eq_true_eq, decide_eq_false_iff_not, Int.not_lt, Int.not_le, Bool.not_eq_true', Bool.not_eq_false', Decidable.not_not, not_true_eq_false] at hc) <;> (first | (exfalso; omega) | refine tl_sk rfl rfl rfl rfl ?_ | refine tl_qg rfl rfl (y_lss rfl rfl) rfl ?_ | refine tl_su rfl rfl rfl ?_)))
        all_goals (first | refine tl_q (y_pick_t rfl rfl) rfl ?_ | refine tl_q (y_pick_f rfl rfl) rfl ?_)
        all_goals refine tl_q (y_move rfl) rfl ?_
        all_goals (first | refine tl_sk rfl rfl rfl rfl ?_ | refine tl_qg rfl rfl (y_move rfl) rfl ?_ | refine tl_su rfl rfl rfl ?_ | (refine tl_gs rfl rfl (fun hc => ?_) (fun hc => ?_) <;> (try simp only [decide_eq_true_eq, decide_eq_false_iff_not, Int.not_lt, Int.not_le, Bool.not_eq_true', Bool.not_eq_false', Decidable.not_not, not_true_eq_false] at hc) <;> (first | (exfalso; omega) | refine tl_sk rfl rfl rfl rfl ?_ | refine tl_qg rfl rfl (y_move rfl) rfl ?_ | refine tl_su rfl rfl rfl ?_)))
        all_goals (first | refine tl_sk rfl rfl rfl rfl ?_ | refine tl_qg rfl rfl (y_field rfl) rfl ?_ | refine tl_su rfl rfl rfl ?_ | (refine tl_gs rfl rfl (fun hc => ?_) (fun hc => ?_) <;> (try simp only [decide_eq_true_eq, decide_eq_false_iff_not, Int.not_lt, Int.not_le, Bool.not_eq_true', Bool.not_eq_false', Decidable.not_not, not_true_eq_false] at hc) <;> (first | (exfalso; omega) | refine tl_sk rfl rfl rfl rfl ?_ | refine tl_qg rfl rfl (y_field rfl) rfl ?_ | refine tl_su rfl rfl rfl ?_)))
        all_goals (first | refine tl_sk rfl rfl rfl rfl ?_ | refine tl_qg rfl rfl (y_load1 rfl (by repeat constructor) (by rfl)) rfl ?_ | refine tl_qg rfl rfl (y_load1f rfl (hl9.at (by repeat constructor)) (MI.m (by repeat constructor)) (by simp) (by rfl)) rfl ?_ | refine tl_su rfl rfl rfl ?_ | (refine tl_gs rfl rfl (fun hc => ?_) (fun hc => ?_) <;> (try simp only [decide_eq_true_eq, decide_eq_false_iff_not, Int.not_lt, Int.not_le, Bool.not_eq_true', Bool.not_eq_false', Decidable.not_not, not_true_eq_false] at hc) <;> (first | (exfalso; omega) | refine tl_sk rfl rfl rfl rfl ?_ | refine tl_qg rfl rfl (y_load1 rfl (by repeat constructor) (by rfl)) rfl ?_ | refine tl_qg rfl rfl (y_load1f rfl (hl9.at (by repeat constructor)) (MI.m (by repeat constructor)) (by simp) (by rfl)) rfl ?_ | refine tl_su rfl rfl rfl ?_)))
        all_goals (first | refine tl_sk rfl rfl rfl rfl ?_ | refine tl_qg rfl rfl (y_gtr rfl rfl) rfl ?_ | refine tl_su rfl rfl rfl ?_ | (refine tl_gs rfl rfl (fun hc => ?_) (fun hc => ?_) <;> (try simp only [decide_eq_true_eq, decide_eq_false_iff_not, Int.not_lt, Int.not_le, Bool.not_eq_true', Bool.not_eq_false', Decidable.not_not, not_true_eq_false] at hc) <;> (first | (exfalso; omega) | refine tl_sk rfl rfl rfl rfl ?_ | refine tl_qg rfl rfl (y_gtr rfl rfl) rfl ?_ | refine tl_su rfl rfl rfl ?_)))
        all_goals (first | refine tl_q (y_pick_t rfl rfl) rfl ?_ | refine tl_q (y_pick_f rfl rfl) rfl ?_)
        all_goals refine tl_q (y_move rfl) rfl ?_
        all_goals (first | refine tl_sk rfl rfl rfl rfl ?_ | refine tl_qg rfl rfl (y_loadW rfl (by repeat constructor) (by rfl)) rfl ?_ | refine tl_qg rfl rfl (y_loadN rfl (by repeat constructor) (by (repeat (first | exact .nil | apply CA.cons rfl)); done)) rfl ?_ | refine tl_qg rfl rfl (y_loadWf rfl (hl9.at (by repeat constructor)) (MI.m (by repeat constructor)) (by simp) (by rfl)) rfl ?_ | refine tl_qg rfl rfl (y_load1f rfl (hl9.at (by repeat constructor)) (MI.m (by repeat constructor)) (by simp) (by rfl)) rfl ?_ | refine tl_su rfl rfl rfl ?_ | (refine tl_gs rfl rfl (fun hc => ?_) (fun hc => ?_) <;> (try simp only [decide_eq_true_eq, decide_eq_false_iff_not, Int.not_lt, Int.not_le, Bool.not_eq_true', Bool.not_eq_false', Decidable.not_not, not_true_eq_false] at hc) <;> (first | (exfalso; omega) | refine tl_sk rfl rfl rfl rfl ?_ | refine tl_qg rfl rfl (y_loadW rfl (by repeat constructor) (by rfl)) rfl ?_ | refine tl_qg rfl rfl (y_loadN rfl (by repeat constructor) (by (repeat (first | exact .nil | apply CA.cons rfl)); done)) rfl ?_ | refine tl_qg rfl rfl (y_loadWf rfl (hl9.at (by repeat constructor)) (MI.m (by repeat constructor)) (by simp) (by rfl)) rfl ?_ | refine tl_qg rfl rfl (y_load1f rfl (hl9.at (by repeat constructor)) (MI.m (by repeat constructor)) (by simp) (by rfl)) rfl ?_ | refine tl_su rfl rfl rfl ?_)))
        all_goals (first | refine tl_sk rfl rfl rfl rfl ?_ | refine tl_qg rfl rfl (y_loadW rfl (by repeat constructor) (by rfl)) rfl ?_ | refine tl_qg rfl rfl (y_loadN rfl (by repeat constructor) (by (repeat (first | exact .nil | apply CA.cons rfl)); done)) rfl ?_ | refine tl_qg rfl rfl (y_loadWf rfl (hl4.at (by repeat constructor)) (MI.m (by repeat constructor)) (by simp) (by rfl)) rfl ?_ | refine tl_qg rfl rfl (y_load1f rfl (hl4.at (by repeat constructor)) (MI.m (by repeat constructor)) (by simp) (by rfl)) rfl ?_ | refine tl_su rfl rfl rfl ?_ | (refine tl_gs rfl rfl (fun hc => ?_) (fun hc => ?_) <;> (try simp only [decide_eq_true_eq, decide_eq_false_iff_not, Int.not_lt, Int.not_le, Bool.not_eq_true', Bool.not_eq_false', Decidable.not_not, not_true_eq_false] at hc) <;> (first | (exfalso; omega) | refine tl_sk rfl rfl rfl rfl ?_ | refine tl_qg rfl rfl (y_loadW rfl (by repeat constructor) (by rfl)) rfl ?_ | refine tl_qg rfl rfl (y_loadN rfl (by repeat constructor) (by (repeat (first | exact .nil | apply CA.cons rfl)); done)) rfl ?_ | refine tl_qg rfl rfl (y_loadWf rfl (hl4.at (by repeat constructor)) (MI.m (by repeat constructor)) (by simp) (by rfl)) rfl ?_ | refine tl_qg rfl rfl (y_load1f rfl (hl4.at (by repeat constructor)) (MI.m (by repeat constructor)) (by simp) (by rfl)) rfl ?_ | refine tl_su rfl rfl rfl ?_)))
        all_goals (first | refine tl_sk rfl rfl rfl rfl ?_ | refine tl_eg rfl rfl rfl (e_callV rfl (.cons rfl (.cons rfl .nil)) (fun w' _ => fitting_c (m1, m2) (r1, r2) (by dsimp only; omega) (by dsimp only; omega) (by dsimp only; omega) (by dsimp only; omega) w')) (fun _ _ => ?_) | refine tl_eg rfl rfl rfl (e_callV rfl (.cons rfl (.cons rfl .nil)) (fun w' _ => fitting_c (x1, x2) (r1, r2) (by dsimp only; omega) (by dsimp only; omega) (by dsimp only; omega) (by dsimp only; omega) w')) (fun _ _ => ?_) | refine tl_su rfl rfl rfl ?_ | (refine tl_gs rfl rfl (fun hc => ?_) (fun hc => ?_) <;> (try simp only [decide_eq_true_eq, decide_eq_false_iff_not, Int.not_lt, Int.not_le, Bool.not_eq_true', Bool.not_eq_false', Decidable.not_not, not_true_eq_false] at hc) <;> (first | (exfalso; omega) | refine tl_sk rfl rfl rfl rfl ?_ | refine tl_eg rfl rfl rfl (e_callV rfl (.cons rfl (.cons rfl .nil)) (fun w' _ => fitting_c (m1, m2) (r1, r2) (by dsimp only; omega) (by dsimp only; omega) (by dsimp only; omega) (by dsimp only; omega) w')) (fun _ _ => ?_) | refine tl_eg rfl rfl rfl (e_callV rfl (.cons rfl (.cons rfl .nil)) (fun w' _ => fitting_c (x1, x2) (r1, r2) (by dsimp only; omega) (by dsimp only; omega) (by dsimp only; omega) (by dsimp only; omega) w')) (fun _ _ => ?_) | refine tl_su rfl rfl rfl ?_)))
        all_goals (first | refine tl_sk rfl rfl rfl rfl ?_ | refine tl_qg rfl rfl (y_move rfl) rfl ?_ | refine tl_su rfl rfl rfl ?_ | (refine tl_gs rfl rfl (fun hc => ?_) (fun hc => ?_) <;> (try simp only [decide_eq_true_eq, decide_eq_false_iff_not, Int.not_lt, Int.not_le, Bool.not_eq_true', Bool.not_eq_false', Decidable.not_not, not_true_eq_false] at hc) <;> (first | (exfalso; omega) | refine tl_sk rfl rfl rfl rfl ?_ | refine tl_qg rfl rfl (y_move rfl) rfl ?_ | refine tl_su rfl rfl rfl ?_)))
        all_goals (first | refine tl_sk rfl rfl rfl rfl ?_ | refine tl_qg rfl rfl (y_gtr rfl rfl) rfl ?_ | refine tl_su rfl rfl rfl ?_ | (refine tl_gs rfl rfl (fun hc => ?_) (fun hc => ?_) <;> (try simp only [decide_eq_true_eq, decide_eq_false_iff_not, Int.not_lt, Int.not_le, Bool.not_eq_true', Bool.not_eq_false', Decidable.not_not, not_true_eq_false] at hc) <;> (first | (exfalso; omega) | refine tl_sk rfl rfl rfl rfl ?_ | refine tl_qg rfl rfl (y_gtr rfl rfl) rfl ?_ | refine tl_su rfl rfl rfl ?_)))
        all_goals (first | refine tl_q (y_pick_t rfl rfl) rfl ?_ | refine tl_q (y_pick_f rfl rfl) rfl ?_)
        all_goals refine tl_nil ?_
        all_goals (refine hK13 ?_; try (clear hK13; clear K13))
        all_goals (
         refine tc_cond rfl (fun hc => ?_) (fun hc => ?_)
         · try simp only [decide_eq_true_eq, decide_eq_false_iff_not, Int.not_lt, Int.not_le, Bool.not_eq_true', Bool.not_eq_false', Decidable.not_not, not_true_eq_false] at hc
           all_goals first | (exfalso; with_reducible exact bft hc) | (exfalso; with_reducible exact btf hc) | (exfalso; omega) | skip
           all_goals refine tc_seq fun K14 hK14 => ?_
           all_goals refine tc_lay ([]) (SB.s (by repeat constructor)) (fun wl10 hl10 => ?_)
           all_goals refine tc_region ?_
           all_goals refine tl_q (y_assign rfl) rfl ?_
           all_goals refine tl_nil ?_
           all_goals (refine hK14 ?_; try (clear hK14; clear K14))
           all_goals refine tc_ret ?_
           all_goals (repeat (first | refine tk_then_ret ?_ | refine tk_block_ret ?_ | refine tk_scope_ret ?_))
           all_goals first | refine tk_ret rfl rfl (.cons (.tmp rfl) .nil) ?_ | refine tk_retM rfl (by repeat constructor) rfl (.cons (.tmp rfl) .nil) ?_
           all_goals (
            refine fun w' hw' => ⟨?_, hw'.fr (w0 := w) (S := []) (MI.m (by repeat constructor))⟩
            first
            | rfl
            | (exfalso; omega))
         · try simp only [decide_eq_true_eq, decide_eq_false_iff_not, Int.not_lt, Int.not_le, Bool.not_eq_true', Bool.not_eq_false', Decidable.not_not, not_true_eq_false] at hc
           all_goals first | (exfalso; with_reducible exact bft hc) | (exfalso; with_reducible exact btf hc) | (exfalso; omega) | skip
           all_goals refine tc_skip ?_
           all_goals (refine hK12 ?_; try (clear hK12; clear K12))
           all_goals refine tc_seq fun K15 hK15 => ?_
           all_goals refine tc_lay ([]) (SB.s (by repeat constructor)) (fun wl11 hl11 => ?_)
           all_goals refine tc_region ?_
           all_goals refine tl_q (y_move rfl) rfl ?_
           all_goals (first | refine tl_q (y_conv64 rfl (by omega)) rfl ?_ | refine tl_q (y_conv rfl (by simp only [IntKind.wrap, IntKind.bits, IntKind.signed, Bool.false_and, Bool.true_and, Bool.false_eq_true, if_false, decide_eq_true_eq]; omega)) rfl ?_)
           all_goals refine tl_q (y_field rfl) rfl ?_
           all_goals (first | refine tl_q (y_load1 rfl (by repeat constructor) (by rfl)) rfl ?_ | refine tl_q (y_load1f rfl (hl1.at (by repeat constructor)) (MI.m (by repeat constructor)) (by simp) (by rfl)) rfl ?_)
           all_goals refine tl_q (y_len rfl) rfl ?_
           all_goals refine tl_q (y_add rfl rfl (by omega)) rfl ?_
           all_goals refine tl_q (y_rem rfl rfl (by omega) (by omega)) rfl ?_
           all_goals refine tl_q (y_assign rfl) rfl ?_
           all_goals refine tl_nil ?_
           all_goals (refine hK15 ?_; try (clear hK15; clear K15))
           all_goals refine tc_seq fun K16 hK16 => ?_
           all_goals refine tc_lay ([]) (SB.s (by repeat constructor)) (fun wl12 hl12 => ?_)
           all_goals rw [← hi]
           all_goals refine tc_region ?_
           all_goals refine tl_q (y_assign rfl) rfl ?_
           all_goals refine tl_nil ?_
           all_goals (refine hK16 ?_; try (clear hK16; clear K16))
           all_goals refine tc_seq fun K17 hK17 => ?_
           all_goals refine tc_seq fun K18 hK18 => ?_
           all_goals refine tc_lay ([]) (SB.s (by repeat constructor)) (fun wl13 hl13 => ?_)
           all_goals refine tc_region ?_
           all_goals refine tl_q (y_assign rfl) rfl ?_
           all_goals refine tl_nil ?_
           all_goals (refine hK18 ?_; try (clear hK18; clear K18))
           all_goals refine tc_block ?_
           all_goals (
            refine tc_loop (fun j : Nat => j ≤ (s.divisions + 3).toNat) (fun j => [(6, ptr b6), (13, ptr b13), (15, vi k), (16, vi n), (20, vi i), (21, vi (mostN s (r1, r2) i j)), (22, vi ((j : Int) - 2))]) (fun _ => [(wl4, []), (wl1, []), (w, [])]) (fun _ => []) (fun j => (s.divisions + 3).toNat - j) ?_ ?_
            · exact tk_start 0 (Nat.zero_le _) (.cons rfl (.cons rfl (.cons rfl (.cons rfl (.cons rfl (.cons rfl (.cons rfl .nil))))))) (fun _ h => h.subl (SB.s (by repeat constructor)) (SB.s (by repeat constructor)))
            · rintro j hj
              all_goals refine tc_seq fun K19 hK19 => ?_
              all_goals refine tc_seq fun K20 hK20 => ?_
              all_goals refine tc_lay ([]) (SB.s (by repeat constructor)) (fun wl14 hl14 => ?_)
              all_goals refine tc_region ?_
              all_goals refine tl_q (y_move rfl) rfl ?_
              all_goals refine tl_q (y_field rfl) rfl ?_
              all_goals (first | refine tl_q (y_load1 rfl (by repeat constructor) (by rfl)) rfl ?_ | refine tl_q (y_load1f rfl (hl1.at (by repeat constructor)) (MI.m (by repeat constructor)) (by simp) (by rfl)) rfl ?_)
              all_goals refine tl_q (y_leq rfl rfl) rfl ?_
              all_goals refine tl_nil ?_
              all_goals (refine hK20 ?_; try (clear hK20; clear K20))
              all_goals (
               refine tc_cond rfl (fun hc => ?_) (fun hc => ?_)
               · try simp only [decide_eq_true_eq, decide_eq_false_iff_not, Int.not_lt, Int.not_le, Bool.not_eq_true', Bool.not_eq_false', Decidable.not_not, not_true_eq_false] at hc
                 all_goals first | (exfalso; with_reducible exact bft hc) | (exfalso; with_reducible exact btf hc) | (exfalso; omega) | skip
                 all_goals refine tc_skip ?_
                 all_goals (refine hK19 ?_; try (clear hK19; clear K19))
                 all_goals refine tc_seq fun K21 hK21 => ?_
                 all_goals refine tc_block ?_
                 all_goals refine tc_seq fun K22 hK22 => ?_
                 all_goals refine tc_lay ([]) (SB.s (by repeat constructor)) (fun wl16 hl16 => ?_)
                 all_goals (rcases hMj : meanE s i ((j : Int) - 2) with ⟨⟨x1, x2⟩, g⟩; have hgc := mean_step hs hib.1 hib.2 (by omega) (by omega) hMj)
                 all_goals refine tc_region ?_
                 all_goals (first | refine tl_q (y_loadW rfl (by repeat constructor) (by rfl)) rfl ?_ | refine tl_q (y_loadN rfl (by repeat constructor) (by (repeat (first | exact .nil | apply CA.cons rfl)); done)) rfl ?_ | refine tl_q (y_loadWf rfl (hl1.at (by repeat constructor)) (MI.m (by repeat constructor)) (by simp) (by rfl)) rfl ?_ | refine tl_q (y_load1f rfl (hl1.at (by repeat constructor)) (MI.m (by repeat constructor)) (by simp) (by rfl)) rfl ?_)
                 all_goals refine tl_e (e_callX rfl (.cons rfl .nil) (fun w' hw' => spindle_c s (by omega) _ w' (hr0.fr (hw'.fr (w0 := w) (S := []) (MI.m (by repeat constructor)))))) rfl (fun z hz => ?_)
                 all_goals refine tl_q (y_move rfl) rfl ?_
                 all_goals refine tl_q (y_move rfl) rfl ?_
                 all_goals (first | refine tl_e (e_callV rfl (.cons rfl (.cons rfl (.cons rfl .nil))) (fun w' hw' => mean_v s (nb9 (by omega)) k q hM _ w' (hy.1.fr (hw'.calm hy.2 (MI.m (by repeat constructor)) (SB.s (by repeat constructor)))))) rfl (fun _ _ => ?_) | refine tl_e (e_callV rfl (.cons rfl (.cons rfl (.cons rfl .nil))) (fun w' hw' => mean_v s (nb9 (by omega)) i _ hMj _ w' (hz.1.fr (hw'.fr (MI.m (by repeat constructor)))))) rfl (fun _ _ => ?_))
                 all_goals refine tl_q (y_move rfl) rfl ?_
                 all_goals refine tl_q (y_extract rfl rfl) rfl ?_
                 all_goals refine tl_q (y_extract rfl rfl) rfl ?_
                 all_goals refine tl_e (e_allocN rfl) rfl (fun b23 _ => ?_)
                 all_goals refine tl_e (e_storeW rfl rfl (by repeat constructor) (by rfl) (by rfl) (by simp [Value.oneCell'])) rfl (fun _ _ => ?_)
                 all_goals refine tl_q (y_assign rfl) rfl ?_
                 all_goals refine tl_nil ?_
                 all_goals (refine hK22 ?_; try (clear hK22; clear K22))
                 all_goals refine tc_seq fun K23 hK23 => ?_
                 all_goals refine tc_seq fun K24 hK24 => ?_
                 all_goals refine tc_lay ([]) (SB.s (by repeat constructor)) (fun wl17 hl17 => ?_)
                 all_goals refine tc_region ?_
                 all_goals refine tl_q (y_move rfl) rfl ?_
                 all_goals refine tl_q (y_neq rfl rfl) rfl ?_
                 all_goals refine tl_q (y_move rfl) rfl ?_
                 all_goals (first | refine tl_sk rfl rfl rfl rfl ?_ | refine tl_qg rfl rfl (y_move rfl) rfl ?_ | refine tl_su rfl rfl rfl ?_ | (refine tl_gs rfl rfl (fun hc => ?_) (fun hc => ?_) <;> (try simp only [decide_eq_true_eq, decide_eq_false_iff_not, Int.not_lt, Int.not_le, Bool.not_eq_true', Bool.not_eq_false', Decidable.not_not, not_true_eq_false] at hc) <;> (first | (exfalso; omega) | refine tl_sk rfl rfl rfl rfl ?_ | refine tl_qg rfl rfl (y_move rfl) rfl ?_ | refine tl_su rfl rfl rfl ?_)))
                 all_goals (first | refine tl_sk rfl rfl rfl rfl ?_ | refine tl_qg rfl rfl (y_neq rfl rfl) rfl ?_ | refine tl_su rfl rfl rfl ?_ | (refine tl_gs rfl rfl (fun hc => ?_) (fun hc => ?_) <;> (try simp only [decide_eq_true_eq, decide_eq_false_iff_not, Int.not_lt, Int.not_le, Bool.not_eq_true', Bool.not_eq_false', Decidable.not_not, not_true_eq_false] at hc) <;> (first | (exfalso; omega) | refine tl_sk rfl rfl rfl rfl ?_ | refine tl_qg rfl rfl (y_neq rfl rfl) rfl ?_ | refine tl_su rfl rfl rfl ?_)))
                 all_goals (first | refine tl_q (y_pick_t rfl rfl) rfl ?_ | refine tl_q (y_pick_f rfl rfl) rfl ?_)
                 all_goals refine tl_nil ?_
                 all_goals (refine hK24 ?_; try (clear hK24; clear K24))
                 all_goals (
                  refine tc_cond rfl (fun hc => ?_) (fun hc => ?_)
                  · try simp only [decide_eq_true_eq, decide_eq_false_iff_not, Int.not_lt, Int.not_le, Bool.not_eq_true', Bool.not_eq_false', Decidable.not_not, not_true_eq_false] at hc
                    all_goals first | (exfalso; with_reducible exact bft hc) | (exfalso; with_reducible exact btf hc) | (exfalso; omega) | skip
                    all_goals refine tc_seq fun K25 hK25 => ?_
                    all_goals refine tc_lay ([]) (SB.s (by repeat constructor)) (fun wl18 hl18 => ?_)
                    all_goals refine tc_region ?_
                    all_goals refine tl_q (y_assign rfl) rfl ?_
                    all_goals refine tl_nil ?_
                    all_goals (refine hK25 ?_; try (clear hK25; clear K25))
                    all_goals refine tc_ret ?_
                    all_goals (repeat (first | refine tk_then_ret ?_ | refine tk_block_ret ?_ | refine tk_scope_ret ?_))
                    all_goals first | refine tk_ret rfl rfl (.cons (.tmp rfl) .nil) ?_ | refine tk_retM rfl (by repeat constructor) rfl (.cons (.tmp rfl) .nil) ?_
                    all_goals (
                     refine fun w' hw' => ⟨?_, hw'.fr (w0 := w) (S := []) (MI.m (by repeat constructor))⟩
                     first
                     | rfl
                     | (exfalso; omega))
                  · try simp only [decide_eq_true_eq, decide_eq_false_iff_not, Int.not_lt, Int.not_le, Bool.not_eq_true', Bool.not_eq_false', Decidable.not_not, not_true_eq_false] at hc
                    all_goals first | (exfalso; with_reducible exact bft hc) | (exfalso; with_reducible exact btf hc) | (exfalso; omega) | skip
                    all_goals refine tc_skip ?_
                    all_goals (refine hK23 ?_; try (clear hK23; clear K23))
                    all_goals refine tc_seq fun K26 hK26 => ?_
                    all_goals refine tc_lay ([]) (SB.s (by repeat constructor)) (fun wl19 hl19 => ?_)
                    all_goals refine tc_region ?_
                    all_goals refine tl_q (y_move rfl) rfl ?_
                    all_goals refine tl_q (y_eql rfl rfl) rfl ?_
                    all_goals refine tl_nil ?_
                    all_goals (refine hK26 ?_; try (clear hK26; clear K26))
                    all_goals (
                     refine tc_cond rfl (fun hc => ?_) (fun hc => ?_)
                     · try simp only [decide_eq_true_eq, decide_eq_false_iff_not, Int.not_lt, Int.not_le, Bool.not_eq_true', Bool.not_eq_false', Decidable.not_not, not_true_eq_false] at hc
                       all_goals first | (exfalso; with_reducible exact bft hc) | (exfalso; with_reducible exact btf hc) | (exfalso; omega) | skip
                       all_goals refine tc_lay ([]) (SB.s (by repeat constructor)) (fun wl20 hl20 => ?_)
                       all_goals refine tc_region ?_
                       all_goals refine tl_q (y_move rfl) rfl ?_
                       all_goals (first | refine tl_q (y_loadW rfl (by repeat constructor) (by rfl)) rfl ?_ | refine tl_q (y_loadN rfl (by repeat constructor) (by (repeat (first | exact .nil | apply CA.cons rfl)); done)) rfl ?_ | refine tl_q (y_loadWf rfl (hl17.at (by repeat constructor)) (MI.m (by repeat constructor)) (by simp) (by rfl)) rfl ?_ | refine tl_q (y_load1f rfl (hl17.at (by repeat constructor)) (MI.m (by repeat constructor)) (by simp) (by rfl)) rfl ?_)
                       all_goals (first | refine tl_q (y_loadW rfl (by repeat constructor) (by rfl)) rfl ?_ | refine tl_q (y_loadN rfl (by repeat constructor) (by (repeat (first | exact .nil | apply CA.cons rfl)); done)) rfl ?_ | refine tl_q (y_loadWf rfl (hl4.at (by repeat constructor)) (MI.m (by repeat constructor)) (by simp) (by rfl)) rfl ?_ | refine tl_q (y_load1f rfl (hl4.at (by repeat constructor)) (MI.m (by repeat constructor)) (by simp) (by rfl)) rfl ?_)
                       all_goals (first | refine tl_e (e_callV rfl (.cons rfl (.cons rfl .nil)) (fun w' _ => fitting_c (m1, m2) (r1, r2) (by dsimp only; omega) (by dsimp only; omega) (by dsimp only; omega) (by dsimp only; omega) w')) rfl (fun _ _ => ?_) | refine tl_e (e_callV rfl (.cons rfl (.cons rfl .nil)) (fun w' _ => fitting_c (x1, x2) (r1, r2) (by dsimp only; omega) (by dsimp only; omega) (by dsimp only; omega) (by dsimp only; omega) w')) rfl (fun _ _ => ?_))
                       all_goals refine tl_q (y_max rfl rfl) rfl ?_
                       all_goals refine tl_q (y_assign rfl) rfl ?_
                       all_goals refine tl_nil ?_
                       all_goals (refine hK21 ?_; try (clear hK21; clear K21))
                       all_goals refine tc_lay ([]) (SB.s (by repeat constructor)) (fun wl15 hl15 => ?_)
                       all_goals refine tc_region ?_
                       all_goals refine tl_q (y_move rfl) rfl ?_
                       all_goals refine tl_q (y_add rfl rfl (by omega)) rfl ?_
                       all_goals refine tl_q (y_assign rfl) rfl ?_
                       all_goals refine tl_nil ?_
                       all_goals (
                        refine tk_round (j + 1) (by omega) (by omega) (.cons rfl (.cons rfl (.cons rfl (.cons rfl (.cons rfl (.cons ?_ (.cons ?_ .nil))))))) (fun _ h => h.subl (SB.s (by repeat constructor)) (SB.s (by repeat constructor)))
                        · rw [mostN_succ, hMj]; first | (rw [if_pos (by first | rfl | assumption)]; rfl) | (rw [if_neg (by dsimp only; omega)]; rfl)
                        · show some (vi _) = some (vi _); congr 2; omega)
                     · try simp only [decide_eq_true_eq, decide_eq_false_iff_not, Int.not_lt, Int.not_le, Bool.not_eq_true', Bool.not_eq_false', Decidable.not_not, not_true_eq_false] at hc
                       all_goals first | (exfalso; with_reducible exact bft hc) | (exfalso; with_reducible exact btf hc) | (exfalso; omega) | skip
                       all_goals refine tc_skip ?_
                       all_goals (refine hK21 ?_; try (clear hK21; clear K21))
                       all_goals refine tc_lay ([]) (SB.s (by repeat constructor)) (fun wl15 hl15 => ?_)
                       all_goals refine tc_region ?_
                       all_goals refine tl_q (y_move rfl) rfl ?_
                       all_goals refine tl_q (y_add rfl rfl (by omega)) rfl ?_
                       all_goals refine tl_q (y_assign rfl) rfl ?_
                       all_goals refine tl_nil ?_
                       all_goals (
                        refine tk_round (j + 1) (by omega) (by omega) (.cons rfl (.cons rfl (.cons rfl (.cons rfl (.cons rfl (.cons ?_ (.cons ?_ .nil))))))) (fun _ h => h.subl (SB.s (by repeat constructor)) (SB.s (by repeat constructor)))
                        · rw [mostN_succ, hMj]; first | (rw [if_pos (by first | rfl | assumption)]; rfl) | (rw [if_neg (by dsimp only; omega)]; rfl)
                        · show some (vi _) = some (vi _); congr 2; omega)))
               · try simp only [decide_eq_true_eq, decide_eq_false_iff_not, Int.not_lt, Int.not_le, Bool.not_eq_true', Bool.not_eq_false', Decidable.not_not, not_true_eq_false] at hc
                 all_goals first | (exfalso; with_reducible exact bft hc) | (exfalso; with_reducible exact btf hc) | (exfalso; omega) | skip
                 all_goals refine tc_exit ?_
                 all_goals (refine hK17 ?_; try (clear hK17; clear K17))
                 all_goals refine tc_seq fun K27 hK27 => ?_
                 all_goals refine tc_lay ([]) (SB.s (by repeat constructor)) (fun wl21 hl21 => ?_)
                 all_goals (have hjj : j = (s.divisions + 3).toNat := by omega)
                 all_goals subst hjj
                 all_goals refine tc_region ?_
                 all_goals refine tl_q (y_move rfl) rfl ?_
                 all_goals refine tl_q (y_move rfl) rfl ?_
                 all_goals refine tl_q (y_geq rfl rfl) rfl ?_
                 all_goals refine tl_q (y_move rfl) rfl ?_
                 all_goals (first | refine tl_sk rfl rfl rfl rfl ?_ | refine tl_qg rfl rfl (y_move rfl) rfl ?_ | refine tl_su rfl rfl rfl ?_ | (refine tl_gs rfl rfl (fun hc => ?_) (fun hc => ?_) <;> (try simp only [decide_eq_true_eq, decide_eq_false_iff_not, Int.not_lt, Int.not_le, Bool.not_eq_true', Bool.not_eq_false', Decidable.not_not, not_true_eq_false] at hc) <;> (first | (exfalso; omega) | refine tl_sk rfl rfl rfl rfl ?_ | refine tl_qg rfl rfl (y_move rfl) rfl ?_ | refine tl_su rfl rfl rfl ?_)))
                 all_goals (first | refine tl_sk rfl rfl rfl rfl ?_ | refine tl_qg rfl rfl (y_move rfl) rfl ?_ | refine tl_su rfl rfl rfl ?_ | (refine tl_gs rfl rfl (fun hc => ?_) (fun hc => ?_) <;> (try simp only [decide_eq_true_eq, decide_eq_false_iff_not, Int.not_lt, Int.not_le, Bool.not_eq_true', Bool.not_eq_false', Decidable.not_not, not_true_eq_false] at hc) <;> (first | (exfalso; omega) | refine tl_sk rfl rfl rfl rfl ?_ | refine tl_qg rfl rfl (y_move rfl) rfl ?_ | refine tl_su rfl rfl rfl ?_)))
                 all_goals (first | refine tl_sk rfl rfl rfl rfl ?_ | refine tl_qg rfl rfl (y_neq rfl rfl) rfl ?_ | refine tl_su rfl rfl rfl ?_ | (refine tl_gs rfl rfl (fun hc => ?_) (fun hc => ?_) <;> (try simp only [decide_eq_true_eq, decide_eq_false_iff_not, Int.not_lt, Int.not_le, Bool.not_eq_true', Bool.not_eq_false', Decidable.not_not, not_true_eq_false] at hc) <;> (first | (exfalso; omega) | refine tl_sk rfl rfl rfl rfl ?_ | refine tl_qg rfl rfl (y_neq rfl rfl) rfl ?_ | refine tl_su rfl rfl rfl ?_)))
                 all_goals (first | refine tl_sk rfl rfl rfl rfl ?_ | refine tl_qg rfl rfl (y_move rfl) rfl ?_ | refine tl_su rfl rfl rfl ?_ | (refine tl_gs rfl rfl (fun hc => ?_) (fun hc => ?_) <;> (try simp only [decide_eq_true_eq, decide_eq_false_iff_not, Int.not_lt, Int.not_le, Bool.not_eq_true', Bool.not_eq_false', Decidable.not_not, not_true_eq_false] at hc) <;> (first | (exfalso; omega) | refine tl_sk rfl rfl rfl rfl ?_ | refine tl_qg rfl rfl (y_move rfl) rfl ?_ | refine tl_su rfl rfl rfl ?_)))
                 all_goals (first | refine tl_sk rfl rfl rfl rfl ?_ | refine tl_qg rfl rfl (y_move rfl) rfl ?_ | refine tl_su rfl rfl rfl ?_ | (refine tl_gs rfl rfl (fun hc => ?_) (fun hc => ?_) <;> (try simp only [decide_eq_true_eq, decide_eq_false_iff_not, Int.not_lt, Int.not_le, Bool.not_eq_true', Bool.not_eq_false', Decidable.not_not, not_true_eq_false] at hc) <;> (first | (exfalso; omega) | refine tl_sk rfl rfl rfl rfl ?_ | refine tl_qg rfl rfl (y_move rfl) rfl ?_ | refine tl_su rfl rfl rfl ?_)))
                 all_goals (first | refine tl_sk rfl rfl rfl rfl ?_ | refine tl_qg rfl rfl (y_move rfl) rfl ?_ | refine tl_su rfl rfl rfl ?_ | (refine tl_gs rfl rfl (fun hc => ?_) (fun hc => ?_) <;> (try simp only [decide_eq_true_eq, decide_eq_false_iff_not, Int.not_lt, Int.not_le, Bool.not_eq_true', Bool.not_eq_false', Decidable.not_not, not_true_eq_false] at hc) <;> (first | (exfalso; omega) | refine tl_sk rfl rfl rfl rfl ?_ | refine tl_qg rfl rfl (y_move rfl) rfl ?_ | refine tl_su rfl rfl rfl ?_)))
                 all_goals (first | refine tl_sk rfl rfl rfl rfl ?_ | refine tl_qg rfl rfl (y_eql rfl rfl) rfl ?_ | refine tl_su rfl rfl rfl ?_ | (refine tl_gs rfl rfl (fun hc => ?_) (fun hc => ?_) <;> (try simp only [decide_eq_true_eq, decide_eq_false_iff_not, Int.not_lt, Int.not_le, Bool.not_eq_true', Bool.not_eq_false', Decidable.not_not, not_true_eq_false] at hc) <;> (first | (exfalso; omega) | refine tl_sk rfl rfl rfl rfl ?_ | refine tl_qg rfl rfl (y_eql rfl rfl) rfl ?_ | refine tl_su rfl rfl rfl ?_)))
                 all_goals (first | refine tl_sk rfl rfl rfl rfl ?_ | refine tl_qg rfl rfl (y_pick_t rfl rfl) rfl ?_ | refine tl_qg rfl rfl (y_pick_f rfl rfl) rfl ?_ | refine tl_su rfl rfl rfl ?_ | (refine tl_gs rfl rfl (fun hc => ?_) (fun hc => ?_) <;> (try simp only [decide_eq_true_eq, decide_eq_false_iff_not, Int.not_lt, Int.not_le, Bool.not_eq_true', Bool.not_eq_false', Decidable.not_not, not_true_eq_false] at hc) <;> (first | (exfalso; omega) | refine tl_sk rfl rfl rfl rfl ?_ | refine tl_qg rfl rfl (y_pick_t rfl rfl) rfl ?_ | refine tl_qg rfl rfl (y_pick_f rfl rfl) rfl ?_ | refine tl_su rfl rfl rfl ?_)))
                 all_goals (first | refine tl_q (y_pick_t rfl rfl) rfl ?_ | refine tl_q (y_pick_f rfl rfl) rfl ?_)
                 all_goals refine tl_q (y_move rfl) rfl ?_
                 all_goals (first | refine tl_sk rfl rfl rfl rfl ?_ | refine tl_qg rfl rfl (y_move rfl) rfl ?_ | refine tl_su rfl rfl rfl ?_ | (refine tl_gs rfl rfl (fun hc => ?_) (fun hc => ?_) <;> (try simp only [decide_eq_true_eq, decide_eq_false_iff_not, Int.not_lt, Int.not_le, Bool.not_eq_true', Bool.not_eq_false', Decidable.not_not, not_true_eq_false] at hc) <;> (first | (exfalso; omega) | refine tl_sk rfl rfl rfl rfl ?_ | refine tl_qg rfl rfl (y_move rfl) rfl ?_ | refine tl_su rfl rfl rfl ?_)))
                 all_goals (first | refine tl_sk rfl rfl rfl rfl ?_ | refine tl_qg rfl rfl (y_move rfl) rfl ?_ | refine tl_su rfl rfl rfl ?_ | (refine tl_gs rfl rfl (fun hc => ?_) (fun hc => ?_) <;> (try simp only [decide_eq_true_eq, decide_eq_false_iff_not, Int.not_lt, Int.not_le, Bool.not_eq_true', Bool.not_eq_false', Decidable.not_not, not_true_eq_false] at hc) <;> (first | (exfalso; omega) | refine tl_sk rfl rfl rfl rfl ?_ | refine tl_qg rfl rfl (y_move rfl) rfl ?_ | refine tl_su rfl rfl rfl ?_)))
                 all_goals (first | refine tl_sk rfl rfl rfl rfl ?_ | refine tl_qg rfl rfl (y_geq rfl rfl) rfl ?_ | refine tl_su rfl rfl rfl ?_ | (refine tl_gs rfl rfl (fun hc => ?_) (fun hc => ?_) <;> (try simp only [decide_eq_true_eq, decide_eq_false_iff_not, Int.not_lt, Int.not_le, Bool.not_eq_true', Bool.not_eq_false', Decidable.not_not, not_true_eq_false] at hc) <;> (first | (exfalso; omega) | refine tl_sk rfl rfl rfl rfl ?_ | refine tl_qg rfl rfl (y_geq rfl rfl) rfl ?_ | refine tl_su rfl rfl rfl ?_)))
                 all_goals (first | refine tl_sk rfl rfl rfl rfl ?_ | refine tl_qg rfl rfl (y_move rfl) rfl ?_ | refine tl_su rfl rfl rfl ?_ | (refine tl_gs rfl rfl (fun hc => ?_) (fun hc => ?_) <;> (try simp only [decide_eq_true_eq, decide_eq_false_iff_not, Int.not_lt, Int.not_le, Bool.not_eq_true', Bool.not_eq_false', Decidable.not_not, not_true_eq_false] at hc) <;> (first | (exfalso; omega) | refine tl_sk rfl rfl rfl rfl ?_ | refine tl_qg rfl rfl (y_move rfl) rfl ?_ | refine tl_su rfl rfl rfl ?_)))
                 all_goals (first | refine tl_sk rfl rfl rfl rfl ?_ | refine tl_qg rfl rfl (y_move rfl) rfl ?_ | refine tl_su rfl rfl rfl ?_ | (refine tl_gs rfl rfl (fun hc => ?_) (fun hc => ?_) <;> (try simp only [decide_eq_true_eq, decide_eq_false_iff_not, Int.not_lt, Int.not_le, Bool.not_eq_true', Bool.not_eq_false', Decidable.not_not, not_true_eq_false] at hc) <;> (first | (exfalso; omega) | refine tl_sk rfl rfl rfl rfl ?_ | refine tl_qg rfl rfl (y_move rfl) rfl ?_ | refine tl_su rfl rfl rfl ?_)))
                 all_goals (first | refine tl_sk rfl rfl rfl rfl ?_ | refine tl_qg rfl rfl (y_move rfl) rfl ?_ | refine tl_su rfl rfl rfl ?_ | (refine tl_gs rfl rfl (fun hc => ?_) (fun hc => ?_) <;> (try simp only [decide_eq_true_eq, decide_eq_false_iff_not, Int.not_lt, Int.not_le, Bool.not_eq_true', Bool.not_eq_false', Decidable.not_not, not_true_eq_false] at hc) <;> (first | (exfalso; omega) | refine tl_sk rfl rfl rfl rfl ?_ | refine tl_qg rfl rfl (y_move rfl) rfl ?_ | refine tl_su rfl rfl rfl ?_)))
                 all_goals (first | refine tl_sk rfl rfl rfl rfl ?_ | refine tl_qg rfl rfl (y_gtr rfl rfl) rfl ?_ | refine tl_su rfl rfl rfl ?_ | (refine tl_gs rfl rfl (fun hc => ?_) (fun hc => ?_) <;> (try simp only [decide_eq_true_eq, decide_eq_false_iff_not, Int.not_lt, Int.not_le, Bool.not_eq_true', Bool.not_eq_false', Decidable.not_not, not_true_eq_false] at hc) <;> (first | (exfalso; omega) | refine tl_sk rfl rfl rfl rfl ?_ | refine tl_qg rfl rfl (y_gtr rfl rfl) rfl ?_ | refine tl_su rfl rfl rfl ?_)))
                 all_goals (first | refine tl_sk rfl rfl rfl rfl ?_ | refine tl_qg rfl rfl (y_pick_t rfl rfl) rfl ?_ | refine tl_qg rfl rfl (y_pick_f rfl rfl) rfl ?_ | refine tl_su rfl rfl rfl ?_ | (refine tl_gs rfl rfl (fun hc => ?_) (fun hc => ?_) <;> (try simp only [decide_eq_true_eq, decide_eq_false_iff_not, Int.not_lt, Int.not_le, Bool.not_eq_true', Bool.not_eq_false', Decidable.not_not, not_true_eq_false] at hc) <;> (first | (exfalso; omega) | refine tl_sk rfl rfl rfl rfl ?_ | refine tl_qg rfl rfl (y_pick_t rfl rfl) rfl ?_ | refine tl_qg rfl rfl (y_pick_f rfl rfl) rfl ?_ | refine tl_su rfl rfl rfl ?_)))
                 all_goals (first | refine tl_q (y_pick_t rfl rfl) rfl ?_ | refine tl_q (y_pick_f rfl rfl) rfl ?_)
                 all_goals refine tl_q (y_move rfl) rfl ?_
                 all_goals (first | refine tl_sk rfl rfl rfl rfl ?_ | refine tl_eg rfl rfl rfl (e_callV rfl .nil (fun w' _ => awake_c w')) (fun _ _ => ?_) | refine tl_su rfl rfl rfl ?_ | (refine tl_gs rfl rfl (fun hc => ?_) (fun hc => ?_) <;> (try simp only [decide_eq_true_eq, decide_eq_false_iff_not, Int.not_lt, Int.not_le, Bool.not_eq_true', Bool.not_eq_false', Decidable.not_not, not_true_eq_false] at hc) <;> (first | (exfalso; omega) | refine tl_sk rfl rfl rfl rfl ?_ | refine tl_eg rfl rfl rfl (e_callV rfl .nil (fun w' _ => awake_c w')) (fun _ _ => ?_) | refine tl_su rfl rfl rfl ?_)))
                 all_goals (first | refine tl_q (y_pick_t rfl rfl) rfl ?_ | refine tl_q (y_pick_f rfl rfl) rfl ?_)
                 all_goals refine tl_q (y_assign rfl) rfl ?_
                 all_goals refine tl_nil ?_
                 all_goals (refine hK27 ?_; try (clear hK27; clear K27))
                 all_goals refine tc_ret ?_
                 all_goals (repeat (first | refine tk_then_ret ?_ | refine tk_block_ret ?_ | refine tk_scope_ret ?_))
                 all_goals first | refine tk_ret rfl rfl (.cons (.tmp rfl) .nil) ?_ | refine tk_retM rfl (by repeat constructor) rfl (.cons (.tmp rfl) .nil) ?_
                 all_goals (
                  refine fun w' hw' => ⟨?_, hw'.fr (w0 := w) (S := []) (MI.m (by repeat constructor))⟩
                  first
                  | rfl
                  | (exfalso; omega)))))))
end Go.Sp
