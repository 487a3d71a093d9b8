/-
  SpindleNarrows: the law's function returns true.
-/
import Derived.Test.YtdmnmhkonfadhaaV
import Derived.Test.YtdmnmhkonfadhaaLs
set_option linter.unusedVariables false
set_option linter.unusedSimpArgs false
set_option linter.deprecated false
namespace Go.Sp
open Go Go.Proofs
theorem full_fits {s : Sn} {l : List (Int × Int)} {o : List Int} (h : ∀ i : Nat, i < l.length → (i : Int) ∈ o) : ∀ n, n ≤ l.length → narF s l o n = (1, 2000) := by
  intro n
  induction n with
  | zero => intro _; rfl
  | succ n ih =>
    intro hn
    rw [narF_succ, ih (by omega)]
    unfold narStep
    rw [if_pos (h n (by omega))]
theorem many_iff {s : Sn} (hs : VS s) {l : List (Int × Int)} (hl : l.length ≤ 16) (hok : l.all (rdOk s) = true) (n : Nat) : 0 < (rAll s l n).2 ↔ fitsP s l (bitsL n) = true := by
  rw [rAll_nar hs hok (o := bitsL n) (fun i hi => by rw [bitsL_iff (by omega), ← bitB_nat]; rfl)]
  unfold fitsP emptyF
  by_cases h : (narF s l (bitsL n) l.length).1 ≤ (narF s l (bitsL n) l.length).2
  · rw [if_pos h]
    simp only [Bool.not_eq_true', decide_eq_false_iff_not]
    omega
  · rw [if_neg h]
    simp only [Bool.not_eq_true', decide_eq_false_iff_not]
    omega
theorem bits_full {N i : Nat} (hN : N ≤ 16) (hi : i < N) : (i : Int) ∈ bitsL ((2 ^ N - 1 : Nat) : Int) := by
  rw [bitsL_iff (by omega), Nat.testBit_two_pow_sub_one]
  exact decide_eq_true hi
theorem rLeave_least {s : Sn} (hs : VS s) {l : List (Int × Int)} (hl : l.length ≤ 16) (hok : l.all (rdOk s) = true) : Least (fitsP s l) l.length (rLeave s l) := by
  have hfull : fitsP s l (bitsL ((2 ^ l.length - 1 : Nat) : Int)) = true := by
    unfold fitsP
    rw [full_fits (fun i hi => bits_full hl hi) l.length (Nat.le_refl _)]
    rfl
  have hpos : 0 < 2 ^ l.length := Nat.two_pow_pos _
  have key : ∀ n : Nat, n ≤ 2 ^ l.length → (∃ m : Nat, m < 2 ^ l.length ∧ rLeaveN s l n = bitsL m) ∧ fitsP s l (rLeaveN s l n) = true ∧ ∀ m : Nat, m < n → fitsP s l (bitsL m) = true → lessF (bitsL m) (rLeaveN s l n) = false := by
    intro n
    induction n with
    | zero =>
      intro _
      have e : rLeaveN s l 0 = bitsL ((2 ^ l.length - 1 : Nat) : Int) := by
        show bitsL (2 ^ l.length - 1) = _
        congr 1
        have : ((2 ^ l.length : Nat) : Int) = 2 ^ l.length := by simp
        omega
      exact ⟨⟨2 ^ l.length - 1, by omega, e⟩, by rw [e]; exact hfull, fun m hm => absurd hm (Nat.not_lt_zero m)⟩
    | succ n ih =>
      intro hn
      obtain ⟨g1, g2, g3⟩ := ih (by omega)
      rw [rLeaveN_succ]
      unfold rLeaveStep
      have hm := many_iff hs hl hok n
      by_cases hc : lessF (bitsL n) (rLeaveN s l n) = true ∧ 0 < (rAll s l n).2
      · rw [if_pos hc]
        refine ⟨⟨n, by omega, rfl⟩, hm.1 hc.2, fun m hmn hp => ?_⟩
        rcases Nat.lt_succ_iff_lt_or_eq.1 hmn with h | rfl
        · cases hh : lessF (bitsL m) (bitsL n)
          · rfl
          · have := g3 m h hp
            rw [less_trans hh hc.1] at this; cases this
        · exact less_irr _
      · rw [if_neg hc]
        refine ⟨g1, g2, fun m hmn hp => ?_⟩
        rcases Nat.lt_succ_iff_lt_or_eq.1 hmn with h | rfl
        · exact g3 m h hp
        · cases hh : lessF (bitsL m) (rLeaveN s l m)
          · rfl
          · exact absurd ⟨hh, hm.2 hp⟩ hc
  obtain ⟨g1, g2, g3⟩ := key (2 ^ l.length) (Nat.le_refl _)
  exact fold_least hl g1 g2 g3
theorem leaveL_least {s : Sn} {l : List (Int × Int)} (hl : l.length ≤ 16) : Least (fitsP s l) l.length (leaveL s l) := by
  unfold leaveL
  rcases h : ((List.range (l.length + 1)).findSome? fun (k : Nat) => srch (fitsP s l) l.length k [] 0) with _ | r
  · have hn := search_none (by omega) h (bitsL_inc (n := 2 ^ l.length - 1) (m := l.length) (by have := Nat.two_pow_pos l.length; omega))
    have hfull : fitsP s l (bitsL ((2 ^ l.length - 1 : Nat) : Int)) = true := by
      unfold fitsP
      rw [full_fits (fun i hi => bits_full hl hi) l.length (Nat.le_refl _)]
      rfl
    rw [hfull] at hn; cases hn
  · exact search_some (by omega) h
theorem leave_eq {s : Sn} (hs : VS s) {l : List (Int × Int)} (hl : l.length ≤ 16) (hok : l.all (rdOk s) = true) : leaveL s l = rLeave s l := (leaveL_least hl).uniq (rLeave_least hs hl hok)
/-- A slice that is returned, laid open. -/
theorem CnX.sliced {P : Program} {f : FuncId} {args : Array Value} {w : World} {g : Value → Value} {xs : List Int} (h : CnX P f args w [] g (fun v w' => RdI w' v xs)) :
    CnX P f args w [] (fun x : Option Addr × Nat => g (slV xs.length x)) (fun x w' => RdI w' (slV xs.length x) xs) :=
  CnX.of (h.out.mono fun e w' he => by
    obtain ⟨v, rfl, hf, hr⟩ := he
    obtain ⟨hl, ad, cap, rfl, h2⟩ := hr
    exact ⟨(ad, cap), rfl, hf, ⟨hl, ad, cap, rfl, h2⟩⟩)
theorem leave_v (s : Sn) (hn : NB s) (l : List (Int × Int)) (hl : (l.length : Int) ≤ 9000000000000000000) {ll : List Int} {f : Int} (hE : leaveE s l = (ll, f)) (sl lv : Value) (w : World) (hr : RdI w sl s.weights) (hR : RdR w lv l) :
    CnX Try.prog 34 #[spV s sl, lv] w [] (fun x : Option Addr × Nat => .tuple #[slV ll.length x, vi f]) (fun x w' => RdI w' (slV ll.length x) ll) := by
  have h := leave_e s hn l hl sl lv w hr hR
  rw [hE] at h; exact h.sliced
theorem narrow_v (s : Sn) (hn : NB s) (l : List (Int × Int)) (hl : (l.length : Int) ≤ 9000000000000000000) {r : Int × Int} {f : Int} (hE : narrowE s l = (r, f)) (sl lv : Value) (w : World) (hr : RdI w sl s.weights) (hR : RdR w lv l) :
    CnV Try.prog 32 #[spV s sl, lv] w (.tuple #[rV r, vi f]) := by
  have h := narrow_e s hn l hl sl lv w hr hR
  rw [hE] at h; exact h
theorem narrows_c (s : Sn) (l : List (Int × Int)) (sl lv : Value) (w : World) (hr : RdI w sl s.weights) (hR : RdR w lv l) : CnV Try.prog 5 #[spV s sl, lv] w (.bool true) := by
  have hr0 := hr
  have hR0 := hR
  obtain ⟨ad, cap, b0, o, rfl, _, _⟩ := hr.open
  obtain ⟨ad2, cap2, b02, o2, rfl, _, _⟩ := hR.open
  rcases hN : narrowE s l with ⟨⟨r1, r2⟩, e⟩
  rcases hL : leaveE s l with ⟨ll, f⟩
  rcases hA : rAll s l 0 with ⟨⟨q1, q2⟩, mm⟩
  have hcase : (¬ readF s l = 0 ∧ r1 = 0 ∧ r2 = 0 ∧ e = readF s l ∧ f = readF s l ∧ ll.length = 0) ∨ (readF s l = 0 ∧ ll = rLeave s l ∧ f = 0 ∧ r1 = 0 ∧ r2 = 0 ∧ e = 11 ∧ mm = 0) ∨
      (readF s l = 0 ∧ ll = rLeave s l ∧ f = 0 ∧ e = 0 ∧ r1 = q1 ∧ r2 = q2 ∧ 0 < mm) := by
    unfold narrowE at hN
    unfold leaveE at hL
    by_cases h1 : readF s l = 0
    · have hq := readF_0 h1
      rw [if_neg (by omega)] at hN hL
      rw [leave_eq hq.1 (by omega) hq.2.2] at hL
      rw [rAll_nar hq.1 hq.2.2 (o := []) (fun i _ => by rw [outB_0]; exact ⟨fun h => absurd h Bool.false_ne_true, fun h => absurd h List.not_mem_nil⟩)] at hA
      cases hL
      by_cases h2 : (narF s l [] l.length).1 ≤ (narF s l [] l.length).2
      · rw [if_neg (by unfold emptyF; simp only [decide_eq_true_eq]; omega)] at hN
        rw [if_pos h2] at hA
        have e1 := congrArg Prod.fst hN
        have e2 := congrArg Prod.snd hN
        have e3 := congrArg Prod.fst hA
        have e4 := congrArg Prod.snd hA
        dsimp only at e1 e2 e3 e4
        rw [e1] at e3 h2 e4
        cases e3
        exact .inr (.inr ⟨h1, rfl, rfl, e2.symm, rfl, rfl, by omega⟩)
      · rw [if_pos (by unfold emptyF; simp only [decide_eq_true_eq]; omega)] at hN
        rw [if_neg h2] at hA
        cases hN; cases hA
        exact .inr (.inl ⟨h1, rfl, rfl, rfl, rfl, rfl, rfl⟩)
    · rw [if_pos h1] at hN hL
      cases hN; cases hL
      exact .inl ⟨h1, rfl, rfl, rfl, rfl, rfl⟩
  refine cnv (vs := [_, _]) Try.func5 rfl rfl ?_
  all_goals refine tc_seq fun K1 hK1 => ?_
  all_goals refine tc_region ?_
  all_goals refine tl_e (e_box rfl rfl rfl) rfl (fun b2 _ => ?_)
  all_goals refine tl_q (y_assign rfl) rfl ?_
  all_goals refine tl_nil ?_
  all_goals (refine hK1 ?_; try (clear hK1; clear K1))
  all_goals refine tc_seq fun K2 hK2 => ?_
  all_goals refine tc_seq fun K3 hK3 => ?_
  all_goals refine tc_lay ([]) (SB.s (by repeat constructor)) (fun wl1 hl1 => ?_)
  all_goals refine tc_region ?_
  all_goals (first | refine tl_q (y_loadW rfl (by repeat constructor) (by rfl)) rfl ?_ | refine tl_q (y_loadN rfl (by repeat constructor) (by (repeat (first | exact .nil | apply CA.cons rfl)); done)) rfl ?_ | refine tl_q (y_loadWf rfl (hl1.at (by repeat constructor)) (MI.m (by repeat constructor)) (by simp) (by rfl)) rfl ?_ | refine tl_q (y_load1f rfl (hl1.at (by repeat constructor)) (MI.m (by repeat constructor)) (by simp) (by rfl)) rfl ?_)
  all_goals refine tl_e (e_callV rfl (.cons rfl .nil) (fun w' hw' => thin_c s _ w' (hr0.fr (hw'.fr (w0 := w) (S := []) (MI.m (by repeat constructor)))))) rfl (fun _ _ => ?_)
  all_goals (first | refine tl_q (y_not_dec rfl) rfl ?_ | refine tl_q (y_not rfl) rfl ?_)
  all_goals refine tl_q (y_move rfl) rfl ?_
  all_goals (first | refine tl_sk rfl rfl rfl rfl ?_ | refine tl_qg rfl rfl (y_move rfl) rfl ?_ | refine tl_su rfl rfl rfl ?_ | (refine tl_gs rfl rfl (fun hc => ?_) (fun hc => ?_) <;> (try simp only [decide_eq_true_eq, decide_eq_false_iff_not, Int.not_lt, Int.not_le, Bool.not_eq_true', Bool.not_eq_false', Decidable.not_not, not_true_eq_false] at hc) <;> (first | (exfalso; omega) | refine tl_sk rfl rfl rfl rfl ?_ | refine tl_qg rfl rfl (y_move rfl) rfl ?_ | refine tl_su rfl rfl rfl ?_)))
  all_goals (first | refine tl_sk rfl rfl rfl rfl ?_ | refine tl_qg rfl rfl (y_len rfl) rfl ?_ | refine tl_su rfl rfl rfl ?_ | (refine tl_gs rfl rfl (fun hc => ?_) (fun hc => ?_) <;> (try simp only [decide_eq_true_eq, decide_eq_false_iff_not, Int.not_lt, Int.not_le, Bool.not_eq_true', Bool.not_eq_false', Decidable.not_not, not_true_eq_false] at hc) <;> (first | (exfalso; omega) | refine tl_sk rfl rfl rfl rfl ?_ | refine tl_qg rfl rfl (y_len rfl) rfl ?_ | refine tl_su rfl rfl rfl ?_)))
  all_goals (first | refine tl_sk rfl rfl rfl rfl ?_ | refine tl_qg rfl rfl (y_gtr rfl rfl) rfl ?_ | refine tl_su rfl rfl rfl ?_ | (refine tl_gs rfl rfl (fun hc => ?_) (fun hc => ?_) <;> (try simp only [decide_eq_true_eq, decide_eq_false_iff_not, Int.not_lt, Int.not_le, Bool.not_eq_true', Bool.not_eq_false', Decidable.not_not, not_true_eq_false] at hc) <;> (first | (exfalso; omega) | refine tl_sk rfl rfl rfl rfl ?_ | refine tl_qg rfl rfl (y_gtr rfl rfl) rfl ?_ | refine tl_su rfl rfl rfl ?_)))
  all_goals (first | refine tl_q (y_pick_t rfl rfl) rfl ?_ | refine tl_q (y_pick_f rfl rfl) rfl ?_)
  all_goals refine tl_nil ?_
  all_goals (refine hK3 ?_; try (clear hK3; clear K3))
  all_goals (
   refine tc_cond rfl (fun hc => ?_) (fun hc => ?_)
   · try simp only [decide_eq_true_eq, decide_eq_false_iff_not, Int.not_lt, Int.not_le, Bool.not_eq_true', Bool.not_eq_false', Decidable.not_not, not_true_eq_false] at hc
     all_goals first | (exfalso; with_reducible exact bft hc) | (exfalso; with_reducible exact btf hc) | (exfalso; omega) | skip
     all_goals refine tc_seq fun K4 hK4 => ?_
     all_goals refine tc_lay ([]) (SB.s (by repeat constructor)) (fun wl2 hl2 => ?_)
     all_goals refine tc_region ?_
     all_goals refine tl_e (e_callV rfl .nil (fun w' _ => awake_c w')) rfl (fun _ _ => ?_)
     all_goals refine tl_q (y_assign rfl) rfl ?_
     all_goals refine tl_nil ?_
     all_goals (refine hK4 ?_; try (clear hK4; clear K4))
     all_goals refine tc_ret ?_
     all_goals (repeat (first | refine tk_then_ret ?_ | refine tk_block_ret ?_ | refine tk_scope_ret ?_))
     all_goals first | refine tk_ret rfl rfl (.cons (.tmp rfl) .nil) ?_ | refine tk_retM rfl (by repeat constructor) rfl (.cons (.tmp rfl) .nil) ?_
     all_goals (
      refine fun w' hw' => ⟨?_, hw'.fr (w0 := w) (S := []) (MI.m (by repeat constructor))⟩
      first
      | rfl
      | (exfalso; omega))
   · try simp only [decide_eq_true_eq, decide_eq_false_iff_not, Int.not_lt, Int.not_le, Bool.not_eq_true', Bool.not_eq_false', Decidable.not_not, not_true_eq_false] at hc
     all_goals first | (exfalso; with_reducible exact bft hc) | (exfalso; with_reducible exact btf hc) | (exfalso; omega) | skip
     all_goals refine tc_skip ?_
     all_goals (refine hK2 ?_; try (clear hK2; clear K2))
     all_goals refine tc_seq fun K5 hK5 => ?_
     all_goals refine tc_lay ([]) (SB.s (by repeat constructor)) (fun wl3 hl3 => ?_)
     all_goals refine tc_region ?_
     all_goals (first | refine tl_q (y_loadW rfl (by repeat constructor) (by rfl)) rfl ?_ | refine tl_q (y_loadN rfl (by repeat constructor) (by (repeat (first | exact .nil | apply CA.cons rfl)); done)) rfl ?_ | refine tl_q (y_loadWf rfl (hl1.at (by repeat constructor)) (MI.m (by repeat constructor)) (by simp) (by rfl)) rfl ?_ | refine tl_q (y_load1f rfl (hl1.at (by repeat constructor)) (MI.m (by repeat constructor)) (by simp) (by rfl)) rfl ?_)
     all_goals refine tl_e (e_callX rfl (.cons rfl .nil) (fun w' hw' => spindle_c s (by omega) _ w' (hr0.fr (hw'.fr (w0 := w) (S := []) (MI.m (by repeat constructor)))))) rfl (fun x hx => ?_)
     all_goals refine tl_q (y_move rfl) rfl ?_
     all_goals refine tl_e (e_callX rfl (.cons rfl .nil) (fun w' hw' => readings_c l (by omega) _ w' (hR0.fr (hw'.fr (w0 := w) (S := []) (MI.m (by repeat constructor)))))) rfl (fun xr hxr => ?_)
     all_goals refine tl_e (e_callV rfl (.cons rfl (.cons rfl .nil)) (fun w' hw' => narrow_v s (nb9 (by omega)) l (by omega) hN _ _ w' (hx.1.fr (hw'.fr (MI.m (by repeat constructor)))) (hxr.1.fr (hw'.fr (MI.m (by repeat constructor)))))) rfl (fun _ _ => ?_)
     all_goals refine tl_q (y_move rfl) rfl ?_
     all_goals refine tl_q (y_extract rfl rfl) rfl ?_
     all_goals refine tl_q (y_extract rfl rfl) rfl ?_
     all_goals refine tl_e (e_allocN rfl) rfl (fun b5 _ => ?_)
     all_goals refine tl_e (e_storeW rfl rfl (by repeat constructor) (by rfl) (by rfl) (by simp [Value.oneCell'])) rfl (fun _ _ => ?_)
     all_goals refine tl_q (y_assign rfl) rfl ?_
     all_goals refine tl_nil ?_
     all_goals (refine hK5 ?_; try (clear hK5; clear K5))
     all_goals refine tc_seq fun K6 hK6 => ?_
     all_goals refine tc_lay ([]) (SB.s (by repeat constructor)) (fun wl4 hl4 => ?_)
     all_goals refine tc_region ?_
     all_goals (first | refine tl_q (y_loadW rfl (by repeat constructor) (by rfl)) rfl ?_ | refine tl_q (y_loadN rfl (by repeat constructor) (by (repeat (first | exact .nil | apply CA.cons rfl)); done)) rfl ?_ | refine tl_q (y_loadWf rfl (hl1.at (by repeat constructor)) (MI.m (by repeat constructor)) (by simp) (by rfl)) rfl ?_ | refine tl_q (y_load1f rfl (hl1.at (by repeat constructor)) (MI.m (by repeat constructor)) (by simp) (by rfl)) rfl ?_)
     all_goals refine tl_e (e_callX rfl (.cons rfl .nil) (fun w' hw' => spindle_c s (by omega) _ w' (hr0.fr (hw'.fr (w0 := w) (S := []) (MI.m (by repeat constructor)))))) rfl (fun y hy => ?_)
     all_goals refine tl_q (y_move rfl) rfl ?_
     all_goals refine tl_e (e_callX rfl (.cons rfl .nil) (fun w' hw' => readings_c l (by omega) _ w' (hR0.fr (hw'.fr (w0 := w) (S := []) (MI.m (by repeat constructor)))))) rfl (fun yr hyr => ?_)
     all_goals refine tl_e (e_callX rfl (.cons rfl (.cons rfl .nil)) (fun w' hw' => leave_v s (nb9 (by omega)) l (by omega) hL _ _ w' (hy.1.fr (hw'.fr (MI.m (by repeat constructor)))) (hyr.1.fr (hw'.fr (MI.m (by repeat constructor)))))) rfl (fun z hz => ?_)
     all_goals refine tl_q (y_move rfl) rfl ?_
     all_goals refine tl_q (y_extract rfl rfl) rfl ?_
     all_goals refine tl_q (y_extract rfl rfl) rfl ?_
     all_goals refine tl_q (y_assign rfl) rfl ?_
     all_goals refine tl_q (y_assign rfl) rfl ?_
     all_goals refine tl_nil ?_
     all_goals (refine hK6 ?_; try (clear hK6; clear K6))
     all_goals refine tc_seq fun K7 hK7 => ?_
     all_goals refine tc_seq fun K8 hK8 => ?_
     all_goals refine tc_lay ([]) (SB.s (by repeat constructor)) (fun wl5 hl5 => ?_)
     all_goals refine tc_region ?_
     all_goals (first | refine tl_q (y_loadW rfl (by repeat constructor) (by rfl)) rfl ?_ | refine tl_q (y_loadN rfl (by repeat constructor) (by (repeat (first | exact .nil | apply CA.cons rfl)); done)) rfl ?_ | refine tl_q (y_loadWf rfl (hl1.at (by repeat constructor)) (MI.m (by repeat constructor)) (by simp) (by rfl)) rfl ?_ | refine tl_q (y_load1f rfl (hl1.at (by repeat constructor)) (MI.m (by repeat constructor)) (by simp) (by rfl)) rfl ?_)
     all_goals refine tl_q (y_move rfl) rfl ?_
     all_goals refine tl_e (e_callV rfl (.cons rfl (.cons rfl .nil)) (fun w' hw' => read2_c s (nb9 (by omega)) l (by omega) _ _ w' (hr0.fr (hw'.fr (w0 := w) (S := []) (MI.m (by repeat constructor)))) (hR0.fr (hw'.fr (w0 := w) (S := []) (MI.m (by repeat constructor)))))) rfl (fun _ _ => ?_)
     all_goals refine tl_q (y_assign rfl) rfl ?_
     all_goals refine tl_nil ?_
     all_goals (refine hK8 ?_; try (clear hK8; clear K8))
     all_goals refine tc_seq fun K9 hK9 => ?_
     all_goals refine tc_lay ([]) (SB.s (by repeat constructor)) (fun wl6 hl6 => ?_)
     all_goals refine tc_region ?_
     all_goals refine tl_q (y_move rfl) rfl ?_
     all_goals refine tl_q (y_neq rfl rfl) rfl ?_
     all_goals refine tl_nil ?_
     all_goals (refine hK9 ?_; try (clear hK9; clear K9))
     all_goals (
      refine tc_cond rfl (fun hc => ?_) (fun hc => ?_)
      · try simp only [decide_eq_true_eq, decide_eq_false_iff_not, Int.not_lt, Int.not_le, Bool.not_eq_true', Bool.not_eq_false', Decidable.not_not, not_true_eq_false] at hc
        all_goals first | (exfalso; with_reducible exact bft hc) | (exfalso; with_reducible exact btf hc) | (exfalso; omega) | skip
        all_goals refine tc_seq fun K10 hK10 => ?_
        all_goals refine tc_lay ([]) (SB.s (by repeat constructor)) (fun wl7 hl7 => ?_)
        all_goals refine tc_region ?_
        all_goals refine tl_q (y_move rfl) rfl ?_
        all_goals refine tl_q (y_move rfl) rfl ?_
        all_goals refine tl_q (y_eql rfl rfl) rfl ?_
        all_goals refine tl_q (y_move rfl) rfl ?_
        all_goals (first | refine tl_sk rfl rfl rfl rfl ?_ | refine tl_qg rfl rfl (y_move rfl) rfl ?_ | refine tl_su rfl rfl rfl ?_ | (refine tl_gs rfl rfl (fun hc => ?_) (fun hc => ?_) <;> (try simp only [decide_eq_true_eq, decide_eq_false_iff_not, Int.not_lt, Int.not_le, Bool.not_eq_true', Bool.not_eq_false', Decidable.not_not, not_true_eq_false] at hc) <;> (first | (exfalso; omega) | refine tl_sk rfl rfl rfl rfl ?_ | refine tl_qg rfl rfl (y_move rfl) rfl ?_ | refine tl_su rfl rfl rfl ?_)))
        all_goals (first | refine tl_sk rfl rfl rfl rfl ?_ | refine tl_qg rfl rfl (y_move rfl) rfl ?_ | refine tl_su rfl rfl rfl ?_ | (refine tl_gs rfl rfl (fun hc => ?_) (fun hc => ?_) <;> (try simp only [decide_eq_true_eq, decide_eq_false_iff_not, Int.not_lt, Int.not_le, Bool.not_eq_true', Bool.not_eq_false', Decidable.not_not, not_true_eq_false] at hc) <;> (first | (exfalso; omega) | refine tl_sk rfl rfl rfl rfl ?_ | refine tl_qg rfl rfl (y_move rfl) rfl ?_ | refine tl_su rfl rfl rfl ?_)))
        all_goals (first | refine tl_sk rfl rfl rfl rfl ?_ | refine tl_qg rfl rfl (y_eql rfl rfl) rfl ?_ | refine tl_su rfl rfl rfl ?_ | (refine tl_gs rfl rfl (fun hc => ?_) (fun hc => ?_) <;> (try simp only [decide_eq_true_eq, decide_eq_false_iff_not, Int.not_lt, Int.not_le, Bool.not_eq_true', Bool.not_eq_false', Decidable.not_not, not_true_eq_false] at hc) <;> (first | (exfalso; omega) | refine tl_sk rfl rfl rfl rfl ?_ | refine tl_qg rfl rfl (y_eql rfl rfl) rfl ?_ | refine tl_su rfl rfl rfl ?_)))
        all_goals (first | refine tl_q (y_pick_t rfl rfl) rfl ?_ | refine tl_q (y_pick_f rfl rfl) rfl ?_)
        all_goals refine tl_q (y_move rfl) rfl ?_
        all_goals (first | refine tl_sk rfl rfl rfl rfl ?_ | refine tl_qg rfl rfl (y_loadW rfl (by repeat constructor) (by rfl)) rfl ?_ | refine tl_qg rfl rfl (y_loadN rfl (by repeat constructor) (by (repeat (first | exact .nil | apply CA.cons rfl)); done)) rfl ?_ | refine tl_qg rfl rfl (y_loadWf rfl (hl4.at (by repeat constructor)) (MI.m (by repeat constructor)) (by simp) (by rfl)) rfl ?_ | refine tl_qg rfl rfl (y_load1f rfl (hl4.at (by repeat constructor)) (MI.m (by repeat constructor)) (by simp) (by rfl)) rfl ?_ | refine tl_su rfl rfl rfl ?_ | (refine tl_gs rfl rfl (fun hc => ?_) (fun hc => ?_) <;> (try simp only [decide_eq_true_eq, decide_eq_false_iff_not, Int.not_lt, Int.not_le, Bool.not_eq_true', Bool.not_eq_false', Decidable.not_not, not_true_eq_false] at hc) <;> (first | (exfalso; omega) | refine tl_sk rfl rfl rfl rfl ?_ | refine tl_qg rfl rfl (y_loadW rfl (by repeat constructor) (by rfl)) rfl ?_ | refine tl_qg rfl rfl (y_loadN rfl (by repeat constructor) (by (repeat (first | exact .nil | apply CA.cons rfl)); done)) rfl ?_ | refine tl_qg rfl rfl (y_loadWf rfl (hl4.at (by repeat constructor)) (MI.m (by repeat constructor)) (by simp) (by rfl)) rfl ?_ | refine tl_qg rfl rfl (y_load1f rfl (hl4.at (by repeat constructor)) (MI.m (by repeat constructor)) (by simp) (by rfl)) rfl ?_ | refine tl_su rfl rfl rfl ?_)))
        all_goals (first | refine tl_sk rfl rfl rfl rfl ?_ | refine tl_qg rfl rfl (y_build_0) rfl ?_ | refine tl_su rfl rfl rfl ?_ | (refine tl_gs rfl rfl (fun hc => ?_) (fun hc => ?_) <;> (try simp only [decide_eq_true_eq, decide_eq_false_iff_not, Int.not_lt, Int.not_le, Bool.not_eq_true', Bool.not_eq_false', Decidable.not_not, not_true_eq_false] at hc) <;> (first | (exfalso; omega) | refine tl_sk rfl rfl rfl rfl ?_ | refine tl_qg rfl rfl (y_build_0) rfl ?_ | refine tl_su rfl rfl rfl ?_)))
        all_goals (first | refine tl_sk rfl rfl rfl rfl ?_ | refine tl_qg rfl rfl (y_eql2 rfl rfl) rfl ?_ | refine tl_su rfl rfl rfl ?_ | (refine tl_gs rfl rfl (fun hc => ?_) (fun hc => ?_) <;> (try simp only [decide_eq_true_eq, decide_eq_false_iff_not, Int.not_lt, Int.not_le, Bool.not_eq_true', Bool.not_eq_false', Decidable.not_not, not_true_eq_false] at hc) <;> (first | (exfalso; omega) | refine tl_sk rfl rfl rfl rfl ?_ | refine tl_qg rfl rfl (y_eql2 rfl rfl) rfl ?_ | refine tl_su rfl rfl rfl ?_)))
        all_goals (first | refine tl_q (y_pick_t rfl rfl) rfl ?_ | refine tl_q (y_pick_f rfl rfl) rfl ?_)
        all_goals refine tl_q (y_move rfl) rfl ?_
        all_goals (first | refine tl_sk rfl rfl rfl rfl ?_ | refine tl_qg rfl rfl (y_move rfl) rfl ?_ | refine tl_su rfl rfl rfl ?_ | (refine tl_gs rfl rfl (fun hc => ?_) (fun hc => ?_) <;> (try simp only [decide_eq_true_eq, decide_eq_false_iff_not, Int.not_lt, Int.not_le, Bool.not_eq_true', Bool.not_eq_false', Decidable.not_not, not_true_eq_false] at hc) <;> (first | (exfalso; omega) | refine tl_sk rfl rfl rfl rfl ?_ | refine tl_qg rfl rfl (y_move rfl) rfl ?_ | refine tl_su rfl rfl rfl ?_)))
        all_goals (first | refine tl_sk rfl rfl rfl rfl ?_ | refine tl_qg rfl rfl (y_len rfl) rfl ?_ | refine tl_su rfl rfl rfl ?_ | (refine tl_gs rfl rfl (fun hc => ?_) (fun hc => ?_) <;> (try simp only [decide_eq_true_eq, decide_eq_false_iff_not, Int.not_lt, Int.not_le, Bool.not_eq_true', Bool.not_eq_false', Decidable.not_not, not_true_eq_false] at hc) <;> (first | (exfalso; omega) | refine tl_sk rfl rfl rfl rfl ?_ | refine tl_qg rfl rfl (y_len rfl) rfl ?_ | refine tl_su rfl rfl rfl ?_)))
        all_goals (first | refine tl_sk rfl rfl rfl rfl ?_ | refine tl_qg rfl rfl (y_eql rfl rfl) rfl ?_ | refine tl_su rfl rfl rfl ?_ | (refine tl_gs rfl rfl (fun hc => ?_) (fun hc => ?_) <;> (try simp only [decide_eq_true_eq, decide_eq_false_iff_not, Int.not_lt, Int.not_le, Bool.not_eq_true', Bool.not_eq_false', Decidable.not_not, not_true_eq_false] at hc) <;> (first | (exfalso; omega) | refine tl_sk rfl rfl rfl rfl ?_ | refine tl_qg rfl rfl (y_eql rfl rfl) rfl ?_ | refine tl_su rfl rfl rfl ?_)))
        all_goals (first | refine tl_q (y_pick_t rfl rfl) rfl ?_ | refine tl_q (y_pick_f rfl rfl) rfl ?_)
        all_goals refine tl_q (y_move rfl) rfl ?_
        all_goals (first | refine tl_sk rfl rfl rfl rfl ?_ | refine tl_eg rfl rfl rfl (e_callV rfl .nil (fun w' _ => awake_c w')) (fun _ _ => ?_) | refine tl_su rfl rfl rfl ?_ | (refine tl_gs rfl rfl (fun hc => ?_) (fun hc => ?_) <;> (try simp only [decide_eq_true_eq, decide_eq_false_iff_not, Int.not_lt, Int.not_le, Bool.not_eq_true', Bool.not_eq_false', Decidable.not_not, not_true_eq_false] at hc) <;> (first | (exfalso; omega) | refine tl_sk rfl rfl rfl rfl ?_ | refine tl_eg rfl rfl rfl (e_callV rfl .nil (fun w' _ => awake_c w')) (fun _ _ => ?_) | refine tl_su rfl rfl rfl ?_)))
        all_goals (first | refine tl_q (y_pick_t rfl rfl) rfl ?_ | refine tl_q (y_pick_f rfl rfl) rfl ?_)
        all_goals refine tl_q (y_assign rfl) rfl ?_
        all_goals refine tl_nil ?_
        all_goals (refine hK10 ?_; try (clear hK10; clear K10))
        all_goals refine tc_ret ?_
        all_goals (repeat (first | refine tk_then_ret ?_ | refine tk_block_ret ?_ | refine tk_scope_ret ?_))
        all_goals first | refine tk_ret rfl rfl (.cons (.tmp rfl) .nil) ?_ | refine tk_retM rfl (by repeat constructor) rfl (.cons (.tmp rfl) .nil) ?_
        all_goals (
         refine fun w' hw' => ⟨?_, hw'.fr (w0 := w) (S := []) (MI.m (by repeat constructor))⟩
         first
         | rfl
         | (exfalso; omega))
      · try simp only [decide_eq_true_eq, decide_eq_false_iff_not, Int.not_lt, Int.not_le, Bool.not_eq_true', Bool.not_eq_false', Decidable.not_not, not_true_eq_false] at hc
        all_goals first | (exfalso; with_reducible exact bft hc) | (exfalso; with_reducible exact btf hc) | (exfalso; omega) | skip
        all_goals refine tc_skip ?_
        all_goals (refine hK7 ?_; try (clear hK7; clear K7))
        all_goals refine tc_seq fun K11 hK11 => ?_
        all_goals refine tc_seq fun K12 hK12 => ?_
        all_goals refine tc_lay ([]) (SB.s (by repeat constructor)) (fun wl8 hl8 => ?_)
        all_goals (have h00 : readF s l = 0 := by omega)
        all_goals (have hq := readF_0 h00)
        all_goals (have hll : ll = rLeave s l := by rcases hcase with h | h | h; exact absurd h00 h.1; exact h.2.1; exact h.2.1)
        all_goals refine tc_region ?_
        all_goals refine tl_q (y_move rfl) rfl ?_
        all_goals refine tl_q (y_neq rfl rfl) rfl ?_
        all_goals refine tl_q (y_move rfl) rfl ?_
        all_goals (first | refine tl_sk rfl rfl rfl rfl ?_ | refine tl_qg rfl rfl (y_move rfl) rfl ?_ | refine tl_su rfl rfl rfl ?_ | (refine tl_gs rfl rfl (fun hc => ?_) (fun hc => ?_) <;> (try simp only [decide_eq_true_eq, decide_eq_false_iff_not, Int.not_lt, Int.not_le, Bool.not_eq_true', Bool.not_eq_false', Decidable.not_not, not_true_eq_false] at hc) <;> (first | (exfalso; omega) | refine tl_sk rfl rfl rfl rfl ?_ | refine tl_qg rfl rfl (y_move rfl) rfl ?_ | refine tl_su rfl rfl rfl ?_)))
        all_goals (first | refine tl_sk rfl rfl rfl rfl ?_ | refine tl_qg rfl rfl (y_loadW rfl (by repeat constructor) (by rfl)) rfl ?_ | refine tl_qg rfl rfl (y_loadN rfl (by repeat constructor) (by (repeat (first | exact .nil | apply CA.cons rfl)); done)) rfl ?_ | refine tl_qg rfl rfl (y_loadWf rfl (hl1.at (by repeat constructor)) (MI.m (by repeat constructor)) (by simp) (by rfl)) rfl ?_ | refine tl_qg rfl rfl (y_load1f rfl (hl1.at (by repeat constructor)) (MI.m (by repeat constructor)) (by simp) (by rfl)) rfl ?_ | refine tl_su rfl rfl rfl ?_ | (refine tl_gs rfl rfl (fun hc => ?_) (fun hc => ?_) <;> (try simp only [decide_eq_true_eq, decide_eq_false_iff_not, Int.not_lt, Int.not_le, Bool.not_eq_true', Bool.not_eq_false', Decidable.not_not, not_true_eq_false] at hc) <;> (first | (exfalso; omega) | refine tl_sk rfl rfl rfl rfl ?_ | refine tl_qg rfl rfl (y_loadW rfl (by repeat constructor) (by rfl)) rfl ?_ | refine tl_qg rfl rfl (y_loadN rfl (by repeat constructor) (by (repeat (first | exact .nil | apply CA.cons rfl)); done)) rfl ?_ | refine tl_qg rfl rfl (y_loadWf rfl (hl1.at (by repeat constructor)) (MI.m (by repeat constructor)) (by simp) (by rfl)) rfl ?_ | refine tl_qg rfl rfl (y_load1f rfl (hl1.at (by repeat constructor)) (MI.m (by repeat constructor)) (by simp) (by rfl)) rfl ?_ | refine tl_su rfl rfl rfl ?_)))
        all_goals (first | refine tl_sk rfl rfl rfl rfl ?_ | refine tl_qg rfl rfl (y_move rfl) rfl ?_ | refine tl_su rfl rfl rfl ?_ | (refine tl_gs rfl rfl (fun hc => ?_) (fun hc => ?_) <;> (try simp only [decide_eq_true_eq, decide_eq_false_iff_not, Int.not_lt, Int.not_le, Bool.not_eq_true', Bool.not_eq_false', Decidable.not_not, not_true_eq_false] at hc) <;> (first | (exfalso; omega) | refine tl_sk rfl rfl rfl rfl ?_ | refine tl_qg rfl rfl (y_move rfl) rfl ?_ | refine tl_su rfl rfl rfl ?_)))
        all_goals (first | refine tl_sk rfl rfl rfl rfl ?_ | refine tl_eg rfl rfl rfl (e_callX rfl (.cons rfl (.cons rfl .nil)) (fun w' hw' => rleave_c s hq.1 l (by omega) hq.2.2 _ _ w' (hr0.fr (hw'.fr (w0 := w) (S := []) (MI.m (by repeat constructor)))) (hR0.fr (hw'.fr (w0 := w) (S := []) (MI.m (by repeat constructor)))))) (fun u hu => ?_) | refine tl_su rfl rfl rfl ?_ | (refine tl_gs rfl rfl (fun hc => ?_) (fun hc => ?_) <;> (try simp only [decide_eq_true_eq, decide_eq_false_iff_not, Int.not_lt, Int.not_le, Bool.not_eq_true', Bool.not_eq_false', Decidable.not_not, not_true_eq_false] at hc) <;> (first | (exfalso; omega) | refine tl_sk rfl rfl rfl rfl ?_ | refine tl_eg rfl rfl rfl (e_callX rfl (.cons rfl (.cons rfl .nil)) (fun w' hw' => rleave_c s hq.1 l (by omega) hq.2.2 _ _ w' (hr0.fr (hw'.fr (w0 := w) (S := []) (MI.m (by repeat constructor)))) (hR0.fr (hw'.fr (w0 := w) (S := []) (MI.m (by repeat constructor)))))) (fun u hu => ?_) | refine tl_su rfl rfl rfl ?_)))
        all_goals (first | refine tl_sk rfl rfl rfl rfl ?_ | refine tl_eg rfl rfl rfl (e_callV rfl (.cons rfl (.cons rfl .nil)) (fun w' hw' => ints_t ll (by rw [hll]; have := rLeaveN_len s l (2 ^ l.length); unfold rLeave; omega) _ _ w' (hz.1.fr (hw'.fr (MI.m (by repeat constructor)))) (by rw [hll]; exact hu.1.fr (hw'.fr (MI.m (by repeat constructor)))))) (fun _ _ => ?_) | refine tl_su rfl rfl rfl ?_ | (refine tl_gs rfl rfl (fun hc => ?_) (fun hc => ?_) <;> (try simp only [decide_eq_true_eq, decide_eq_false_iff_not, Int.not_lt, Int.not_le, Bool.not_eq_true', Bool.not_eq_false', Decidable.not_not, not_true_eq_false] at hc) <;> (first | (exfalso; omega) | refine tl_sk rfl rfl rfl rfl ?_ | refine tl_eg rfl rfl rfl (e_callV rfl (.cons rfl (.cons rfl .nil)) (fun w' hw' => ints_t ll (by rw [hll]; have := rLeaveN_len s l (2 ^ l.length); unfold rLeave; omega) _ _ w' (hz.1.fr (hw'.fr (MI.m (by repeat constructor)))) (by rw [hll]; exact hu.1.fr (hw'.fr (MI.m (by repeat constructor)))))) (fun _ _ => ?_) | refine tl_su rfl rfl rfl ?_)))
        all_goals (first | refine tl_sk rfl rfl rfl rfl ?_ | refine tl_qg rfl rfl (y_not_dec rfl) rfl ?_ | refine tl_qg rfl rfl (y_not rfl) rfl ?_ | refine tl_su rfl rfl rfl ?_ | (refine tl_gs rfl rfl (fun hc => ?_) (fun hc => ?_) <;> (try simp only [decide_eq_true_eq, decide_eq_false_iff_not, Int.not_lt, Int.not_le, Bool.not_eq_true', Bool.not_eq_false', Decidable.not_not, not_true_eq_false] at hc) <;> (first | (exfalso; omega) | refine tl_sk rfl rfl rfl rfl ?_ | refine tl_qg rfl rfl (y_not_dec rfl) rfl ?_ | refine tl_qg rfl rfl (y_not rfl) rfl ?_ | refine tl_su rfl rfl rfl ?_)))
        all_goals (first | refine tl_q (y_pick_t rfl rfl) rfl ?_ | refine tl_q (y_pick_f rfl rfl) rfl ?_)
        all_goals refine tl_nil ?_
        all_goals (refine hK12 ?_; try (clear hK12; clear K12))
        all_goals (
         refine tc_cond rfl (fun hc => ?_) (fun hc => ?_)
         · try simp only [decide_eq_true_eq, decide_eq_false_iff_not, Int.not_lt, Int.not_le, Bool.not_eq_true', Bool.not_eq_false', Decidable.not_not, not_true_eq_false] at hc
           all_goals first | (exfalso; with_reducible exact bft hc) | (exfalso; with_reducible exact btf hc) | (exfalso; omega) | skip
           all_goals refine tc_seq fun K13 hK13 => ?_
           all_goals refine tc_lay ([]) (SB.s (by repeat constructor)) (fun wl9 hl9 => ?_)
           all_goals refine tc_region ?_
           all_goals refine tl_q (y_assign rfl) rfl ?_
           all_goals refine tl_nil ?_
           all_goals (refine hK13 ?_; try (clear hK13; clear K13))
           all_goals refine tc_ret ?_
           all_goals (repeat (first | refine tk_then_ret ?_ | refine tk_block_ret ?_ | refine tk_scope_ret ?_))
           all_goals first | refine tk_ret rfl rfl (.cons (.tmp rfl) .nil) ?_ | refine tk_retM rfl (by repeat constructor) rfl (.cons (.tmp rfl) .nil) ?_
           all_goals (
            refine fun w' hw' => ⟨?_, hw'.fr (w0 := w) (S := []) (MI.m (by repeat constructor))⟩
            first
            | rfl
            | (exfalso; omega))
         · try simp only [decide_eq_true_eq, decide_eq_false_iff_not, Int.not_lt, Int.not_le, Bool.not_eq_true', Bool.not_eq_false', Decidable.not_not, not_true_eq_false] at hc
           all_goals first | (exfalso; with_reducible exact bft hc) | (exfalso; with_reducible exact btf hc) | (exfalso; omega) | skip
           all_goals refine tc_skip ?_
           all_goals (refine hK11 ?_; try (clear hK11; clear K11))
           all_goals refine tc_seq fun K14 hK14 => ?_
           all_goals refine tc_lay ([]) (SB.s (by repeat constructor)) (fun wl10 hl10 => ?_)
           all_goals refine tc_region ?_
           all_goals (first | refine tl_q (y_loadW rfl (by repeat constructor) (by rfl)) rfl ?_ | refine tl_q (y_loadN rfl (by repeat constructor) (by (repeat (first | exact .nil | apply CA.cons rfl)); done)) rfl ?_ | refine tl_q (y_loadWf rfl (hl1.at (by repeat constructor)) (MI.m (by repeat constructor)) (by simp) (by rfl)) rfl ?_ | refine tl_q (y_load1f rfl (hl1.at (by repeat constructor)) (MI.m (by repeat constructor)) (by simp) (by rfl)) rfl ?_)
           all_goals refine tl_q (y_move rfl) rfl ?_
           all_goals refine tl_e (e_callV rfl (.cons rfl (.cons rfl (.cons rfl .nil))) (fun w' hw' => rall_v s hq.1 l (by omega) hq.2.2 0 (by decide) hA _ _ w' (hr0.fr (hw'.fr (w0 := w) (S := []) (MI.m (by repeat constructor)))) (hR0.fr (hw'.fr (w0 := w) (S := []) (MI.m (by repeat constructor)))))) rfl (fun _ _ => ?_)
           all_goals refine tl_q (y_move rfl) rfl ?_
           all_goals refine tl_q (y_extract rfl rfl) rfl ?_
           all_goals refine tl_q (y_extract rfl rfl) rfl ?_
           all_goals refine tl_e (e_allocN rfl) rfl (fun b10 _ => ?_)
           all_goals refine tl_e (e_storeW rfl rfl (by repeat constructor) (by rfl) (by rfl) (by simp [Value.oneCell'])) rfl (fun _ _ => ?_)
           all_goals refine tl_q (y_assign rfl) rfl ?_
           all_goals refine tl_nil ?_
           all_goals (refine hK14 ?_; try (clear hK14; clear K14))
           all_goals refine tc_seq fun K15 hK15 => ?_
           all_goals refine tc_seq fun K16 hK16 => ?_
           all_goals refine tc_lay ([]) (SB.s (by repeat constructor)) (fun wl11 hl11 => ?_)
           all_goals refine tc_region ?_
           all_goals refine tl_q (y_move rfl) rfl ?_
           all_goals refine tl_q (y_eql rfl rfl) rfl ?_
           all_goals refine tl_nil ?_
           all_goals (refine hK16 ?_; try (clear hK16; clear K16))
           all_goals (
            refine tc_cond rfl (fun hc => ?_) (fun hc => ?_)
            · try simp only [decide_eq_true_eq, decide_eq_false_iff_not, Int.not_lt, Int.not_le, Bool.not_eq_true', Bool.not_eq_false', Decidable.not_not, not_true_eq_false] at hc
              all_goals first | (exfalso; with_reducible exact bft hc) | (exfalso; with_reducible exact btf hc) | (exfalso; omega) | skip
              all_goals refine tc_seq fun K17 hK17 => ?_
              all_goals refine tc_lay ([]) (SB.s (by repeat constructor)) (fun wl12 hl12 => ?_)
              all_goals refine tc_region ?_
              all_goals refine tl_q (y_move rfl) rfl ?_
              all_goals refine tl_q (y_eql rfl rfl) rfl ?_
              all_goals refine tl_q (y_move rfl) rfl ?_
              all_goals (first | refine tl_sk rfl rfl rfl rfl ?_ | refine tl_qg rfl rfl (y_loadW rfl (by repeat constructor) (by rfl)) rfl ?_ | refine tl_qg rfl rfl (y_loadN rfl (by repeat constructor) (by (repeat (first | exact .nil | apply CA.cons rfl)); done)) rfl ?_ | refine tl_qg rfl rfl (y_loadWf rfl (hl4.at (by repeat constructor)) (MI.m (by repeat constructor)) (by simp) (by rfl)) rfl ?_ | refine tl_qg rfl rfl (y_load1f rfl (hl4.at (by repeat constructor)) (MI.m (by repeat constructor)) (by simp) (by rfl)) rfl ?_ | refine tl_su rfl rfl rfl ?_ | (refine tl_gs rfl rfl (fun hc => ?_) (fun hc => ?_) <;> (try simp only [decide_eq_true_eq, decide_eq_false_iff_not, Int.not_lt, Int.not_le, Bool.not_eq_true', Bool.not_eq_false', Decidable.not_not, not_true_eq_false] at hc) <;> (first | (exfalso; omega) | refine tl_sk rfl rfl rfl rfl ?_ | refine tl_qg rfl rfl (y_loadW rfl (by repeat constructor) (by rfl)) rfl ?_ | refine tl_qg rfl rfl (y_loadN rfl (by repeat constructor) (by (repeat (first | exact .nil | apply CA.cons rfl)); done)) rfl ?_ | refine tl_qg rfl rfl (y_loadWf rfl (hl4.at (by repeat constructor)) (MI.m (by repeat constructor)) (by simp) (by rfl)) rfl ?_ | refine tl_qg rfl rfl (y_load1f rfl (hl4.at (by repeat constructor)) (MI.m (by repeat constructor)) (by simp) (by rfl)) rfl ?_ | refine tl_su rfl rfl rfl ?_)))
              all_goals (first | refine tl_sk rfl rfl rfl rfl ?_ | refine tl_qg rfl rfl (y_build_0) rfl ?_ | refine tl_su rfl rfl rfl ?_ | (refine tl_gs rfl rfl (fun hc => ?_) (fun hc => ?_) <;> (try simp only [decide_eq_true_eq, decide_eq_false_iff_not, Int.not_lt, Int.not_le, Bool.not_eq_true', Bool.not_eq_false', Decidable.not_not, not_true_eq_false] at hc) <;> (first | (exfalso; omega) | refine tl_sk rfl rfl rfl rfl ?_ | refine tl_qg rfl rfl (y_build_0) rfl ?_ | refine tl_su rfl rfl rfl ?_)))
              all_goals (first | refine tl_sk rfl rfl rfl rfl ?_ | refine tl_qg rfl rfl (y_eql2 rfl rfl) rfl ?_ | refine tl_su rfl rfl rfl ?_ | (refine tl_gs rfl rfl (fun hc => ?_) (fun hc => ?_) <;> (try simp only [decide_eq_true_eq, decide_eq_false_iff_not, Int.not_lt, Int.not_le, Bool.not_eq_true', Bool.not_eq_false', Decidable.not_not, not_true_eq_false] at hc) <;> (first | (exfalso; omega) | refine tl_sk rfl rfl rfl rfl ?_ | refine tl_qg rfl rfl (y_eql2 rfl rfl) rfl ?_ | refine tl_su rfl rfl rfl ?_)))
              all_goals (first | refine tl_q (y_pick_t rfl rfl) rfl ?_ | refine tl_q (y_pick_f rfl rfl) rfl ?_)
              all_goals refine tl_q (y_move rfl) rfl ?_
              all_goals (first | refine tl_sk rfl rfl rfl rfl ?_ | refine tl_eg rfl rfl rfl (e_callV rfl .nil (fun w' _ => awake_c w')) (fun _ _ => ?_) | refine tl_su rfl rfl rfl ?_ | (refine tl_gs rfl rfl (fun hc => ?_) (fun hc => ?_) <;> (try simp only [decide_eq_true_eq, decide_eq_false_iff_not, Int.not_lt, Int.not_le, Bool.not_eq_true', Bool.not_eq_false', Decidable.not_not, not_true_eq_false] at hc) <;> (first | (exfalso; omega) | refine tl_sk rfl rfl rfl rfl ?_ | refine tl_eg rfl rfl rfl (e_callV rfl .nil (fun w' _ => awake_c w')) (fun _ _ => ?_) | refine tl_su rfl rfl rfl ?_)))
              all_goals (first | refine tl_q (y_pick_t rfl rfl) rfl ?_ | refine tl_q (y_pick_f rfl rfl) rfl ?_)
              all_goals refine tl_q (y_assign rfl) rfl ?_
              all_goals refine tl_nil ?_
              all_goals (refine hK17 ?_; try (clear hK17; clear K17))
              all_goals refine tc_ret ?_
              all_goals (repeat (first | refine tk_then_ret ?_ | refine tk_block_ret ?_ | refine tk_scope_ret ?_))
              all_goals first | refine tk_ret rfl rfl (.cons (.tmp rfl) .nil) ?_ | refine tk_retM rfl (by repeat constructor) rfl (.cons (.tmp rfl) .nil) ?_
              all_goals (
               refine fun w' hw' => ⟨?_, hw'.fr (w0 := w) (S := []) (MI.m (by repeat constructor))⟩
               first
               | rfl
               | (exfalso; omega))
            · try simp only [decide_eq_true_eq, decide_eq_false_iff_not, Int.not_lt, Int.not_le, Bool.not_eq_true', Bool.not_eq_false', Decidable.not_not, not_true_eq_false] at hc
              all_goals first | (exfalso; with_reducible exact bft hc) | (exfalso; with_reducible exact btf hc) | (exfalso; omega) | skip
              all_goals refine tc_skip ?_
              all_goals (refine hK15 ?_; try (clear hK15; clear K15))
              all_goals refine tc_seq fun K18 hK18 => ?_
              all_goals refine tc_lay ([]) (SB.s (by repeat constructor)) (fun wl13 hl13 => ?_)
              all_goals refine tc_draw (by kernel_rfl) ?_
              all_goals refine tx_p 0 rfl (by kernel_rfl) (y_move rfl) rfl (fun _ _ _ h => h) (fun _ h => h) ?_
              all_goals refine tx_p 1 rfl (by kernel_rfl) (y_eql rfl rfl) rfl (fun _ _ _ h => h) (fun _ h => h) ?_
              all_goals refine tx_p 2 rfl (by kernel_rfl) (y_move rfl) rfl (fun _ _ _ h => h) (fun _ h => h) ?_
              all_goals (first | refine tx_sk 3 rfl (by kernel_rfl) rfl rfl rfl rfl (fun _ _ _ h => h) (fun _ h => h) ?_ | refine tx_qg 3 rfl (by kernel_rfl) rfl rfl (y_loadW rfl (by repeat constructor) (by rfl)) rfl (fun _ _ _ h => h) (fun _ h => h) ?_ | refine tx_qg 3 rfl (by kernel_rfl) rfl rfl (y_loadN rfl (by repeat constructor) (by (repeat (first | exact .nil | apply CA.cons rfl)); done)) rfl (fun _ _ _ h => h) (fun _ h => h) ?_ | refine tx_qg 3 rfl (by kernel_rfl) rfl rfl (y_loadWf rfl (hl4.at (by repeat constructor)) (MI.m (by repeat constructor)) (by simp) (by rfl)) rfl (fun _ _ _ h => h) (fun _ h => h) ?_ | refine tx_qg 3 rfl (by kernel_rfl) rfl rfl (y_load1f rfl (hl4.at (by repeat constructor)) (MI.m (by repeat constructor)) (by simp) (by rfl)) rfl (fun _ _ _ h => h) (fun _ h => h) ?_ | refine tx_su 3 rfl (by kernel_rfl) rfl rfl rfl (fun _ _ _ h => h) (fun _ h => h) ?_ | (refine tx_gs 93 rfl (fun hc => ?_) (fun hc => ?_) <;> (try simp only [decide_eq_true_eq, decide_eq_false_iff_not, Int.not_lt, Int.not_le, Bool.not_eq_true', Bool.not_eq_false', Decidable.not_not, not_true_eq_false] at hc) <;> (first | (exfalso; omega) | refine tx_sk 3 rfl (by kernel_rfl) rfl rfl rfl rfl (fun _ _ _ h => h) (fun _ h => h) ?_ | refine tx_qg 3 rfl (by kernel_rfl) rfl rfl (y_loadW rfl (by repeat constructor) (by rfl)) rfl (fun _ _ _ h => h) (fun _ h => h) ?_ | refine tx_qg 3 rfl (by kernel_rfl) rfl rfl (y_loadN rfl (by repeat constructor) (by (repeat (first | exact .nil | apply CA.cons rfl)); done)) rfl (fun _ _ _ h => h) (fun _ h => h) ?_ | refine tx_qg 3 rfl (by kernel_rfl) rfl rfl (y_loadWf rfl (hl4.at (by repeat constructor)) (MI.m (by repeat constructor)) (by simp) (by rfl)) rfl (fun _ _ _ h => h) (fun _ h => h) ?_ | refine tx_qg 3 rfl (by kernel_rfl) rfl rfl (y_load1f rfl (hl4.at (by repeat constructor)) (MI.m (by repeat constructor)) (by simp) (by rfl)) rfl (fun _ _ _ h => h) (fun _ h => h) ?_ | refine tx_su 3 rfl (by kernel_rfl) rfl rfl rfl (fun _ _ _ h => h) (fun _ h => h) ?_)))
              all_goals (first | refine tx_sk 4 rfl (by kernel_rfl) rfl rfl rfl rfl (fun _ _ _ h => h) (fun _ h => h) ?_ | refine tx_qg 4 rfl (by kernel_rfl) rfl rfl (y_loadW rfl (by repeat constructor) (by rfl)) rfl (fun _ _ _ h => h) (fun _ h => h) ?_ | refine tx_qg 4 rfl (by kernel_rfl) rfl rfl (y_loadN rfl (by repeat constructor) (by (repeat (first | exact .nil | apply CA.cons rfl)); done)) rfl (fun _ _ _ h => h) (fun _ h => h) ?_ | refine tx_qg 4 rfl (by kernel_rfl) rfl rfl (y_loadWf rfl (hl11.at (by repeat constructor)) (MI.m (by repeat constructor)) (by simp) (by rfl)) rfl (fun _ _ _ h => h) (fun _ h => h) ?_ | refine tx_qg 4 rfl (by kernel_rfl) rfl rfl (y_load1f rfl (hl11.at (by repeat constructor)) (MI.m (by repeat constructor)) (by simp) (by rfl)) rfl (fun _ _ _ h => h) (fun _ h => h) ?_ | refine tx_su 4 rfl (by kernel_rfl) rfl rfl rfl (fun _ _ _ h => h) (fun _ h => h) ?_ | (refine tx_gs 93 rfl (fun hc => ?_) (fun hc => ?_) <;> (try simp only [decide_eq_true_eq, decide_eq_false_iff_not, Int.not_lt, Int.not_le, Bool.not_eq_true', Bool.not_eq_false', Decidable.not_not, not_true_eq_false] at hc) <;> (first | (exfalso; omega) | refine tx_sk 4 rfl (by kernel_rfl) rfl rfl rfl rfl (fun _ _ _ h => h) (fun _ h => h) ?_ | refine tx_qg 4 rfl (by kernel_rfl) rfl rfl (y_loadW rfl (by repeat constructor) (by rfl)) rfl (fun _ _ _ h => h) (fun _ h => h) ?_ | refine tx_qg 4 rfl (by kernel_rfl) rfl rfl (y_loadN rfl (by repeat constructor) (by (repeat (first | exact .nil | apply CA.cons rfl)); done)) rfl (fun _ _ _ h => h) (fun _ h => h) ?_ | refine tx_qg 4 rfl (by kernel_rfl) rfl rfl (y_loadWf rfl (hl11.at (by repeat constructor)) (MI.m (by repeat constructor)) (by simp) (by rfl)) rfl (fun _ _ _ h => h) (fun _ h => h) ?_ | refine tx_qg 4 rfl (by kernel_rfl) rfl rfl (y_load1f rfl (hl11.at (by repeat constructor)) (MI.m (by repeat constructor)) (by simp) (by rfl)) rfl (fun _ _ _ h => h) (fun _ h => h) ?_ | refine tx_su 4 rfl (by kernel_rfl) rfl rfl rfl (fun _ _ _ h => h) (fun _ h => h) ?_)))
              all_goals (first | refine tx_sk 5 rfl (by kernel_rfl) rfl rfl rfl rfl (fun _ _ _ h => h) (fun _ h => h) ?_ | refine tx_eg 5 rfl (by kernel_rfl) rfl rfl rfl (e_callV rfl (.cons rfl .nil) (fun w' _ => to_c _ w')) (.inr fun _ _ h => h) (fun _ _ => ?_) | refine tx_su 5 rfl (by kernel_rfl) rfl rfl rfl (fun _ _ _ h => h) (fun _ h => h) ?_ | (refine tx_gs 93 rfl (fun hc => ?_) (fun hc => ?_) <;> (try simp only [decide_eq_true_eq, decide_eq_false_iff_not, Int.not_lt, Int.not_le, Bool.not_eq_true', Bool.not_eq_false', Decidable.not_not, not_true_eq_false] at hc) <;> (first | (exfalso; omega) | refine tx_sk 5 rfl (by kernel_rfl) rfl rfl rfl rfl (fun _ _ _ h => h) (fun _ h => h) ?_ | refine tx_eg 5 rfl (by kernel_rfl) rfl rfl rfl (e_callV rfl (.cons rfl .nil) (fun w' _ => to_c _ w')) (.inr fun _ _ h => h) (fun _ _ => ?_) | refine tx_su 5 rfl (by kernel_rfl) rfl rfl rfl (fun _ _ _ h => h) (fun _ h => h) ?_)))
              all_goals (first | refine tx_sk 6 rfl (by kernel_rfl) rfl rfl rfl rfl (fun _ _ _ h => h) (fun _ h => h) ?_ | refine tx_pg 6 rfl (by kernel_rfl) rfl rfl (y_eql2 rfl rfl) rfl (fun _ _ _ h => h) (fun _ h => h) ?_ | refine tx_su 6 rfl (by kernel_rfl) rfl rfl rfl (fun _ _ _ h => h) (fun _ h => h) ?_ | (refine tx_gs 93 rfl (fun hc => ?_) (fun hc => ?_) <;> (try simp only [decide_eq_true_eq, decide_eq_false_iff_not, Int.not_lt, Int.not_le, Bool.not_eq_true', Bool.not_eq_false', Decidable.not_not, not_true_eq_false] at hc) <;> (first | (exfalso; omega) | refine tx_sk 6 rfl (by kernel_rfl) rfl rfl rfl rfl (fun _ _ _ h => h) (fun _ h => h) ?_ | refine tx_pg 6 rfl (by kernel_rfl) rfl rfl (y_eql2 rfl rfl) rfl (fun _ _ _ h => h) (fun _ h => h) ?_ | refine tx_su 6 rfl (by kernel_rfl) rfl rfl rfl (fun _ _ _ h => h) (fun _ h => h) ?_)))
              all_goals (first | refine tx_p 7 rfl (by kernel_rfl) (y_pick_t rfl rfl) rfl (fun _ _ _ h => h) (fun _ h => h) ?_ | refine tx_p 7 rfl (by kernel_rfl) (y_pick_f rfl rfl) rfl (fun _ _ _ h => h) (fun _ h => h) ?_)
              all_goals refine tx_p 8 rfl (by kernel_rfl) (y_move rfl) rfl (fun _ _ _ h => h) (fun _ h => h) ?_
              all_goals (first | refine tx_sk 9 rfl (by kernel_rfl) rfl rfl rfl rfl (fun _ _ _ h => h) (fun _ h => h) ?_ | refine tx_eg 9 rfl (by kernel_rfl) rfl rfl rfl (e_callV rfl .nil (fun w' _ => awake_c w')) (.inr fun _ _ h => h) (fun _ _ => ?_) | refine tx_su 9 rfl (by kernel_rfl) rfl rfl rfl (fun _ _ _ h => h) (fun _ h => h) ?_ | (refine tx_gs 99 rfl (fun hc => ?_) (fun hc => ?_) <;> (try simp only [decide_eq_true_eq, decide_eq_false_iff_not, Int.not_lt, Int.not_le, Bool.not_eq_true', Bool.not_eq_false', Decidable.not_not, not_true_eq_false] at hc) <;> (first | (exfalso; omega) | refine tx_sk 9 rfl (by kernel_rfl) rfl rfl rfl rfl (fun _ _ _ h => h) (fun _ h => h) ?_ | refine tx_eg 9 rfl (by kernel_rfl) rfl rfl rfl (e_callV rfl .nil (fun w' _ => awake_c w')) (.inr fun _ _ h => h) (fun _ _ => ?_) | refine tx_su 9 rfl (by kernel_rfl) rfl rfl rfl (fun _ _ _ h => h) (fun _ h => h) ?_)))
              all_goals (first | refine tx_p 10 rfl (by kernel_rfl) (y_pick_t rfl rfl) rfl (fun _ _ _ h => h) (fun _ h => h) ?_ | refine tx_p 10 rfl (by kernel_rfl) (y_pick_f rfl rfl) rfl (fun _ _ _ h => h) (fun _ h => h) ?_)
              all_goals refine tx_p 11 rfl (by kernel_rfl) (y_assign rfl) rfl (fun _ _ _ h => h) (fun _ h => h) ?_
              all_goals refine tx_done (by kernel_rfl) ?_
              all_goals (refine hK18 ?_; try (clear hK18; clear K18))
              all_goals refine tc_ret ?_
              all_goals (repeat (first | refine tk_then_ret ?_ | refine tk_block_ret ?_ | refine tk_scope_ret ?_))
              all_goals first | refine tk_ret rfl rfl (.cons (.tmp rfl) .nil) ?_ | refine tk_retM rfl (by repeat constructor) rfl (.cons (.tmp rfl) .nil) ?_
              all_goals (
               refine fun w' hw' => ⟨?_, hw'.fr (w0 := w) (S := []) (MI.m (by repeat constructor))⟩
               first
               | rfl
               | (exfalso; omega))))))
end Go.Sp
