
/-
  TrialWider: the law's function returns true.
-/
import Derived.Test.YtegojecjmaifdaaGreatM5
set_option linter.unusedVariables false
set_option linter.unusedSimpArgs false
set_option linter.deprecated false
namespace Go.Sp
open Go Go.Proofs
theorem CnX.slicedT {P : Program} {f : FuncId} {args : Array Value} {w : World} {g : Value → Value} {xs : List Int} (h : CnX P f args w [] g (fun v w' => RdI w' v xs)) :
    CnX P f args w [] (fun x : Option Addr × Nat => g (slV xs.length x)) (fun x w' => RdI w' (slV xs.length x) xs) :=
  CnX.of (h.out.mono fun e w' he => by
    obtain ⟨v, rfl, hf, hr⟩ := he
    obtain ⟨hl, ad, cap, rfl, h2⟩ := hr
    exact ⟨(ad, cap), rfl, hf, ⟨hl, ad, cap, rfl, h2⟩⟩)
theorem leaveT_sv (t : Tr) (hv : VT t) (sl pl ll tl : Value) (w : World) (hr : RdTr w t sl pl ll tl) :
    CnX Tryz.prog 37 #[trV t sl pl ll tl] w [] (fun x : Option Addr × Nat => .tuple #[slV (leaveTL t).length x, vi 0]) (fun x w' => RdI w' (slV (leaveTL t).length x) (leaveTL t)) :=
  (leaveT_ok t hv sl pl ll tl w hr).slicedT
theorem err_no11 (t : Tr) (hn : NT t) (he : askedE t = 11) (sl pl ll tl : Value) (w : World) (hr : RdTr w t sl pl ll tl) : CnV Tryz.prog 35 #[trV t sl pl ll tl] w (.tuple #[.slice none 0 0, vi 11]) := by
  have h := errors_no t hn (by omega) sl pl ll tl w hr
  rw [he] at h; exact h
theorem lq_cell {L : List (Int × Int)} {junk : List Value} {i : Nat} (hi : i < L.length) : (([] ++ flatR L ++ junk).toArray : Array Value)[0 + i * 2 + 0]? = some (vi (L.getD i (0, 0)).1) ∧ (([] ++ flatR L ++ junk).toArray : Array Value)[0 + i * 2 + 1]? = some (vi (L.getD i (0, 0)).2) := by
  have key : ∀ (L : List (Int × Int)) (i : Nat), i < L.length → (flatR L)[i * 2]? = some (vi (L.getD i (0, 0)).1) ∧ (flatR L)[i * 2 + 1]? = some (vi (L.getD i (0, 0)).2) := by
    intro L
    induction L with
    | nil => intro i h; exact absurd h (Nat.not_lt_zero i)
    | cons r L ih =>
      intro i h
      cases i with
      | zero => exact ⟨rfl, rfl⟩
      | succ i =>
        have := ih i (by simpa using h)
        rw [show (i + 1) * 2 = i * 2 + 2 from by omega]
        exact this
  have hlen := flatR_len L
  have hk := key L i hi
  rw [List.nil_append, List.getElem?_toArray, List.getElem?_toArray, List.getElem?_append_left (by omega), List.getElem?_append_left (by omega), Nat.zero_add]
  exact hk
theorem lq_set {L : List (Int × Int)} {junk : List Value} {i : Nat} (hi : i < L.length) (a b : Int) : ((([] ++ flatR L ++ junk).set (0 + i * 2 + 0) (vi a)).set (0 + i * 2 + 1) (vi b)) = flatR (L.set i (a, b)) ++ junk := by
  have key : ∀ (L : List (Int × Int)) (i : Nat), i < L.length → ((flatR L ++ junk).set (i * 2) (vi a)).set (i * 2 + 1) (vi b) = flatR (L.set i (a, b)) ++ junk := by
    intro L
    induction L with
    | nil => intro i h; exact absurd h (Nat.not_lt_zero i)
    | cons r L ih =>
      intro i h
      cases i with
      | zero => rfl
      | succ i =>
        have := ih i (by simpa using h)
        rw [show (i + 1) * 2 = i * 2 + 2 from by omega]
        show vi r.1 :: vi r.2 :: (((flatR L ++ junk).set (i * 2) (vi a)).set (i * 2 + 1) (vi b)) = vi r.1 :: vi r.2 :: (flatR (L.set i (a, b)) ++ junk)
        rw [this]
  rw [List.nil_append, Nat.zero_add]
  exact key L i hi
theorem wid_set {t : Tr} (hv : VT t) {i : Nat} (hi : i < t.liquids.length) {a b : Int} (ha : 0 ≤ a) (hb : 0 ≤ b) : Wid t { t with liquids := t.liquids.set i (max 1 ((lqAt t i).1 - a), min 2000 ((lqAt t i).2 + b)) } :=
  ⟨rfl, rfl, rfl, rfl, by simp, fun j hj => by
    have hb := hv.lqb hj
    unfold lqAt at hb ⊢
    dsimp only
    by_cases h : i = j
    · subst h
      rw [List.getD_eq_getElem?_getD (l := t.liquids.set _ _), List.getElem?_set_self hi]
      simp only [Option.getD_some]
      omega
    · rw [List.getD_eq_getElem?_getD (l := t.liquids.set _ _), List.getElem?_set_ne h, ← List.getD_eq_getElem?_getD]
      omega⟩
set_option maxHeartbeats 4000000 in
theorem wider_law (t : Tr) (n1 n2 : Int) (w1 : 0 ≤ n1 ∧ n1 ≤ 255) (w2 : 0 ≤ n2 ∧ n2 ≤ 255) (sl pl ll tl : Value) (w : World) (hr : RdTr w t sl pl ll tl) :
    CnV Tryz.prog 8 #[trV t sl pl ll tl, v8 n1, v8 n2] w (.bool true) := by
  have hr0 := hr
  obtain ⟨aw, cw, _, _, rfl, _, _⟩ := hr.ws.open
  obtain ⟨ap, cp, _, _, rfl, _, _⟩ := hr.ps.open
  obtain ⟨al, cl, _, _, rfl, _, _⟩ := hr.ls.open
  obtain ⟨at', ct, _, _, rfl, _, _⟩ := hr.ts.open
  refine cnv (vs := [_, _, _]) Tryz.func8 rfl rfl ?_
  all_goals refine tc_seq fun K1 hK1 => ?_
  all_goals refine tc_region ?_
  all_goals refine tl_e (e_box rfl rfl rfl) rfl (fun b3 _ => ?_)
  all_goals refine tl_q (y_assign rfl) rfl ?_
  all_goals refine tl_nil ?_
  all_goals (refine hK1 ?_; try (clear hK1; clear K1))
  all_goals refine tc_seq fun K2 hK2 => ?_
  all_goals refine tc_seq fun K3 hK3 => ?_
  all_goals refine tc_lay ([]) (SB.s (by repeat constructor)) (fun wl1 hl1 => ?_)
  all_goals refine tc_region ?_
  all_goals (first | refine tl_q (y_loadWf rfl (hl7.at (b := b7) (by repeat constructor)) (MI.m (by repeat constructor)) (by simp) (by rfl)) rfl ?_ | refine tl_q (y_loadW rfl (by repeat constructor) (by rfl)) rfl ?_ | refine tl_q (y_loadN rfl (by repeat constructor) (by (repeat (first | exact .nil | apply CA.cons rfl)); done)) rfl ?_ | refine tl_q (y_loadWf rfl (hl1.at (by repeat constructor)) (MI.m (by repeat constructor)) (by simp) (by rfl)) rfl ?_ | refine tl_q (y_load1f rfl (hl1.at (by repeat constructor)) (MI.m (by repeat constructor)) (by simp) (by rfl)) rfl ?_ | refine tl_q (y_load1o (v := vi (lqAt t i).1) rfl (fun w' hw' => cell0 (hw'.heap (z.1, _) (HM.mem (by repeat constructor))) hcell.1)) rfl ?_ | refine tl_q (y_load1o (v := vi (lqAt t i).2) rfl (fun w' hw' => cell0 (hw'.heap (z.1, _) (HM.mem (by repeat constructor))) hcell.2)) rfl ?_ | refine tl_q (y_load1o (v := vsA.getD m (.slice none 0 0)) rfl (fun w' hw' => by rw [show Int.toNat (m : Int) * 1 = m from by omega]; exact hcA w' (hw'.fr (w0 := y9.2) (S := []) (MI.m (by repeat constructor))) m (by omega))) rfl ?_ | refine tl_q (y_load1o (v := vsB.getD m (.slice none 0 0)) rfl (fun w' hw' => by rw [show Int.toNat (m : Int) * 1 = m from by omega]; exact hcB w' (hw'.fr (w0 := y10.2) (S := []) (MI.m (by repeat constructor))) m (by omega))) rfl ?_)
  all_goals refine tl_e (e_callV rfl (.cons rfl .nil) (fun w' hw' => ready9_c t _ _ _ _ w' (hr0.fr (hw'.fr (w0 := w) (S := []) (MI.m (by repeat constructor)))))) rfl (fun _ _ => ?_)
  all_goals (first | refine tl_q (y_not_dec rfl) rfl ?_ | refine tl_q (y_not rfl) rfl ?_)
  all_goals refine tl_nil ?_
  all_goals (refine hK3 ?_; try (clear hK3; clear K3))
  all_goals (
   refine tc_cond rfl (fun hc => ?_) (fun hc => ?_)
   · try simp only [decide_eq_true_eq, decide_eq_false_iff_not, Int.not_lt, Int.not_le, Bool.not_eq_true', Bool.not_eq_false', Decidable.not_not, not_true_eq_false] at hc
     all_goals first | (exfalso; with_reducible exact bft hc) | (exfalso; with_reducible exact btf hc) | (exfalso; omega) | skip
     all_goals refine tc_seq fun K4 hK4 => ?_
     all_goals refine tc_lay ([]) (SB.s (by repeat constructor)) (fun wl2 hl2 => ?_)
     all_goals refine tc_region ?_
     all_goals refine tl_e (e_callV rfl .nil (fun w' _ => awake9_c w')) rfl (fun _ _ => ?_)
     all_goals refine tl_q (y_assign rfl) rfl ?_
     all_goals refine tl_nil ?_
     all_goals (refine hK4 ?_; try (clear hK4; clear K4))
     all_goals refine tc_ret ?_
     all_goals (repeat (first | refine tk_then_ret ?_ | refine tk_block_ret ?_ | refine tk_scope_ret ?_))
     all_goals first | refine tk_ret rfl rfl (.cons (.tmp rfl) .nil) ?_ | refine tk_retM rfl (by repeat constructor) rfl (.cons (.tmp rfl) .nil) ?_
     all_goals (
      exact fun w' hw' => ⟨rfl, hw'.fr (w0 := w) (S := []) (MI.m (by repeat constructor))⟩)
   · try simp only [decide_eq_true_eq, decide_eq_false_iff_not, Int.not_lt, Int.not_le, Bool.not_eq_true', Bool.not_eq_false', Decidable.not_not, not_true_eq_false] at hc
     all_goals first | (exfalso; with_reducible exact bft hc) | (exfalso; with_reducible exact btf hc) | (exfalso; omega) | skip
     all_goals refine tc_skip ?_
     all_goals (refine hK2 ?_; try (clear hK2; clear K2))
     all_goals refine tc_seq fun K5 hK5 => ?_
     all_goals refine tc_lay ([]) (SB.s (by repeat constructor)) (fun wl3 hl3 => ?_)
     all_goals (obtain ⟨hth, hch⟩ := hc)
     all_goals (have hv := chkT_0.1 hch; have hn := hth.nt; obtain ⟨ht1, ht2, ht3, ht4⟩ := hth)
     all_goals (have hp1 := hv.p1; have hp3 := hv.p3; have ht6 := hv.t6; have hq3 := hv.l3; have hq1 := hv.l1)
     all_goals refine tc_region ?_
     all_goals (first | refine tl_q (y_loadWf rfl (hl7.at (b := b7) (by repeat constructor)) (MI.m (by repeat constructor)) (by simp) (by rfl)) rfl ?_ | refine tl_q (y_loadW rfl (by repeat constructor) (by rfl)) rfl ?_ | refine tl_q (y_loadN rfl (by repeat constructor) (by (repeat (first | exact .nil | apply CA.cons rfl)); done)) rfl ?_ | refine tl_q (y_loadWf rfl (hl1.at (by repeat constructor)) (MI.m (by repeat constructor)) (by simp) (by rfl)) rfl ?_ | refine tl_q (y_load1f rfl (hl1.at (by repeat constructor)) (MI.m (by repeat constructor)) (by simp) (by rfl)) rfl ?_ | refine tl_q (y_load1o (v := vi (lqAt t i).1) rfl (fun w' hw' => cell0 (hw'.heap (z.1, _) (HM.mem (by repeat constructor))) hcell.1)) rfl ?_ | refine tl_q (y_load1o (v := vi (lqAt t i).2) rfl (fun w' hw' => cell0 (hw'.heap (z.1, _) (HM.mem (by repeat constructor))) hcell.2)) rfl ?_ | refine tl_q (y_load1o (v := vsA.getD m (.slice none 0 0)) rfl (fun w' hw' => by rw [show Int.toNat (m : Int) * 1 = m from by omega]; exact hcA w' (hw'.fr (w0 := y9.2) (S := []) (MI.m (by repeat constructor))) m (by omega))) rfl ?_ | refine tl_q (y_load1o (v := vsB.getD m (.slice none 0 0)) rfl (fun w' hw' => by rw [show Int.toNat (m : Int) * 1 = m from by omega]; exact hcB w' (hw'.fr (w0 := y10.2) (S := []) (MI.m (by repeat constructor))) m (by omega))) rfl ?_)
     all_goals refine tl_e (e_allocN rfl) rfl (fun b7 _ => ?_)
     all_goals (first | refine tl_e (e_storeW (cs := #[vi t.s.mass, vi t.s.volume, vi t.s.step, vi t.s.divisions, vi t.s.width, .slice aw t.s.weights.length cw, .slice ap t.parts.length cp, vi t.worst, .slice al t.liquids.length cl, .slice at' t.tests.length ct]) rfl rfl (by repeat constructor) (by rfl) (by rfl) (tr_ones rfl rfl rfl rfl)) rfl (fun _ _ => ?_) | refine tl_e (e_storeW rfl rfl (by repeat constructor) (by rfl) (by rfl) (by simp [Value.oneCell'])) rfl (fun _ _ => ?_))
     all_goals refine tl_nil ?_
     all_goals (refine hK5 ?_; try (clear hK5; clear K5))
     all_goals refine tc_seq fun K6 hK6 => ?_
     all_goals refine tc_region ?_
     all_goals refine tl_e (e_bslice rfl (by (repeat (first | exact .nil | apply PV.one rfl rfl | apply PV.two rfl)); done) rfl rfl) rfl (fun b23 _ => ?_)
     all_goals refine tl_q (y_field rfl) rfl ?_
     all_goals (first | refine tl_q (y_load1 rfl (by repeat constructor) (by rfl)) rfl ?_ | refine tl_q (y_load1f rfl (hl1.at (by repeat constructor)) (MI.m (by repeat constructor)) (by simp) (by rfl)) rfl ?_ | refine tl_q (y_load1o (v := vi (lqAt t i).1) rfl (fun w' hw' => cell0 (hw'.heap (z.1, _) (HM.mem (by repeat constructor))) hcell.1)) rfl ?_ | refine tl_q (y_load1o (v := vi (lqAt t i).2) rfl (fun w' hw' => cell0 (hw'.heap (z.1, _) (HM.mem (by repeat constructor))) hcell.2)) rfl ?_ | refine tl_q (y_load1o (v := vsA.getD m (.slice none 0 0)) rfl (fun w' hw' => by rw [show Int.toNat (m : Int) * 1 = m from by omega]; exact hcA w' (hw'.fr (w0 := y9.2) (S := []) (MI.m (by repeat constructor))) m (by omega))) rfl ?_ | refine tl_q (y_load1o (v := vsB.getD m (.slice none 0 0)) rfl (fun w' hw' => by rw [show Int.toNat (m : Int) * 1 = m from by omega]; exact hcB w' (hw'.fr (w0 := y10.2) (S := []) (MI.m (by repeat constructor))) m (by omega))) rfl ?_)
     all_goals refine tl_e (e_append_own (old := []) (junk := []) rfl rfl rfl (by repeat constructor) (by rfl) (by rfl) (Nat.le_refl _) (fun w' hw' => hr0.ls.fr (hw'.fr (w0 := w) (S := []) (MI.m (by repeat constructor)))) (flatR_one _) (by omega) rfl) rfl (fun z hz => ?_)
     all_goals refine tl_q (y_field rfl) rfl ?_
     all_goals (first | refine tl_e (e_store1 rfl rfl (by repeat constructor) (by repeat constructor) (by rfl) (by rfl)) rfl (fun _ _ => ?_) | refine tl_e (e_storeS rfl rfl (by rfl) (by rfl) (by repeat constructor) (by first | (rw [hzl]; omega) | (rw [List.length_set, hzl]; omega))) rfl (fun _ _ => ?_))
     all_goals refine tl_nil ?_
     all_goals (refine hK6 ?_; try (clear hK6; clear K6))
     all_goals refine tc_seq fun K7 hK7 => ?_
     all_goals (obtain ⟨i, hin⟩ : ∃ i : Nat, (i : Int) = n1 % (t.liquids.length : Int) := ⟨(n1 % (t.liquids.length : Int)).toNat, by have := Int.emod_nonneg n1 (show (t.liquids.length : Int) ≠ 0 by omega); omega⟩)
     all_goals (have hil : i < t.liquids.length := by have := Int.emod_lt_of_pos n1 (show 0 < (t.liquids.length : Int) by omega); omega)
     all_goals (have hlqb := hv.lqb hil)
     all_goals (have hcell := lq_cell (junk := z.2.2) hil)
     all_goals (have hset := lq_set (junk := z.2.2) hil (max 1 ((lqAt t i).1 - n2 % 4)) (min 2000 ((lqAt t i).2 + n2 / 4 % 4)))
     all_goals (have hzl : ([] ++ flatR t.liquids ++ z.2.2).length = t.liquids.length * 2 + z.2.2.length := by rw [List.nil_append, List.length_append, flatR_len])
     all_goals refine tc_draw (by kernel_rfl) ?_
     all_goals refine tx_p 0 rfl (by kernel_rfl) (y_field rfl) rfl (fun _ _ _ h => h) (fun _ h => h) ?_
     all_goals (first | refine tx_q 1 rfl (by kernel_rfl) (y_load1 rfl (by repeat constructor) (by rfl)) rfl (fun _ _ _ h => h) (fun _ h => h) ?_ | refine tx_q 1 rfl (by kernel_rfl) (y_load1o (v := vi (lqAt t i).1) rfl (fun w' hw' => cell0 (hw'.heap (z.1, _) (HM.mem (by repeat constructor))) hcell.1)) rfl (fun _ _ _ h => h) (fun _ h => h) ?_ | refine tx_q 1 rfl (by kernel_rfl) (y_load1o (v := vi (lqAt t i).2) rfl (fun w' hw' => cell0 (hw'.heap (z.1, _) (HM.mem (by repeat constructor))) hcell.2)) rfl (fun _ _ _ h => h) (fun _ h => h) ?_ | refine tx_q 1 rfl (by kernel_rfl) (y_load1o (v := vsA.getD m (.slice none 0 0)) rfl (fun w' hw' => by rw [show Int.toNat (m : Int) * 1 = m from by omega]; exact hcA w' (hw'.fr (w0 := y9.2) (S := []) (MI.m (by repeat constructor))) m (by omega))) rfl (fun _ _ _ h => h) (fun _ h => h) ?_ | refine tx_q 1 rfl (by kernel_rfl) (y_load1o (v := vsB.getD m (.slice none 0 0)) rfl (fun w' hw' => by rw [show Int.toNat (m : Int) * 1 = m from by omega]; exact hcB w' (hw'.fr (w0 := y10.2) (S := []) (MI.m (by repeat constructor))) m (by omega))) rfl (fun _ _ _ h => h) (fun _ h => h) ?_)
     all_goals refine tx_p 2 rfl (by kernel_rfl) (y_move rfl) rfl (fun _ _ _ h => h) (fun _ h => h) ?_
     all_goals (first | refine tx_p 3 rfl (by kernel_rfl) (y_conv64 rfl (by omega)) rfl (fun _ _ _ h => h) (fun _ h => h) ?_ | refine tx_p 3 rfl (by kernel_rfl) (y_conv rfl (by simp only [IntKind.wrap, IntKind.bits, IntKind.signed, Bool.false_and, Bool.true_and, Bool.false_eq_true, if_false, decide_eq_true_eq]; omega)) rfl (fun _ _ _ h => h) (fun _ h => h) ?_)
     all_goals refine tx_p 4 rfl (by kernel_rfl) (y_field rfl) rfl (fun _ _ _ h => h) (fun _ h => h) ?_
     all_goals (first | refine tx_q 5 rfl (by kernel_rfl) (y_load1 rfl (by repeat constructor) (by rfl)) rfl (fun _ _ _ h => h) (fun _ h => h) ?_ | refine tx_q 5 rfl (by kernel_rfl) (y_load1f rfl (hl1.at (by repeat constructor)) (MI.m (by repeat constructor)) (by simp) (by rfl)) rfl (fun _ _ _ h => h) (fun _ h => h) ?_ | refine tx_q 5 rfl (by kernel_rfl) (y_load1o (v := vi (lqAt t i).1) rfl (fun w' hw' => cell0 (hw'.heap (z.1, _) (HM.mem (by repeat constructor))) hcell.1)) rfl (fun _ _ _ h => h) (fun _ h => h) ?_ | refine tx_q 5 rfl (by kernel_rfl) (y_load1o (v := vi (lqAt t i).2) rfl (fun w' hw' => cell0 (hw'.heap (z.1, _) (HM.mem (by repeat constructor))) hcell.2)) rfl (fun _ _ _ h => h) (fun _ h => h) ?_ | refine tx_q 5 rfl (by kernel_rfl) (y_load1o (v := vsA.getD m (.slice none 0 0)) rfl (fun w' hw' => by rw [show Int.toNat (m : Int) * 1 = m from by omega]; exact hcA w' (hw'.fr (w0 := y9.2) (S := []) (MI.m (by repeat constructor))) m (by omega))) rfl (fun _ _ _ h => h) (fun _ h => h) ?_ | refine tx_q 5 rfl (by kernel_rfl) (y_load1o (v := vsB.getD m (.slice none 0 0)) rfl (fun w' hw' => by rw [show Int.toNat (m : Int) * 1 = m from by omega]; exact hcB w' (hw'.fr (w0 := y10.2) (S := []) (MI.m (by repeat constructor))) m (by omega))) rfl (fun _ _ _ h => h) (fun _ h => h) ?_)
     all_goals refine tx_q 6 rfl (by kernel_rfl) (y_len rfl) rfl (fun _ _ _ h => h) (fun _ h => h) ?_
     all_goals refine tx_p 7 rfl (by kernel_rfl) (y_rem rfl rfl (by omega) (by omega)) rfl (fun _ _ _ h => h) (fun _ h => h) ?_
     all_goals (first | refine tx_p 8 rfl (by kernel_rfl) (y_index rfl rfl (by omega) hadA') rfl (fun _ _ _ h => h) (fun _ h => h) ?_ | refine tx_p 8 rfl (by kernel_rfl) (y_index rfl rfl (by omega) hadB') rfl (fun _ _ _ h => h) (fun _ h => h) ?_ | refine tx_p 8 rfl (by kernel_rfl) (y_index rfl rfl (by omega) rfl) rfl (fun _ _ _ h => h) (fun _ h => h) ?_ | refine tx_p 8 rfl (by kernel_rfl) (y_index rfl rfl (by omega) rfl) rfl (fun _ _ _ h => h) (fun _ h => h) ?_ | refine tx_p 8 rfl (by kernel_rfl) (y_indexA rfl rfl (by omega)) rfl (fun _ _ _ h => h) (fun _ h => h) ?_)
     all_goals refine tx_p 9 rfl (by kernel_rfl) (y_assign rfl) rfl (fun _ _ _ h => h) (fun _ h => h) ?_
     all_goals refine tx_done (by kernel_rfl) ?_
     all_goals (rw [← hin, Int.toNat_natCast])
     all_goals (refine hK7 ?_; try (clear hK7; clear K7))
     all_goals refine tc_seq fun K8 hK8 => ?_
     all_goals refine tc_drawS ([]) (by kernel_rfl) ?_
     all_goals refine tx_p 0 rfl (by kernel_rfl) (y_move rfl) rfl (fun _ _ _ h => h) (fun _ h => h.subl (SB.s (by repeat constructor)) (SB.s (by repeat constructor))) ?_
     all_goals refine tx_p 1 rfl (by kernel_rfl) (y_move rfl) rfl (fun _ _ _ h => h) (fun _ h => h.subl (SB.s (by repeat constructor)) (SB.s (by repeat constructor))) ?_
     all_goals refine tx_p 2 rfl (by kernel_rfl) (y_move rfl) rfl (fun _ _ _ h => h) (fun _ h => h.subl (SB.s (by repeat constructor)) (SB.s (by repeat constructor))) ?_
     all_goals refine tx_p 3 rfl (by kernel_rfl) (y_nil rfl) rfl (fun _ _ _ h => h) (fun _ h => h.subl (SB.s (by repeat constructor)) (SB.s (by repeat constructor))) ?_
     all_goals refine tx_p 4 rfl (by kernel_rfl) (y_field rfl) rfl (fun _ _ _ h => h) (fun _ h => h.subl (SB.s (by repeat constructor)) (SB.s (by repeat constructor))) ?_
     all_goals refine tx_p 6 rfl (by kernel_rfl) (y_move rfl) rfl (fun _ _ _ h => h) (fun _ h => h.subl (SB.s (by repeat constructor)) (SB.s (by repeat constructor))) ?_
     all_goals (first | refine tx_p 7 rfl (by kernel_rfl) (y_conv64 rfl (by omega)) rfl (fun _ _ _ h => h) (fun _ h => h.subl (SB.s (by repeat constructor)) (SB.s (by repeat constructor))) ?_ | refine tx_p 7 rfl (by kernel_rfl) (y_conv rfl (by simp only [IntKind.wrap, IntKind.bits, IntKind.signed, Bool.false_and, Bool.true_and, Bool.false_eq_true, if_false, decide_eq_true_eq]; omega)) rfl (fun _ _ _ h => h) (fun _ h => h.subl (SB.s (by repeat constructor)) (SB.s (by repeat constructor))) ?_)
     all_goals refine tx_p 8 rfl (by kernel_rfl) (y_rem rfl rfl (by omega) (by omega)) rfl (fun _ _ _ h => h) (fun _ h => h.subl (SB.s (by repeat constructor)) (SB.s (by repeat constructor))) ?_
     all_goals refine tx_p 11 rfl (by kernel_rfl) (y_move rfl) rfl (fun _ _ _ h => h) (fun _ h => h.subl (SB.s (by repeat constructor)) (SB.s (by repeat constructor))) ?_
     all_goals refine tx_p 12 rfl (by kernel_rfl) (y_nil rfl) rfl (fun _ _ _ h => h) (fun _ h => h.subl (SB.s (by repeat constructor)) (SB.s (by repeat constructor))) ?_
     all_goals refine tx_p 13 rfl (by kernel_rfl) (y_field rfl) rfl (fun _ _ _ h => h) (fun _ h => h.subl (SB.s (by repeat constructor)) (SB.s (by repeat constructor))) ?_
     all_goals refine tx_p 15 rfl (by kernel_rfl) (y_move rfl) rfl (fun _ _ _ h => h) (fun _ h => h.subl (SB.s (by repeat constructor)) (SB.s (by repeat constructor))) ?_
     all_goals (first | refine tx_p 16 rfl (by kernel_rfl) (y_conv64 rfl (by omega)) rfl (fun _ _ _ h => h) (fun _ h => h.subl (SB.s (by repeat constructor)) (SB.s (by repeat constructor))) ?_ | refine tx_p 16 rfl (by kernel_rfl) (y_conv rfl (by simp only [IntKind.wrap, IntKind.bits, IntKind.signed, Bool.false_and, Bool.true_and, Bool.false_eq_true, if_false, decide_eq_true_eq]; omega)) rfl (fun _ _ _ h => h) (fun _ h => h.subl (SB.s (by repeat constructor)) (SB.s (by repeat constructor))) ?_)
     all_goals refine tx_p 17 rfl (by kernel_rfl) (y_quo rfl rfl (by omega) (by omega)) rfl (fun _ _ _ h => h) (fun _ h => h.subl (SB.s (by repeat constructor)) (SB.s (by repeat constructor))) ?_
     all_goals refine tx_p 18 rfl (by kernel_rfl) (y_rem rfl rfl (by omega) (by omega)) rfl (fun _ _ _ h => h) (fun _ h => h.subl (SB.s (by repeat constructor)) (SB.s (by repeat constructor))) ?_
     all_goals (
      refine tx_pair 5 14 (by kernel_rfl) ?_ ?_
      rotate_left
      focus (
       (first | refine to_e rfl rfl (e_y rfl (y_load1 rfl (by repeat constructor) (by rfl))) (.inr ⟨fun _ _ h => h.subl (SB.s (by repeat constructor)) (SB.s (by repeat constructor)), fun _ h => h⟩) (fun _ _ => ?_) | refine to_e rfl rfl (e_y rfl (y_load1f rfl (hl3.at (by repeat constructor)) (MI.m (by repeat constructor)) (by simp) (by rfl))) (.inr ⟨fun _ _ h => h.subl (SB.s (by repeat constructor)) (SB.s (by repeat constructor)), fun _ h => h⟩) (fun _ _ => ?_) | refine to_e rfl rfl (e_y rfl (y_load1f rfl (hl1.at (by repeat constructor)) (MI.m (by repeat constructor)) (by simp) (by rfl))) (.inr ⟨fun _ _ h => h.subl (SB.s (by repeat constructor)) (SB.s (by repeat constructor)), fun _ h => h⟩) (fun _ _ => ?_) | refine to_e rfl rfl (e_y rfl (y_load1o (v := vi (lqAt t i).1) rfl (fun w' hw' => cell0 (hw'.heap (z.1, _) (HM.mem (by repeat constructor))) hcell.1))) (.inr ⟨fun _ _ h => h.subl (SB.s (by repeat constructor)) (SB.s (by repeat constructor)), fun _ h => h⟩) (fun _ _ => ?_) | refine to_e rfl rfl (e_y rfl (y_load1o (v := vi (lqAt t i).2) rfl (fun w' hw' => cell0 (hw'.heap (z.1, _) (HM.mem (by repeat constructor))) hcell.2))) (.inr ⟨fun _ _ h => h.subl (SB.s (by repeat constructor)) (SB.s (by repeat constructor)), fun _ h => h⟩) (fun _ _ => ?_) | refine to_e rfl rfl (e_y rfl (y_load1o (v := vsA.getD m (.slice none 0 0)) rfl (fun w' hw' => by rw [show Int.toNat (m : Int) * 1 = m from by omega]; exact hcA w' (hw'.fr (w0 := y9.2) (S := []) (MI.m (by repeat constructor))) m (by omega)))) (.inr ⟨fun _ _ h => h.subl (SB.s (by repeat constructor)) (SB.s (by repeat constructor)), fun _ h => h⟩) (fun _ _ => ?_) | refine to_e rfl rfl (e_y rfl (y_load1o (v := vsB.getD m (.slice none 0 0)) rfl (fun w' hw' => by rw [show Int.toNat (m : Int) * 1 = m from by omega]; exact hcB w' (hw'.fr (w0 := y10.2) (S := []) (MI.m (by repeat constructor))) m (by omega)))) (.inr ⟨fun _ _ h => h.subl (SB.s (by repeat constructor)) (SB.s (by repeat constructor)), fun _ h => h⟩) (fun _ _ => ?_))
       all_goals refine tx_p 19 rfl (by kernel_rfl) (y_add rfl rfl (by omega)) rfl (fun _ _ _ h => h) (fun _ h => h.subl (SB.s (by repeat constructor)) (SB.s (by repeat constructor))) ?_
       all_goals refine tx_p 20 rfl (by kernel_rfl) (y_min rfl rfl) rfl (fun _ _ _ h => h) (fun _ h => h.subl (SB.s (by repeat constructor)) (SB.s (by repeat constructor))) ?_
       all_goals (first | refine tx_single 5 (by kernel_rfl) (to_e rfl rfl (e_y rfl (y_load1 rfl (by repeat constructor) (by rfl))) (.inr ⟨fun _ _ h => h.subl (SB.s (by repeat constructor)) (SB.s (by repeat constructor)), fun _ h => h⟩) (fun _ _ => ?_)) | refine tx_single 5 (by kernel_rfl) (to_e rfl rfl (e_y rfl (y_load1f rfl (hl3.at (by repeat constructor)) (MI.m (by repeat constructor)) (by simp) (by rfl))) (.inr ⟨fun _ _ h => h.subl (SB.s (by repeat constructor)) (SB.s (by repeat constructor)), fun _ h => h⟩) (fun _ _ => ?_)) | refine tx_single 5 (by kernel_rfl) (to_e rfl rfl (e_y rfl (y_load1f rfl (hl1.at (by repeat constructor)) (MI.m (by repeat constructor)) (by simp) (by rfl))) (.inr ⟨fun _ _ h => h.subl (SB.s (by repeat constructor)) (SB.s (by repeat constructor)), fun _ h => h⟩) (fun _ _ => ?_)) | refine tx_single 5 (by kernel_rfl) (to_e rfl rfl (e_y rfl (y_load1o (v := vi (lqAt t i).1) rfl (fun w' hw' => cell0 (hw'.heap (z.1, _) (HM.mem (by repeat constructor))) hcell.1))) (.inr ⟨fun _ _ h => h.subl (SB.s (by repeat constructor)) (SB.s (by repeat constructor)), fun _ h => h⟩) (fun _ _ => ?_)) | refine tx_single 5 (by kernel_rfl) (to_e rfl rfl (e_y rfl (y_load1o (v := vi (lqAt t i).2) rfl (fun w' hw' => cell0 (hw'.heap (z.1, _) (HM.mem (by repeat constructor))) hcell.2))) (.inr ⟨fun _ _ h => h.subl (SB.s (by repeat constructor)) (SB.s (by repeat constructor)), fun _ h => h⟩) (fun _ _ => ?_)) | refine tx_single 5 (by kernel_rfl) (to_e rfl rfl (e_y rfl (y_load1o (v := vsA.getD m (.slice none 0 0)) rfl (fun w' hw' => by rw [show Int.toNat (m : Int) * 1 = m from by omega]; exact hcA w' (hw'.fr (w0 := y9.2) (S := []) (MI.m (by repeat constructor))) m (by omega)))) (.inr ⟨fun _ _ h => h.subl (SB.s (by repeat constructor)) (SB.s (by repeat constructor)), fun _ h => h⟩) (fun _ _ => ?_)) | refine tx_single 5 (by kernel_rfl) (to_e rfl rfl (e_y rfl (y_load1o (v := vsB.getD m (.slice none 0 0)) rfl (fun w' hw' => by rw [show Int.toNat (m : Int) * 1 = m from by omega]; exact hcB w' (hw'.fr (w0 := y10.2) (S := []) (MI.m (by repeat constructor))) m (by omega)))) (.inr ⟨fun _ _ h => h.subl (SB.s (by repeat constructor)) (SB.s (by repeat constructor)), fun _ h => h⟩) (fun _ _ => ?_)))
       all_goals refine tx_p 9 rfl (by kernel_rfl) (y_sub rfl rfl (by omega)) rfl (fun _ _ _ h => h) (fun _ h => h.subl (SB.s (by repeat constructor)) (SB.s (by repeat constructor))) ?_
       all_goals refine tx_p 10 rfl (by kernel_rfl) (y_max rfl rfl) rfl (fun _ _ _ h => h) (fun _ h => h.subl (SB.s (by repeat constructor)) (SB.s (by repeat constructor))) ?_
       all_goals refine tx_p 21 rfl (by kernel_rfl) (y_nil rfl) rfl (fun _ _ _ h => h) (fun _ h => h.subl (SB.s (by repeat constructor)) (SB.s (by repeat constructor))) ?_
       all_goals refine tx_p 22 rfl (by kernel_rfl) (y_field rfl) rfl (fun _ _ _ h => h) (fun _ h => h.subl (SB.s (by repeat constructor)) (SB.s (by repeat constructor))) ?_
       all_goals (first | refine tx_single 23 (by kernel_rfl) (to_e (S' := HG [] []) rfl rfl (e_store1 rfl rfl (by repeat constructor) (by repeat constructor) (by rfl) (by rfl)) (.inl (by kernel_rfl)) (fun _ _ => ?_)) | refine tx_single 23 (by kernel_rfl) (to_e (S' := HG [] []) rfl rfl (e_storeS rfl rfl (by rfl) (by rfl) (by repeat constructor) (by first | (rw [hzl]; omega) | (rw [List.length_set, hzl]; omega))) (.inl (by kernel_rfl)) (fun _ _ => ?_)))
       all_goals refine tx_p 24 rfl (by kernel_rfl) (y_nil rfl) rfl (fun _ _ _ h => h) (fun _ h => h.subl (SB.s (by repeat constructor)) (SB.s (by repeat constructor))) ?_
       all_goals refine tx_p 25 rfl (by kernel_rfl) (y_field rfl) rfl (fun _ _ _ h => h) (fun _ h => h.subl (SB.s (by repeat constructor)) (SB.s (by repeat constructor))) ?_
       all_goals (first | refine tx_single 26 (by kernel_rfl) (to_e (S' := HG [] []) rfl rfl (e_store1 rfl rfl (by repeat constructor) (by repeat constructor) (by rfl) (by rfl)) (.inl (by kernel_rfl)) (fun _ _ => ?_)) | refine tx_single 26 (by kernel_rfl) (to_e (S' := HG [] []) rfl rfl (e_storeS rfl rfl (by rfl) (by rfl) (by repeat constructor) (by first | (rw [hzl]; omega) | (rw [List.length_set, hzl]; omega))) (.inl (by kernel_rfl)) (fun _ _ => ?_)))
       all_goals refine tx_done (by kernel_rfl) ?_)
      rotate_right
      focus (
       (first | refine to_e rfl rfl (e_y rfl (y_load1 rfl (by repeat constructor) (by rfl))) (.inr ⟨fun _ _ h => h.subl (SB.s (by repeat constructor)) (SB.s (by repeat constructor)), fun _ h => h⟩) (fun _ _ => ?_) | refine to_e rfl rfl (e_y rfl (y_load1f rfl (hl3.at (by repeat constructor)) (MI.m (by repeat constructor)) (by simp) (by rfl))) (.inr ⟨fun _ _ h => h.subl (SB.s (by repeat constructor)) (SB.s (by repeat constructor)), fun _ h => h⟩) (fun _ _ => ?_) | refine to_e rfl rfl (e_y rfl (y_load1f rfl (hl1.at (by repeat constructor)) (MI.m (by repeat constructor)) (by simp) (by rfl))) (.inr ⟨fun _ _ h => h.subl (SB.s (by repeat constructor)) (SB.s (by repeat constructor)), fun _ h => h⟩) (fun _ _ => ?_) | refine to_e rfl rfl (e_y rfl (y_load1o (v := vi (lqAt t i).1) rfl (fun w' hw' => cell0 (hw'.heap (z.1, _) (HM.mem (by repeat constructor))) hcell.1))) (.inr ⟨fun _ _ h => h.subl (SB.s (by repeat constructor)) (SB.s (by repeat constructor)), fun _ h => h⟩) (fun _ _ => ?_) | refine to_e rfl rfl (e_y rfl (y_load1o (v := vi (lqAt t i).2) rfl (fun w' hw' => cell0 (hw'.heap (z.1, _) (HM.mem (by repeat constructor))) hcell.2))) (.inr ⟨fun _ _ h => h.subl (SB.s (by repeat constructor)) (SB.s (by repeat constructor)), fun _ h => h⟩) (fun _ _ => ?_) | refine to_e rfl rfl (e_y rfl (y_load1o (v := vsA.getD m (.slice none 0 0)) rfl (fun w' hw' => by rw [show Int.toNat (m : Int) * 1 = m from by omega]; exact hcA w' (hw'.fr (w0 := y9.2) (S := []) (MI.m (by repeat constructor))) m (by omega)))) (.inr ⟨fun _ _ h => h.subl (SB.s (by repeat constructor)) (SB.s (by repeat constructor)), fun _ h => h⟩) (fun _ _ => ?_) | refine to_e rfl rfl (e_y rfl (y_load1o (v := vsB.getD m (.slice none 0 0)) rfl (fun w' hw' => by rw [show Int.toNat (m : Int) * 1 = m from by omega]; exact hcB w' (hw'.fr (w0 := y10.2) (S := []) (MI.m (by repeat constructor))) m (by omega)))) (.inr ⟨fun _ _ h => h.subl (SB.s (by repeat constructor)) (SB.s (by repeat constructor)), fun _ h => h⟩) (fun _ _ => ?_))
       all_goals refine tx_p 9 rfl (by kernel_rfl) (y_sub rfl rfl (by omega)) rfl (fun _ _ _ h => h) (fun _ h => h.subl (SB.s (by repeat constructor)) (SB.s (by repeat constructor))) ?_
       all_goals refine tx_p 10 rfl (by kernel_rfl) (y_max rfl rfl) rfl (fun _ _ _ h => h) (fun _ h => h.subl (SB.s (by repeat constructor)) (SB.s (by repeat constructor))) ?_
       all_goals (first | refine tx_single 14 (by kernel_rfl) (to_e rfl rfl (e_y rfl (y_load1 rfl (by repeat constructor) (by rfl))) (.inr ⟨fun _ _ h => h.subl (SB.s (by repeat constructor)) (SB.s (by repeat constructor)), fun _ h => h⟩) (fun _ _ => ?_)) | refine tx_single 14 (by kernel_rfl) (to_e rfl rfl (e_y rfl (y_load1f rfl (hl3.at (by repeat constructor)) (MI.m (by repeat constructor)) (by simp) (by rfl))) (.inr ⟨fun _ _ h => h.subl (SB.s (by repeat constructor)) (SB.s (by repeat constructor)), fun _ h => h⟩) (fun _ _ => ?_)) | refine tx_single 14 (by kernel_rfl) (to_e rfl rfl (e_y rfl (y_load1f rfl (hl1.at (by repeat constructor)) (MI.m (by repeat constructor)) (by simp) (by rfl))) (.inr ⟨fun _ _ h => h.subl (SB.s (by repeat constructor)) (SB.s (by repeat constructor)), fun _ h => h⟩) (fun _ _ => ?_)) | refine tx_single 14 (by kernel_rfl) (to_e rfl rfl (e_y rfl (y_load1o (v := vi (lqAt t i).1) rfl (fun w' hw' => cell0 (hw'.heap (z.1, _) (HM.mem (by repeat constructor))) hcell.1))) (.inr ⟨fun _ _ h => h.subl (SB.s (by repeat constructor)) (SB.s (by repeat constructor)), fun _ h => h⟩) (fun _ _ => ?_)) | refine tx_single 14 (by kernel_rfl) (to_e rfl rfl (e_y rfl (y_load1o (v := vi (lqAt t i).2) rfl (fun w' hw' => cell0 (hw'.heap (z.1, _) (HM.mem (by repeat constructor))) hcell.2))) (.inr ⟨fun _ _ h => h.subl (SB.s (by repeat constructor)) (SB.s (by repeat constructor)), fun _ h => h⟩) (fun _ _ => ?_)) | refine tx_single 14 (by kernel_rfl) (to_e rfl rfl (e_y rfl (y_load1o (v := vsA.getD m (.slice none 0 0)) rfl (fun w' hw' => by rw [show Int.toNat (m : Int) * 1 = m from by omega]; exact hcA w' (hw'.fr (w0 := y9.2) (S := []) (MI.m (by repeat constructor))) m (by omega)))) (.inr ⟨fun _ _ h => h.subl (SB.s (by repeat constructor)) (SB.s (by repeat constructor)), fun _ h => h⟩) (fun _ _ => ?_)) | refine tx_single 14 (by kernel_rfl) (to_e rfl rfl (e_y rfl (y_load1o (v := vsB.getD m (.slice none 0 0)) rfl (fun w' hw' => by rw [show Int.toNat (m : Int) * 1 = m from by omega]; exact hcB w' (hw'.fr (w0 := y10.2) (S := []) (MI.m (by repeat constructor))) m (by omega)))) (.inr ⟨fun _ _ h => h.subl (SB.s (by repeat constructor)) (SB.s (by repeat constructor)), fun _ h => h⟩) (fun _ _ => ?_)))
       all_goals refine tx_p 19 rfl (by kernel_rfl) (y_add rfl rfl (by omega)) rfl (fun _ _ _ h => h) (fun _ h => h.subl (SB.s (by repeat constructor)) (SB.s (by repeat constructor))) ?_
       all_goals refine tx_p 20 rfl (by kernel_rfl) (y_min rfl rfl) rfl (fun _ _ _ h => h) (fun _ h => h.subl (SB.s (by repeat constructor)) (SB.s (by repeat constructor))) ?_
       all_goals refine tx_p 21 rfl (by kernel_rfl) (y_nil rfl) rfl (fun _ _ _ h => h) (fun _ h => h.subl (SB.s (by repeat constructor)) (SB.s (by repeat constructor))) ?_
       all_goals refine tx_p 22 rfl (by kernel_rfl) (y_field rfl) rfl (fun _ _ _ h => h) (fun _ h => h.subl (SB.s (by repeat constructor)) (SB.s (by repeat constructor))) ?_
       all_goals (first | refine tx_single 23 (by kernel_rfl) (to_e (S' := HG [] []) rfl rfl (e_store1 rfl rfl (by repeat constructor) (by repeat constructor) (by rfl) (by rfl)) (.inl (by kernel_rfl)) (fun _ _ => ?_)) | refine tx_single 23 (by kernel_rfl) (to_e (S' := HG [] []) rfl rfl (e_storeS rfl rfl (by rfl) (by rfl) (by repeat constructor) (by first | (rw [hzl]; omega) | (rw [List.length_set, hzl]; omega))) (.inl (by kernel_rfl)) (fun _ _ => ?_)))
       all_goals refine tx_p 24 rfl (by kernel_rfl) (y_nil rfl) rfl (fun _ _ _ h => h) (fun _ h => h.subl (SB.s (by repeat constructor)) (SB.s (by repeat constructor))) ?_
       all_goals refine tx_p 25 rfl (by kernel_rfl) (y_field rfl) rfl (fun _ _ _ h => h) (fun _ h => h.subl (SB.s (by repeat constructor)) (SB.s (by repeat constructor))) ?_
       all_goals (first | refine tx_single 26 (by kernel_rfl) (to_e (S' := HG [] []) rfl rfl (e_store1 rfl rfl (by repeat constructor) (by repeat constructor) (by rfl) (by rfl)) (.inl (by kernel_rfl)) (fun _ _ => ?_)) | refine tx_single 26 (by kernel_rfl) (to_e (S' := HG [] []) rfl rfl (e_storeS rfl rfl (by rfl) (by rfl) (by repeat constructor) (by first | (rw [hzl]; omega) | (rw [List.length_set, hzl]; omega))) (.inl (by kernel_rfl)) (fun _ _ => ?_)))
       all_goals refine tx_done (by kernel_rfl) ?_))
     all_goals rw [hset]
     all_goals obtain ⟨L, hL⟩ : ∃ L, L = (t.liquids.set i (max 1 ((lqAt t i).1 - n2 % 4), min 2000 ((lqAt t i).2 + n2 / 4 % 4))) := ⟨_, rfl⟩
     all_goals rw [← hL]
     all_goals (have hLl : L.length = t.liquids.length := by rw [hL, List.length_set])
     all_goals (have hw0 : Wid t { t with liquids := L } := by rw [hL]; exact wid_set hv hil (by omega) (by omega))
     all_goals (have hnu : NT { t with liquids := L } := ⟨hn.ws, hn.ps, by show (L.length : Int) ≤ _; omega, hn.ts⟩)
     all_goals (refine hK8 ?_; try (clear hK8; clear K8))
     all_goals refine tc_seq fun K9 hK9 => ?_
     all_goals refine tc_seq fun K10 hK10 => ?_
     all_goals refine tc_lay ([]) (SB.s (by repeat constructor)) (fun wl7 hl7 => ?_)
     all_goals (have hru : RdTr wl7 { t with liquids := L } (.slice aw t.s.weights.length cw) (.slice ap t.parts.length cp) (.slice (some ⟨z.1, 0, none⟩) (0 + t.liquids.length) z.2.1) (.slice at' t.tests.length ct) := ⟨hr0.ws.fr (hl7.fr (w0 := w) (S := []) (MI.m (by repeat constructor))), hr0.ps.fr (hl7.fr (w0 := w) (S := []) (MI.m (by repeat constructor))), by have := RdR.own (xs := L) (cap := z.2.1) (junk := z.2.2) hl7 (b := z.1) (by repeat constructor); rw [Nat.zero_add, ← hLl]; exact this, hr0.ts.fr (hl7.fr (w0 := w) (S := []) (MI.m (by repeat constructor)))⟩)
     all_goals refine tc_region ?_
     all_goals (first | refine tl_q (y_loadWf rfl (hl7.at (b := b7) (by repeat constructor)) (MI.m (by repeat constructor)) (by simp) (by rfl)) rfl ?_ | refine tl_q (y_loadW rfl (by repeat constructor) (by rfl)) rfl ?_ | refine tl_q (y_loadN rfl (by repeat constructor) (by (repeat (first | exact .nil | apply CA.cons rfl)); done)) rfl ?_ | refine tl_q (y_loadWf rfl (hl7.at (by repeat constructor)) (MI.m (by repeat constructor)) (by simp) (by rfl)) rfl ?_ | refine tl_q (y_load1f rfl (hl7.at (by repeat constructor)) (MI.m (by repeat constructor)) (by simp) (by rfl)) rfl ?_ | refine tl_q (y_load1o (v := vi (lqAt t i).1) rfl (fun w' hw' => cell0 (hw'.heap (z.1, _) (HM.mem (by repeat constructor))) hcell.1)) rfl ?_ | refine tl_q (y_load1o (v := vi (lqAt t i).2) rfl (fun w' hw' => cell0 (hw'.heap (z.1, _) (HM.mem (by repeat constructor))) hcell.2)) rfl ?_ | refine tl_q (y_load1o (v := vsA.getD m (.slice none 0 0)) rfl (fun w' hw' => by rw [show Int.toNat (m : Int) * 1 = m from by omega]; exact hcA w' (hw'.fr (w0 := y9.2) (S := []) (MI.m (by repeat constructor))) m (by omega))) rfl ?_ | refine tl_q (y_load1o (v := vsB.getD m (.slice none 0 0)) rfl (fun w' hw' => by rw [show Int.toNat (m : Int) * 1 = m from by omega]; exact hcB w' (hw'.fr (w0 := y10.2) (S := []) (MI.m (by repeat constructor))) m (by omega))) rfl ?_)
     all_goals refine tl_e (e_callV rfl (.cons rfl .nil) (fun w' hw' => faultT_c { t with liquids := L } hnu _ _ _ _ w' (hru.fr (hw'.fr (w0 := wl7) (S := []) (MI.m (by repeat constructor)))))) rfl (fun _ _ => ?_)
     all_goals refine tl_q (y_neq rfl rfl) rfl ?_
     all_goals refine tl_nil ?_
     all_goals (refine hK10 ?_; try (clear hK10; clear K10))
     all_goals (
      refine tc_cond rfl (fun hc => ?_) (fun hc => ?_)
      · try simp only [decide_eq_true_eq, decide_eq_false_iff_not, Int.not_lt, Int.not_le, Bool.not_eq_true', Bool.not_eq_false', Decidable.not_not, not_true_eq_false] at hc
        all_goals first | (exfalso; with_reducible exact bft hc) | (exfalso; with_reducible exact btf hc) | (exfalso; omega) | skip
        all_goals refine tc_seq fun K11 hK11 => ?_
        all_goals refine tc_lay ([]) (SB.s (by repeat constructor)) (fun wl8 hl8 => ?_)
        all_goals refine tc_region ?_
        all_goals refine tl_e (e_callV rfl .nil (fun w' _ => awake9_c w')) rfl (fun _ _ => ?_)
        all_goals refine tl_q (y_assign rfl) rfl ?_
        all_goals refine tl_nil ?_
        all_goals (refine hK11 ?_; try (clear hK11; clear K11))
        all_goals refine tc_ret ?_
        all_goals (repeat (first | refine tk_then_ret ?_ | refine tk_block_ret ?_ | refine tk_scope_ret ?_))
        all_goals first | refine tk_ret rfl rfl (.cons (.tmp rfl) .nil) ?_ | refine tk_retM rfl (by repeat constructor) rfl (.cons (.tmp rfl) .nil) ?_
        all_goals (
         exact fun w' hw' => ⟨rfl, hw'.fr (w0 := w) (S := []) (MI.m (by repeat constructor))⟩)
      · try simp only [decide_eq_true_eq, decide_eq_false_iff_not, Int.not_lt, Int.not_le, Bool.not_eq_true', Bool.not_eq_false', Decidable.not_not, not_true_eq_false] at hc
        all_goals first | (exfalso; with_reducible exact bft hc) | (exfalso; with_reducible exact btf hc) | (exfalso; omega) | skip
        all_goals refine tc_skip ?_
        all_goals (refine hK9 ?_; try (clear hK9; clear K9))
        all_goals refine tc_seq fun K12 hK12 => ?_
        all_goals refine tc_lay ([]) (SB.s (by repeat constructor)) (fun wl9 hl9 => ?_)
        all_goals (have hvu : VT { t with liquids := L } := chkT_0.1 (by omega))
        all_goals (have hlv := hw0.leave hv hvu; have has := fun h => asked_sub hv hvu (fun e he => hw0.truths he) h)
        all_goals (rcases asked_v hv with ⟨hA, _⟩ | ⟨hA, _⟩ <;> rcases asked_v hvu with ⟨hB, _⟩ | ⟨hB, _⟩)
        all_goals first | (exfalso; have := has hA; omega) | skip
        all_goals refine tc_region ?_
        all_goals (first | refine tl_q (y_loadWf rfl (hl7.at (b := b7) (by repeat constructor)) (MI.m (by repeat constructor)) (by simp) (by rfl)) rfl ?_ | refine tl_q (y_loadW rfl (by repeat constructor) (by rfl)) rfl ?_ | refine tl_q (y_loadN rfl (by repeat constructor) (by (repeat (first | exact .nil | apply CA.cons rfl)); done)) rfl ?_ | refine tl_q (y_loadWf rfl (hl1.at (by repeat constructor)) (MI.m (by repeat constructor)) (by simp) (by rfl)) rfl ?_ | refine tl_q (y_load1f rfl (hl1.at (by repeat constructor)) (MI.m (by repeat constructor)) (by simp) (by rfl)) rfl ?_ | refine tl_q (y_load1o (v := vi (lqAt t i).1) rfl (fun w' hw' => cell0 (hw'.heap (z.1, _) (HM.mem (by repeat constructor))) hcell.1)) rfl ?_ | refine tl_q (y_load1o (v := vi (lqAt t i).2) rfl (fun w' hw' => cell0 (hw'.heap (z.1, _) (HM.mem (by repeat constructor))) hcell.2)) rfl ?_ | refine tl_q (y_load1o (v := vsA.getD m (.slice none 0 0)) rfl (fun w' hw' => by rw [show Int.toNat (m : Int) * 1 = m from by omega]; exact hcA w' (hw'.fr (w0 := y9.2) (S := []) (MI.m (by repeat constructor))) m (by omega))) rfl ?_ | refine tl_q (y_load1o (v := vsB.getD m (.slice none 0 0)) rfl (fun w' hw' => by rw [show Int.toNat (m : Int) * 1 = m from by omega]; exact hcB w' (hw'.fr (w0 := y10.2) (S := []) (MI.m (by repeat constructor))) m (by omega))) rfl ?_)
        all_goals refine tl_e (e_callX rfl (.cons rfl .nil) (fun w' hw' => trial9_c t (by omega) (by omega) (by omega) (by omega) _ _ _ _ w' (hr0.fr (hw'.fr (w0 := w) (S := []) (MI.m (by repeat constructor)))))) rfl (fun x9 hx9 => ?_)
        all_goals (first | refine tl_e (e_callX rfl (.cons rfl .nil) (fun w' hw' => errors_ok t hn hA _ _ _ _ w' (hx9.1.fr (hw'.fr (w0 := x9.2) (S := []) (MI.m (by repeat constructor)))))) rfl (fun y9 hy9 => ?_) | refine tl_e (e_callV rfl (.cons rfl .nil) (fun w' hw' => err_no11 t hn hA _ _ _ _ w' (hx9.1.fr (hw'.fr (w0 := x9.2) (S := []) (MI.m (by repeat constructor)))))) rfl (fun y9 hy9 => ?_) | refine tl_e (e_callX rfl (.cons rfl .nil) (fun w' hw' => errors_ok { t with liquids := L } hnu hB _ _ _ _ w' (hx10.1.fr (hw'.fr (w0 := x10.2) (S := []) (MI.m (by repeat constructor)))))) rfl (fun y9 hy9 => ?_) | refine tl_e (e_callV rfl (.cons rfl .nil) (fun w' hw' => err_no11 { t with liquids := L } hnu hB _ _ _ _ w' (hx10.1.fr (hw'.fr (w0 := x10.2) (S := []) (MI.m (by repeat constructor)))))) rfl (fun y9 hy9 => ?_))
        all_goals refine tl_q (y_move rfl) rfl ?_
        all_goals refine tl_q (y_extract rfl rfl) rfl ?_
        all_goals refine tl_q (y_extract rfl rfl) rfl ?_
        all_goals refine tl_q (y_assign rfl) rfl ?_
        all_goals refine tl_q (y_assign rfl) rfl ?_
        all_goals refine tl_nil ?_
        all_goals (refine hK12 ?_; try (clear hK12; clear K12))
        all_goals refine tc_seq fun K13 hK13 => ?_
        all_goals refine tc_lay ([]) (SB.s (by repeat constructor)) (fun wl10 hl10 => ?_)
        all_goals refine tc_region ?_
        all_goals (first | refine tl_q (y_loadWf rfl (hl7.at (b := b7) (by repeat constructor)) (MI.m (by repeat constructor)) (by simp) (by rfl)) rfl ?_ | refine tl_q (y_loadW rfl (by repeat constructor) (by rfl)) rfl ?_ | refine tl_q (y_loadN rfl (by repeat constructor) (by (repeat (first | exact .nil | apply CA.cons rfl)); done)) rfl ?_ | refine tl_q (y_loadWf rfl (hl7.at (by repeat constructor)) (MI.m (by repeat constructor)) (by simp) (by rfl)) rfl ?_ | refine tl_q (y_load1f rfl (hl7.at (by repeat constructor)) (MI.m (by repeat constructor)) (by simp) (by rfl)) rfl ?_ | refine tl_q (y_load1o (v := vi (lqAt t i).1) rfl (fun w' hw' => cell0 (hw'.heap (z.1, _) (HM.mem (by repeat constructor))) hcell.1)) rfl ?_ | refine tl_q (y_load1o (v := vi (lqAt t i).2) rfl (fun w' hw' => cell0 (hw'.heap (z.1, _) (HM.mem (by repeat constructor))) hcell.2)) rfl ?_ | refine tl_q (y_load1o (v := vsA.getD m (.slice none 0 0)) rfl (fun w' hw' => by rw [show Int.toNat (m : Int) * 1 = m from by omega]; exact hcA w' (hw'.fr (w0 := y9.2) (S := []) (MI.m (by repeat constructor))) m (by omega))) rfl ?_ | refine tl_q (y_load1o (v := vsB.getD m (.slice none 0 0)) rfl (fun w' hw' => by rw [show Int.toNat (m : Int) * 1 = m from by omega]; exact hcB w' (hw'.fr (w0 := y10.2) (S := []) (MI.m (by repeat constructor))) m (by omega))) rfl ?_)
        all_goals refine tl_e (e_callX rfl (.cons rfl .nil) (fun w' hw' => trial9_c { t with liquids := L } (by dsimp only; omega) (by dsimp only; omega) (by dsimp only; omega) (by dsimp only; omega) _ _ _ _ w' (hru.fr (hw'.fr (w0 := wl7) (S := []) (MI.m (by repeat constructor)))))) rfl (fun x10 hx10 => ?_)
        all_goals (first | refine tl_e (e_callX rfl (.cons rfl .nil) (fun w' hw' => errors_ok t hn hA _ _ _ _ w' (hx9.1.fr (hw'.fr (w0 := x9.2) (S := []) (MI.m (by repeat constructor)))))) rfl (fun y10 hy10 => ?_) | refine tl_e (e_callV rfl (.cons rfl .nil) (fun w' hw' => err_no11 t hn hA _ _ _ _ w' (hx9.1.fr (hw'.fr (w0 := x9.2) (S := []) (MI.m (by repeat constructor)))))) rfl (fun y10 hy10 => ?_) | refine tl_e (e_callX rfl (.cons rfl .nil) (fun w' hw' => errors_ok { t with liquids := L } hnu hB _ _ _ _ w' (hx10.1.fr (hw'.fr (w0 := x10.2) (S := []) (MI.m (by repeat constructor)))))) rfl (fun y10 hy10 => ?_) | refine tl_e (e_callV rfl (.cons rfl .nil) (fun w' hw' => err_no11 { t with liquids := L } hnu hB _ _ _ _ w' (hx10.1.fr (hw'.fr (w0 := x10.2) (S := []) (MI.m (by repeat constructor)))))) rfl (fun y10 hy10 => ?_))
        all_goals refine tl_q (y_move rfl) rfl ?_
        all_goals refine tl_q (y_extract rfl rfl) rfl ?_
        all_goals refine tl_q (y_extract rfl rfl) rfl ?_
        all_goals refine tl_q (y_assign rfl) rfl ?_
        all_goals refine tl_q (y_assign rfl) rfl ?_
        all_goals refine tl_nil ?_
        all_goals (refine hK13 ?_; try (clear hK13; clear K13))
        all_goals refine tc_seq fun K14 hK14 => ?_
        all_goals refine tc_lay ([]) (SB.s (by repeat constructor)) (fun wl11 hl11 => ?_)
        all_goals refine tc_region ?_
        all_goals (first | refine tl_q (y_loadWf rfl (hl7.at (b := b7) (by repeat constructor)) (MI.m (by repeat constructor)) (by simp) (by rfl)) rfl ?_ | refine tl_q (y_loadW rfl (by repeat constructor) (by rfl)) rfl ?_ | refine tl_q (y_loadN rfl (by repeat constructor) (by (repeat (first | exact .nil | apply CA.cons rfl)); done)) rfl ?_ | refine tl_q (y_loadWf rfl (hl1.at (by repeat constructor)) (MI.m (by repeat constructor)) (by simp) (by rfl)) rfl ?_ | refine tl_q (y_load1f rfl (hl1.at (by repeat constructor)) (MI.m (by repeat constructor)) (by simp) (by rfl)) rfl ?_ | refine tl_q (y_load1o (v := vi (lqAt t i).1) rfl (fun w' hw' => cell0 (hw'.heap (z.1, _) (HM.mem (by repeat constructor))) hcell.1)) rfl ?_ | refine tl_q (y_load1o (v := vi (lqAt t i).2) rfl (fun w' hw' => cell0 (hw'.heap (z.1, _) (HM.mem (by repeat constructor))) hcell.2)) rfl ?_ | refine tl_q (y_load1o (v := vsA.getD m (.slice none 0 0)) rfl (fun w' hw' => by rw [show Int.toNat (m : Int) * 1 = m from by omega]; exact hcA w' (hw'.fr (w0 := y9.2) (S := []) (MI.m (by repeat constructor))) m (by omega))) rfl ?_ | refine tl_q (y_load1o (v := vsB.getD m (.slice none 0 0)) rfl (fun w' hw' => by rw [show Int.toNat (m : Int) * 1 = m from by omega]; exact hcB w' (hw'.fr (w0 := y10.2) (S := []) (MI.m (by repeat constructor))) m (by omega))) rfl ?_)
        all_goals refine tl_e (e_callX rfl (.cons rfl .nil) (fun w' hw' => trial9_c t (by omega) (by omega) (by omega) (by omega) _ _ _ _ w' (hr0.fr (hw'.fr (w0 := w) (S := []) (MI.m (by repeat constructor)))))) rfl (fun x11 hx11 => ?_)
        all_goals (first | refine tl_e (e_callX rfl (.cons rfl .nil) (fun w' hw' => leaveT_sv t hv _ _ _ _ w' (hx11.1.fr (hw'.fr (w0 := x11.2) (S := []) (MI.m (by repeat constructor)))))) rfl (fun y11 hy11 => ?_) | refine tl_e (e_callX rfl (.cons rfl .nil) (fun w' hw' => leaveT_sv { t with liquids := L } hvu _ _ _ _ w' (hx12.1.fr (hw'.fr (w0 := x12.2) (S := []) (MI.m (by repeat constructor)))))) rfl (fun y11 hy11 => ?_))
        all_goals refine tl_q (y_move rfl) rfl ?_
        all_goals refine tl_q (y_extract rfl rfl) rfl ?_
        all_goals refine tl_q (y_extract rfl rfl) rfl ?_
        all_goals refine tl_q (y_assign rfl) rfl ?_
        all_goals refine tl_q (y_assign rfl) rfl ?_
        all_goals refine tl_nil ?_
        all_goals (refine hK14 ?_; try (clear hK14; clear K14))
        all_goals refine tc_seq fun K15 hK15 => ?_
        all_goals refine tc_lay ([]) (SB.s (by repeat constructor)) (fun wl12 hl12 => ?_)
        all_goals refine tc_region ?_
        all_goals (first | refine tl_q (y_loadWf rfl (hl7.at (b := b7) (by repeat constructor)) (MI.m (by repeat constructor)) (by simp) (by rfl)) rfl ?_ | refine tl_q (y_loadW rfl (by repeat constructor) (by rfl)) rfl ?_ | refine tl_q (y_loadN rfl (by repeat constructor) (by (repeat (first | exact .nil | apply CA.cons rfl)); done)) rfl ?_ | refine tl_q (y_loadWf rfl (hl7.at (by repeat constructor)) (MI.m (by repeat constructor)) (by simp) (by rfl)) rfl ?_ | refine tl_q (y_load1f rfl (hl7.at (by repeat constructor)) (MI.m (by repeat constructor)) (by simp) (by rfl)) rfl ?_ | refine tl_q (y_load1o (v := vi (lqAt t i).1) rfl (fun w' hw' => cell0 (hw'.heap (z.1, _) (HM.mem (by repeat constructor))) hcell.1)) rfl ?_ | refine tl_q (y_load1o (v := vi (lqAt t i).2) rfl (fun w' hw' => cell0 (hw'.heap (z.1, _) (HM.mem (by repeat constructor))) hcell.2)) rfl ?_ | refine tl_q (y_load1o (v := vsA.getD m (.slice none 0 0)) rfl (fun w' hw' => by rw [show Int.toNat (m : Int) * 1 = m from by omega]; exact hcA w' (hw'.fr (w0 := y9.2) (S := []) (MI.m (by repeat constructor))) m (by omega))) rfl ?_ | refine tl_q (y_load1o (v := vsB.getD m (.slice none 0 0)) rfl (fun w' hw' => by rw [show Int.toNat (m : Int) * 1 = m from by omega]; exact hcB w' (hw'.fr (w0 := y10.2) (S := []) (MI.m (by repeat constructor))) m (by omega))) rfl ?_)
        all_goals refine tl_e (e_callX rfl (.cons rfl .nil) (fun w' hw' => trial9_c { t with liquids := L } (by dsimp only; omega) (by dsimp only; omega) (by dsimp only; omega) (by dsimp only; omega) _ _ _ _ w' (hru.fr (hw'.fr (w0 := wl7) (S := []) (MI.m (by repeat constructor)))))) rfl (fun x12 hx12 => ?_)
        all_goals (first | refine tl_e (e_callX rfl (.cons rfl .nil) (fun w' hw' => leaveT_sv t hv _ _ _ _ w' (hx11.1.fr (hw'.fr (w0 := x11.2) (S := []) (MI.m (by repeat constructor)))))) rfl (fun y12 hy12 => ?_) | refine tl_e (e_callX rfl (.cons rfl .nil) (fun w' hw' => leaveT_sv { t with liquids := L } hvu _ _ _ _ w' (hx12.1.fr (hw'.fr (w0 := x12.2) (S := []) (MI.m (by repeat constructor)))))) rfl (fun y12 hy12 => ?_))
        all_goals refine tl_q (y_move rfl) rfl ?_
        all_goals refine tl_q (y_extract rfl rfl) rfl ?_
        all_goals refine tl_q (y_extract rfl rfl) rfl ?_
        all_goals refine tl_q (y_assign rfl) rfl ?_
        all_goals refine tl_q (y_assign rfl) rfl ?_
        all_goals refine tl_nil ?_
        all_goals (refine hK15 ?_; try (clear hK15; clear K15))
        all_goals refine tc_seq fun K16 hK16 => ?_
        all_goals refine tc_seq fun K17 hK17 => ?_
        all_goals refine tc_lay ([]) (SB.s (by repeat constructor)) (fun wl13 hl13 => ?_)
        all_goals refine tc_region ?_
        all_goals refine tl_q (y_move rfl) rfl ?_
        all_goals refine tl_q (y_neq rfl rfl) rfl ?_
        all_goals refine tl_q (y_move rfl) rfl ?_
        all_goals (first | refine tl_sk rfl rfl rfl rfl ?_ | refine tl_qg rfl rfl (y_move rfl) rfl ?_ | refine tl_su rfl rfl rfl ?_ | (refine tl_gs rfl rfl (fun hc => ?_) (fun hc => ?_) <;> (try simp only [decide_eq_true_eq, decide_eq_false_iff_not, Int.not_lt, Int.not_le, Bool.not_eq_true', Bool.not_eq_false', Decidable.not_not, not_true_eq_false] at hc) <;> (first | (exfalso; omega) | refine tl_sk rfl rfl rfl rfl ?_ | refine tl_qg rfl rfl (y_move rfl) rfl ?_ | refine tl_su rfl rfl rfl ?_)))
        all_goals (first | refine tl_sk rfl rfl rfl rfl ?_ | refine tl_qg rfl rfl (y_neq rfl rfl) rfl ?_ | refine tl_su rfl rfl rfl ?_ | (refine tl_gs rfl rfl (fun hc => ?_) (fun hc => ?_) <;> (try simp only [decide_eq_true_eq, decide_eq_false_iff_not, Int.not_lt, Int.not_le, Bool.not_eq_true', Bool.not_eq_false', Decidable.not_not, not_true_eq_false] at hc) <;> (first | (exfalso; omega) | refine tl_sk rfl rfl rfl rfl ?_ | refine tl_qg rfl rfl (y_neq rfl rfl) rfl ?_ | refine tl_su rfl rfl rfl ?_)))
        all_goals (first | refine tl_q (y_pick_t rfl rfl) rfl ?_ | refine tl_q (y_pick_f rfl rfl) rfl ?_)
        all_goals refine tl_q (y_move rfl) rfl ?_
        all_goals (first | refine tl_sk rfl rfl rfl rfl ?_ | refine tl_qg rfl rfl (y_move rfl) rfl ?_ | refine tl_su rfl rfl rfl ?_ | (refine tl_gs rfl rfl (fun hc => ?_) (fun hc => ?_) <;> (try simp only [decide_eq_true_eq, decide_eq_false_iff_not, Int.not_lt, Int.not_le, Bool.not_eq_true', Bool.not_eq_false', Decidable.not_not, not_true_eq_false] at hc) <;> (first | (exfalso; omega) | refine tl_sk rfl rfl rfl rfl ?_ | refine tl_qg rfl rfl (y_move rfl) rfl ?_ | refine tl_su rfl rfl rfl ?_)))
        all_goals (first | refine tl_sk rfl rfl rfl rfl ?_ | refine tl_qg rfl rfl (y_len rfl) rfl ?_ | refine tl_su rfl rfl rfl ?_ | (refine tl_gs rfl rfl (fun hc => ?_) (fun hc => ?_) <;> (try simp only [decide_eq_true_eq, decide_eq_false_iff_not, Int.not_lt, Int.not_le, Bool.not_eq_true', Bool.not_eq_false', Decidable.not_not, not_true_eq_false] at hc) <;> (first | (exfalso; omega) | refine tl_sk rfl rfl rfl rfl ?_ | refine tl_qg rfl rfl (y_len rfl) rfl ?_ | refine tl_su rfl rfl rfl ?_)))
        all_goals (first | refine tl_sk rfl rfl rfl rfl ?_ | refine tl_qg rfl rfl (y_move rfl) rfl ?_ | refine tl_su rfl rfl rfl ?_ | (refine tl_gs rfl rfl (fun hc => ?_) (fun hc => ?_) <;> (try simp only [decide_eq_true_eq, decide_eq_false_iff_not, Int.not_lt, Int.not_le, Bool.not_eq_true', Bool.not_eq_false', Decidable.not_not, not_true_eq_false] at hc) <;> (first | (exfalso; omega) | refine tl_sk rfl rfl rfl rfl ?_ | refine tl_qg rfl rfl (y_move rfl) rfl ?_ | refine tl_su rfl rfl rfl ?_)))
        all_goals (first | refine tl_sk rfl rfl rfl rfl ?_ | refine tl_qg rfl rfl (y_len rfl) rfl ?_ | refine tl_su rfl rfl rfl ?_ | (refine tl_gs rfl rfl (fun hc => ?_) (fun hc => ?_) <;> (try simp only [decide_eq_true_eq, decide_eq_false_iff_not, Int.not_lt, Int.not_le, Bool.not_eq_true', Bool.not_eq_false', Decidable.not_not, not_true_eq_false] at hc) <;> (first | (exfalso; omega) | refine tl_sk rfl rfl rfl rfl ?_ | refine tl_qg rfl rfl (y_len rfl) rfl ?_ | refine tl_su rfl rfl rfl ?_)))
        all_goals (first | refine tl_sk rfl rfl rfl rfl ?_ | refine tl_qg rfl rfl (y_gtr rfl rfl) rfl ?_ | refine tl_su rfl rfl rfl ?_ | (refine tl_gs rfl rfl (fun hc => ?_) (fun hc => ?_) <;> (try simp only [decide_eq_true_eq, decide_eq_false_iff_not, Int.not_lt, Int.not_le, Bool.not_eq_true', Bool.not_eq_false', Decidable.not_not, not_true_eq_false] at hc) <;> (first | (exfalso; omega) | refine tl_sk rfl rfl rfl rfl ?_ | refine tl_qg rfl rfl (y_gtr rfl rfl) rfl ?_ | refine tl_su rfl rfl rfl ?_)))
        all_goals (first | refine tl_q (y_pick_t rfl rfl) rfl ?_ | refine tl_q (y_pick_f rfl rfl) rfl ?_)
        all_goals refine tl_q (y_move rfl) rfl ?_
        all_goals (first | refine tl_sk rfl rfl rfl rfl ?_ | refine tl_qg rfl rfl (y_move rfl) rfl ?_ | refine tl_su rfl rfl rfl ?_ | (refine tl_gs rfl rfl (fun hc => ?_) (fun hc => ?_) <;> (try simp only [decide_eq_true_eq, decide_eq_false_iff_not, Int.not_lt, Int.not_le, Bool.not_eq_true', Bool.not_eq_false', Decidable.not_not, not_true_eq_false] at hc) <;> (first | (exfalso; omega) | refine tl_sk rfl rfl rfl rfl ?_ | refine tl_qg rfl rfl (y_move rfl) rfl ?_ | refine tl_su rfl rfl rfl ?_)))
        all_goals (first | refine tl_sk rfl rfl rfl rfl ?_ | refine tl_qg rfl rfl (y_eql rfl rfl) rfl ?_ | refine tl_su rfl rfl rfl ?_ | (refine tl_gs rfl rfl (fun hc => ?_) (fun hc => ?_) <;> (try simp only [decide_eq_true_eq, decide_eq_false_iff_not, Int.not_lt, Int.not_le, Bool.not_eq_true', Bool.not_eq_false', Decidable.not_not, not_true_eq_false] at hc) <;> (first | (exfalso; omega) | refine tl_sk rfl rfl rfl rfl ?_ | refine tl_qg rfl rfl (y_eql rfl rfl) rfl ?_ | refine tl_su rfl rfl rfl ?_)))
        all_goals (first | refine tl_sk rfl rfl rfl rfl ?_ | refine tl_qg rfl rfl (y_move rfl) rfl ?_ | refine tl_su rfl rfl rfl ?_ | (refine tl_gs rfl rfl (fun hc => ?_) (fun hc => ?_) <;> (try simp only [decide_eq_true_eq, decide_eq_false_iff_not, Int.not_lt, Int.not_le, Bool.not_eq_true', Bool.not_eq_false', Decidable.not_not, not_true_eq_false] at hc) <;> (first | (exfalso; omega) | refine tl_sk rfl rfl rfl rfl ?_ | refine tl_qg rfl rfl (y_move rfl) rfl ?_ | refine tl_su rfl rfl rfl ?_)))
        all_goals (first | refine tl_sk rfl rfl rfl rfl ?_ | refine tl_qg rfl rfl (y_move rfl) rfl ?_ | refine tl_su rfl rfl rfl ?_ | (refine tl_gs rfl rfl (fun hc => ?_) (fun hc => ?_) <;> (try simp only [decide_eq_true_eq, decide_eq_false_iff_not, Int.not_lt, Int.not_le, Bool.not_eq_true', Bool.not_eq_false', Decidable.not_not, not_true_eq_false] at hc) <;> (first | (exfalso; omega) | refine tl_sk rfl rfl rfl rfl ?_ | refine tl_qg rfl rfl (y_move rfl) rfl ?_ | refine tl_su rfl rfl rfl ?_)))
        all_goals (first | refine tl_sk rfl rfl rfl rfl ?_ | refine tl_qg rfl rfl (y_neq rfl rfl) rfl ?_ | refine tl_su rfl rfl rfl ?_ | (refine tl_gs rfl rfl (fun hc => ?_) (fun hc => ?_) <;> (try simp only [decide_eq_true_eq, decide_eq_false_iff_not, Int.not_lt, Int.not_le, Bool.not_eq_true', Bool.not_eq_false', Decidable.not_not, not_true_eq_false] at hc) <;> (first | (exfalso; omega) | refine tl_sk rfl rfl rfl rfl ?_ | refine tl_qg rfl rfl (y_neq rfl rfl) rfl ?_ | refine tl_su rfl rfl rfl ?_)))
        all_goals (first | refine tl_sk rfl rfl rfl rfl ?_ | refine tl_qg rfl rfl (y_pick_t rfl rfl) rfl ?_ | refine tl_qg rfl rfl (y_pick_f rfl rfl) rfl ?_ | refine tl_su rfl rfl rfl ?_ | (refine tl_gs rfl rfl (fun hc => ?_) (fun hc => ?_) <;> (try simp only [decide_eq_true_eq, decide_eq_false_iff_not, Int.not_lt, Int.not_le, Bool.not_eq_true', Bool.not_eq_false', Decidable.not_not, not_true_eq_false] at hc) <;> (first | (exfalso; omega) | refine tl_sk rfl rfl rfl rfl ?_ | refine tl_qg rfl rfl (y_pick_t rfl rfl) rfl ?_ | refine tl_qg rfl rfl (y_pick_f rfl rfl) rfl ?_ | refine tl_su rfl rfl rfl ?_)))
        all_goals (first | refine tl_q (y_pick_t rfl rfl) rfl ?_ | refine tl_q (y_pick_f rfl rfl) rfl ?_)
        all_goals refine tl_q (y_move rfl) rfl ?_
        all_goals (first | refine tl_sk rfl rfl rfl rfl ?_ | refine tl_qg rfl rfl (y_move rfl) rfl ?_ | refine tl_su rfl rfl rfl ?_ | (refine tl_gs rfl rfl (fun hc => ?_) (fun hc => ?_) <;> (try simp only [decide_eq_true_eq, decide_eq_false_iff_not, Int.not_lt, Int.not_le, Bool.not_eq_true', Bool.not_eq_false', Decidable.not_not, not_true_eq_false] at hc) <;> (first | (exfalso; omega) | refine tl_sk rfl rfl rfl rfl ?_ | refine tl_qg rfl rfl (y_move rfl) rfl ?_ | refine tl_su rfl rfl rfl ?_)))
        all_goals (first | refine tl_sk rfl rfl rfl rfl ?_ | refine tl_qg rfl rfl (y_neq rfl rfl) rfl ?_ | refine tl_su rfl rfl rfl ?_ | (refine tl_gs rfl rfl (fun hc => ?_) (fun hc => ?_) <;> (try simp only [decide_eq_true_eq, decide_eq_false_iff_not, Int.not_lt, Int.not_le, Bool.not_eq_true', Bool.not_eq_false', Decidable.not_not, not_true_eq_false] at hc) <;> (first | (exfalso; omega) | refine tl_sk rfl rfl rfl rfl ?_ | refine tl_qg rfl rfl (y_neq rfl rfl) rfl ?_ | refine tl_su rfl rfl rfl ?_)))
        all_goals (first | refine tl_sk rfl rfl rfl rfl ?_ | refine tl_qg rfl rfl (y_move rfl) rfl ?_ | refine tl_su rfl rfl rfl ?_ | (refine tl_gs rfl rfl (fun hc => ?_) (fun hc => ?_) <;> (try simp only [decide_eq_true_eq, decide_eq_false_iff_not, Int.not_lt, Int.not_le, Bool.not_eq_true', Bool.not_eq_false', Decidable.not_not, not_true_eq_false] at hc) <;> (first | (exfalso; omega) | refine tl_sk rfl rfl rfl rfl ?_ | refine tl_qg rfl rfl (y_move rfl) rfl ?_ | refine tl_su rfl rfl rfl ?_)))
        all_goals (first | refine tl_sk rfl rfl rfl rfl ?_ | refine tl_qg rfl rfl (y_move rfl) rfl ?_ | refine tl_su rfl rfl rfl ?_ | (refine tl_gs rfl rfl (fun hc => ?_) (fun hc => ?_) <;> (try simp only [decide_eq_true_eq, decide_eq_false_iff_not, Int.not_lt, Int.not_le, Bool.not_eq_true', Bool.not_eq_false', Decidable.not_not, not_true_eq_false] at hc) <;> (first | (exfalso; omega) | refine tl_sk rfl rfl rfl rfl ?_ | refine tl_qg rfl rfl (y_move rfl) rfl ?_ | refine tl_su rfl rfl rfl ?_)))
        all_goals (first | refine tl_sk rfl rfl rfl rfl ?_ | refine tl_qg rfl rfl (y_neq rfl rfl) rfl ?_ | refine tl_su rfl rfl rfl ?_ | (refine tl_gs rfl rfl (fun hc => ?_) (fun hc => ?_) <;> (try simp only [decide_eq_true_eq, decide_eq_false_iff_not, Int.not_lt, Int.not_le, Bool.not_eq_true', Bool.not_eq_false', Decidable.not_not, not_true_eq_false] at hc) <;> (first | (exfalso; omega) | refine tl_sk rfl rfl rfl rfl ?_ | refine tl_qg rfl rfl (y_neq rfl rfl) rfl ?_ | refine tl_su rfl rfl rfl ?_)))
        all_goals (first | refine tl_sk rfl rfl rfl rfl ?_ | refine tl_qg rfl rfl (y_pick_t rfl rfl) rfl ?_ | refine tl_qg rfl rfl (y_pick_f rfl rfl) rfl ?_ | refine tl_su rfl rfl rfl ?_ | (refine tl_gs rfl rfl (fun hc => ?_) (fun hc => ?_) <;> (try simp only [decide_eq_true_eq, decide_eq_false_iff_not, Int.not_lt, Int.not_le, Bool.not_eq_true', Bool.not_eq_false', Decidable.not_not, not_true_eq_false] at hc) <;> (first | (exfalso; omega) | refine tl_sk rfl rfl rfl rfl ?_ | refine tl_qg rfl rfl (y_pick_t rfl rfl) rfl ?_ | refine tl_qg rfl rfl (y_pick_f rfl rfl) rfl ?_ | refine tl_su rfl rfl rfl ?_)))
        all_goals (first | refine tl_q (y_pick_t rfl rfl) rfl ?_ | refine tl_q (y_pick_f rfl rfl) rfl ?_)
        all_goals refine tl_nil ?_
        all_goals (refine hK17 ?_; try (clear hK17; clear K17))
        all_goals (
         refine tc_cond rfl (fun hc => ?_) (fun hc => ?_)
         · try simp only [decide_eq_true_eq, decide_eq_false_iff_not, Int.not_lt, Int.not_le, Bool.not_eq_true', Bool.not_eq_false', Decidable.not_not, not_true_eq_false] at hc
           all_goals first | (exfalso; with_reducible exact bft hc) | (exfalso; with_reducible exact btf hc) | (exfalso; omega) | skip
           all_goals refine tc_seq fun K18 hK18 => ?_
           all_goals refine tc_lay ([]) (SB.s (by repeat constructor)) (fun wl14 hl14 => ?_)
           all_goals refine tc_region ?_
           all_goals refine tl_q (y_assign rfl) rfl ?_
           all_goals refine tl_nil ?_
           all_goals (refine hK18 ?_; try (clear hK18; clear K18))
           all_goals refine tc_ret ?_
           all_goals (repeat (first | refine tk_then_ret ?_ | refine tk_block_ret ?_ | refine tk_scope_ret ?_))
           all_goals first | refine tk_ret rfl rfl (.cons (.tmp rfl) .nil) ?_ | refine tk_retM rfl (by repeat constructor) rfl (.cons (.tmp rfl) .nil) ?_
           all_goals (
            exact fun w' hw' => ⟨rfl, hw'.fr (w0 := w) (S := []) (MI.m (by repeat constructor))⟩)
         · try simp only [decide_eq_true_eq, decide_eq_false_iff_not, Int.not_lt, Int.not_le, Bool.not_eq_true', Bool.not_eq_false', Decidable.not_not, not_true_eq_false] at hc
           all_goals first | (exfalso; with_reducible exact bft hc) | (exfalso; with_reducible exact btf hc) | (exfalso; omega) | skip
           all_goals refine tc_skip ?_
           all_goals (refine hK16 ?_; try (clear hK16; clear K16))
           all_goals refine tc_seq fun K19 hK19 => ?_
           all_goals refine tc_seq fun K20 hK20 => ?_
           all_goals refine tc_lay ([]) (SB.s (by repeat constructor)) (fun wl15 hl15 => ?_)
           all_goals refine tc_region ?_
           all_goals refine tl_q (y_move rfl) rfl ?_
           all_goals refine tl_q (y_neq rfl rfl) rfl ?_
           all_goals refine tl_nil ?_
           all_goals (refine hK20 ?_; try (clear hK20; clear K20))
           all_goals (
            refine tc_cond rfl (fun hc => ?_) (fun hc => ?_)
            · try simp only [decide_eq_true_eq, decide_eq_false_iff_not, Int.not_lt, Int.not_le, Bool.not_eq_true', Bool.not_eq_false', Decidable.not_not, not_true_eq_false] at hc
              all_goals first | (exfalso; with_reducible exact bft hc) | (exfalso; with_reducible exact btf hc) | (exfalso; omega) | skip
              all_goals refine tc_seq fun K21 hK21 => ?_
              all_goals refine tc_lay ([]) (SB.s (by repeat constructor)) (fun wl16 hl16 => ?_)
              all_goals refine tc_region ?_
              all_goals refine tl_e (e_callV rfl .nil (fun w' _ => awake9_c w')) rfl (fun _ _ => ?_)
              all_goals refine tl_q (y_assign rfl) rfl ?_
              all_goals refine tl_nil ?_
              all_goals (refine hK21 ?_; try (clear hK21; clear K21))
              all_goals refine tc_ret ?_
              all_goals (repeat (first | refine tk_then_ret ?_ | refine tk_block_ret ?_ | refine tk_scope_ret ?_))
              all_goals first | refine tk_ret rfl rfl (.cons (.tmp rfl) .nil) ?_ | refine tk_retM rfl (by repeat constructor) rfl (.cons (.tmp rfl) .nil) ?_
              all_goals (
               exact fun w' hw' => ⟨rfl, hw'.fr (w0 := w) (S := []) (MI.m (by repeat constructor))⟩)
            · try simp only [decide_eq_true_eq, decide_eq_false_iff_not, Int.not_lt, Int.not_le, Bool.not_eq_true', Bool.not_eq_false', Decidable.not_not, not_true_eq_false] at hc
              all_goals first | (exfalso; with_reducible exact bft hc) | (exfalso; with_reducible exact btf hc) | (exfalso; omega) | skip
              all_goals refine tc_skip ?_
              all_goals (refine hK19 ?_; try (clear hK19; clear K19))
              all_goals refine tc_seq fun K22 hK22 => ?_
              all_goals refine tc_seq fun K23 hK23 => ?_
              all_goals refine tc_lay ([]) (SB.s (by repeat constructor)) (fun wl17 hl17 => ?_)
              all_goals refine tc_region ?_
              all_goals refine tl_q (y_move rfl) rfl ?_
              all_goals refine tl_q (y_len rfl) rfl ?_
              all_goals refine tl_q (y_move rfl) rfl ?_
              all_goals refine tl_q (y_len rfl) rfl ?_
              all_goals refine tl_q (y_neq rfl rfl) rfl ?_
              all_goals refine tl_nil ?_
              all_goals (refine hK23 ?_; try (clear hK23; clear K23))
              all_goals (
               refine tc_cond rfl (fun hc => ?_) (fun hc => ?_)
               · try simp only [decide_eq_true_eq, decide_eq_false_iff_not, Int.not_lt, Int.not_le, Bool.not_eq_true', Bool.not_eq_false', Decidable.not_not, not_true_eq_false] at hc
                 all_goals first | (exfalso; with_reducible exact bft hc) | (exfalso; with_reducible exact btf hc) | (exfalso; omega) | skip
                 all_goals refine tc_seq fun K24 hK24 => ?_
                 all_goals refine tc_lay ([]) (SB.s (by repeat constructor)) (fun wl18 hl18 => ?_)
                 all_goals refine tc_region ?_
                 all_goals refine tl_q (y_assign rfl) rfl ?_
                 all_goals refine tl_nil ?_
                 all_goals (refine hK24 ?_; try (clear hK24; clear K24))
                 all_goals refine tc_ret ?_
                 all_goals (repeat (first | refine tk_then_ret ?_ | refine tk_block_ret ?_ | refine tk_scope_ret ?_))
                 all_goals first | refine tk_ret rfl rfl (.cons (.tmp rfl) .nil) ?_ | refine tk_retM rfl (by repeat constructor) rfl (.cons (.tmp rfl) .nil) ?_
                 all_goals (
                  exact fun w' hw' => ⟨rfl, hw'.fr (w0 := w) (S := []) (MI.m (by repeat constructor))⟩)
               · try simp only [decide_eq_true_eq, decide_eq_false_iff_not, Int.not_lt, Int.not_le, Bool.not_eq_true', Bool.not_eq_false', Decidable.not_not, not_true_eq_false] at hc
                 all_goals first | (exfalso; with_reducible exact bft hc) | (exfalso; with_reducible exact btf hc) | (exfalso; omega) | skip
                 all_goals refine tc_skip ?_
                 all_goals (refine hK22 ?_; try (clear hK22; clear K22))
                 all_goals refine tc_seq fun K25 hK25 => ?_
                 all_goals refine tc_seq fun K26 hK26 => ?_
                 all_goals refine tc_lay ([]) (SB.s (by repeat constructor)) (fun wl19 hl19 => ?_)
                 all_goals (obtain ⟨bA, oA, vsA, hadA, hcA, hiA⟩ := hy9.1.opensL (possLL_len ..); obtain ⟨bB, oB, vsB, hadB, hcB, hiB⟩ := hy10.1.opensL (possLL_len ..))
                 all_goals (rw [possLL_len] at hadA hcA hiA hadB hcB hiB)
                 all_goals (dsimp only at hadA hcA hiA hadB hcB hiB)
                 all_goals (have hadA' := hadA (by omega); have hadB' := hadB (by omega))
                 all_goals refine tc_region ?_
                 all_goals refine tl_q (y_assign rfl) rfl ?_
                 all_goals refine tl_nil ?_
                 all_goals (refine hK26 ?_; try (clear hK26; clear K26))
                 all_goals refine tc_block ?_
                 all_goals (
                  refine tc_loop (fun m : Nat => m ≤ t.parts.length) (fun m => [(9, slV t.parts.length y9.1), (11, slV t.parts.length y10.1), (17, vi m)]) (fun _ => [(y10.2, []), (y9.2, []), (w, [])]) (fun _ => []) (fun m => t.parts.length - m) ?_ ?_
                  · exact tk_start 0 (Nat.zero_le _) (.cons rfl (.cons rfl (.cons rfl .nil))) (fun _ h => h.subl (SB.s (by repeat constructor)) (SB.s (by repeat constructor)))
                  · rintro m hm
                    all_goals refine tc_seq fun K27 hK27 => ?_
                    all_goals refine tc_seq fun K28 hK28 => ?_
                    all_goals refine tc_region ?_
                    all_goals refine tl_q (y_move rfl) rfl ?_
                    all_goals refine tl_q (y_move rfl) rfl ?_
                    all_goals refine tl_q (y_len rfl) rfl ?_
                    all_goals refine tl_q (y_lss rfl rfl) rfl ?_
                    all_goals refine tl_nil ?_
                    all_goals (refine hK28 ?_; try (clear hK28; clear K28))
                    all_goals (
                     refine tc_cond rfl (fun hc => ?_) (fun hc => ?_)
                     · try simp only [decide_eq_true_eq, decide_eq_false_iff_not, Int.not_lt, Int.not_le, Bool.not_eq_true', Bool.not_eq_false', Decidable.not_not, not_true_eq_false] at hc
                       all_goals first | (exfalso; with_reducible exact bft hc) | (exfalso; with_reducible exact btf hc) | (exfalso; omega) | skip
                       all_goals refine tc_skip ?_
                       all_goals (refine hK27 ?_; try (clear hK27; clear K27))
                       all_goals refine tc_seq fun K29 hK29 => ?_
                       all_goals refine tc_block ?_
                       all_goals refine tc_seq fun K30 hK30 => ?_
                       all_goals (have hsub : ((possL t m).all fun x => decide (x ∈ possL { t with liquids := L } m)) = true := List.all_eq_true.2 (fun x hx => decide_eq_true (poss_sub hv hvu (fun e he => hw0.truths he) m hx)))
                       all_goals (have hpa : (possL t m).length ≤ 7 := List.length_filter_le _ _; have hpb : (possL { t with liquids := L } m).length ≤ 7 := List.length_filter_le _ _)
                       all_goals refine tc_draw (by kernel_rfl) ?_
                       all_goals refine tx_p 0 rfl (by kernel_rfl) (y_move rfl) rfl (fun _ _ _ h => h) (fun _ h => h) ?_
                       all_goals refine tx_p 1 rfl (by kernel_rfl) (y_move rfl) rfl (fun _ _ _ h => h) (fun _ h => h) ?_
                       all_goals (first | refine tx_p 2 rfl (by kernel_rfl) (y_index rfl rfl (by omega) hadA') rfl (fun _ _ _ h => h) (fun _ h => h) ?_ | refine tx_p 2 rfl (by kernel_rfl) (y_index rfl rfl (by omega) hadB') rfl (fun _ _ _ h => h) (fun _ h => h) ?_ | refine tx_p 2 rfl (by kernel_rfl) (y_index rfl rfl (by omega) rfl) rfl (fun _ _ _ h => h) (fun _ h => h) ?_ | refine tx_p 2 rfl (by kernel_rfl) (y_index rfl rfl (by omega) rfl) rfl (fun _ _ _ h => h) (fun _ h => h) ?_ | refine tx_p 2 rfl (by kernel_rfl) (y_indexA rfl rfl (by omega)) rfl (fun _ _ _ h => h) (fun _ h => h) ?_)
                       all_goals (first | refine tx_q 3 rfl (by kernel_rfl) (y_load1 rfl (by repeat constructor) (by rfl)) rfl (fun _ _ _ h => h) (fun _ h => h) ?_ | refine tx_q 3 rfl (by kernel_rfl) (y_load1f rfl (hl19.at (by repeat constructor)) (MI.m (by repeat constructor)) (by simp) (by rfl)) rfl (fun _ _ _ h => h) (fun _ h => h) ?_ | refine tx_q 3 rfl (by kernel_rfl) (y_load1f rfl (hl17.at (by repeat constructor)) (MI.m (by repeat constructor)) (by simp) (by rfl)) rfl (fun _ _ _ h => h) (fun _ h => h) ?_ | refine tx_q 3 rfl (by kernel_rfl) (y_load1f rfl (hl15.at (by repeat constructor)) (MI.m (by repeat constructor)) (by simp) (by rfl)) rfl (fun _ _ _ h => h) (fun _ h => h) ?_ | refine tx_q 3 rfl (by kernel_rfl) (y_load1f rfl (hl13.at (by repeat constructor)) (MI.m (by repeat constructor)) (by simp) (by rfl)) rfl (fun _ _ _ h => h) (fun _ h => h) ?_ | refine tx_q 3 rfl (by kernel_rfl) (y_load1f rfl (hl12.at (by repeat constructor)) (MI.m (by repeat constructor)) (by simp) (by rfl)) rfl (fun _ _ _ h => h) (fun _ h => h) ?_ | refine tx_q 3 rfl (by kernel_rfl) (y_load1f rfl (hl11.at (by repeat constructor)) (MI.m (by repeat constructor)) (by simp) (by rfl)) rfl (fun _ _ _ h => h) (fun _ h => h) ?_ | refine tx_q 3 rfl (by kernel_rfl) (y_load1f rfl (hl10.at (by repeat constructor)) (MI.m (by repeat constructor)) (by simp) (by rfl)) rfl (fun _ _ _ h => h) (fun _ h => h) ?_ | refine tx_q 3 rfl (by kernel_rfl) (y_load1f rfl (hl9.at (by repeat constructor)) (MI.m (by repeat constructor)) (by simp) (by rfl)) rfl (fun _ _ _ h => h) (fun _ h => h) ?_ | refine tx_q 3 rfl (by kernel_rfl) (y_load1f rfl (hl7.at (by repeat constructor)) (MI.m (by repeat constructor)) (by simp) (by rfl)) rfl (fun _ _ _ h => h) (fun _ h => h) ?_ | refine tx_q 3 rfl (by kernel_rfl) (y_load1f rfl (hl3.at (by repeat constructor)) (MI.m (by repeat constructor)) (by simp) (by rfl)) rfl (fun _ _ _ h => h) (fun _ h => h) ?_ | refine tx_q 3 rfl (by kernel_rfl) (y_load1f rfl (hl1.at (by repeat constructor)) (MI.m (by repeat constructor)) (by simp) (by rfl)) rfl (fun _ _ _ h => h) (fun _ h => h) ?_ | refine tx_q 3 rfl (by kernel_rfl) (y_load1o (v := vi (lqAt t i).1) rfl (fun w' hw' => cell0 (hw'.heap (z.1, _) (HM.mem (by repeat constructor))) hcell.1)) rfl (fun _ _ _ h => h) (fun _ h => h) ?_ | refine tx_q 3 rfl (by kernel_rfl) (y_load1o (v := vi (lqAt t i).2) rfl (fun w' hw' => cell0 (hw'.heap (z.1, _) (HM.mem (by repeat constructor))) hcell.2)) rfl (fun _ _ _ h => h) (fun _ h => h) ?_ | refine tx_q 3 rfl (by kernel_rfl) (y_load1o (v := vsA.getD m (.slice none 0 0)) rfl (fun w' hw' => by rw [show Int.toNat (m : Int) * 1 = m from by omega]; exact hcA w' (hw'.fr (w0 := y9.2) (S := []) (MI.m (by repeat constructor))) m (by omega))) rfl (fun _ _ _ h => h) (fun _ h => h) ?_ | refine tx_q 3 rfl (by kernel_rfl) (y_load1o (v := vsB.getD m (.slice none 0 0)) rfl (fun w' hw' => by rw [show Int.toNat (m : Int) * 1 = m from by omega]; exact hcB w' (hw'.fr (w0 := y10.2) (S := []) (MI.m (by repeat constructor))) m (by omega))) rfl (fun _ _ _ h => h) (fun _ h => h) ?_)
                       all_goals refine tx_p 4 rfl (by kernel_rfl) (y_move rfl) rfl (fun _ _ _ h => h) (fun _ h => h) ?_
                       all_goals refine tx_p 5 rfl (by kernel_rfl) (y_move rfl) rfl (fun _ _ _ h => h) (fun _ h => h) ?_
                       all_goals (first | refine tx_p 6 rfl (by kernel_rfl) (y_index rfl rfl (by omega) hadA') rfl (fun _ _ _ h => h) (fun _ h => h) ?_ | refine tx_p 6 rfl (by kernel_rfl) (y_index rfl rfl (by omega) hadB') rfl (fun _ _ _ h => h) (fun _ h => h) ?_ | refine tx_p 6 rfl (by kernel_rfl) (y_index rfl rfl (by omega) rfl) rfl (fun _ _ _ h => h) (fun _ h => h) ?_ | refine tx_p 6 rfl (by kernel_rfl) (y_index rfl rfl (by omega) rfl) rfl (fun _ _ _ h => h) (fun _ h => h) ?_ | refine tx_p 6 rfl (by kernel_rfl) (y_indexA rfl rfl (by omega)) rfl (fun _ _ _ h => h) (fun _ h => h) ?_)
                       all_goals (first | refine tx_q 7 rfl (by kernel_rfl) (y_load1 rfl (by repeat constructor) (by rfl)) rfl (fun _ _ _ h => h) (fun _ h => h) ?_ | refine tx_q 7 rfl (by kernel_rfl) (y_load1f rfl (hl19.at (by repeat constructor)) (MI.m (by repeat constructor)) (by simp) (by rfl)) rfl (fun _ _ _ h => h) (fun _ h => h) ?_ | refine tx_q 7 rfl (by kernel_rfl) (y_load1f rfl (hl17.at (by repeat constructor)) (MI.m (by repeat constructor)) (by simp) (by rfl)) rfl (fun _ _ _ h => h) (fun _ h => h) ?_ | refine tx_q 7 rfl (by kernel_rfl) (y_load1f rfl (hl15.at (by repeat constructor)) (MI.m (by repeat constructor)) (by simp) (by rfl)) rfl (fun _ _ _ h => h) (fun _ h => h) ?_ | refine tx_q 7 rfl (by kernel_rfl) (y_load1f rfl (hl13.at (by repeat constructor)) (MI.m (by repeat constructor)) (by simp) (by rfl)) rfl (fun _ _ _ h => h) (fun _ h => h) ?_ | refine tx_q 7 rfl (by kernel_rfl) (y_load1f rfl (hl12.at (by repeat constructor)) (MI.m (by repeat constructor)) (by simp) (by rfl)) rfl (fun _ _ _ h => h) (fun _ h => h) ?_ | refine tx_q 7 rfl (by kernel_rfl) (y_load1f rfl (hl11.at (by repeat constructor)) (MI.m (by repeat constructor)) (by simp) (by rfl)) rfl (fun _ _ _ h => h) (fun _ h => h) ?_ | refine tx_q 7 rfl (by kernel_rfl) (y_load1f rfl (hl10.at (by repeat constructor)) (MI.m (by repeat constructor)) (by simp) (by rfl)) rfl (fun _ _ _ h => h) (fun _ h => h) ?_ | refine tx_q 7 rfl (by kernel_rfl) (y_load1f rfl (hl9.at (by repeat constructor)) (MI.m (by repeat constructor)) (by simp) (by rfl)) rfl (fun _ _ _ h => h) (fun _ h => h) ?_ | refine tx_q 7 rfl (by kernel_rfl) (y_load1f rfl (hl7.at (by repeat constructor)) (MI.m (by repeat constructor)) (by simp) (by rfl)) rfl (fun _ _ _ h => h) (fun _ h => h) ?_ | refine tx_q 7 rfl (by kernel_rfl) (y_load1f rfl (hl3.at (by repeat constructor)) (MI.m (by repeat constructor)) (by simp) (by rfl)) rfl (fun _ _ _ h => h) (fun _ h => h) ?_ | refine tx_q 7 rfl (by kernel_rfl) (y_load1f rfl (hl1.at (by repeat constructor)) (MI.m (by repeat constructor)) (by simp) (by rfl)) rfl (fun _ _ _ h => h) (fun _ h => h) ?_ | refine tx_q 7 rfl (by kernel_rfl) (y_load1o (v := vi (lqAt t i).1) rfl (fun w' hw' => cell0 (hw'.heap (z.1, _) (HM.mem (by repeat constructor))) hcell.1)) rfl (fun _ _ _ h => h) (fun _ h => h) ?_ | refine tx_q 7 rfl (by kernel_rfl) (y_load1o (v := vi (lqAt t i).2) rfl (fun w' hw' => cell0 (hw'.heap (z.1, _) (HM.mem (by repeat constructor))) hcell.2)) rfl (fun _ _ _ h => h) (fun _ h => h) ?_ | refine tx_q 7 rfl (by kernel_rfl) (y_load1o (v := vsA.getD m (.slice none 0 0)) rfl (fun w' hw' => by rw [show Int.toNat (m : Int) * 1 = m from by omega]; exact hcA w' (hw'.fr (w0 := y9.2) (S := []) (MI.m (by repeat constructor))) m (by omega))) rfl (fun _ _ _ h => h) (fun _ h => h) ?_ | refine tx_q 7 rfl (by kernel_rfl) (y_load1o (v := vsB.getD m (.slice none 0 0)) rfl (fun w' hw' => by rw [show Int.toNat (m : Int) * 1 = m from by omega]; exact hcB w' (hw'.fr (w0 := y10.2) (S := []) (MI.m (by repeat constructor))) m (by omega))) rfl (fun _ _ _ h => h) (fun _ h => h) ?_)
                       all_goals refine tx_e 8 rfl (by kernel_rfl) rfl (e_callV rfl (.cons rfl (.cons rfl .nil)) (fun w' hw' => by have h := subset9_c (possL t m) (possL { t with liquids := L } m) (by omega) (by omega) _ _ w' (by have h1 := hiA w' (hw'.fr (w0 := y9.2) (S := []) (MI.m (by repeat constructor))) m (by omega); rw [possLL_get (by omega)] at h1; exact h1) (by have h1 := hiB w' (hw'.fr (w0 := y10.2) (S := []) (MI.m (by repeat constructor))) m (by omega); rw [possLL_get (by omega)] at h1; exact h1); rw [hsub] at h; exact h)) (.inr fun _ _ h => h) (fun _ _ => ?_)
                       all_goals (first | refine tx_p 9 rfl (by kernel_rfl) (y_not_dec rfl) rfl (fun _ _ _ h => h) (fun _ h => h) ?_ | refine tx_p 9 rfl (by kernel_rfl) (y_not rfl) rfl (fun _ _ _ h => h) (fun _ h => h) ?_)
                       all_goals refine tx_done (by kernel_rfl) ?_
                       all_goals (refine hK30 ?_; try (clear hK30; clear K30))
                       all_goals (
                        refine tc_cond rfl (fun hc => ?_) (fun hc => ?_)
                        · try simp only [decide_eq_true_eq, decide_eq_false_iff_not, Int.not_lt, Int.not_le, Bool.not_eq_true', Bool.not_eq_false', Decidable.not_not, not_true_eq_false] at hc
                          all_goals first | (exfalso; with_reducible exact bft hc) | (exfalso; with_reducible exact btf hc) | (exfalso; omega) | skip
                          all_goals refine tc_seq fun K31 hK31 => ?_
                          all_goals refine tc_region ?_
                          all_goals refine tl_q (y_assign rfl) rfl ?_
                          all_goals refine tl_nil ?_
                          all_goals (refine hK31 ?_; try (clear hK31; clear K31))
                          all_goals refine tc_ret ?_
                          all_goals (repeat (first | refine tk_then_ret ?_ | refine tk_block_ret ?_ | refine tk_scope_ret ?_))
                          all_goals first | refine tk_ret rfl rfl (.cons (.tmp rfl) .nil) ?_ | refine tk_retM rfl (by repeat constructor) rfl (.cons (.tmp rfl) .nil) ?_
                          all_goals (
                           exact fun w' hw' => ⟨rfl, hw'.fr (w0 := w) (S := []) (MI.m (by repeat constructor))⟩)
                        · try simp only [decide_eq_true_eq, decide_eq_false_iff_not, Int.not_lt, Int.not_le, Bool.not_eq_true', Bool.not_eq_false', Decidable.not_not, not_true_eq_false] at hc
                          all_goals first | (exfalso; with_reducible exact bft hc) | (exfalso; with_reducible exact btf hc) | (exfalso; omega) | skip
                          all_goals refine tc_skip ?_
                          all_goals (refine hK29 ?_; try (clear hK29; clear K29))
                          all_goals refine tc_region ?_
                          all_goals refine tl_q (y_move rfl) rfl ?_
                          all_goals refine tl_q (y_add rfl rfl (by omega)) rfl ?_
                          all_goals refine tl_q (y_assign rfl) rfl ?_
                          all_goals refine tl_nil ?_
                          all_goals (
                           exact tk_round (m + 1) (by omega) (by omega) (.cons rfl (.cons rfl (.cons rfl .nil))) (fun _ h => h.subl (SB.s (by repeat constructor)) (SB.s (by repeat constructor)))))
                     · try simp only [decide_eq_true_eq, decide_eq_false_iff_not, Int.not_lt, Int.not_le, Bool.not_eq_true', Bool.not_eq_false', Decidable.not_not, not_true_eq_false] at hc
                       all_goals first | (exfalso; with_reducible exact bft hc) | (exfalso; with_reducible exact btf hc) | (exfalso; omega) | skip
                       all_goals refine tc_exit ?_
                       all_goals (refine hK25 ?_; try (clear hK25; clear K25))
                       all_goals refine tc_seq fun K32 hK32 => ?_
                       all_goals refine tc_lay ([]) (SB.s (by repeat constructor)) (fun wl24 hl24 => ?_)
                       all_goals refine tc_region ?_
                       all_goals refine tl_e (e_callV rfl .nil (fun w' _ => awake9_c w')) rfl (fun _ _ => ?_)
                       all_goals refine tl_q (y_assign rfl) rfl ?_
                       all_goals refine tl_nil ?_
                       all_goals (refine hK32 ?_; try (clear hK32; clear K32))
                       all_goals refine tc_ret ?_
                       all_goals (repeat (first | refine tk_then_ret ?_ | refine tk_block_ret ?_ | refine tk_scope_ret ?_))
                       all_goals first | refine tk_ret rfl rfl (.cons (.tmp rfl) .nil) ?_ | refine tk_retM rfl (by repeat constructor) rfl (.cons (.tmp rfl) .nil) ?_
                       all_goals (
                        exact fun w' hw' => ⟨rfl, hw'.fr (w0 := w) (S := []) (MI.m (by repeat constructor))⟩))))))))
end Go.Sp
