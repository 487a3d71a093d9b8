/-
  Package trial: whether a test is right; the densities in which all tests are.
-/
import Derived.Test.YtaoohjefbfmhnaaXh
set_option linter.unusedVariables false
set_option linter.unusedSimpArgs false
set_option linter.deprecated false
namespace Go.Sp
open Go Go.Proofs
theorem RdI.opensT {w : World} {xs : List Int} {x : Option Addr × Nat} (h : RdI w (slV xs.length x) xs) : ∃ b o, (0 < xs.length → x.1 = some ⟨b, o, none⟩) ∧ ∀ w', Fr [] w w' → ∀ i, i < xs.length → w'.cell? ⟨b, o + i, none⟩ = some (vi (xs.getD i 0)) := by
  obtain ⟨ad, cap, b, o, e, had, hcell⟩ := h.open
  injection e with e1 e2 e3
  subst e1
  exact ⟨b, o, had, hcell⟩
def rightF (t : Tr) (e : Int × Int × Int) (x : Int × Int × Int) (d : Int) : Bool := if x.2.2 = -1 then decide ((shownL t e x.2.1 d).getD 0 0 = -1) else canF t e x.2.1 d x.2.2
theorem right_c (t : Tr) (hv : VT t) (e : Int × Int × Int) (he : ErB e) (x : Int × Int × Int) (hx : tsB t x = true) (d : Int) (sl pl ll tl : Value) (w : World) (bw bm : Nat) (es : Array MapEntry) (ck : Nat) (hT : TW w t sl pl ll tl bw bm es ck) :
    CnX Try.prog 42 #[ptr bw, tsV e, tsV x, vi d] w [bm] (fun _ : Array MapEntry × Nat => .bool (rightF t e x d)) (fun y w' => Cache (readV t.s) y.1.toList ∧ w'.heap[bm]? = some (.map y.1 y.2)) := by
  have hne := hT.ne
  have hd2 := hv.s.d2
  have hx' := of_decide_eq_true hx
  have hpos := shownL_pos t e x.2.1 d
  refine cnxS (vs := [_, _, _, _]) (S := [bw, bm]) [(bw, wkT t sl pl ll tl bm), (bm, .map es ck)] Try.func42 rfl rfl ⟨by simp [hT.hw, hT.hm], by simp [hne], by simp⟩ ?_
  all_goals refine tc_seq fun K1 hK1 => ?_
  all_goals refine tc_region ?_
  all_goals refine tl_e (e_box rfl rfl rfl) rfl (fun b5 _ => ?_)
  all_goals refine tl_e (e_box rfl rfl rfl) rfl (fun b6 _ => ?_)
  all_goals refine tl_q (y_assign rfl) rfl ?_
  all_goals refine tl_nil ?_
  all_goals (refine hK1 ?_; try (clear hK1; clear K1))
  all_goals refine tc_seq fun K2 hK2 => ?_
  all_goals refine tc_region ?_
  all_goals refine tl_q (y_field rfl) rfl ?_
  all_goals (first | refine tl_q (y_load1 rfl (by repeat constructor) (by rfl)) rfl ?_ | refine tl_q (y_load1o (v := vi ((shownL t e x.2.1 d).getD 0 0)) rfl (fun w' hw' => hcell w' (hw'.calm hy.2 (by simp) (List.Sublist.refl _)) 0 hpos)) rfl ?_)
  all_goals refine tl_q (y_move rfl) rfl ?_
  all_goals refine tl_q (y_build_2 rfl rfl rfl rfl) rfl ?_
  all_goals refine tl_e (e_allocN rfl) rfl (fun b9 _ => ?_)
  all_goals refine tl_e (e_storeW rfl rfl (by repeat constructor) (by rfl) (by rfl) (by simp [Value.oneCell'])) rfl (fun _ _ => ?_)
  all_goals refine tl_nil ?_
  all_goals (refine hK2 ?_; try (clear hK2; clear K2))
  all_goals refine tc_seq fun K3 hK3 => ?_
  all_goals refine tc_seq fun K4 hK4 => ?_
  all_goals refine tc_region ?_
  all_goals refine tl_q (y_field rfl) rfl ?_
  all_goals (first | refine tl_q (y_load1 rfl (by repeat constructor) (by rfl)) rfl ?_ | refine tl_q (y_load1o (v := vi ((shownL t e x.2.1 d).getD 0 0)) rfl (fun w' hw' => hcell w' (hw'.calm hy.2 (by simp) (List.Sublist.refl _)) 0 hpos)) rfl ?_)
  all_goals refine tl_q (y_eql rfl rfl) rfl ?_
  all_goals refine tl_nil ?_
  all_goals (refine hK4 ?_; try (clear hK4; clear K4))
  all_goals (
   refine tc_cond rfl (fun hc => ?_) (fun hc => ?_)
   · try simp only [decide_eq_true_eq, decide_eq_false_iff_not, Int.not_lt, Int.not_le, Bool.not_eq_true', Bool.not_eq_false', Decidable.not_not, not_true_eq_false] at hc
     all_goals first | (exfalso; with_reducible exact bft hc) | (exfalso; with_reducible exact btf hc) | (exfalso; omega) | skip
     all_goals refine tc_seq fun K5 hK5 => ?_
     all_goals refine tc_region ?_
     all_goals refine tl_q (y_move rfl) rfl ?_
     all_goals (first | refine tl_q (y_loadW rfl (by repeat constructor) (by rfl)) rfl ?_ | refine tl_q (y_loadN rfl (by repeat constructor) (by (repeat (first | exact .nil | apply CA.cons rfl)); done)) rfl ?_ | refine tl_q (y_load1o (v := vi ((shownL t e x.2.1 d).getD 0 0)) rfl (fun w' hw' => hcell w' (hw'.calm hy.2 (by simp) (List.Sublist.refl _)) 0 hpos)) rfl ?_)
     all_goals (first | refine tl_q (y_loadW rfl (by repeat constructor) (by rfl)) rfl ?_ | refine tl_q (y_loadN rfl (by repeat constructor) (by (repeat (first | exact .nil | apply CA.cons rfl)); done)) rfl ?_ | refine tl_q (y_load1o (v := vi ((shownL t e x.2.1 d).getD 0 0)) rfl (fun w' hw' => hcell w' (hw'.calm hy.2 (by simp) (List.Sublist.refl _)) 0 hpos)) rfl ?_)
     all_goals refine tl_e (e_callUX rfl (.cons rfl (.cons rfl (.cons rfl .nil))) (fun w' hw' => shown_c t hv e he x.2.1 d sl pl ll tl w' bw bm es ck (hT.fr2 (hw'.fr (by simp)) (hw'.heap _ (HM.mem (by repeat constructor))) (hw'.heap _ (HM.mem (b := bm) (by repeat constructor))) hT.hc)) (fun _ => (by repeat constructor))) rfl (fun y hy => ?_)
     all_goals (obtain ⟨yb, yo, had, hcell⟩ := hy.1.1.opensT; have had' := had hpos)
     all_goals (first | refine tl_q (y_index rfl rfl (by omega) had') rfl ?_ | refine tl_q (y_index rfl rfl (by omega) rfl) rfl ?_ | refine tl_q (y_indexA rfl rfl (by omega)) rfl ?_)
     all_goals (first | refine tl_q (y_load1 rfl (by repeat constructor) (by rfl)) rfl ?_ | refine tl_q (y_load1o (v := vi ((shownL t e x.2.1 d).getD 0 0)) rfl (fun w' hw' => hcell w' (hw'.calm hy.2 (by simp) (List.Sublist.refl _)) 0 hpos)) rfl ?_)
     all_goals refine tl_q (y_eql rfl rfl) rfl ?_
     all_goals refine tl_q (y_assign rfl) rfl ?_
     all_goals refine tl_nil ?_
     all_goals (refine hK5 ?_; try (clear hK5; clear K5))
     all_goals refine tc_ret ?_
     all_goals (repeat (first | refine tk_then_ret ?_ | refine tk_block_ret ?_ | refine tk_scope_ret ?_))
     all_goals first | refine tk_ret rfl rfl (.cons (.tmp rfl) .nil) ?_ | refine tk_retM rfl (by repeat constructor) rfl (.cons (.tmp rfl) .nil) ?_
     all_goals (
      refine fun w' hw' => ?_
      have hb2 : Fr [bm] w w' := Fr.but (hw'.fr (S := [bw, bm]) (by simp)) (by rw [hw'.heap (bw, wkT t sl pl ll tl bm) (HM.mem (by repeat constructor)), hT.hw])
      have hb1 := hw'.heap _ (HM.mem (b := bm) (by repeat constructor))
      first
      | exact ⟨(y.1.2.1, y.1.2.2), by unfold rightF; rw [if_pos (by omega)]; rfl, hb2, hy.1.2, hb1⟩
      | exact ⟨z, by unfold rightF; rw [if_neg (by omega)]; rfl, hb2, hz, hb1⟩)
   · try simp only [decide_eq_true_eq, decide_eq_false_iff_not, Int.not_lt, Int.not_le, Bool.not_eq_true', Bool.not_eq_false', Decidable.not_not, not_true_eq_false] at hc
     all_goals first | (exfalso; with_reducible exact bft hc) | (exfalso; with_reducible exact btf hc) | (exfalso; omega) | skip
     all_goals refine tc_skip ?_
     all_goals (refine hK3 ?_; try (clear hK3; clear K3))
     all_goals refine tc_seq fun K6 hK6 => ?_
     all_goals refine tc_region ?_
     all_goals refine tl_q (y_move rfl) rfl ?_
     all_goals (first | refine tl_q (y_loadW rfl (by repeat constructor) (by rfl)) rfl ?_ | refine tl_q (y_loadN rfl (by repeat constructor) (by (repeat (first | exact .nil | apply CA.cons rfl)); done)) rfl ?_ | refine tl_q (y_load1o (v := vi ((shownL t e x.2.1 d).getD 0 0)) rfl (fun w' hw' => hcell w' (hw'.calm hy.2 (by simp) (List.Sublist.refl _)) 0 hpos)) rfl ?_)
     all_goals (first | refine tl_q (y_loadW rfl (by repeat constructor) (by rfl)) rfl ?_ | refine tl_q (y_loadN rfl (by repeat constructor) (by (repeat (first | exact .nil | apply CA.cons rfl)); done)) rfl ?_ | refine tl_q (y_load1o (v := vi ((shownL t e x.2.1 d).getD 0 0)) rfl (fun w' hw' => hcell w' (hw'.calm hy.2 (by simp) (List.Sublist.refl _)) 0 hpos)) rfl ?_)
     all_goals refine tl_q (y_field rfl) rfl ?_
     all_goals (first | refine tl_q (y_load1 rfl (by repeat constructor) (by rfl)) rfl ?_ | refine tl_q (y_load1o (v := vi ((shownL t e x.2.1 d).getD 0 0)) rfl (fun w' hw' => hcell w' (hw'.calm hy.2 (by simp) (List.Sublist.refl _)) 0 hpos)) rfl ?_)
     all_goals refine tl_e (e_callU rfl (.cons rfl (.cons rfl (.cons rfl (.cons rfl .nil)))) (fun w' hw' => can_c t hv e he x.2.1 d x.2.2 (by omega) (by omega) sl pl ll tl w' bw bm es ck (hT.fr2 (hw'.fr (by simp)) (hw'.heap _ (HM.mem (by repeat constructor))) (hw'.heap _ (HM.mem (b := bm) (by repeat constructor))) hT.hc)) (fun _ => (by repeat constructor))) rfl (fun z hz => ?_)
     all_goals refine tl_q (y_assign rfl) rfl ?_
     all_goals refine tl_nil ?_
     all_goals (refine hK6 ?_; try (clear hK6; clear K6))
     all_goals refine tc_ret ?_
     all_goals (repeat (first | refine tk_then_ret ?_ | refine tk_block_ret ?_ | refine tk_scope_ret ?_))
     all_goals first | refine tk_ret rfl rfl (.cons (.tmp rfl) .nil) ?_ | refine tk_retM rfl (by repeat constructor) rfl (.cons (.tmp rfl) .nil) ?_
     all_goals (
      refine fun w' hw' => ?_
      have hb2 : Fr [bm] w w' := Fr.but (hw'.fr (S := [bw, bm]) (by simp)) (by rw [hw'.heap (bw, wkT t sl pl ll tl bm) (HM.mem (by repeat constructor)), hT.hw])
      have hb1 := hw'.heap _ (HM.mem (b := bm) (by repeat constructor))
      first
      | exact ⟨(y.1.2.1, y.1.2.2), by unfold rightF; rw [if_pos (by omega)]; rfl, hb2, hy.1.2, hb1⟩
      | exact ⟨z, by unfold rightF; rw [if_neg (by omega)]; rfl, hb2, hz, hb1⟩))
end Go.Sp
