/-
  The example of TopFloated.
-/
import Derived.Test.YtaoohjefbfmhnaaXp
import Derived.Test.YtaoohjefbfmhnaaBg
import Derived.Test.YtaoohjefbfmhnaaYa
set_option linter.unusedVariables false
set_option linter.unusedSimpArgs false
set_option linter.deprecated false
namespace Go.Sp
open Go Go.Proofs
abbrev plainS : Sn := ⟨900, 800, 20, 10, 10, []⟩
abbrev plainT : Tr := ⟨plainS, [0], 0, [(980, 1000)], [(0, 0, 5)]⟩
set_option maxRecDepth 100000
theorem fl1 : narrowE plainS [(0, 5)] = ((990, 1011), 0) := by kernel_rfl
theorem fl2 : askedE plainT = 0 := by kernel_rfl
theorem fl3 : densR plainT 1 = [(990, 1000)] := by kernel_rfl
theorem plainT_nt : NT plainT := ⟨by decide, by decide, by decide, by decide⟩
theorem RdR.one1 {w : World} {r : Int × Int} {x : Option Addr × Nat} (h : RdR w (slV 1 x) [r]) : ∃ b o, x.1 = some ⟨b, o, none⟩ ∧ ∀ w', Fr [] w w' → CA (fun k => w'.cell? ⟨b, k, none⟩) (o + 0 * 2) 2 [vi r.1, vi r.2] := by
  obtain ⟨ad, cap, b, o, e, had, hc⟩ := h.open
  injection e with e1 e2 e3
  subst e1
  exact ⟨b, o, had (by simp), fun w' f => by simpa using hc w' [] f (by simp) 0 (by simp)⟩
theorem plain_den (sl pl ll tl : Value) (w : World) (hr : RdTr w plainT sl pl ll tl) : CnX Try.prog 11 #[trV plainT sl pl ll tl] w [] (fun y : Option Addr × Nat => .tuple #[slV 1 y, vi 0]) (fun y w' => RdR w' (slV 1 y) [(990, 1000)]) := by
  have h := densities_ok plainT plainT_nt fl2 sl pl ll tl w hr
  rw [show densR plainT plainT.liquids.length = [(990, 1000)] from fl3] at h
  exact h
theorem floated_c (w : World) : CnV Try.prog 6 #[] w (.bool true) := by
  refine cnv (vs := []) Try.func6 rfl rfl ?_
  all_goals refine tc_seq fun K1 hK1 => ?_
  all_goals refine tc_region ?_
  all_goals refine tl_q (y_assign rfl) rfl ?_
  all_goals refine tl_nil ?_
  all_goals (refine hK1 ?_; try (clear hK1; clear K1))
  all_goals refine tc_seq fun K2 hK2 => ?_
  all_goals refine tc_lay ([]) (SB.s (by repeat constructor)) (fun wl1 hl1 => ?_)
  all_goals refine tc_region ?_
  all_goals refine tl_q (y_build_g (by repeat constructor)) rfl ?_
  all_goals refine tl_e (e_allocN rfl) rfl (fun b1 _ => ?_)
  all_goals (refine tl_e (e_storeW rfl rfl (by repeat constructor) (by rfl) (by rfl) (by simp [Value.oneCell'])) rfl (fun _ _ => ?_))
  all_goals refine tl_nil ?_
  all_goals (refine hK2 ?_; try (clear hK2; clear K2))
  all_goals refine tc_seq fun K3 hK3 => ?_
  all_goals refine tc_lay ([]) (SB.s (by repeat constructor)) (fun wl2 hl2 => ?_)
  all_goals refine tc_region ?_
  all_goals (refine tl_q (y_loadWf rfl (hl2.at (by repeat constructor)) (MI.m (by repeat constructor)) (by simp) (by rfl)) rfl ?_)
  all_goals (refine tl_q (y_build_g (by repeat constructor)) rfl ?_)
  all_goals (refine tl_e (e_bslice rfl (by (repeat (first | exact .nil | apply PV.two rfl)); done) rfl rfl) rfl (fun b10 _ => ?_))
  all_goals refine tl_e (e_callV rfl (.cons rfl (.cons rfl .nil)) (fun w' hw' => narrow_v plainS (by unfold NB; decide) [(0, 5)] (by decide) fl1 _ _ w' (RdI.nil w') (RdR.own0 (xs := [(0, 5)]) hw' (by repeat constructor)))) rfl (fun _ _ => ?_)
  all_goals refine tl_q (y_move rfl) rfl ?_
  all_goals refine tl_q (y_extract rfl rfl) rfl ?_
  all_goals refine tl_q (y_extract rfl rfl) rfl ?_
  all_goals refine tl_e (e_allocN rfl) rfl (fun b2 _ => ?_)
  all_goals (refine tl_e (e_storeW rfl rfl (by repeat constructor) (by rfl) (by rfl) (by simp [Value.oneCell'])) rfl (fun _ _ => ?_))
  all_goals refine tl_q (y_assign rfl) rfl ?_
  all_goals refine tl_nil ?_
  all_goals (refine hK3 ?_; try (clear hK3; clear K3))
  all_goals refine tc_seq fun K4 hK4 => ?_
  all_goals refine tc_lay ([]) (SB.s (by repeat constructor)) (fun wl3 hl3 => ?_)
  all_goals refine tc_region ?_
  all_goals (refine tl_q (y_loadWf rfl (hl2.at (by repeat constructor)) (MI.m (by repeat constructor)) (by simp) (by rfl)) rfl ?_)
  all_goals (refine tl_e (e_bslice rfl (by (repeat (first | exact .nil | apply PV.one rfl rfl)); done) rfl rfl) rfl (fun b16 _ => ?_))
  all_goals (refine tl_q (y_build_g (by repeat constructor)) rfl ?_)
  all_goals (refine tl_e (e_bslice rfl (by (repeat (first | exact .nil | apply PV.two rfl)); done) rfl rfl) rfl (fun b18 _ => ?_))
  all_goals (refine tl_q (y_build_g (by repeat constructor)) rfl ?_)
  all_goals (refine tl_e (e_bslice31 rfl rfl) rfl (fun b20 _ => ?_))
  all_goals refine tl_q (y_build_g (by repeat constructor)) rfl ?_
  all_goals refine tl_e (e_callX rfl (.cons rfl .nil) (fun w' hw' => plain_den _ _ _ _ w' ⟨RdI.nil w', RdI.own0 (xs := [0]) hw' (by repeat constructor), RdR.own0 (xs := [(980, 1000)]) hw' (by repeat constructor), RdT.own0 (xs := [(0, 0, 5)]) hw' (by repeat constructor)⟩)) rfl (fun y hy => ?_)
  all_goals refine tl_q (y_move rfl) rfl ?_
  all_goals refine tl_q (y_extract rfl rfl) rfl ?_
  all_goals refine tl_q (y_extract rfl rfl) rfl ?_
  all_goals refine tl_q (y_assign rfl) rfl ?_
  all_goals refine tl_q (y_assign rfl) rfl ?_
  all_goals refine tl_nil ?_
  all_goals (refine hK4 ?_; try (clear hK4; clear K4))
  all_goals refine tc_seq fun K5 hK5 => ?_
  all_goals refine tc_lay ([]) (SB.s (by repeat constructor)) (fun wl4 hl4 => ?_)
  all_goals obtain ⟨ba, oa, hya, hyc⟩ := hy.1.one1
  all_goals refine tc_region ?_
  all_goals refine tl_q (y_move rfl) rfl ?_
  all_goals refine tl_q (y_eql rfl rfl) rfl ?_
  all_goals refine tl_q (y_move rfl) rfl ?_
  all_goals (refine tl_qg rfl rfl (y_loadWf rfl (hl3.at (by repeat constructor)) (MI.m (by repeat constructor)) (by simp) (by rfl)) rfl ?_)
  all_goals (refine tl_qg rfl rfl (y_build_g (by repeat constructor)) rfl ?_)
  all_goals (refine tl_qg rfl rfl (y_eql2 rfl rfl) rfl ?_)
  all_goals (refine tl_q (y_pick_t rfl rfl) rfl ?_)
  all_goals refine tl_q (y_move rfl) rfl ?_
  all_goals (refine tl_qg rfl rfl (y_move rfl) rfl ?_)
  all_goals (refine tl_qg rfl rfl (y_eql rfl rfl) rfl ?_)
  all_goals (refine tl_q (y_pick_t rfl rfl) rfl ?_)
  all_goals refine tl_q (y_move rfl) rfl ?_
  all_goals (refine tl_qg rfl rfl (y_move rfl) rfl ?_)
  all_goals (refine tl_qg rfl rfl (y_len rfl) rfl ?_)
  all_goals (refine tl_qg rfl rfl (y_eql rfl rfl) rfl ?_)
  all_goals (refine tl_q (y_pick_t rfl rfl) rfl ?_)
  all_goals refine tl_q (y_move rfl) rfl ?_
  all_goals (refine tl_qg rfl rfl (y_move rfl) rfl ?_)
  all_goals (refine tl_qg rfl rfl (y_index rfl rfl (by omega) hya) rfl ?_)
  all_goals (refine tl_qg rfl rfl (y_loadNo rfl (fun w' hw' => hyc w' ((hl4.calm hy.2 (MI.m (by repeat constructor)) (SB.s (by repeat constructor))).trans (hw'.fr (w0 := wl4) (S := []) (MI.m (by repeat constructor))) (by simp)))) rfl ?_)
  all_goals (refine tl_qg rfl rfl (y_build_g (by repeat constructor)) rfl ?_)
  all_goals (refine tl_qg rfl rfl (y_eql2 rfl rfl) rfl ?_)
  all_goals (refine tl_q (y_pick_t rfl rfl) rfl ?_)
  all_goals refine tl_q (y_assign rfl) rfl ?_
  all_goals refine tl_nil ?_
  all_goals (refine hK5 ?_; try (clear hK5; clear K5))
  all_goals refine tc_ret ?_
  all_goals (repeat (first | refine tk_then_ret ?_))
  all_goals first | refine tk_ret rfl rfl (.cons (.tmp rfl) .nil) ?_ | refine tk_retM rfl (by repeat constructor) rfl (.cons (.tmp rfl) .nil) ?_
  all_goals (
   exact fun w' hw' => ⟨rfl, hw'.fr (w0 := w) (S := []) (MI.m (by repeat constructor))⟩)
end Go.Sp
