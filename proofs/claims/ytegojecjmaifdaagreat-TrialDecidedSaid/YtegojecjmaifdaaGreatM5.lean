
/-
  TrialDecided: the law's function returns true.
-/
import Derived.Test.YtegojecjmaifdaaGreatM4
import Derived.Test.YtegojecjmaifdaaGreatRows
import Derived.ProofKit
import Derived.OpenShut
import Derived.Carry
import Derived.Deep.Fields
set_option linter.unusedVariables false
set_option linter.unusedSimpArgs false
set_option linter.deprecated false
namespace Go.Sp
open Go Go.Proofs
theorem pick_sep {bs : List (World × List Nat)} {H : List (Nat × Obj)} {wj x2 : World} {S0 : List Nat} {n : Nat} {x : Option Addr × Nat} {xs : List Int} (hw : HG bs H wj) {b b' : Nat} {ob ob' : Obj} (hm : HM b ob H) (hm' : HM b' ob' H) (hb : (x2, S0) ∈ bs) (hs : sepS (slV n x) S0) (hr : RdI x2 (slV n x) xs) (h0 : 0 < xs.length) : ∀ w', Fr [b, b'] wj w' → RdI w' (slV n x) xs := fun w' f => by
  have hr2 : RdI wj (slV n x) xs := Reads.frS hr (hw.fr hb) hs
  refine Reads.frS hr2 f (fun p m c e hq => ?_)
  have hlt : p.block < x2.heap.size := by
    obtain ⟨_, ad, cap, e0, hc⟩ := hr
    obtain ⟨q, o, e2, hca⟩ := hc (by omega)
    rw [e0] at e
    injection e with e1
    rw [e2] at e1
    cases e1
    have := hca.get 0 (vi (xs.getD 0 0)) (by rw [List.getElem?_map, List.getElem?_eq_getElem h0, List.getD_eq_getElem?_getD, List.getElem?_eq_getElem h0]; rfl)
    rcases Nat.lt_or_ge q x2.heap.size with g | g
    · exact g
    · unfold World.cell? at this
      rw [show x2.heap[(⟨q, o + 0, none⟩ : Addr).block]? = none from Array.getElem?_eq_none g] at this
      cases this
  have key : ∀ (β : Nat) (oβ : Obj), HM β oβ H → p.block ≠ β := fun β oβ hβ e1 => by
    rcases hw.own (β, oβ) hβ.mem (x2, S0) hb with g | g
    all_goals dsimp only at g
    · exact hs p m c e (e1 ▸ g)
    · omega
  simp only [List.mem_cons, List.not_mem_nil, or_false] at hq
  rcases hq with hq | hq
  · exact key b ob hm hq
  · exact key b' ob' hm' hq
theorem HG.swb {bs : List (World × List Nat)} {H : List (Nat × Obj)} {w : World} {p q : Nat × Obj} (h : HG bs (p :: q :: H) w) : HG bs (q :: p :: H) w := h.perm (List.Perm.swap _ _ _)
theorem addShown_c (t : Tr) (hv : VT t) (l : List (Int × Int)) (ws r : List Int) (n : Nat) (h1 : 0 ≤ (l.getD (r.getD n 0).toNat (0, 0)).1 ∧ (l.getD (r.getD n 0).toNat (0, 0)).1 ≤ t.s.weights.length) (h2 : 1 ≤ (l.getD (r.getD n 0).toNat (0, 0)).2 ∧ (l.getD (r.getD n 0).toNat (0, 0)).2 ≤ 2000) (sl pl ll tl lv : Value) (w : World) (hr : RdTr w t sl pl ll tl) (hL : RdI w lv (pE t ws)) :
    CnX Tryz.prog 25 #[trV t sl pl ll tl, lv, vi (l.getD (r.getD n 0).toNat (0, 0)).1, vi (l.getD (r.getD n 0).toNat (0, 0)).2] w [] (slV (addS t l ws r n).length) (fun y w' => RdI w' (slV (addS t l ws r n).length y) (addS t l ws r n) ∧ NewS w (slV (addS t l ws r n).length y)) :=
  refShownN_c t hv (pE t ws) (pE_ok hv ws) (l.getD (r.getD n 0).toNat (0, 0)).1 (l.getD (r.getD n 0).toNat (0, 0)).2 h1 h2 sl pl ll tl lv w hr hL
set_option maxHeartbeats 8000000 in
theorem decided_law (t : Tr) (l : List (Int × Int)) (hlm : l.length ≤ 9223372036854775807) (ws : List Int) (hws : ∀ x ∈ ws, 0 ≤ x ∧ x ≤ 255) (hwl : (ws.length : Int) ≤ 9223372036854775807) (n3 n4 : Int) (w3 : 0 ≤ n3 ∧ n3 ≤ 255) (w4 : 0 ≤ n4 ∧ n4 ≤ 255) (sl pl ll tl lv wv : Value) (w : World) (hr : RdTr w t sl pl ll tl) (hL : RdR w lv l) (hW : RdW w wv ws) :
    CnV Tryz.prog 9 #[trV t sl pl ll tl, lv, wv, v8 n3, v8 n4] w (.bool true) := by
  have hr0 := hr
  have hL0 := hL
  obtain ⟨aw, cw, _, _, rfl, _, _⟩ := hr.ws.open
  obtain ⟨ap, cp, _, _, rfl, _, _⟩ := hr.ps.open
  obtain ⟨al, cl, _, _, rfl, _, _⟩ := hr.ls.open
  obtain ⟨at', ct, _, _, rfl, _, _⟩ := hr.ts.open
  obtain ⟨ad, cd, bd, od, rfl, had, hcell⟩ := hL.open
  obtain ⟨adw, cpw, bw0, ow, rfl, _, _⟩ := rdk9_open hW
  have hWr : ∀ w', Fr [] w w' → RdW w' (.slice adw ws.length cpw) ws := fun w' f => Reads.frS hW f (by simp)
  have hpp : 0 < 2 ^ (l.length : Int).toNat := Nat.two_pow_pos _
  obtain ⟨T, hT⟩ : ∃ T : Nat, n4 % ((2 ^ (l.length : Int).toNat : Nat) : Int) = (T : Int) := ⟨(n4 % ((2 ^ (l.length : Int).toNat : Nat) : Int)).toNat, (Int.toNat_of_nonneg (Int.emod_nonneg _ (by omega))).symm⟩
  have hTl : T < 2 ^ l.length := by
    have := Int.emod_lt_of_pos n4 (show 0 < ((2 ^ (l.length : Int).toNat : Nat) : Int) by omega)
    rw [hT, Int.toNat_natCast] at this
    omega
  have hTi := bitsL_inc hTl
  obtain ⟨X, hX⟩ : ∃ X, X = bitsL (T : Int) := ⟨_, rfl⟩
  rw [← hX] at hTi
  have hXb : X.length ≤ 16 := by rw [hX]; exact bitsL_len _
  rcases hJ : judgeE t (n3 % 4) with ⟨j, f⟩
  refine cnv (vs := [_, _, _, _, _]) Tryz.func9 rfl rfl ?_
  all_goals refine tc_seq fun K1 hK1 => ?_; refine tc_region ?_; refine tl_e (e_box rfl rfl rfl) rfl (fun b5 _ => ?_); refine tl_q (y_assign rfl) rfl ?_; refine tl_nil ?_; ((refine hK1 ?_; try (clear hK1; clear K1)))
  all_goals refine tc_seq fun K2 hK2 => ?_; refine tc_seq fun K3 hK3 => ?_; refine tc_lay ([]) (SB.s .nil) (fun wl1 hl1 => ?_); refine tc_region ?_; refine tl_q (y_loadWf rfl (hl1.at (by repeat constructor)) (MI.m (by repeat constructor)) (by simp) (by rfl)) rfl ?_; refine tl_e (e_callV rfl (.cons rfl .nil) (fun w' hw' => ready9_c t _ _ _ _ w' (hr0.fr (hw'.fr (w0 := w) (S := []) (MI.m (by repeat constructor)))))) rfl (fun _ _ => ?_); refine tl_q (y_not_dec rfl) rfl ?_; refine tl_q (y_move rfl) rfl ?_; ((refine tl_gs rfl rfl (fun hc => ?_) (fun hc => ?_) <;> (try simp only [bne_iff_ne, ne_eq, bne_eq_false_iff_eq, decide_eq_decide, true_iff, false_iff, decide_eq_true_eq, decide_eq_false_iff_not, Int.not_lt, Int.not_le, Bool.not_eq_true', Bool.not_eq_false', Decidable.not_not, not_true_eq_false, Int.toNat_natCast] at hc) <;> (first | refine tl_sk rfl rfl rfl rfl ?_ | refine tl_qg rfl rfl (y_move rfl) rfl ?_)))
  all_goals (first | refine tl_sk rfl rfl rfl rfl ?_ | refine tl_qg rfl rfl (y_len rfl) rfl ?_); (first | refine tl_sk rfl rfl rfl rfl ?_ | refine tl_qg rfl rfl (y_gtr rfl rfl) rfl ?_); (first | refine tl_q (y_pick_t rfl rfl) rfl ?_ | refine tl_q (y_pick_f rfl rfl) rfl ?_); refine tl_q (y_move rfl) rfl ?_; ((first | refine tl_sk rfl rfl rfl rfl ?_ | (refine tl_gs rfl rfl (fun hc => ?_) (fun hc => ?_) <;> (try simp only [bne_iff_ne, ne_eq, bne_eq_false_iff_eq, decide_eq_decide, true_iff, false_iff, decide_eq_true_eq, decide_eq_false_iff_not, Int.not_lt, Int.not_le, Bool.not_eq_true', Bool.not_eq_false', Decidable.not_not, not_true_eq_false, Int.toNat_natCast] at hc) <;> (first | refine tl_sk rfl rfl rfl rfl ?_ | refine tl_qg rfl rfl (y_field rfl) rfl ?_))))
  all_goals (first | refine tl_sk rfl rfl rfl rfl ?_ | refine tl_qg rfl rfl (y_load1f rfl (hl1.at (by repeat constructor)) (MI.m (by repeat constructor)) (by simp) (by rfl)) rfl ?_); (first | refine tl_sk rfl rfl rfl rfl ?_ | refine tl_qg rfl rfl (y_len rfl) rfl ?_); (first | refine tl_sk rfl rfl rfl rfl ?_ | refine tl_qg rfl rfl (y_gtr rfl rfl) rfl ?_); (first | refine tl_q (y_pick_t rfl rfl) rfl ?_ | refine tl_q (y_pick_f rfl rfl) rfl ?_); refine tl_q (y_move rfl) rfl ?_; ((first | refine tl_sk rfl rfl rfl rfl ?_ | (refine tl_gs rfl rfl (fun hc => ?_) (fun hc => ?_) <;> (try simp only [bne_iff_ne, ne_eq, bne_eq_false_iff_eq, decide_eq_decide, true_iff, false_iff, decide_eq_true_eq, decide_eq_false_iff_not, Int.not_lt, Int.not_le, Bool.not_eq_true', Bool.not_eq_false', Decidable.not_not, not_true_eq_false, Int.toNat_natCast] at hc) <;> (first | refine tl_sk rfl rfl rfl rfl ?_ | refine tl_qg rfl rfl (y_field rfl) rfl ?_))))
  all_goals (first | refine tl_sk rfl rfl rfl rfl ?_ | refine tl_qg rfl rfl (y_load1f rfl (hl1.at (by repeat constructor)) (MI.m (by repeat constructor)) (by simp) (by rfl)) rfl ?_); (first | refine tl_sk rfl rfl rfl rfl ?_ | refine tl_qg rfl rfl (y_len rfl) rfl ?_); (first | refine tl_sk rfl rfl rfl rfl ?_ | refine tl_qg rfl rfl (y_gtr rfl rfl) rfl ?_); (first | refine tl_q (y_pick_t rfl rfl) rfl ?_ | refine tl_q (y_pick_f rfl rfl) rfl ?_); refine tl_nil ?_; ((refine hK3 ?_; try (clear hK3; clear K3)))
  all_goals (
   refine tc_cond rfl (fun hc => ?_) (fun hc => ?_)
   · try simp only [bne_iff_ne, ne_eq, bne_eq_false_iff_eq, decide_eq_decide, true_iff, false_iff, decide_eq_true_eq, decide_eq_false_iff_not, Int.not_lt, Int.not_le, Bool.not_eq_true', Bool.not_eq_false', Decidable.not_not, not_true_eq_false, Int.toNat_natCast] at hc
     all_goals refine tc_seq fun K4 hK4 => ?_; refine tc_lay ([]) (SB.s .nil) (fun wl2 hl2 => ?_); refine tc_region ?_; refine tl_e (e_callV rfl .nil (fun w' _ => awake9_c w')) rfl (fun _ _ => ?_); refine tl_q (y_assign rfl) rfl ?_; refine tl_nil ?_; ((refine hK4 ?_; try (clear hK4; clear K4)))
     all_goals refine tc_ret ?_; (repeat (refine tk_then_ret ?_))
     all_goals (refine tk_ret rfl rfl (.cons (.tmp rfl) .nil) ?_)
     all_goals (
      first | exact fun w' hw' => ⟨rfl, hw'.fr (w0 := w) (S := []) (MI.m (by repeat constructor))⟩ | (exfalso; omega))
   · try simp only [bne_iff_ne, ne_eq, bne_eq_false_iff_eq, decide_eq_decide, true_iff, false_iff, decide_eq_true_eq, decide_eq_false_iff_not, Int.not_lt, Int.not_le, Bool.not_eq_true', Bool.not_eq_false', Decidable.not_not, not_true_eq_false, Int.toNat_natCast] at hc
     all_goals ((first | (exfalso; with_reducible exact btf hc) | skip))
     all_goals refine tc_skip ?_; ((refine hK2 ?_; try (clear hK2; clear K2)))
     all_goals refine tc_seq fun K5 hK5 => ?_; refine tc_lay ([]) (SB.s .nil) (fun wl3 hl3 => ?_); (obtain ⟨hth, hch⟩ : thin9P t ∧ chkT t = 0 := by assumption)
     all_goals ((have hv := chkT_0.1 hch; have hn := hth.nt; obtain ⟨ht1, ht2, ht3, ht4⟩ := hth))
     all_goals ((have hp1 := hv.p1; have hp3 := hv.p3; have ht6 := hv.t6; have hq3 := hv.l3; have hq1 := hv.l1))
     all_goals (have hl4 : l.length ≤ 4 := by omega)
     all_goals (have hje := judge_e hv (by omega) hJ)
     all_goals ((have hjj : f = 0 → j = judgeJ t (n3 % 4) := fun h => by rw [judgeE_v hv (by omega), ← hje, if_pos h] at hJ; cases hJ; rfl))
     all_goals (have hjv := judgeJ_v t (n3 % 4))
     all_goals rcases few_v hv (tol := n3 % 4) (by omega) hl4 with ⟨hO, hF⟩ | ⟨hO, hA, hF⟩ | ⟨hO, hA, hS, hF⟩ | ⟨hO, hA, r, hS, hF⟩
     all_goals refine tc_region ?_; refine tl_q (y_move rfl) rfl ?_; refine tl_q (y_conv64 rfl (by omega)) rfl ?_; refine tl_q (y_rem rfl rfl (by omega) (by omega)) rfl ?_; refine tl_q (y_assign rfl) rfl ?_; refine tl_nil ?_; ((refine hK5 ?_; try (clear hK5; clear K5)))
     all_goals refine tc_seq fun K6 hK6 => ?_; refine tc_lay ([]) (SB.s .nil) (fun wl4 hl4 => ?_); refine tc_region ?_; refine tl_q (y_loadWf rfl (hl1.at (by repeat constructor)) (MI.m (by repeat constructor)) (by simp) (by rfl)) rfl ?_; refine tl_e (e_callX rfl (.cons rfl .nil) (fun w' hw' => trial9_c t (by omega) (by omega) (by omega) (by omega) _ _ _ _ w' (hr0.fr (hw'.fr (w0 := w) (S := []) (MI.m (by repeat constructor)))))) rfl (fun x4 hx4 => ?_); refine tl_q (y_move rfl) rfl ?_; refine tl_q (y_move rfl) rfl ?_; refine tl_e (e_callX rfl (.cons rfl .nil) (fun w' hw' => offers_c l (by omega) _ w' (hL0.fr (hw'.fr (w0 := w) (S := []) (MI.m (by repeat constructor)))))) rfl (fun o4 ho4 => ?_); ((refine tl_e (e_callX rfl (.cons rfl (.cons rfl (.cons rfl .nil))) (fun w' hw' => by have h := slicedY (g := fun y => .tuple #[y, vi (fewestE t (n3 % 4) l).2]) (fewest_c t hn (n3 % 4) (by omega) l (by omega) _ _ _ _ _ w' (hx4.1.fr (hw'.fr (w0 := x4.2) (S := []) (MI.m (by repeat constructor)))) (ho4.1.fr (hw'.fr (w0 := o4.2) (S := []) (MI.m (by repeat constructor))))); rw [hF] at h; exact h)) rfl (fun y4 hy4 => ?_)))
     all_goals refine tl_q (y_move rfl) rfl ?_; refine tl_q (y_extract rfl rfl) rfl ?_; refine tl_q (y_extract rfl rfl) rfl ?_; refine tl_q (y_assign rfl) rfl ?_; refine tl_q (y_assign rfl) rfl ?_; refine tl_nil ?_; ((refine hK6 ?_; try (clear hK6; clear K6)))
     all_goals refine tc_seq fun K7 hK7 => ?_; refine tc_lay ([]) (SB.s .nil) (fun wl5 hl5 => ?_); refine tc_region ?_; refine tl_q (y_loadWf rfl (hl1.at (by repeat constructor)) (MI.m (by repeat constructor)) (by simp) (by rfl)) rfl ?_; refine tl_e (e_callX rfl (.cons rfl .nil) (fun w' hw' => trial9_c t (by omega) (by omega) (by omega) (by omega) _ _ _ _ w' (hr0.fr (hw'.fr (w0 := w) (S := []) (MI.m (by repeat constructor)))))) rfl (fun x5 hx5 => ?_); refine tl_q (y_move rfl) rfl ?_; (refine tl_e (e_callV rfl (.cons rfl (.cons rfl .nil)) (fun w' hw' => by have h := judge_c t hn (n3 % 4) (by omega) _ _ _ _ w' (hx5.1.fr (hw'.fr (w0 := x5.2) (S := []) (MI.m (by repeat constructor)))); rw [hJ] at h; exact h)) rfl (fun _ _ => ?_))
     all_goals refine tl_q (y_move rfl) rfl ?_; refine tl_q (y_extract rfl rfl) rfl ?_; refine tl_q (y_extract rfl rfl) rfl ?_; refine tl_q (y_assign rfl) rfl ?_; refine tl_q (y_assign rfl) rfl ?_; refine tl_nil ?_; ((refine hK7 ?_; try (clear hK7; clear K7)))
     all_goals refine tc_seq fun K8 hK8 => ?_; refine tc_seq fun K9 hK9 => ?_; refine tc_lay ([]) (SB.s .nil) (fun wl6 hl6 => ?_); (first | (have hfa := few_again hS) | skip)
     all_goals ((first | (have hle := few_least hS; have hz := few_zero hle; have hrl := hle.inc.len (by omega)) | skip))
     all_goals refine tc_region ?_; refine tl_q (y_move rfl) rfl ?_; refine tl_q (y_neq rfl rfl) rfl ?_; refine tl_nil ?_; ((refine hK9 ?_; try (clear hK9; clear K9)))
     all_goals (
      refine tc_cond rfl (fun hc => ?_) (fun hc => ?_)
      · try simp only [bne_iff_ne, ne_eq, bne_eq_false_iff_eq, decide_eq_decide, true_iff, false_iff, decide_eq_true_eq, decide_eq_false_iff_not, Int.not_lt, Int.not_le, Bool.not_eq_true', Bool.not_eq_false', Decidable.not_not, not_true_eq_false, Int.toNat_natCast] at hc
        all_goals ((first | (exfalso; omega) | skip))
        all_goals refine tc_seq fun K10 hK10 => ?_; refine tc_region ?_; refine tl_q (y_move rfl) rfl ?_; refine tl_q (y_neq rfl rfl) rfl ?_; refine tl_q (y_move rfl) rfl ?_; refine tl_eg rfl rfl rfl (e_callV rfl .nil (fun w' _ => awake9_c w')) (fun _ _ => ?_); refine tl_q (y_pick_t rfl rfl) rfl ?_; refine tl_q (y_assign rfl) rfl ?_; refine tl_nil ?_; ((refine hK10 ?_; try (clear hK10; clear K10)))
        all_goals refine tc_ret ?_; (repeat (refine tk_then_ret ?_))
        all_goals (refine tk_ret rfl rfl (.cons (.tmp rfl) .nil) ?_)
        all_goals (
         first | exact fun w' hw' => ⟨rfl, hw'.fr (w0 := w) (S := []) (MI.m (by repeat constructor))⟩ | (exfalso; omega))
      · try simp only [bne_iff_ne, ne_eq, bne_eq_false_iff_eq, decide_eq_decide, true_iff, false_iff, decide_eq_true_eq, decide_eq_false_iff_not, Int.not_lt, Int.not_le, Bool.not_eq_true', Bool.not_eq_false', Decidable.not_not, not_true_eq_false, Int.toNat_natCast] at hc
        all_goals ((first | (exfalso; omega) | skip))
        all_goals refine tc_skip ?_; ((refine hK8 ?_; try (clear hK8; clear K8)))
        all_goals refine tc_seq fun K11 hK11 => ?_; refine tc_seq fun K12 hK12 => ?_; refine tc_lay ([]) (SB.s .nil) (fun wl8 hl8 => ?_); refine tc_region ?_; refine tl_q (y_move rfl) rfl ?_; refine tl_q (y_neq rfl rfl) rfl ?_; refine tl_nil ?_; ((refine hK12 ?_; try (clear hK12; clear K12)))
        all_goals (
         refine tc_cond rfl (fun hc => ?_) (fun hc => ?_)
         · try simp only [bne_iff_ne, ne_eq, bne_eq_false_iff_eq, decide_eq_decide, true_iff, false_iff, decide_eq_true_eq, decide_eq_false_iff_not, Int.not_lt, Int.not_le, Bool.not_eq_true', Bool.not_eq_false', Decidable.not_not, not_true_eq_false, Int.toNat_natCast] at hc
           all_goals refine tc_seq fun K13 hK13 => ?_; refine tc_region ?_; refine tl_q (y_move rfl) rfl ?_; refine tl_q (y_eql rfl rfl) rfl ?_; refine tl_q (y_move rfl) rfl ?_; (first | refine tl_sk rfl rfl rfl rfl ?_ | refine tl_qg rfl rfl (y_move rfl) rfl ?_); (first | refine tl_sk rfl rfl rfl rfl ?_ | refine tl_qg rfl rfl (y_eql rfl rfl) rfl ?_); (first | refine tl_q (y_pick_t rfl rfl) rfl ?_ | refine tl_q (y_pick_f rfl rfl) rfl ?_); refine tl_q (y_move rfl) rfl ?_; ((first | refine tl_qg rfl rfl (y_move rfl) rfl ?_ | (refine tl_gs rfl rfl (fun hc => ?_) (fun hc => ?_) <;> (try simp only [bne_iff_ne, ne_eq, bne_eq_false_iff_eq, decide_eq_decide, true_iff, false_iff, decide_eq_true_eq, decide_eq_false_iff_not, Int.not_lt, Int.not_le, Bool.not_eq_true', Bool.not_eq_false', Decidable.not_not, not_true_eq_false, Int.toNat_natCast] at hc) <;> (first | (exfalso; omega) | refine tl_sk rfl rfl rfl rfl ?_))))
           all_goals (first | refine tl_sk rfl rfl rfl rfl ?_ | refine tl_qg rfl rfl (y_eql rfl rfl) rfl ?_); (first | refine tl_q (y_pick_t rfl rfl) rfl ?_ | refine tl_q (y_pick_f rfl rfl) rfl ?_); refine tl_q (y_move rfl) rfl ?_; refine tl_eg rfl rfl rfl (e_callV rfl .nil (fun w' _ => awake9_c w')) (fun _ _ => ?_); refine tl_q (y_pick_t rfl rfl) rfl ?_; refine tl_q (y_assign rfl) rfl ?_; refine tl_nil ?_; ((refine hK13 ?_; try (clear hK13; clear K13)))
           all_goals refine tc_ret ?_; (repeat (refine tk_then_ret ?_))
           all_goals (refine tk_ret rfl rfl (.cons (.tmp rfl) .nil) ?_)
           all_goals (
            first | exact fun w' hw' => ⟨rfl, hw'.fr (w0 := w) (S := []) (MI.m (by repeat constructor))⟩ | (exfalso; omega))
         · try simp only [bne_iff_ne, ne_eq, bne_eq_false_iff_eq, decide_eq_decide, true_iff, false_iff, decide_eq_true_eq, decide_eq_false_iff_not, Int.not_lt, Int.not_le, Bool.not_eq_true', Bool.not_eq_false', Decidable.not_not, not_true_eq_false, Int.toNat_natCast] at hc
           all_goals ((first | (exfalso; omega) | skip))
           all_goals refine tc_skip ?_; ((refine hK11 ?_; try (clear hK11; clear K11)))
           all_goals refine tc_seq fun K14 hK14 => ?_; refine tc_seq fun K15 hK15 => ?_; refine tc_lay ([]) (SB.s .nil) (fun wl10 hl10 => ?_); refine tc_region ?_; refine tl_q (y_move rfl) rfl ?_; refine tl_q (y_len rfl) rfl ?_; refine tl_q (y_eql rfl rfl) rfl ?_; refine tl_q (y_move rfl) rfl ?_; refine tl_q (y_neq rfl rfl) rfl ?_; refine tl_q (y_neqb rfl rfl) rfl ?_; refine tl_q (y_move rfl) rfl ?_; ((refine tl_gs rfl rfl (fun hc => ?_) (fun hc => ?_) <;> (try simp only [bne_iff_ne, ne_eq, bne_eq_false_iff_eq, decide_eq_decide, true_iff, false_iff, decide_eq_true_eq, decide_eq_false_iff_not, Int.not_lt, Int.not_le, Bool.not_eq_true', Bool.not_eq_false', Decidable.not_not, not_true_eq_false, Int.toNat_natCast] at hc) <;> (first | (exfalso; omega) | refine tl_qg rfl rfl (y_move rfl) rfl ?_)))
           all_goals (refine tl_qg rfl rfl (y_len rfl) rfl ?_); refine tl_qg rfl rfl (y_move rfl) rfl ?_; refine tl_qg rfl rfl (y_len rfl) rfl ?_; refine tl_qg rfl rfl (y_gtr rfl rfl) rfl ?_; refine tl_q (y_pick_f rfl rfl) rfl ?_; refine tl_nil ?_; ((refine hK15 ?_; try (clear hK15; clear K15)))
           all_goals (
            refine tc_cond rfl (fun hc => ?_) (fun hc => ?_)
            · try simp only [bne_iff_ne, ne_eq, bne_eq_false_iff_eq, decide_eq_decide, true_iff, false_iff, decide_eq_true_eq, decide_eq_false_iff_not, Int.not_lt, Int.not_le, Bool.not_eq_true', Bool.not_eq_false', Decidable.not_not, not_true_eq_false, Int.toNat_natCast] at hc
              all_goals ((exfalso; omega))
            · try simp only [bne_iff_ne, ne_eq, bne_eq_false_iff_eq, decide_eq_decide, true_iff, false_iff, decide_eq_true_eq, decide_eq_false_iff_not, Int.not_lt, Int.not_le, Bool.not_eq_true', Bool.not_eq_false', Decidable.not_not, not_true_eq_false, Int.toNat_natCast] at hc
              all_goals refine tc_skip ?_; ((refine hK14 ?_; try (clear hK14; clear K14)))
              all_goals refine tc_seq fun K17 hK17 => ?_; refine tc_lay ([]) (SB.s .nil) (fun wl12 hl12 => ?_); (have hrd : RdI y4.2 (slV r.length y4.1) r := hy4.1)
              all_goals refine tc_region ?_; refine tl_q (y_move rfl) rfl ?_; refine tl_q (y_conv64 rfl (by omega)) rfl ?_; refine tl_q (y_move rfl) rfl ?_; refine tl_q (y_len rfl) rfl ?_; ((refine tl_q (y_conv rfl (by simp only [IntKind.wrap, IntKind.bits, IntKind.signed, Bool.false_and, Bool.true_and, Bool.false_eq_true, if_false, decide_eq_true_eq]; omega)) rfl ?_))
              all_goals (refine tl_q (y_shl1 rfl rfl (by omega)) rfl ?_); refine tl_q (y_rem rfl rfl (by omega) (by omega)) rfl ?_; rw [hT]
              all_goals (refine tl_e (e_callX rfl (.cons rfl .nil) (fun w' hw' => slicedY (g := fun y => y) (by have h := bits_c (T : Int) (by omega) w'; rw [← hX] at h; exact h))) rfl (fun x12 hx12 => ?_))
              all_goals refine tl_q (y_assign rfl) rfl ?_; refine tl_nil ?_; ((refine hK17 ?_; try (clear hK17; clear K17)))
              all_goals refine tc_seq fun K18 hK18 => ?_; refine tc_region ?_; refine tl_q (y_assign rfl) rfl ?_; refine tl_nil ?_; ((refine hK18 ?_; try (clear hK18; clear K18)))
              all_goals refine tc_seq fun K19 hK19 => ?_; refine tc_seq fun K20 hK20 => ?_; refine tc_region ?_; refine tl_q (y_assign rfl) rfl ?_; refine tl_nil ?_; ((refine hK20 ?_; try (clear hK20; clear K20)))
              all_goals refine tc_block ?_
              all_goals (
               refine tc_loop (fun p : Nat × Option (Nat × Nat × List Value) => p.1 ≤ X.length ∧ outOkR (p.1, p.2)) (fun p => [(1, .slice ad l.length cd), (2, .slice adw ws.length cpw), (5, ptr b5), (11, vi (n3 % 4)), (12, slV r.length y4.1), (16, slV X.length x12.1), (17, outV' (p.1, p.2)), (18, vi p.1)]) (fun _ => [(x12.2, []), (y4.2, []), (wl1, []), (w, [])]) (fun p => slH 67 (flatR (subO l X p.1)) p.2) (fun p => X.length - p.1) ?_ ?_
               · exact tk_start (0, none) ⟨Nat.zero_le _, rfl⟩ (.cons rfl (.cons rfl (.cons rfl (.cons rfl (.cons rfl (.cons rfl (.cons rfl (.cons rfl .nil)))))))) (fun _ h => h.subl (SB.s (by repeat constructor)) (SB.s (by repeat constructor)))
               · rintro ⟨i, oo⟩ ⟨hi, hok⟩
                 dsimp only at hi hok ⊢
                 all_goals refine tc_seq fun K21 hK21 => ?_; refine tc_seq fun K22 hK22 => ?_; refine tc_region ?_; refine tl_q (y_move rfl) rfl ?_; refine tl_q (y_move rfl) rfl ?_; refine tl_q (y_len rfl) rfl ?_; refine tl_q (y_lss rfl rfl) rfl ?_; refine tl_nil ?_; ((refine hK22 ?_; try (clear hK22; clear K22)))
                 all_goals (
                  refine tc_cond rfl (fun hc => ?_) (fun hc => ?_)
                  · try simp only [bne_iff_ne, ne_eq, bne_eq_false_iff_eq, decide_eq_decide, true_iff, false_iff, decide_eq_true_eq, decide_eq_false_iff_not, Int.not_lt, Int.not_le, Bool.not_eq_true', Bool.not_eq_false', Decidable.not_not, not_true_eq_false, Int.toNat_natCast] at hc
                    all_goals refine tc_skip ?_; ((refine hK21 ?_; try (clear hK21; clear K21)))
                    all_goals refine tc_seq fun K23 hK23 => ?_; refine tc_block ?_; rcases oo with _ | ⟨bf, capf, junkf⟩
                    all_goals ((dsimp only [outOkR] at hok; dsimp only [slH_none, slH_some, List.cons_append, List.nil_append, outV']))
                    all_goals (obtain ⟨bX, oX, eX1⟩ := slV_ad hx12.1 (by omega))
                    all_goals ((have hXi := hTi.2 (X.getD i 0) (by rw [List.getD_eq_getElem?_getD, List.getElem?_eq_getElem (by omega)]; exact List.getElem_mem _)))
                    all_goals (have had' := had (by omega))
                    all_goals (have hlen : (flatR (subO l X i)).length = i * 2 := by rw [flatR_len, subO_len (by omega)])
                    all_goals refine tc_region ?_; refine tl_q (y_move rfl) rfl ?_; refine tl_q (y_move rfl) rfl ?_; refine tl_q (y_move rfl) rfl ?_; refine tl_q (y_move rfl) rfl ?_; refine tl_q (y_index rfl rfl (by omega) eX1) rfl ?_; ((refine tl_q (y_load1o (v := vi (X.getD i 0)) rfl (fun w' hw' => by rw [show Int.toNat (i : Int) * 1 = i from by omega]; exact slV_at (hx12.1.fr (hw'.fr (w0 := x12.2) (S := []) (MI.m (by repeat constructor)))) eX1 (by omega))) rfl ?_))
                    all_goals (refine tl_q (y_index rfl rfl (by omega) had') rfl ?_); refine tl_q (y_loadNo (n := 2) (vs := [vi (l.getD (X.getD i 0).toNat (0, 0)).1, vi (l.getD (X.getD i 0).toNat (0, 0)).2]) rfl (fun w' hw' => hcell w' [] (hw'.fr (w0 := w) (S := []) (MI.m (by repeat constructor))) (by simp) (X.getD i 0).toNat (by omega))) rfl ?_; ((refine tl_e (e_bslice rfl (by (repeat (first | exact .nil | apply PV.two rfl)); done) rfl rfl) rfl (fun _ _ => ?_)))
                    all_goals ((first | refine tl_e (e_append_own (old := flatR (subO l X i)) (junk := junkf) rfl rfl rfl (by repeat constructor) (by rw [hlen]) (by omega) hok.1 (fun w' hw' => RdR.own0 (xs := [l.getD (X.getD i 0).toNat (0, 0)]) hw' (by repeat constructor)) (flatR_one _) (by simp only [List.length_cons, List.length_nil]; omega) rfl) rfl (fun q hq => ?_) | refine tl_e (e_append_nil rfl rfl rfl (fun w' hw' => RdR.own0 (xs := [l.getD (X.getD i 0).toNat (0, 0)]) hw' (by repeat constructor)) (flatR_one _) Nat.zero_lt_one (Nat.le_of_ble_eq_true rfl) rfl) rfl (fun q hq => ?_)))
                    all_goals refine tl_q (y_assign rfl) rfl ?_; refine tl_nil ?_; ((refine hK23 ?_; try (clear hK23; clear K23)))
                    all_goals refine tc_region ?_; refine tl_q (y_move rfl) rfl ?_; refine tl_q (y_add rfl rfl (by omega)) rfl ?_; refine tl_q (y_assign rfl) rfl ?_; refine tl_nil ?_
                    all_goals (
                     have hs2 := subO_succ (l := l) (xs := X) (n := i) (by omega)
                     refine tk_round (i + 1, some (q.1, q.2.1, q.2.2)) ⟨by dsimp only; omega, ?_⟩ (by dsimp only; omega) (.cons rfl (.cons rfl (.cons rfl (.cons rfl (.cons rfl (.cons rfl (.cons ?_ (.cons rfl .nil)))))))) (fun _ h => ?_)
                     · dsimp only [outOkR]; simp only [List.length_cons, List.length_nil] at hq ⊢; omega
                     · dsimp only [outV']; first | rfl | (rw [show i = 0 from hok]; rfl)
                     · dsimp only [slH_some]; rw [hs2, flatR_append]
                       try rw [show subO l X i = [] from by rw [show i = 0 from hok]; rfl, show flatR [] = [] from rfl, List.nil_append]
                       exact h.subl (SB.s (by repeat constructor)) (SB.s (by repeat constructor)))
                  · try simp only [bne_iff_ne, ne_eq, bne_eq_false_iff_eq, decide_eq_decide, true_iff, false_iff, decide_eq_true_eq, decide_eq_false_iff_not, Int.not_lt, Int.not_le, Bool.not_eq_true', Bool.not_eq_false', Decidable.not_not, not_true_eq_false, Int.toNat_natCast] at hc
                    all_goals refine tc_exit ?_; ((refine hK19 ?_; try (clear hK19; clear K19)))
                    all_goals refine tc_seq fun K24 hK24 => ?_
                    all_goals (
                     refine tc_join (fun g : Int => g = 9 ∨ (g = 0 ∧ lessF X r = false)) (fun g => [(1, .slice ad l.length cd), (2, .slice adw ws.length cpw), (5, ptr b5), (11, vi (n3 % 4)), (12, slV r.length y4.1), (16, slV X.length x12.1), (20, vi g)]) (fun _ => [(x12.2, []), (y4.2, []), (wl1, []), (w, [])]) (fun _ => []) ?_ ?_
                     · skip
                       all_goals refine tc_lay ([]) (SB.s .nil) (fun wl18 hl18 => ?_); (have hiX : i = X.length := by omega)
                       all_goals subst hiX
                       all_goals rcases oo with _ | ⟨bf, capf, junkf⟩
                       all_goals ((dsimp only [outOkR] at hok; dsimp only [slH_none, slH_some, List.cons_append, List.nil_append, outV'] at hl18 ⊢))
                       all_goals ((first | (have hfw : ∀ w', Fr [] wl18 w' → RdR w' (.slice (some ⟨bf, 0, none⟩) X.length capf) (subO l X X.length) := fun w' g => RdR.fr (by have := RdR.own (xs := subO l X X.length) (cap := capf) (junk := junkf) hl18 (b := bf) (by repeat constructor); rw [subO_len (Nat.le_refl _)] at this; exact this) g) | (have hfw : ∀ w', Fr [] wl18 w' → RdR w' (.slice none 0 0) (subO l X X.length) := fun w' g => by rw [List.eq_nil_of_length_eq_zero (l := subO l X X.length) (by rw [subO_len (Nat.le_refl _)]; exact hok)]; exact RdR.nil _)))
                       all_goals ((have hXl := hTi.len (by omega); have hO2 := subO_all hTi.2 hO))
                       all_goals (rcases few_v hv (tol := n3 % 4) (by omega) (l := subO l X X.length) (by rw [subO_len (Nat.le_refl _)]; omega) with ⟨h2, hF2⟩ | ⟨h2, h3, hF2⟩ | ⟨h2, h3, hS2, hF2⟩ | ⟨h2, h3, r2, hS2, hF2⟩)
                       all_goals ((first | (exfalso; rw [hO2] at h2; cases h2; done) | (exfalso; omega) | skip))
                       all_goals refine tc_region ?_; refine tl_q (y_loadWf rfl (hl1.at (by repeat constructor)) (MI.m (by repeat constructor)) (by simp) (by rfl)) rfl ?_; refine tl_e (e_callX rfl (.cons rfl .nil) (fun w' hw' => trial9_c t (by omega) (by omega) (by omega) (by omega) _ _ _ _ w' (hr0.fr (hw'.fr (w0 := w) (S := []) (MI.m (by repeat constructor)))))) rfl (fun x18 hx18 => ?_); refine tl_q (y_move rfl) rfl ?_; refine tl_q (y_move rfl) rfl ?_; ((refine tl_e (e_callX rfl (.cons rfl .nil) (fun w' hw' => offers_c (subO l X X.length) (by rw [subO_len (Nat.le_refl _)]; omega) _ w' (hfw w' (hw'.fr (w0 := wl18) (S := []) (MI.m (by repeat constructor)))))) rfl (fun o18 ho18 => ?_)))
                       all_goals ((refine tl_e (e_callX rfl (.cons rfl (.cons rfl (.cons rfl .nil))) (fun w' hw' => by have h := slicedY (g := fun y => .tuple #[y, vi (fewestE t (n3 % 4) (subO l X X.length)).2]) (fewest_c t hn (n3 % 4) (by omega) (subO l X X.length) (by rw [subO_len (Nat.le_refl _)]; omega) _ _ _ _ _ w' (hx18.1.fr (hw'.fr (w0 := x18.2) (S := []) (MI.m (by repeat constructor)))) (ho18.1.fr (hw'.fr (w0 := o18.2) (S := []) (MI.m (by repeat constructor))))); rw [hF2] at h; exact h)) rfl (fun y18 hy18 => ?_)))
                       all_goals refine tl_q (y_move rfl) rfl ?_; refine tl_q (y_extract rfl rfl) rfl ?_; refine tl_q (y_extract rfl rfl) rfl ?_; refine tl_q (y_assign rfl) rfl ?_; refine tl_q (y_assign rfl) rfl ?_; refine tl_nil ?_
                       all_goals (
                        first
                        | exact tk_start 9 (.inl rfl) (.cons rfl (.cons rfl (.cons rfl (.cons rfl (.cons rfl (.cons rfl (.cons rfl .nil))))))) (fun _ h => h.subl (SB.s (by repeat constructor)) (SB.s (by repeat constructor)))
                        | exact tk_start 0 (.inr ⟨rfl, hle.least X hTi (sub_decides hTi.2 hS2)⟩) (.cons rfl (.cons rfl (.cons rfl (.cons rfl (.cons rfl (.cons rfl (.cons rfl .nil))))))) (fun _ h => h.subl (SB.s (by repeat constructor)) (SB.s (by repeat constructor))))
                     · rintro g hg
                       all_goals refine tc_seq fun K25 hK25 => ?_; refine tc_lay ([]) (SB.s .nil) (fun wl19 hl19 => ?_); (rcases hLs : lessF X r)
                       all_goals (have hg9 : g = 9 ∨ g = 0 := hg.imp id (fun h => h.1))
                       all_goals (first | (have hg9' : g = 9 := hg.resolve_right (fun h => Bool.noConfusion (hLs.symm.trans h.2))) | skip)
                       all_goals refine tc_region ?_; refine tl_q (y_move rfl) rfl ?_; refine tl_q (y_move rfl) rfl ?_; (refine tl_e (e_callV rfl (.cons rfl (.cons rfl .nil)) (fun w' hw' => by have h := less_c X r (by omega) (by omega) _ _ w' (hx12.1.fr (hw'.fr (w0 := x12.2) (S := []) (MI.m (by repeat constructor)))) (hrd.fr (hw'.fr (w0 := y4.2) (S := []) (MI.m (by repeat constructor)))); rw [hLs] at h; exact h)) rfl (fun _ _ => ?_))
                       all_goals refine tl_q (y_move rfl) rfl ?_; (first | refine tl_sk rfl rfl rfl rfl ?_ | refine tl_qg rfl rfl (y_move rfl) rfl ?_); (first | refine tl_sk rfl rfl rfl rfl ?_ | refine tl_qg rfl rfl (y_eql rfl rfl) rfl ?_); (first | refine tl_q (y_pick_t rfl rfl) rfl ?_ | refine tl_q (y_pick_f rfl rfl) rfl ?_); refine tl_q (y_move rfl) rfl ?_; ((first | refine tl_qg rfl rfl (y_move rfl) rfl ?_ | (refine tl_gs rfl rfl (fun hc => ?_) (fun hc => ?_) <;> (try simp only [bne_iff_ne, ne_eq, bne_eq_false_iff_eq, decide_eq_decide, true_iff, false_iff, decide_eq_true_eq, decide_eq_false_iff_not, Int.not_lt, Int.not_le, Bool.not_eq_true', Bool.not_eq_false', Decidable.not_not, not_true_eq_false, Int.toNat_natCast] at hc) <;> (first | (exfalso; omega) | refine tl_qg rfl rfl (y_move rfl) rfl ?_))))
                       all_goals (refine tl_qg rfl rfl (y_neq rfl rfl) rfl ?_); refine tl_qg rfl rfl (y_move rfl) rfl ?_; ((refine tl_gs rfl rfl (fun hc => ?_) (fun hc => ?_) <;> (try simp only [bne_iff_ne, ne_eq, bne_eq_false_iff_eq, decide_eq_decide, true_iff, false_iff, decide_eq_true_eq, decide_eq_false_iff_not, Int.not_lt, Int.not_le, Bool.not_eq_true', Bool.not_eq_false', Decidable.not_not, not_true_eq_false, Int.toNat_natCast] at hc) <;> (first | (exfalso; omega) | refine tl_sk rfl rfl rfl rfl ?_ | refine tl_qg rfl rfl (y_move rfl) rfl ?_)))
                       all_goals (first | refine tl_sk rfl rfl rfl rfl ?_ | refine tl_qg rfl rfl (y_neq rfl rfl) rfl ?_); (first | refine tl_qg rfl rfl (y_pick_t rfl rfl) rfl ?_ | refine tl_qg rfl rfl (y_pick_f rfl rfl) rfl ?_); refine tl_q (y_pick_f rfl rfl) rfl ?_; refine tl_nil ?_; ((refine hK25 ?_; try (clear hK25; clear K25)))
                       all_goals (
                        refine tc_cond rfl (fun hc => ?_) (fun hc => ?_)
                        · try simp only [bne_iff_ne, ne_eq, bne_eq_false_iff_eq, decide_eq_decide, true_iff, false_iff, decide_eq_true_eq, decide_eq_false_iff_not, Int.not_lt, Int.not_le, Bool.not_eq_true', Bool.not_eq_false', Decidable.not_not, not_true_eq_false, Int.toNat_natCast] at hc
                          all_goals ((first | (exfalso; with_reducible exact bft hc) | (exfalso; omega)))
                        · try simp only [bne_iff_ne, ne_eq, bne_eq_false_iff_eq, decide_eq_decide, true_iff, false_iff, decide_eq_true_eq, decide_eq_false_iff_not, Int.not_lt, Int.not_le, Bool.not_eq_true', Bool.not_eq_false', Decidable.not_not, not_true_eq_false, Int.toNat_natCast] at hc
                          all_goals refine tc_skip ?_; ((refine hK24 ?_; try (clear hK24; clear K24)))
                          all_goals (
                           refine tc_join (fun z : World × (Nat × Nat) × ((Option Addr × Nat) × (Option Addr × Nat)) × List Nat => ∀ w', Fr z.2.2.2 z.1 w' → RdI w' (slV t.parts.length z.2.2.1.1) (pE t ws)) (fun z => [(1, .slice ad l.length cd), (2, .slice adw ws.length cpw), (5, ptr b5), (11, vi (n3 % 4)), (12, slV r.length y4.1), (21, ptr z.2.1.1), (22, ptr z.2.1.2)]) (fun z => [(z.1, z.2.2.2), (y4.2, []), (wl1, []), (w, [])]) (fun z => [(z.2.1.1, tO t (.slice aw t.s.weights.length cw) (.slice ap t.parts.length cp) (.slice al t.liquids.length cl) (.slice at' t.tests.length ct)), (z.2.1.2, .cells #[slV t.parts.length z.2.2.1.1, slV t.liquids.length z.2.2.1.2] 92 (0, 0))]) ?_ ?_
                           · skip
                             all_goals refine tc_drawS ([]) (by kernel_rfl) ?_; refine tx_qS 0 rfl (by kernel_rfl) (y_loadWf rfl (hl1.at (by repeat constructor)) (MI.m (by repeat constructor)) (by simp) (by rfl)) rfl (fun _ _ _ h => h) (fun _ h => h.subl (SB.s (by repeat constructor)) (SB.s (by repeat constructor))) ?_; refine tx_qS 1 rfl (by kernel_rfl) (y_loadWf rfl (hl1.at (by repeat constructor)) (MI.m (by repeat constructor)) (by simp) (by rfl)) rfl (fun _ _ _ h => h) (fun _ h => h.subl (SB.s (by repeat constructor)) (SB.s (by repeat constructor))) ?_; refine tx_p 2 rfl (by kernel_rfl) (y_move rfl) rfl (fun _ _ _ h => h) (fun _ h => h.subl (SB.s (by repeat constructor)) (SB.s (by repeat constructor))) ?_
                             all_goals (
                              refine tx_three 3 4 5 (by kernel_rfl) ?_ ?_ ?_
                              rotate_left 2
                              focus (
                               (refine to_e rfl rfl (e_allocN rfl) (.inr ⟨fun _ _ h => h.subl (SB.s (by repeat constructor)) (SB.s (by repeat constructor)), fun _ h => h⟩) (fun b22 _ => ?_))
                               all_goals (
                                refine tx_pair 3 4 (by kernel_rfl) ?_ ?_
                                rotate_left
                                focus (
                                 (refine to_e rfl rfl (e_allocN rfl) (.inr ⟨fun _ _ h => h.subl (SB.s (by repeat constructor)) (SB.s (by repeat constructor)), fun _ h => h⟩) (fun b21 _ => ?_))
                                 all_goals refine tx_single 3 (by kernel_rfl) (to_e rfl rfl (e_callX rfl (.cons rfl (.cons rfl .nil)) (fun w' hw' => (picked_c t hv ws hws hwl _ _ _ _ _ w' (hr0.fr (hw'.fr (w0 := w) (S := []) (MI.m (by repeat constructor)))) (hWr w' (hw'.fr (w0 := w) (S := []) (MI.m (by repeat constructor))))).sep2 hw')) (.inr ⟨fun _ _ h => h.subl (SB.s (by repeat constructor)) (SB.s (by repeat constructor)), fun _ h => h⟩) (fun pk hpk => ?_)); refine tx_single 6 (by kernel_rfl) (to_e rfl rfl (e_storeW (cs := #[vi t.s.mass, vi t.s.volume, vi t.s.step, vi t.s.divisions, vi t.s.width, .slice aw t.s.weights.length cw, .slice ap t.parts.length cp, vi t.worst, .slice al t.liquids.length cl, .slice at' t.tests.length ct]) rfl rfl (by repeat constructor) (by rfl) (by rfl) (tr_ones rfl rfl rfl rfl)) (.inr ⟨fun _ _ h => h.subl (SB.s (by repeat constructor)) (SB.s (by repeat constructor)), fun _ h => h⟩) (fun _ _ => ?_)); ((refine tx_single 7 (by kernel_rfl) (to_e (S' := HG [] []) rfl rfl (e_storeW (cs := #[slV t.parts.length pk.1.1, slV t.liquids.length pk.1.2]) rfl rfl (by repeat constructor) (by rfl) (by rfl) (by intro v hv; simp at hv; rcases hv with rfl | rfl <;> rfl)) (.inl (by kernel_rfl)) (fun _ _ => ?_))))
                                 all_goals refine tx_done (by kernel_rfl) ?_)
                                rotate_right
                                focus (
                                 (refine to_e rfl rfl (e_callX rfl (.cons rfl (.cons rfl .nil)) (fun w' hw' => (picked_c t hv ws hws hwl _ _ _ _ _ w' (hr0.fr (hw'.fr (w0 := w) (S := []) (MI.m (by repeat constructor)))) (hWr w' (hw'.fr (w0 := w) (S := []) (MI.m (by repeat constructor))))).sep2 hw')) (.inr ⟨fun _ _ h => h.subl (SB.s (by repeat constructor)) (SB.s (by repeat constructor)), fun _ h => h⟩) (fun pk hpk => ?_))
                                 all_goals refine tx_single 4 (by kernel_rfl) (to_e rfl rfl (e_allocN rfl) (.inr ⟨fun _ _ h => h.subl (SB.s (by repeat constructor)) (SB.s (by repeat constructor)), fun _ h => h⟩) (fun b21 _ => ?_)); refine tx_single 6 (by kernel_rfl) (to_e rfl rfl (e_storeW (cs := #[vi t.s.mass, vi t.s.volume, vi t.s.step, vi t.s.divisions, vi t.s.width, .slice aw t.s.weights.length cw, .slice ap t.parts.length cp, vi t.worst, .slice al t.liquids.length cl, .slice at' t.tests.length ct]) rfl rfl (by repeat constructor) (by rfl) (by rfl) (tr_ones rfl rfl rfl rfl)) (.inr ⟨fun _ _ h => h.subl (SB.s (by repeat constructor)) (SB.s (by repeat constructor)), fun _ h => h⟩) (fun _ _ => ?_)); ((refine tx_single 7 (by kernel_rfl) (to_e (S' := HG [] []) rfl rfl (e_storeW (cs := #[slV t.parts.length pk.1.1, slV t.liquids.length pk.1.2]) rfl rfl (by repeat constructor) (by rfl) (by rfl) (by intro v hv; simp at hv; rcases hv with rfl | rfl <;> rfl)) (.inl (by kernel_rfl)) (fun _ _ => ?_))))
                                 all_goals refine tx_done (by kernel_rfl) ?_)))
                              rotate_right
                              focus (
                               (refine to_e rfl rfl (e_allocN rfl) (.inr ⟨fun _ _ h => h.subl (SB.s (by repeat constructor)) (SB.s (by repeat constructor)), fun _ h => h⟩) (fun b21 _ => ?_))
                               all_goals (
                                refine tx_pair 3 5 (by kernel_rfl) ?_ ?_
                                rotate_left
                                focus (
                                 (refine to_e rfl rfl (e_allocN rfl) (.inr ⟨fun _ _ h => h.subl (SB.s (by repeat constructor)) (SB.s (by repeat constructor)), fun _ h => h⟩) (fun b22 _ => ?_))
                                 all_goals refine tx_single 3 (by kernel_rfl) (to_e rfl rfl (e_callX rfl (.cons rfl (.cons rfl .nil)) (fun w' hw' => (picked_c t hv ws hws hwl _ _ _ _ _ w' (hr0.fr (hw'.fr (w0 := w) (S := []) (MI.m (by repeat constructor)))) (hWr w' (hw'.fr (w0 := w) (S := []) (MI.m (by repeat constructor))))).sep2 hw')) (.inr ⟨fun _ _ h => h.subl (SB.s (by repeat constructor)) (SB.s (by repeat constructor)), fun _ h => h⟩) (fun pk hpk => ?_)); refine tx_single 6 (by kernel_rfl) (to_e rfl rfl (e_storeW (cs := #[vi t.s.mass, vi t.s.volume, vi t.s.step, vi t.s.divisions, vi t.s.width, .slice aw t.s.weights.length cw, .slice ap t.parts.length cp, vi t.worst, .slice al t.liquids.length cl, .slice at' t.tests.length ct]) rfl rfl (by repeat constructor) (by rfl) (by rfl) (tr_ones rfl rfl rfl rfl)) (.inr ⟨fun _ _ h => h.subl (SB.s (by repeat constructor)) (SB.s (by repeat constructor)), fun _ h => h⟩) (fun _ _ => ?_)); ((refine tx_single 7 (by kernel_rfl) (to_e (S' := HG [] []) rfl rfl (e_storeW (cs := #[slV t.parts.length pk.1.1, slV t.liquids.length pk.1.2]) rfl rfl (by repeat constructor) (by rfl) (by rfl) (by intro v hv; simp at hv; rcases hv with rfl | rfl <;> rfl)) (.inl (by kernel_rfl)) (fun _ _ => ?_))))
                                 all_goals refine tx_done (by kernel_rfl) ?_)
                                rotate_right
                                focus (
                                 (refine to_e rfl rfl (e_callX rfl (.cons rfl (.cons rfl .nil)) (fun w' hw' => (picked_c t hv ws hws hwl _ _ _ _ _ w' (hr0.fr (hw'.fr (w0 := w) (S := []) (MI.m (by repeat constructor)))) (hWr w' (hw'.fr (w0 := w) (S := []) (MI.m (by repeat constructor))))).sep2 hw')) (.inr ⟨fun _ _ h => h.subl (SB.s (by repeat constructor)) (SB.s (by repeat constructor)), fun _ h => h⟩) (fun pk hpk => ?_))
                                 all_goals refine tx_single 5 (by kernel_rfl) (to_e rfl rfl (e_allocN rfl) (.inr ⟨fun _ _ h => h.subl (SB.s (by repeat constructor)) (SB.s (by repeat constructor)), fun _ h => h⟩) (fun b22 _ => ?_)); refine tx_single 6 (by kernel_rfl) (to_e rfl rfl (e_storeW (cs := #[vi t.s.mass, vi t.s.volume, vi t.s.step, vi t.s.divisions, vi t.s.width, .slice aw t.s.weights.length cw, .slice ap t.parts.length cp, vi t.worst, .slice al t.liquids.length cl, .slice at' t.tests.length ct]) rfl rfl (by repeat constructor) (by rfl) (by rfl) (tr_ones rfl rfl rfl rfl)) (.inr ⟨fun _ _ h => h.subl (SB.s (by repeat constructor)) (SB.s (by repeat constructor)), fun _ h => h⟩) (fun _ _ => ?_)); ((refine tx_single 7 (by kernel_rfl) (to_e (S' := HG [] []) rfl rfl (e_storeW (cs := #[slV t.parts.length pk.1.1, slV t.liquids.length pk.1.2]) rfl rfl (by repeat constructor) (by rfl) (by rfl) (by intro v hv; simp at hv; rcases hv with rfl | rfl <;> rfl)) (.inl (by kernel_rfl)) (fun _ _ => ?_))))
                                 all_goals refine tx_done (by kernel_rfl) ?_)))
                              rotate_right
                              focus (
                               (refine to_e rfl rfl (e_callX rfl (.cons rfl (.cons rfl .nil)) (fun w' hw' => (picked_c t hv ws hws hwl _ _ _ _ _ w' (hr0.fr (hw'.fr (w0 := w) (S := []) (MI.m (by repeat constructor)))) (hWr w' (hw'.fr (w0 := w) (S := []) (MI.m (by repeat constructor))))).sep2 hw')) (.inr ⟨fun _ _ h => h.subl (SB.s (by repeat constructor)) (SB.s (by repeat constructor)), fun _ h => h⟩) (fun pk hpk => ?_))
                               all_goals (
                                refine tx_pair 4 5 (by kernel_rfl) ?_ ?_
                                rotate_left
                                focus (
                                 (refine to_e rfl rfl (e_allocN rfl) (.inr ⟨fun _ _ h => h.subl (SB.s (by repeat constructor)) (SB.s (by repeat constructor)), fun _ h => h⟩) (fun b22 _ => ?_))
                                 all_goals refine tx_single 4 (by kernel_rfl) (to_e rfl rfl (e_allocN rfl) (.inr ⟨fun _ _ h => h.subl (SB.s (by repeat constructor)) (SB.s (by repeat constructor)), fun _ h => h⟩) (fun b21 _ => ?_)); refine tx_single 6 (by kernel_rfl) (to_e rfl rfl (e_storeW (cs := #[vi t.s.mass, vi t.s.volume, vi t.s.step, vi t.s.divisions, vi t.s.width, .slice aw t.s.weights.length cw, .slice ap t.parts.length cp, vi t.worst, .slice al t.liquids.length cl, .slice at' t.tests.length ct]) rfl rfl (by repeat constructor) (by rfl) (by rfl) (tr_ones rfl rfl rfl rfl)) (.inr ⟨fun _ _ h => h.subl (SB.s (by repeat constructor)) (SB.s (by repeat constructor)), fun _ h => h⟩) (fun _ _ => ?_)); ((refine tx_single 7 (by kernel_rfl) (to_e (S' := HG [] []) rfl rfl (e_storeW (cs := #[slV t.parts.length pk.1.1, slV t.liquids.length pk.1.2]) rfl rfl (by repeat constructor) (by rfl) (by rfl) (by intro v hv; simp at hv; rcases hv with rfl | rfl <;> rfl)) (.inl (by kernel_rfl)) (fun _ _ => ?_))))
                                 all_goals refine tx_done (by kernel_rfl) ?_)
                                rotate_right
                                focus (
                                 (refine to_e rfl rfl (e_allocN rfl) (.inr ⟨fun _ _ h => h.subl (SB.s (by repeat constructor)) (SB.s (by repeat constructor)), fun _ h => h⟩) (fun b21 _ => ?_))
                                 all_goals refine tx_single 5 (by kernel_rfl) (to_e rfl rfl (e_allocN rfl) (.inr ⟨fun _ _ h => h.subl (SB.s (by repeat constructor)) (SB.s (by repeat constructor)), fun _ h => h⟩) (fun b22 _ => ?_)); refine tx_single 6 (by kernel_rfl) (to_e rfl rfl (e_storeW (cs := #[vi t.s.mass, vi t.s.volume, vi t.s.step, vi t.s.divisions, vi t.s.width, .slice aw t.s.weights.length cw, .slice ap t.parts.length cp, vi t.worst, .slice al t.liquids.length cl, .slice at' t.tests.length ct]) rfl rfl (by repeat constructor) (by rfl) (by rfl) (tr_ones rfl rfl rfl rfl)) (.inr ⟨fun _ _ h => h.subl (SB.s (by repeat constructor)) (SB.s (by repeat constructor)), fun _ h => h⟩) (fun _ _ => ?_)); ((refine tx_single 7 (by kernel_rfl) (to_e (S' := HG [] []) rfl rfl (e_storeW (cs := #[slV t.parts.length pk.1.1, slV t.liquids.length pk.1.2]) rfl rfl (by repeat constructor) (by rfl) (by rfl) (by intro v hv; simp at hv; rcases hv with rfl | rfl <;> rfl)) (.inl (by kernel_rfl)) (fun _ _ => ?_))))
                                 all_goals refine tx_done (by kernel_rfl) ?_))))
                             all_goals (
                              first
                              | (refine tk_lay [(b21, tO t (.slice aw t.s.weights.length cw) (.slice ap t.parts.length cp) (.slice al t.liquids.length cl) (.slice at' t.tests.length ct)), (b22, .cells #[slV t.parts.length pk.1.1, slV t.liquids.length pk.1.2] 92 (0, 0))] (SB.s ?_) (fun wj hj => ?_)
                                 · (repeat constructor); done
                                 exact tk_start (wj, (b21, b22), pk.1, [b21, b22]) (pick_sep hj (b := b21) (b' := b22) (by repeat constructor) (by repeat constructor) (x2 := pk.2) (MI.m (by repeat constructor)) hpk.1.2.1 hpk.1.1.1 (by rw [pkE_len]; omega)) (.cons rfl (.cons rfl (.cons rfl (.cons rfl (.cons rfl (.cons rfl (.cons rfl .nil))))))) (fun _ h => h.subl (SB.s (by repeat constructor)) (SB.s (by repeat constructor))))
                              | (refine tk_lay [(b22, .cells #[slV t.parts.length pk.1.1, slV t.liquids.length pk.1.2] 92 (0, 0)), (b21, tO t (.slice aw t.s.weights.length cw) (.slice ap t.parts.length cp) (.slice al t.liquids.length cl) (.slice at' t.tests.length ct))] (SB.s ?_) (fun wj hj => ?_)
                                 · (repeat constructor); done
                                 exact tk_start (wj, (b21, b22), pk.1, [b22, b21]) (pick_sep hj (b := b22) (b' := b21) (by repeat constructor) (by repeat constructor) (x2 := pk.2) (MI.m (by repeat constructor)) hpk.1.2.1 hpk.1.1.1 (by rw [pkE_len]; omega)) (.cons rfl (.cons rfl (.cons rfl (.cons rfl (.cons rfl (.cons rfl (.cons rfl .nil))))))) (fun _ h => HG.swb (h.subl (SB.s (by repeat constructor)) (List.Sublist.refl _)))))
                           · rintro ⟨wj, ⟨b21, b22⟩, pk, SS⟩ hE
                             dsimp only at hE ⊢
                             all_goals (
                              refine tc_join (fun q : (Nat × Nat × List Value) × (Nat × Nat × List Value) => (0 + t.liquids.length ≤ q.1.2.1 ∧ q.1.2.2.length = (q.1.2.1 - (0 + t.liquids.length)) * 2) ∧ (0 + t.tests.length ≤ q.2.2.1 ∧ q.2.2.2.length = (q.2.2.1 - (0 + t.tests.length)) * 3)) (fun q => [(1, .slice ad l.length cd), (2, .slice adw ws.length cpw), (5, ptr b5), (11, vi (n3 % 4)), (12, slV r.length y4.1), (21, ptr b21), (22, ptr b22)]) (fun q => [(wj, SS), (y4.2, []), (wl1, []), (w, [])]) (fun q => [(q.2.1, .cells ([] ++ flatT t.tests ++ q.2.2.2).toArray 72 (0, 0)), (q.1.1, .cells ([] ++ flatR t.liquids ++ q.1.2.2).toArray 57 (0, 0)), (b21, tO t (.slice aw t.s.weights.length cw) (.slice ap t.parts.length cp) (.slice (some ⟨q.1.1, 0, none⟩) (0 + t.liquids.length) q.1.2.1) (.slice (some ⟨q.2.1, 0, none⟩) (0 + t.tests.length) q.2.2.1)), (b22, .cells #[slV t.parts.length pk.1, slV t.liquids.length pk.2] 92 (0, 0))]) ?_ ?_
                              · skip
                                all_goals refine tc_drawS ([]) (by kernel_rfl) ?_; refine tx_p 1 rfl (by kernel_rfl) (y_field rfl) rfl (fun _ _ _ h => h) (fun _ h => h.subl (SB.s (by repeat constructor)) (SB.s (by repeat constructor))) ?_; refine tx_qS 2 rfl (by kernel_rfl) (y_load1f rfl (hl1.at (by repeat constructor)) (MI.m (by repeat constructor)) (by simp) (by rfl)) rfl (fun _ _ _ h => h) (fun _ h => h.subl (SB.s (by repeat constructor)) (SB.s (by repeat constructor))) ?_; refine tx_p 5 rfl (by kernel_rfl) (y_field rfl) rfl (fun _ _ _ h => h) (fun _ h => h.subl (SB.s (by repeat constructor)) (SB.s (by repeat constructor))) ?_; refine tx_qS 6 rfl (by kernel_rfl) (y_load1f rfl (hl1.at (by repeat constructor)) (MI.m (by repeat constructor)) (by simp) (by rfl)) rfl (fun _ _ _ h => h) (fun _ h => h.subl (SB.s (by repeat constructor)) (SB.s (by repeat constructor))) ?_
                                all_goals (
                                 refine tx_pair 0 4 (by kernel_rfl) ?_ ?_
                                 rotate_left
                                 focus (
                                  (refine to_e rfl rfl (e_bslice rfl (by (repeat (exact .nil)); done) rfl rfl) (.inr ⟨fun _ _ h => h.subl (SB.s (by repeat constructor)) (SB.s (by repeat constructor)), fun _ h => h⟩) (fun c4 _ => ?_))
                                  all_goals ((refine tx_single 0 (by kernel_rfl) (to_e rfl rfl (e_bslice rfl (by (repeat (exact .nil)); done) rfl rfl) (.inr ⟨fun _ _ h => h.subl (SB.s (by repeat constructor)) (SB.s (by repeat constructor)), fun _ h => h⟩) (fun c0 _ => ?_))))
                                  all_goals (refine tx_single 3 (by kernel_rfl) (to_e rfl rfl (e_append_own (old := []) (junk := []) rfl rfl rfl (by repeat constructor) (by rfl) (by rfl) (Nat.le_refl _) (fun w' hw' => hr0.ls.fr (hw'.fr (w0 := w) (S := []) (MI.m (by repeat constructor)))) (flatR_one _) (by omega) rfl) (.inr ⟨fun _ _ h => h.subl (SB.s (by repeat constructor)) (SB.s (by repeat constructor)), fun _ h => h⟩) (fun z hz => ?_))); refine tx_p 8 rfl (by kernel_rfl) (y_field rfl) rfl (fun _ _ _ h => h) (fun _ h => h.subl (SB.s (by repeat constructor)) (SB.s (by repeat constructor))) ?_; refine tx_single 7 (by kernel_rfl) (to_e rfl rfl (e_append_own (old := []) (junk := []) rfl rfl rfl (by repeat constructor) (by rfl) (by rfl) (Nat.le_refl _) (fun w' hw' => hr0.ts.fr (hw'.fr (w0 := w) (S := []) (MI.m (by repeat constructor)))) (flatT_one _) (by omega) rfl) (.inr ⟨fun _ _ h => h.subl (SB.s (by repeat constructor)) (SB.s (by repeat constructor)), fun _ h => h⟩) (fun v hv' => ?_)); refine tx_single 9 (by kernel_rfl) (to_e rfl rfl (e_store1 rfl rfl (by repeat constructor) (by repeat constructor) (by rfl) (by rfl)) (.inr ⟨fun _ _ h => h.subl (SB.s (by repeat constructor)) (SB.s (by repeat constructor)), fun _ h => h⟩) (fun _ _ => ?_)); refine tx_p 10 rfl (by kernel_rfl) (y_field rfl) rfl (fun _ _ _ h => h) (fun _ h => h.subl (SB.s (by repeat constructor)) (SB.s (by repeat constructor))) ?_; refine tx_single 11 (by kernel_rfl) (to_e (S' := HG [] []) rfl rfl (e_store1 rfl rfl (by repeat constructor) (by repeat constructor) (by rfl) (by rfl)) (.inl (by kernel_rfl)) (fun _ _ => ?_))
                                  all_goals refine tx_done (by kernel_rfl) ?_)
                                 rotate_right
                                 focus (
                                  (refine to_e rfl rfl (e_bslice rfl (by (repeat (exact .nil)); done) rfl rfl) (.inr ⟨fun _ _ h => h.subl (SB.s (by repeat constructor)) (SB.s (by repeat constructor)), fun _ h => h⟩) (fun c0 _ => ?_))
                                  all_goals (
                                   refine tx_pair 3 4 (by kernel_rfl) ?_ ?_
                                   rotate_left
                                   focus (
                                    (refine to_e rfl rfl (e_bslice rfl (by (repeat (exact .nil)); done) rfl rfl) (.inr ⟨fun _ _ h => h.subl (SB.s (by repeat constructor)) (SB.s (by repeat constructor)), fun _ h => h⟩) (fun c4 _ => ?_))
                                    all_goals (refine tx_single 3 (by kernel_rfl) (to_e rfl rfl (e_append_own (old := []) (junk := []) rfl rfl rfl (by repeat constructor) (by rfl) (by rfl) (Nat.le_refl _) (fun w' hw' => hr0.ls.fr (hw'.fr (w0 := w) (S := []) (MI.m (by repeat constructor)))) (flatR_one _) (by omega) rfl) (.inr ⟨fun _ _ h => h.subl (SB.s (by repeat constructor)) (SB.s (by repeat constructor)), fun _ h => h⟩) (fun z hz => ?_))); refine tx_p 8 rfl (by kernel_rfl) (y_field rfl) rfl (fun _ _ _ h => h) (fun _ h => h.subl (SB.s (by repeat constructor)) (SB.s (by repeat constructor))) ?_; refine tx_single 7 (by kernel_rfl) (to_e rfl rfl (e_append_own (old := []) (junk := []) rfl rfl rfl (by repeat constructor) (by rfl) (by rfl) (Nat.le_refl _) (fun w' hw' => hr0.ts.fr (hw'.fr (w0 := w) (S := []) (MI.m (by repeat constructor)))) (flatT_one _) (by omega) rfl) (.inr ⟨fun _ _ h => h.subl (SB.s (by repeat constructor)) (SB.s (by repeat constructor)), fun _ h => h⟩) (fun v hv' => ?_)); refine tx_single 9 (by kernel_rfl) (to_e rfl rfl (e_store1 rfl rfl (by repeat constructor) (by repeat constructor) (by rfl) (by rfl)) (.inr ⟨fun _ _ h => h.subl (SB.s (by repeat constructor)) (SB.s (by repeat constructor)), fun _ h => h⟩) (fun _ _ => ?_)); refine tx_p 10 rfl (by kernel_rfl) (y_field rfl) rfl (fun _ _ _ h => h) (fun _ h => h.subl (SB.s (by repeat constructor)) (SB.s (by repeat constructor))) ?_; refine tx_single 11 (by kernel_rfl) (to_e (S' := HG [] []) rfl rfl (e_store1 rfl rfl (by repeat constructor) (by repeat constructor) (by rfl) (by rfl)) (.inl (by kernel_rfl)) (fun _ _ => ?_))
                                    all_goals refine tx_done (by kernel_rfl) ?_)
                                   rotate_right
                                   focus (
                                    (refine to_e rfl rfl (e_append_own (old := []) (junk := []) rfl rfl rfl (by repeat constructor) (by rfl) (by rfl) (Nat.le_refl _) (fun w' hw' => hr0.ls.fr (hw'.fr (w0 := w) (S := []) (MI.m (by repeat constructor)))) (flatR_one _) (by omega) rfl) (.inr ⟨fun _ _ h => h.subl (SB.s (by repeat constructor)) (SB.s (by repeat constructor)), fun _ h => h⟩) (fun z hz => ?_))
                                    all_goals refine tx_p 8 rfl (by kernel_rfl) (y_field rfl) rfl (fun _ _ _ h => h) (fun _ h => h.subl (SB.s (by repeat constructor)) (SB.s (by repeat constructor))) ?_; ((refine tx_single 4 (by kernel_rfl) (to_e rfl rfl (e_bslice rfl (by (repeat (exact .nil)); done) rfl rfl) (.inr ⟨fun _ _ h => h.subl (SB.s (by repeat constructor)) (SB.s (by repeat constructor)), fun _ h => h⟩) (fun c4 _ => ?_))))
                                    all_goals (refine tx_single 7 (by kernel_rfl) (to_e rfl rfl (e_append_own (old := []) (junk := []) rfl rfl rfl (by repeat constructor) (by rfl) (by rfl) (Nat.le_refl _) (fun w' hw' => hr0.ts.fr (hw'.fr (w0 := w) (S := []) (MI.m (by repeat constructor)))) (flatT_one _) (by omega) rfl) (.inr ⟨fun _ _ h => h.subl (SB.s (by repeat constructor)) (SB.s (by repeat constructor)), fun _ h => h⟩) (fun v hv' => ?_))); refine tx_single 9 (by kernel_rfl) (to_e rfl rfl (e_store1 rfl rfl (by repeat constructor) (by repeat constructor) (by rfl) (by rfl)) (.inr ⟨fun _ _ h => h.subl (SB.s (by repeat constructor)) (SB.s (by repeat constructor)), fun _ h => h⟩) (fun _ _ => ?_)); refine tx_p 10 rfl (by kernel_rfl) (y_field rfl) rfl (fun _ _ _ h => h) (fun _ h => h.subl (SB.s (by repeat constructor)) (SB.s (by repeat constructor))) ?_; refine tx_single 11 (by kernel_rfl) (to_e (S' := HG [] []) rfl rfl (e_store1 rfl rfl (by repeat constructor) (by repeat constructor) (by rfl) (by rfl)) (.inl (by kernel_rfl)) (fun _ _ => ?_))
                                    all_goals refine tx_done (by kernel_rfl) ?_))))
                                all_goals (
                                 exact tk_start ((z.1, z.2.1, z.2.2), (v.1, v.2.1, v.2.2)) ⟨hz, hv'⟩ (.cons rfl (.cons rfl (.cons rfl (.cons rfl (.cons rfl (.cons rfl (.cons rfl .nil))))))) (fun _ h => h.subl (SB.s (by repeat constructor)) (SB.s (by repeat constructor))))
                              · rintro ⟨⟨bL0, cL0, jL0⟩, ⟨bT0, cT0, jT0⟩⟩ ⟨hoL0, hoT0⟩
                                dsimp only at hoL0 hoT0 ⊢
                                all_goals refine tc_seq fun K27 hK27 => ?_; refine tc_seq fun K28 hK28 => ?_; refine tc_region ?_; refine tl_q (y_assign rfl) rfl ?_; refine tl_nil ?_; ((refine hK28 ?_; try (clear hK28; clear K28)))
                                all_goals refine tc_block ?_
                                all_goals (
                                 refine tc_loop (fun p : Nat × (Nat × Nat × List Value) × (Nat × Nat × List Value) => p.1 ≤ r.length ∧ (0 + t.liquids.length + p.1 ≤ p.2.1.2.1 ∧ p.2.1.2.2.length = (p.2.1.2.1 - (0 + t.liquids.length + p.1)) * 2) ∧ (0 + t.tests.length + p.1 ≤ p.2.2.2.1 ∧ p.2.2.2.2.length = (p.2.2.2.1 - (0 + t.tests.length + p.1)) * 3)) (fun p => [(1, .slice ad l.length cd), (2, .slice adw ws.length cpw), (5, ptr b5), (11, vi (n3 % 4)), (12, slV r.length y4.1), (21, ptr b21), (22, ptr b22), (23, vi p.1)]) (fun p => [(wj, SS), (y4.2, []), (wl1, []), (w, [])]) (fun p => [(p.2.2.1, .cells ([] ++ flatT t.tests ++ flatT (addL t l ws r p.1) ++ p.2.2.2.2).toArray 72 (0, 0)), (p.2.1.1, .cells ([] ++ flatR t.liquids ++ flatR (dlO l r p.1) ++ p.2.1.2.2).toArray 57 (0, 0)), (b21, tO t (.slice aw t.s.weights.length cw) (.slice ap t.parts.length cp) (.slice (some ⟨p.2.1.1, 0, none⟩) (0 + t.liquids.length + p.1) p.2.1.2.1) (.slice (some ⟨p.2.2.1, 0, none⟩) (0 + t.tests.length + p.1) p.2.2.2.1)), (b22, .cells #[slV t.parts.length pk.1, slV t.liquids.length pk.2] 92 (0, 0))]) (fun p => r.length - p.1) ?_ ?_
                                 · refine tk_start (0, (bL0, cL0, jL0), (bT0, cT0, jT0)) ⟨Nat.zero_le _, hoL0, hoT0⟩ (.cons rfl (.cons rfl (.cons rfl (.cons rfl (.cons rfl (.cons rfl (.cons rfl (.cons rfl .nil)))))))) (fun _ h => ?_)
                                   dsimp only
                                   rw [show addL t l ws r 0 = [] from rfl, show dlO l r 0 = [] from rfl, show flatT [] = [] from rfl, show flatR [] = [] from rfl, List.append_nil, List.append_nil]
                                   exact h.subl (SB.s (by repeat constructor)) (SB.s (by repeat constructor))
                                 · rintro ⟨n, ⟨bL, cL, jL⟩, ⟨bT, cT, jT⟩⟩ ⟨hn', hoL, hoT⟩
                                   dsimp only at hn' hoL hoT ⊢
                                   all_goals refine tc_seq fun K29 hK29 => ?_; refine tc_seq fun K30 hK30 => ?_; refine tc_region ?_; refine tl_q (y_move rfl) rfl ?_; refine tl_q (y_move rfl) rfl ?_; refine tl_q (y_len rfl) rfl ?_; refine tl_q (y_lss rfl rfl) rfl ?_; refine tl_nil ?_; ((refine hK30 ?_; try (clear hK30; clear K30)))
                                   all_goals (
                                    refine tc_cond rfl (fun hc => ?_) (fun hc => ?_)
                                    · try simp only [bne_iff_ne, ne_eq, bne_eq_false_iff_eq, decide_eq_decide, true_iff, false_iff, decide_eq_true_eq, decide_eq_false_iff_not, Int.not_lt, Int.not_le, Bool.not_eq_true', Bool.not_eq_false', Decidable.not_not, not_true_eq_false, Int.toNat_natCast] at hc
                                      all_goals refine tc_skip ?_; ((refine hK29 ?_; try (clear hK29; clear K29)))
                                      all_goals refine tc_seq fun K31 hK31 => ?_; refine tc_block ?_; refine tc_seq fun K32 hK32 => ?_; refine tc_seq fun K33 hK33 => ?_; (obtain ⟨bR, oR, eR1⟩ := slV_ad hrd (by omega))
                                      all_goals ((have hri := hle.inc.2 (r.getD n 0) (by rw [List.getD_eq_getElem?_getD, List.getElem?_eq_getElem (by omega)]; exact List.getElem_mem (by omega))))
                                      all_goals ((have hrp : 0 < n → r.getD (n - 1) 0 < r.getD n 0 := fun h0 => by rw [List.getD_eq_getElem?_getD, List.getElem?_eq_getElem (by omega), List.getD_eq_getElem?_getD, List.getElem?_eq_getElem (by omega)]; exact List.pairwise_iff_getElem.1 hle.inc.1 (n - 1) n (by omega) (by omega) (by omega)))
                                      all_goals (have had' := had (by omega))
                                      all_goals ((have hoo := of_decide_eq_true (List.all_eq_true.1 hO (l.getD (r.getD n 0).toNat (0, 0)) (by rw [List.getD_eq_getElem?_getD, List.getElem?_eq_getElem (by omega)]; exact List.getElem_mem _))))
                                      all_goals (have hwb := wordF_bd hws (n + 7))
                                      all_goals ((have hap : 0 < (addS t l ws r n).length := shownL_pos _ _ _ _; have hab : (addS t l ws r n).length ≤ 101 := shown_len t hv _ _ _))
                                      all_goals refine tc_draw (by kernel_rfl) ?_; refine tx_p 0 rfl (by kernel_rfl) (y_move rfl) rfl (fun _ _ _ h => h) (fun _ h => h) ?_; refine tx_p 1 rfl (by kernel_rfl) (y_move rfl) rfl (fun _ _ _ h => h) (fun _ h => h) ?_; refine tx_p 2 rfl (by kernel_rfl) (y_index rfl rfl (by omega) eR1) rfl (fun _ _ _ h => h) (fun _ h => h) ?_; ((refine tx_q 3 rfl (by kernel_rfl) (y_load1o (v := vi (r.getD n 0)) rfl (fun w' hw' => by rw [show Int.toNat (n : Int) * 1 = n from by omega]; exact slV_at (hrd.fr (hw'.fr (w0 := y4.2) (S := []) (MI.m (by repeat constructor)))) eR1 (by omega))) rfl (fun _ _ _ h => h) (fun _ h => h) ?_))
                                      all_goals (refine tx_p 4 rfl (by kernel_rfl) (y_lss rfl rfl) rfl (fun _ _ _ h => h) (fun _ h => h) ?_); refine tx_p 5 rfl (by kernel_rfl) (y_move rfl) rfl (fun _ _ _ h => h) (fun _ h => h) ?_; ((refine tx_gs 176 rfl (fun hc => ?_) (fun hc => ?_) <;> (try simp only [bne_iff_ne, ne_eq, bne_eq_false_iff_eq, decide_eq_decide, true_iff, false_iff, decide_eq_true_eq, decide_eq_false_iff_not, Int.not_lt, Int.not_le, Bool.not_eq_true', Bool.not_eq_false', Decidable.not_not, not_true_eq_false, Int.toNat_natCast] at hc) <;> (first | (exfalso; omega) | refine tx_pg 6 rfl (by kernel_rfl) rfl rfl (y_move rfl) rfl (fun _ _ _ h => h) (fun _ h => h) ?_)))
                                      all_goals (refine tx_pg 7 rfl (by kernel_rfl) rfl rfl (y_move rfl) rfl (fun _ _ _ h => h) (fun _ h => h) ?_); refine tx_pg 8 rfl (by kernel_rfl) rfl rfl (y_index rfl rfl (by omega) eR1) rfl (fun _ _ _ h => h) (fun _ h => h) ?_; ((refine tx_qg 9 rfl (by kernel_rfl) rfl rfl (y_load1o (v := vi (r.getD n 0)) rfl (fun w' hw' => by rw [show Int.toNat (n : Int) * 1 = n from by omega]; exact slV_at (hrd.fr (hw'.fr (w0 := y4.2) (S := []) (MI.m (by repeat constructor)))) eR1 (by omega))) rfl (fun _ _ _ h => h) (fun _ h => h) ?_))
                                      all_goals (refine tx_pg 10 rfl (by kernel_rfl) rfl rfl (y_move rfl) rfl (fun _ _ _ h => h) (fun _ h => h) ?_); refine tx_qg 11 rfl (by kernel_rfl) rfl rfl (y_len rfl) rfl (fun _ _ _ h => h) (fun _ h => h) ?_; refine tx_pg 12 rfl (by kernel_rfl) rfl rfl (y_geq rfl rfl) rfl (fun _ _ _ h => h) (fun _ h => h) ?_; refine tx_p 13 rfl (by kernel_rfl) (y_pick_f rfl rfl) rfl (fun _ _ _ h => h) (fun _ h => h) ?_; refine tx_p 14 rfl (by kernel_rfl) (y_move rfl) rfl (fun _ _ _ h => h) (fun _ h => h) ?_; ((refine tx_gs 185 rfl (fun hc => ?_) (fun hc => ?_) <;> (try simp only [bne_iff_ne, ne_eq, bne_eq_false_iff_eq, decide_eq_decide, true_iff, false_iff, decide_eq_true_eq, decide_eq_false_iff_not, Int.not_lt, Int.not_le, Bool.not_eq_true', Bool.not_eq_false', Decidable.not_not, not_true_eq_false, Int.toNat_natCast] at hc) <;> (first | (exfalso; omega) | refine tx_pg 15 rfl (by kernel_rfl) rfl rfl (y_move rfl) rfl (fun _ _ _ h => h) (fun _ h => h) ?_)))
                                      all_goals (refine tx_pg 16 rfl (by kernel_rfl) rfl rfl (y_gtr rfl rfl) rfl (fun _ _ _ h => h) (fun _ h => h) ?_); refine tx_pg 17 rfl (by kernel_rfl) rfl rfl (y_move rfl) rfl (fun _ _ _ h => h) (fun _ h => h) ?_; ((refine tx_gs 188 rfl (fun hc => ?_) (fun hc => ?_) <;> (try simp only [bne_iff_ne, ne_eq, bne_eq_false_iff_eq, decide_eq_decide, true_iff, false_iff, decide_eq_true_eq, decide_eq_false_iff_not, Int.not_lt, Int.not_le, Bool.not_eq_true', Bool.not_eq_false', Decidable.not_not, not_true_eq_false, Int.toNat_natCast] at hc) <;> (first | refine tx_sk 18 rfl (by kernel_rfl) rfl rfl rfl rfl (fun _ _ _ h => h) (fun _ h => h) ?_ | refine tx_pg 18 rfl (by kernel_rfl) rfl rfl (y_move rfl) rfl (fun _ _ _ h => h) (fun _ h => h) ?_)))
                                      all_goals (first | refine tx_sk 19 rfl (by kernel_rfl) rfl rfl rfl rfl (fun _ _ _ h => h) (fun _ h => h) ?_ | refine tx_pg 19 rfl (by kernel_rfl) rfl rfl (y_move rfl) rfl (fun _ _ _ h => h) (fun _ h => h) ?_); (first | refine tx_sk 20 rfl (by kernel_rfl) rfl rfl rfl rfl (fun _ _ _ h => h) (fun _ h => h) ?_ | refine tx_pg 20 rfl (by kernel_rfl) rfl rfl (y_index rfl rfl (by omega) eR1) rfl (fun _ _ _ h => h) (fun _ h => h) ?_); ((first | refine tx_sk 21 rfl (by kernel_rfl) rfl rfl rfl rfl (fun _ _ _ h => h) (fun _ h => h) ?_ | refine tx_qg 21 rfl (by kernel_rfl) rfl rfl (y_load1o (v := vi (r.getD n 0)) rfl (fun w' hw' => by rw [show Int.toNat (n : Int) * 1 = n from by omega]; exact slV_at (hrd.fr (hw'.fr (w0 := y4.2) (S := []) (MI.m (by repeat constructor)))) eR1 (by omega))) rfl (fun _ _ _ h => h) (fun _ h => h) ?_))
                                      all_goals (first | refine tx_sk 22 rfl (by kernel_rfl) rfl rfl rfl rfl (fun _ _ _ h => h) (fun _ h => h) ?_ | refine tx_pg 22 rfl (by kernel_rfl) rfl rfl (y_move rfl) rfl (fun _ _ _ h => h) (fun _ h => h) ?_); (first | refine tx_sk 23 rfl (by kernel_rfl) rfl rfl rfl rfl (fun _ _ _ h => h) (fun _ h => h) ?_ | refine tx_pg 23 rfl (by kernel_rfl) rfl rfl (y_move rfl) rfl (fun _ _ _ h => h) (fun _ h => h) ?_); (first | refine tx_sk 24 rfl (by kernel_rfl) rfl rfl rfl rfl (fun _ _ _ h => h) (fun _ h => h) ?_ | refine tx_pg 24 rfl (by kernel_rfl) rfl rfl (y_sub rfl rfl (by omega)) rfl (fun _ _ _ h => h) (fun _ h => h) ?_); (first | refine tx_sk 25 rfl (by kernel_rfl) rfl rfl rfl rfl (fun _ _ _ h => h) (fun _ h => h) ?_ | refine tx_pg 25 rfl (by kernel_rfl) rfl rfl (y_index rfl rfl (by omega) eR1) rfl (fun _ _ _ h => h) (fun _ h => h) ?_); ((first | refine tx_sk 26 rfl (by kernel_rfl) rfl rfl rfl rfl (fun _ _ _ h => h) (fun _ h => h) ?_ | refine tx_qg 26 rfl (by kernel_rfl) rfl rfl (y_load1o (v := vi (r.getD (n - 1) 0)) rfl (fun w' hw' => by rw [show Int.toNat ((n : Int) - 1) * 1 = n - 1 from by omega]; exact slV_at (hrd.fr (hw'.fr (w0 := y4.2) (S := []) (MI.m (by repeat constructor)))) eR1 (by omega))) rfl (fun _ _ _ h => h) (fun _ h => h) ?_))
                                      all_goals (first | refine tx_sk 27 rfl (by kernel_rfl) rfl rfl rfl rfl (fun _ _ _ h => h) (fun _ h => h) ?_ | refine tx_pg 27 rfl (by kernel_rfl) rfl rfl (y_leq rfl rfl) rfl (fun _ _ _ h => h) (fun _ h => h) ?_); (first | refine tx_pg 28 rfl (by kernel_rfl) rfl rfl (y_pick_t rfl rfl) rfl (fun _ _ _ h => h) (fun _ h => h) ?_ | refine tx_pg 28 rfl (by kernel_rfl) rfl rfl (y_pick_f rfl rfl) rfl (fun _ _ _ h => h) (fun _ h => h) ?_); refine tx_p 29 rfl (by kernel_rfl) (y_pick_f rfl rfl) rfl (fun _ _ _ h => h) (fun _ h => h) ?_; refine tx_done (by kernel_rfl) ?_; ((refine hK33 ?_; try (clear hK33; clear K33)))
                                      all_goals (
                                       refine tc_cond rfl (fun hc => ?_) (fun hc => ?_)
                                       · try simp only [bne_iff_ne, ne_eq, bne_eq_false_iff_eq, decide_eq_decide, true_iff, false_iff, decide_eq_true_eq, decide_eq_false_iff_not, Int.not_lt, Int.not_le, Bool.not_eq_true', Bool.not_eq_false', Decidable.not_not, not_true_eq_false, Int.toNat_natCast] at hc
                                         all_goals ((first | (exfalso; with_reducible exact bft hc) | (exfalso; omega)))
                                       · try simp only [bne_iff_ne, ne_eq, bne_eq_false_iff_eq, decide_eq_decide, true_iff, false_iff, decide_eq_true_eq, decide_eq_false_iff_not, Int.not_lt, Int.not_le, Bool.not_eq_true', Bool.not_eq_false', Decidable.not_not, not_true_eq_false, Int.toNat_natCast] at hc
                                         all_goals refine tc_skip ?_; ((refine hK32 ?_; try (clear hK32; clear K32)))
                                         all_goals refine tc_seq fun K35 hK35 => ?_; refine tc_region ?_; refine tl_q (y_move rfl) rfl ?_; refine tl_q (y_move rfl) rfl ?_; refine tl_q (y_move rfl) rfl ?_; refine tl_q (y_index rfl rfl (by omega) eR1) rfl ?_; ((refine tl_q (y_load1o (v := vi (r.getD n 0)) rfl (fun w' hw' => by rw [show Int.toNat (n : Int) * 1 = n from by omega]; exact slV_at (hrd.fr (hw'.fr (w0 := y4.2) (S := []) (MI.m (by repeat constructor)))) eR1 (by omega))) rfl ?_))
                                         all_goals (refine tl_q (y_index rfl rfl (by omega) had') rfl ?_); refine tl_q (y_loadNo (n := 2) (vs := [vi (l.getD (r.getD n 0).toNat (0, 0)).1, vi (l.getD (r.getD n 0).toNat (0, 0)).2]) rfl (fun w' hw' => hcell w' [] (hw'.fr (w0 := w) (S := []) (MI.m (by repeat constructor))) (by simp) (r.getD n 0).toNat (by omega))) rfl ?_; refine tl_e (e_allocN rfl) rfl (fun b24 _ => ?_); ((refine tl_e (e_storeW (cs := #[vi (l.getD (r.getD n 0).toNat (0, 0)).1, vi (l.getD (r.getD n 0).toNat (0, 0)).2]) rfl rfl (by repeat constructor) (by rfl) (by rfl) (by intro v hv; simp at hv; rcases hv with rfl | rfl <;> rfl)) rfl (fun _ _ => ?_)))
                                         all_goals refine tl_nil ?_; ((refine hK35 ?_; try (clear hK35; clear K35)))
                                         all_goals refine tc_seq fun K36 hK36 => ?_; refine tc_region ?_; refine tl_q (y_loadWf rfl (hl1.at (by repeat constructor)) (MI.m (by repeat constructor)) (by simp) (by rfl)) rfl ?_; refine tl_q (y_field rfl) rfl ?_; refine tl_q (y_load1 rfl (by repeat constructor) (by rfl)) rfl ?_; refine tl_q (y_field rfl) rfl ?_; refine tl_q (y_load1 rfl (by repeat constructor) (by rfl)) rfl ?_; refine tl_q (y_field rfl) rfl ?_; refine tl_q (y_load1 rfl (by repeat constructor) (by rfl)) rfl ?_; refine tl_e (e_callX rfl (.cons rfl (.cons rfl (.cons rfl (.cons rfl .nil)))) (fun w' hw' => (addShown_c t hv l ws r n hoo.1 hoo.2 _ _ _ _ _ w' (hr0.fr (hw'.fr (w0 := w) (S := []) (MI.m (by repeat constructor)))) (hE w' (hw'.fr (w0 := wj) (S := SS) (MI.m (by repeat constructor))))).sepN (w0 := w) hw' (MI.m (by repeat constructor)))) rfl (fun y29 hy29 => ?_); refine tl_q (y_assign rfl) rfl ?_; refine tl_nil ?_; ((refine hK36 ?_; try (clear hK36; clear K36)))
                                         all_goals (
                                          refine tc_join (fun u : Nat × Nat × List Value => 0 + t.tests.length + n + [addX t l ws r n].length ≤ u.2.1 ∧ u.2.2.length = (u.2.1 - (0 + t.tests.length + n + [addX t l ws r n].length)) * 3) (fun u => [(1, .slice ad l.length cd), (2, .slice adw ws.length cpw), (5, ptr b5), (11, vi (n3 % 4)), (12, slV r.length y4.1), (21, ptr b21), (22, ptr b22), (23, vi n), (24, ptr b24)]) (fun u => [(wj, SS), (y4.2, []), (wl1, []), (w, [])]) (fun u => [(u.1, .cells ([] ++ flatT t.tests ++ flatT (addL t l ws r n) ++ flatT [addX t l ws r n] ++ u.2.2).toArray 72 (0, 0)), (b24, .cells #[vi (l.getD (r.getD n 0).toNat (0, 0)).1, vi (l.getD (r.getD n 0).toNat (0, 0)).2] 67 (0, 0)), (bL, .cells ([] ++ flatR t.liquids ++ flatR (dlO l r n) ++ jL).toArray 57 (0, 0)), (b21, tO t (.slice aw t.s.weights.length cw) (.slice ap t.parts.length cp) (.slice (some ⟨bL, 0, none⟩) (0 + t.liquids.length + n) cL) (.slice (some ⟨u.1, 0, none⟩) (0 + t.tests.length + n + [addX t l ws r n].length) u.2.1)), (b22, .cells #[slV t.parts.length pk.1, slV t.liquids.length pk.2] 92 (0, 0))]) ?_ ?_
                                          · skip
                                            all_goals (obtain ⟨bY, oY, eY1⟩ := slV_ad hy29.1.1.1 hap)
                                            all_goals ((have hm1 := Int.emod_nonneg (wordF ws (n + 7)) (show ((addS t l ws r n).length : Int) ≠ 0 by omega); have hm2 := Int.emod_lt_of_pos (wordF ws (n + 7)) (show 0 < ((addS t l ws r n).length : Int) by omega)))
                                            all_goals refine tc_drawS ([(b24, .cells #[vi (l.getD (r.getD n 0).toNat (0, 0)).1, vi (l.getD (r.getD n 0).toNat (0, 0)).2] 67 (0, 0))]) (by kernel_rfl) ?_; refine tx_p 0 rfl (by kernel_rfl) (y_field rfl) rfl (fun _ _ _ h => h) (fun _ h => h.subl (SB.s (by repeat constructor)) (SB.s (by repeat constructor))) ?_; refine tx_p 2 rfl (by kernel_rfl) (y_field rfl) rfl (fun _ _ _ h => h) (fun _ h => h.subl (SB.s (by repeat constructor)) (SB.s (by repeat constructor))) ?_; refine tx_p 5 rfl (by kernel_rfl) (y_field rfl) rfl (fun _ _ _ h => h) (fun _ h => h.subl (SB.s (by repeat constructor)) (SB.s (by repeat constructor))) ?_; refine tx_qS 6 rfl (by kernel_rfl) (y_load1 rfl (by repeat constructor) (by rfl)) rfl (fun _ _ _ h => h) (fun _ h => h.subl (SB.s (by repeat constructor)) (SB.s (by repeat constructor))) ?_; refine tx_p 7 rfl (by kernel_rfl) (y_move rfl) rfl (fun _ _ _ h => h) (fun _ h => h.subl (SB.s (by repeat constructor)) (SB.s (by repeat constructor))) ?_; refine tx_p 8 rfl (by kernel_rfl) (y_move rfl) rfl (fun _ _ _ h => h) (fun _ h => h.subl (SB.s (by repeat constructor)) (SB.s (by repeat constructor))) ?_; refine tx_p 9 rfl (by kernel_rfl) (y_move rfl) rfl (fun _ _ _ h => h) (fun _ h => h.subl (SB.s (by repeat constructor)) (SB.s (by repeat constructor))) ?_; refine tx_p 10 rfl (by kernel_rfl) (y_add rfl rfl (by omega)) rfl (fun _ _ _ h => h) (fun _ h => h.subl (SB.s (by repeat constructor)) (SB.s (by repeat constructor))) ?_; refine tx_p 12 rfl (by kernel_rfl) (y_move rfl) rfl (fun _ _ _ h => h) (fun _ h => h.subl (SB.s (by repeat constructor)) (SB.s (by repeat constructor))) ?_; refine tx_qS 13 rfl (by kernel_rfl) (y_len rfl) rfl (fun _ _ _ h => h) (fun _ h => h.subl (SB.s (by repeat constructor)) (SB.s (by repeat constructor))) ?_
                                            all_goals (
                                             refine tx_three 1 3 11 (by kernel_rfl) ?_ ?_ ?_
                                             rotate_left 2
                                             focus (
                                              (refine to_e rfl rfl (e_callV rfl (.cons rfl (.cons rfl .nil)) (fun w' hw' => word9_c ws hws hwl (n + 7) (by omega) _ w' (hWr w' (hw'.fr (w0 := w) (S := []) (MI.m (by repeat constructor)))))) (.inr ⟨fun _ _ h => h.subl (SB.s (by repeat constructor)) (SB.s (by repeat constructor)), fun _ h => h⟩) (fun _ _ => ?_))
                                              all_goals (refine tx_p 14 rfl (by kernel_rfl) (y_rem rfl rfl (by omega) (by omega)) rfl (fun _ _ _ h => h) (fun _ h => h.subl (SB.s (by repeat constructor)) (SB.s (by repeat constructor))) ?_); refine tx_p 15 rfl (by kernel_rfl) (y_index rfl rfl (by omega) eY1) rfl (fun _ _ _ h => h) (fun _ h => h.subl (SB.s (by repeat constructor)) (SB.s (by repeat constructor))) ?_; ((refine tx_qS 16 rfl (by kernel_rfl) (y_load1o (v := vi ((addS t l ws r n).getD (wordF ws (n + 7) % ((addS t l ws r n).length : Int)).toNat 0)) rfl (fun w' hw' => by rw [Nat.mul_one]; exact slV_at (Reads.frS hy29.1.1.1 (hw'.fr (w0 := y29.2) (S := _) (MI.m (by repeat constructor))) hy29.1.2) eY1 (by omega))) rfl (fun _ _ _ h => h) (fun _ h => h.subl (SB.s (by repeat constructor)) (SB.s (by repeat constructor))) ?_))
                                              all_goals (
                                               refine tx_pair 1 3 (by kernel_rfl) ?_ ?_
                                               rotate_left
                                               focus (
                                                (refine to_e rfl rfl (e_y rfl (y_load1 rfl (by repeat constructor) (by rfl))) (.inr ⟨fun _ _ h => h.subl (SB.s (by repeat constructor)) (SB.s (by repeat constructor)), fun _ h => h⟩) (fun _ _ => ?_))
                                                all_goals refine tx_qS 4 rfl (by kernel_rfl) (y_len rfl) rfl (fun _ _ _ h => h) (fun _ h => h.subl (SB.s (by repeat constructor)) (SB.s (by repeat constructor))) ?_; refine tx_p 17 rfl (by kernel_rfl) (y_build_g (by repeat constructor)) rfl (fun _ _ _ h => h) (fun _ h => h.subl (SB.s (by repeat constructor)) (SB.s (by repeat constructor))) ?_
                                                all_goals (
                                                 refine tx_pair 1 18 (by kernel_rfl) ?_ ?_
                                                 rotate_left
                                                 focus (
                                                  (refine to_e rfl rfl (e_bslice31 rfl rfl) (.inr ⟨fun _ _ h => h.subl (SB.s (by repeat constructor)) (SB.s (by repeat constructor)), fun _ h => h⟩) (fun _ _ => ?_))
                                                  all_goals (refine tx_single 1 (by kernel_rfl) (to_e rfl rfl (e_y rfl (y_load1 rfl (by repeat constructor) (by rfl))) (.inr ⟨fun _ _ h => h.subl (SB.s (by repeat constructor)) (SB.s (by repeat constructor)), fun _ h => h⟩) (fun _ _ => ?_))); ((refine tx_single 19 (by kernel_rfl) (to_e rfl rfl (e_append_own (old := [] ++ flatT t.tests ++ flatT (addL t l ws r n)) (junk := jT) rfl rfl rfl (by repeat constructor) (by rw [List.nil_append, List.length_append, flatT_len, flatT_len, addL_len]; omega) hoT.2 hoT.1 (fun w' hw' => RdT.own0 (xs := [addX t l ws r n]) hw' (by repeat constructor)) (flatT_one _) (by simp only [List.length_cons, List.length_nil]; omega) rfl) (.inr ⟨fun _ _ h => h.subl (SB.s (by repeat constructor)) (SB.s (by repeat constructor)), fun _ h => h⟩) (fun u hu => ?_))))
                                                  all_goals refine tx_p 20 rfl (by kernel_rfl) (y_field rfl) rfl (fun _ _ _ h => h) (fun _ h => h.subl (SB.s (by repeat constructor)) (SB.s (by repeat constructor))) ?_; refine tx_single 21 (by kernel_rfl) (to_e (S' := HG [] []) rfl rfl (e_store1 rfl rfl (by repeat constructor) (by repeat constructor) (by rfl) (by rfl)) (.inl (by kernel_rfl)) (fun _ _ => ?_))
                                                  all_goals refine tx_done (by kernel_rfl) ?_)
                                                 rotate_right
                                                 focus (
                                                  (refine to_e rfl rfl (e_y rfl (y_load1 rfl (by repeat constructor) (by rfl))) (.inr ⟨fun _ _ h => h.subl (SB.s (by repeat constructor)) (SB.s (by repeat constructor)), fun _ h => h⟩) (fun _ _ => ?_))
                                                  all_goals (refine tx_single 18 (by kernel_rfl) (to_e rfl rfl (e_bslice31 rfl rfl) (.inr ⟨fun _ _ h => h.subl (SB.s (by repeat constructor)) (SB.s (by repeat constructor)), fun _ h => h⟩) (fun _ _ => ?_))); ((refine tx_single 19 (by kernel_rfl) (to_e rfl rfl (e_append_own (old := [] ++ flatT t.tests ++ flatT (addL t l ws r n)) (junk := jT) rfl rfl rfl (by repeat constructor) (by rw [List.nil_append, List.length_append, flatT_len, flatT_len, addL_len]; omega) hoT.2 hoT.1 (fun w' hw' => RdT.own0 (xs := [addX t l ws r n]) hw' (by repeat constructor)) (flatT_one _) (by simp only [List.length_cons, List.length_nil]; omega) rfl) (.inr ⟨fun _ _ h => h.subl (SB.s (by repeat constructor)) (SB.s (by repeat constructor)), fun _ h => h⟩) (fun u hu => ?_))))
                                                  all_goals refine tx_p 20 rfl (by kernel_rfl) (y_field rfl) rfl (fun _ _ _ h => h) (fun _ h => h.subl (SB.s (by repeat constructor)) (SB.s (by repeat constructor))) ?_; refine tx_single 21 (by kernel_rfl) (to_e (S' := HG [] []) rfl rfl (e_store1 rfl rfl (by repeat constructor) (by repeat constructor) (by rfl) (by rfl)) (.inl (by kernel_rfl)) (fun _ _ => ?_))
                                                  all_goals refine tx_done (by kernel_rfl) ?_)))
                                               rotate_right
                                               focus (
                                                (refine to_e rfl rfl (e_y rfl (y_load1 rfl (by repeat constructor) (by rfl))) (.inr ⟨fun _ _ h => h.subl (SB.s (by repeat constructor)) (SB.s (by repeat constructor)), fun _ h => h⟩) (fun _ _ => ?_))
                                                all_goals (refine tx_single 3 (by kernel_rfl) (to_e rfl rfl (e_y rfl (y_load1 rfl (by repeat constructor) (by rfl))) (.inr ⟨fun _ _ h => h.subl (SB.s (by repeat constructor)) (SB.s (by repeat constructor)), fun _ h => h⟩) (fun _ _ => ?_))); refine tx_qS 4 rfl (by kernel_rfl) (y_len rfl) rfl (fun _ _ _ h => h) (fun _ h => h.subl (SB.s (by repeat constructor)) (SB.s (by repeat constructor))) ?_; refine tx_p 17 rfl (by kernel_rfl) (y_build_g (by repeat constructor)) rfl (fun _ _ _ h => h) (fun _ h => h.subl (SB.s (by repeat constructor)) (SB.s (by repeat constructor))) ?_; refine tx_single 18 (by kernel_rfl) (to_e rfl rfl (e_bslice31 rfl rfl) (.inr ⟨fun _ _ h => h.subl (SB.s (by repeat constructor)) (SB.s (by repeat constructor)), fun _ h => h⟩) (fun _ _ => ?_)); ((refine tx_single 19 (by kernel_rfl) (to_e rfl rfl (e_append_own (old := [] ++ flatT t.tests ++ flatT (addL t l ws r n)) (junk := jT) rfl rfl rfl (by repeat constructor) (by rw [List.nil_append, List.length_append, flatT_len, flatT_len, addL_len]; omega) hoT.2 hoT.1 (fun w' hw' => RdT.own0 (xs := [addX t l ws r n]) hw' (by repeat constructor)) (flatT_one _) (by simp only [List.length_cons, List.length_nil]; omega) rfl) (.inr ⟨fun _ _ h => h.subl (SB.s (by repeat constructor)) (SB.s (by repeat constructor)), fun _ h => h⟩) (fun u hu => ?_))))
                                                all_goals refine tx_p 20 rfl (by kernel_rfl) (y_field rfl) rfl (fun _ _ _ h => h) (fun _ h => h.subl (SB.s (by repeat constructor)) (SB.s (by repeat constructor))) ?_; refine tx_single 21 (by kernel_rfl) (to_e (S' := HG [] []) rfl rfl (e_store1 rfl rfl (by repeat constructor) (by repeat constructor) (by rfl) (by rfl)) (.inl (by kernel_rfl)) (fun _ _ => ?_))
                                                all_goals refine tx_done (by kernel_rfl) ?_)))
                                             rotate_right
                                             focus (
                                              (refine to_e rfl rfl (e_y rfl (y_load1 rfl (by repeat constructor) (by rfl))) (.inr ⟨fun _ _ h => h.subl (SB.s (by repeat constructor)) (SB.s (by repeat constructor)), fun _ h => h⟩) (fun _ _ => ?_))
                                              all_goals refine tx_qS 4 rfl (by kernel_rfl) (y_len rfl) rfl (fun _ _ _ h => h) (fun _ h => h.subl (SB.s (by repeat constructor)) (SB.s (by repeat constructor))) ?_
                                              all_goals (
                                               refine tx_pair 1 11 (by kernel_rfl) ?_ ?_
                                               rotate_left
                                               focus (
                                                (refine to_e rfl rfl (e_callV rfl (.cons rfl (.cons rfl .nil)) (fun w' hw' => word9_c ws hws hwl (n + 7) (by omega) _ w' (hWr w' (hw'.fr (w0 := w) (S := []) (MI.m (by repeat constructor)))))) (.inr ⟨fun _ _ h => h.subl (SB.s (by repeat constructor)) (SB.s (by repeat constructor)), fun _ h => h⟩) (fun _ _ => ?_))
                                                all_goals (refine tx_p 14 rfl (by kernel_rfl) (y_rem rfl rfl (by omega) (by omega)) rfl (fun _ _ _ h => h) (fun _ h => h.subl (SB.s (by repeat constructor)) (SB.s (by repeat constructor))) ?_); refine tx_p 15 rfl (by kernel_rfl) (y_index rfl rfl (by omega) eY1) rfl (fun _ _ _ h => h) (fun _ h => h.subl (SB.s (by repeat constructor)) (SB.s (by repeat constructor))) ?_; ((refine tx_qS 16 rfl (by kernel_rfl) (y_load1o (v := vi ((addS t l ws r n).getD (wordF ws (n + 7) % ((addS t l ws r n).length : Int)).toNat 0)) rfl (fun w' hw' => by rw [Nat.mul_one]; exact slV_at (Reads.frS hy29.1.1.1 (hw'.fr (w0 := y29.2) (S := _) (MI.m (by repeat constructor))) hy29.1.2) eY1 (by omega))) rfl (fun _ _ _ h => h) (fun _ h => h.subl (SB.s (by repeat constructor)) (SB.s (by repeat constructor))) ?_))
                                                all_goals refine tx_p 17 rfl (by kernel_rfl) (y_build_g (by repeat constructor)) rfl (fun _ _ _ h => h) (fun _ h => h.subl (SB.s (by repeat constructor)) (SB.s (by repeat constructor))) ?_
                                                all_goals (
                                                 refine tx_pair 1 18 (by kernel_rfl) ?_ ?_
                                                 rotate_left
                                                 focus (
                                                  (refine to_e rfl rfl (e_bslice31 rfl rfl) (.inr ⟨fun _ _ h => h.subl (SB.s (by repeat constructor)) (SB.s (by repeat constructor)), fun _ h => h⟩) (fun _ _ => ?_))
                                                  all_goals (refine tx_single 1 (by kernel_rfl) (to_e rfl rfl (e_y rfl (y_load1 rfl (by repeat constructor) (by rfl))) (.inr ⟨fun _ _ h => h.subl (SB.s (by repeat constructor)) (SB.s (by repeat constructor)), fun _ h => h⟩) (fun _ _ => ?_))); ((refine tx_single 19 (by kernel_rfl) (to_e rfl rfl (e_append_own (old := [] ++ flatT t.tests ++ flatT (addL t l ws r n)) (junk := jT) rfl rfl rfl (by repeat constructor) (by rw [List.nil_append, List.length_append, flatT_len, flatT_len, addL_len]; omega) hoT.2 hoT.1 (fun w' hw' => RdT.own0 (xs := [addX t l ws r n]) hw' (by repeat constructor)) (flatT_one _) (by simp only [List.length_cons, List.length_nil]; omega) rfl) (.inr ⟨fun _ _ h => h.subl (SB.s (by repeat constructor)) (SB.s (by repeat constructor)), fun _ h => h⟩) (fun u hu => ?_))))
                                                  all_goals refine tx_p 20 rfl (by kernel_rfl) (y_field rfl) rfl (fun _ _ _ h => h) (fun _ h => h.subl (SB.s (by repeat constructor)) (SB.s (by repeat constructor))) ?_; refine tx_single 21 (by kernel_rfl) (to_e (S' := HG [] []) rfl rfl (e_store1 rfl rfl (by repeat constructor) (by repeat constructor) (by rfl) (by rfl)) (.inl (by kernel_rfl)) (fun _ _ => ?_))
                                                  all_goals refine tx_done (by kernel_rfl) ?_)
                                                 rotate_right
                                                 focus (
                                                  (refine to_e rfl rfl (e_y rfl (y_load1 rfl (by repeat constructor) (by rfl))) (.inr ⟨fun _ _ h => h.subl (SB.s (by repeat constructor)) (SB.s (by repeat constructor)), fun _ h => h⟩) (fun _ _ => ?_))
                                                  all_goals (refine tx_single 18 (by kernel_rfl) (to_e rfl rfl (e_bslice31 rfl rfl) (.inr ⟨fun _ _ h => h.subl (SB.s (by repeat constructor)) (SB.s (by repeat constructor)), fun _ h => h⟩) (fun _ _ => ?_))); ((refine tx_single 19 (by kernel_rfl) (to_e rfl rfl (e_append_own (old := [] ++ flatT t.tests ++ flatT (addL t l ws r n)) (junk := jT) rfl rfl rfl (by repeat constructor) (by rw [List.nil_append, List.length_append, flatT_len, flatT_len, addL_len]; omega) hoT.2 hoT.1 (fun w' hw' => RdT.own0 (xs := [addX t l ws r n]) hw' (by repeat constructor)) (flatT_one _) (by simp only [List.length_cons, List.length_nil]; omega) rfl) (.inr ⟨fun _ _ h => h.subl (SB.s (by repeat constructor)) (SB.s (by repeat constructor)), fun _ h => h⟩) (fun u hu => ?_))))
                                                  all_goals refine tx_p 20 rfl (by kernel_rfl) (y_field rfl) rfl (fun _ _ _ h => h) (fun _ h => h.subl (SB.s (by repeat constructor)) (SB.s (by repeat constructor))) ?_; refine tx_single 21 (by kernel_rfl) (to_e (S' := HG [] []) rfl rfl (e_store1 rfl rfl (by repeat constructor) (by repeat constructor) (by rfl) (by rfl)) (.inl (by kernel_rfl)) (fun _ _ => ?_))
                                                  all_goals refine tx_done (by kernel_rfl) ?_)))
                                               rotate_right
                                               focus (
                                                (refine to_e rfl rfl (e_y rfl (y_load1 rfl (by repeat constructor) (by rfl))) (.inr ⟨fun _ _ h => h.subl (SB.s (by repeat constructor)) (SB.s (by repeat constructor)), fun _ h => h⟩) (fun _ _ => ?_))
                                                all_goals refine tx_single 11 (by kernel_rfl) (to_e rfl rfl (e_callV rfl (.cons rfl (.cons rfl .nil)) (fun w' hw' => word9_c ws hws hwl (n + 7) (by omega) _ w' (hWr w' (hw'.fr (w0 := w) (S := []) (MI.m (by repeat constructor)))))) (.inr ⟨fun _ _ h => h.subl (SB.s (by repeat constructor)) (SB.s (by repeat constructor)), fun _ h => h⟩) (fun _ _ => ?_)); refine tx_p 14 rfl (by kernel_rfl) (y_rem rfl rfl (by omega) (by omega)) rfl (fun _ _ _ h => h) (fun _ h => h.subl (SB.s (by repeat constructor)) (SB.s (by repeat constructor))) ?_; refine tx_p 15 rfl (by kernel_rfl) (y_index rfl rfl (by omega) eY1) rfl (fun _ _ _ h => h) (fun _ h => h.subl (SB.s (by repeat constructor)) (SB.s (by repeat constructor))) ?_; ((refine tx_qS 16 rfl (by kernel_rfl) (y_load1o (v := vi ((addS t l ws r n).getD (wordF ws (n + 7) % ((addS t l ws r n).length : Int)).toNat 0)) rfl (fun w' hw' => by rw [Nat.mul_one]; exact slV_at (Reads.frS hy29.1.1.1 (hw'.fr (w0 := y29.2) (S := _) (MI.m (by repeat constructor))) hy29.1.2) eY1 (by omega))) rfl (fun _ _ _ h => h) (fun _ h => h.subl (SB.s (by repeat constructor)) (SB.s (by repeat constructor))) ?_))
                                                all_goals refine tx_p 17 rfl (by kernel_rfl) (y_build_g (by repeat constructor)) rfl (fun _ _ _ h => h) (fun _ h => h.subl (SB.s (by repeat constructor)) (SB.s (by repeat constructor))) ?_; refine tx_single 18 (by kernel_rfl) (to_e rfl rfl (e_bslice31 rfl rfl) (.inr ⟨fun _ _ h => h.subl (SB.s (by repeat constructor)) (SB.s (by repeat constructor)), fun _ h => h⟩) (fun _ _ => ?_)); ((refine tx_single 19 (by kernel_rfl) (to_e rfl rfl (e_append_own (old := [] ++ flatT t.tests ++ flatT (addL t l ws r n)) (junk := jT) rfl rfl rfl (by repeat constructor) (by rw [List.nil_append, List.length_append, flatT_len, flatT_len, addL_len]; omega) hoT.2 hoT.1 (fun w' hw' => RdT.own0 (xs := [addX t l ws r n]) hw' (by repeat constructor)) (flatT_one _) (by simp only [List.length_cons, List.length_nil]; omega) rfl) (.inr ⟨fun _ _ h => h.subl (SB.s (by repeat constructor)) (SB.s (by repeat constructor)), fun _ h => h⟩) (fun u hu => ?_))))
                                                all_goals refine tx_p 20 rfl (by kernel_rfl) (y_field rfl) rfl (fun _ _ _ h => h) (fun _ h => h.subl (SB.s (by repeat constructor)) (SB.s (by repeat constructor))) ?_; refine tx_single 21 (by kernel_rfl) (to_e (S' := HG [] []) rfl rfl (e_store1 rfl rfl (by repeat constructor) (by repeat constructor) (by rfl) (by rfl)) (.inl (by kernel_rfl)) (fun _ _ => ?_))
                                                all_goals refine tx_done (by kernel_rfl) ?_)))
                                             rotate_right
                                             focus (
                                              (refine to_e rfl rfl (e_y rfl (y_load1 rfl (by repeat constructor) (by rfl))) (.inr ⟨fun _ _ h => h.subl (SB.s (by repeat constructor)) (SB.s (by repeat constructor)), fun _ h => h⟩) (fun _ _ => ?_))
                                              all_goals (
                                               refine tx_pair 3 11 (by kernel_rfl) ?_ ?_
                                               rotate_left
                                               focus (
                                                (refine to_e rfl rfl (e_callV rfl (.cons rfl (.cons rfl .nil)) (fun w' hw' => word9_c ws hws hwl (n + 7) (by omega) _ w' (hWr w' (hw'.fr (w0 := w) (S := []) (MI.m (by repeat constructor)))))) (.inr ⟨fun _ _ h => h.subl (SB.s (by repeat constructor)) (SB.s (by repeat constructor)), fun _ h => h⟩) (fun _ _ => ?_))
                                                all_goals (refine tx_p 14 rfl (by kernel_rfl) (y_rem rfl rfl (by omega) (by omega)) rfl (fun _ _ _ h => h) (fun _ h => h.subl (SB.s (by repeat constructor)) (SB.s (by repeat constructor))) ?_); refine tx_p 15 rfl (by kernel_rfl) (y_index rfl rfl (by omega) eY1) rfl (fun _ _ _ h => h) (fun _ h => h.subl (SB.s (by repeat constructor)) (SB.s (by repeat constructor))) ?_; ((refine tx_qS 16 rfl (by kernel_rfl) (y_load1o (v := vi ((addS t l ws r n).getD (wordF ws (n + 7) % ((addS t l ws r n).length : Int)).toNat 0)) rfl (fun w' hw' => by rw [Nat.mul_one]; exact slV_at (Reads.frS hy29.1.1.1 (hw'.fr (w0 := y29.2) (S := _) (MI.m (by repeat constructor))) hy29.1.2) eY1 (by omega))) rfl (fun _ _ _ h => h) (fun _ h => h.subl (SB.s (by repeat constructor)) (SB.s (by repeat constructor))) ?_))
                                                all_goals (refine tx_single 3 (by kernel_rfl) (to_e rfl rfl (e_y rfl (y_load1 rfl (by repeat constructor) (by rfl))) (.inr ⟨fun _ _ h => h.subl (SB.s (by repeat constructor)) (SB.s (by repeat constructor)), fun _ h => h⟩) (fun _ _ => ?_))); refine tx_qS 4 rfl (by kernel_rfl) (y_len rfl) rfl (fun _ _ _ h => h) (fun _ h => h.subl (SB.s (by repeat constructor)) (SB.s (by repeat constructor))) ?_; refine tx_p 17 rfl (by kernel_rfl) (y_build_g (by repeat constructor)) rfl (fun _ _ _ h => h) (fun _ h => h.subl (SB.s (by repeat constructor)) (SB.s (by repeat constructor))) ?_; refine tx_single 18 (by kernel_rfl) (to_e rfl rfl (e_bslice31 rfl rfl) (.inr ⟨fun _ _ h => h.subl (SB.s (by repeat constructor)) (SB.s (by repeat constructor)), fun _ h => h⟩) (fun _ _ => ?_)); ((refine tx_single 19 (by kernel_rfl) (to_e rfl rfl (e_append_own (old := [] ++ flatT t.tests ++ flatT (addL t l ws r n)) (junk := jT) rfl rfl rfl (by repeat constructor) (by rw [List.nil_append, List.length_append, flatT_len, flatT_len, addL_len]; omega) hoT.2 hoT.1 (fun w' hw' => RdT.own0 (xs := [addX t l ws r n]) hw' (by repeat constructor)) (flatT_one _) (by simp only [List.length_cons, List.length_nil]; omega) rfl) (.inr ⟨fun _ _ h => h.subl (SB.s (by repeat constructor)) (SB.s (by repeat constructor)), fun _ h => h⟩) (fun u hu => ?_))))
                                                all_goals refine tx_p 20 rfl (by kernel_rfl) (y_field rfl) rfl (fun _ _ _ h => h) (fun _ h => h.subl (SB.s (by repeat constructor)) (SB.s (by repeat constructor))) ?_; refine tx_single 21 (by kernel_rfl) (to_e (S' := HG [] []) rfl rfl (e_store1 rfl rfl (by repeat constructor) (by repeat constructor) (by rfl) (by rfl)) (.inl (by kernel_rfl)) (fun _ _ => ?_))
                                                all_goals refine tx_done (by kernel_rfl) ?_)
                                               rotate_right
                                               focus (
                                                (refine to_e rfl rfl (e_y rfl (y_load1 rfl (by repeat constructor) (by rfl))) (.inr ⟨fun _ _ h => h.subl (SB.s (by repeat constructor)) (SB.s (by repeat constructor)), fun _ h => h⟩) (fun _ _ => ?_))
                                                all_goals refine tx_qS 4 rfl (by kernel_rfl) (y_len rfl) rfl (fun _ _ _ h => h) (fun _ h => h.subl (SB.s (by repeat constructor)) (SB.s (by repeat constructor))) ?_; refine tx_single 11 (by kernel_rfl) (to_e rfl rfl (e_callV rfl (.cons rfl (.cons rfl .nil)) (fun w' hw' => word9_c ws hws hwl (n + 7) (by omega) _ w' (hWr w' (hw'.fr (w0 := w) (S := []) (MI.m (by repeat constructor)))))) (.inr ⟨fun _ _ h => h.subl (SB.s (by repeat constructor)) (SB.s (by repeat constructor)), fun _ h => h⟩) (fun _ _ => ?_)); refine tx_p 14 rfl (by kernel_rfl) (y_rem rfl rfl (by omega) (by omega)) rfl (fun _ _ _ h => h) (fun _ h => h.subl (SB.s (by repeat constructor)) (SB.s (by repeat constructor))) ?_; refine tx_p 15 rfl (by kernel_rfl) (y_index rfl rfl (by omega) eY1) rfl (fun _ _ _ h => h) (fun _ h => h.subl (SB.s (by repeat constructor)) (SB.s (by repeat constructor))) ?_; ((refine tx_qS 16 rfl (by kernel_rfl) (y_load1o (v := vi ((addS t l ws r n).getD (wordF ws (n + 7) % ((addS t l ws r n).length : Int)).toNat 0)) rfl (fun w' hw' => by rw [Nat.mul_one]; exact slV_at (Reads.frS hy29.1.1.1 (hw'.fr (w0 := y29.2) (S := _) (MI.m (by repeat constructor))) hy29.1.2) eY1 (by omega))) rfl (fun _ _ _ h => h) (fun _ h => h.subl (SB.s (by repeat constructor)) (SB.s (by repeat constructor))) ?_))
                                                all_goals refine tx_p 17 rfl (by kernel_rfl) (y_build_g (by repeat constructor)) rfl (fun _ _ _ h => h) (fun _ h => h.subl (SB.s (by repeat constructor)) (SB.s (by repeat constructor))) ?_; refine tx_single 18 (by kernel_rfl) (to_e rfl rfl (e_bslice31 rfl rfl) (.inr ⟨fun _ _ h => h.subl (SB.s (by repeat constructor)) (SB.s (by repeat constructor)), fun _ h => h⟩) (fun _ _ => ?_)); ((refine tx_single 19 (by kernel_rfl) (to_e rfl rfl (e_append_own (old := [] ++ flatT t.tests ++ flatT (addL t l ws r n)) (junk := jT) rfl rfl rfl (by repeat constructor) (by rw [List.nil_append, List.length_append, flatT_len, flatT_len, addL_len]; omega) hoT.2 hoT.1 (fun w' hw' => RdT.own0 (xs := [addX t l ws r n]) hw' (by repeat constructor)) (flatT_one _) (by simp only [List.length_cons, List.length_nil]; omega) rfl) (.inr ⟨fun _ _ h => h.subl (SB.s (by repeat constructor)) (SB.s (by repeat constructor)), fun _ h => h⟩) (fun u hu => ?_))))
                                                all_goals refine tx_p 20 rfl (by kernel_rfl) (y_field rfl) rfl (fun _ _ _ h => h) (fun _ h => h.subl (SB.s (by repeat constructor)) (SB.s (by repeat constructor))) ?_; refine tx_single 21 (by kernel_rfl) (to_e (S' := HG [] []) rfl rfl (e_store1 rfl rfl (by repeat constructor) (by repeat constructor) (by rfl) (by rfl)) (.inl (by kernel_rfl)) (fun _ _ => ?_))
                                                all_goals refine tx_done (by kernel_rfl) ?_))))
                                            all_goals (
                                             exact tk_start u hu (.cons rfl (.cons rfl (.cons rfl (.cons rfl (.cons rfl (.cons rfl (.cons rfl (.cons rfl (.cons rfl .nil))))))))) (fun _ h => h.subl (SB.s (by repeat constructor)) (SB.s (by repeat constructor))))
                                          · rintro u hu
                                            all_goals refine tc_region ?_; refine tl_q (y_field rfl) rfl ?_; refine tl_q (y_load1 rfl (by repeat constructor) (by rfl)) rfl ?_; refine tl_q (y_field rfl) rfl ?_; refine tl_q (y_load1 rfl (by repeat constructor) (by rfl)) rfl ?_; refine tl_q (y_field rfl) rfl ?_; refine tl_q (y_load1 rfl (by repeat constructor) (by rfl)) rfl ?_; refine tl_q (y_build_g (by repeat constructor)) rfl ?_; ((refine tl_e (e_bslice rfl (by (repeat (first | exact .nil | apply PV.two rfl)); done) rfl rfl) rfl (fun _ _ => ?_)))
                                            all_goals ((refine tl_e (e_append_own (old := [] ++ flatR t.liquids ++ flatR (dlO l r n)) (junk := jL) rfl rfl rfl (by repeat constructor) (by rw [List.nil_append, List.length_append, flatR_len, flatR_len, dlO_len (by omega)]; omega) hoL.2 hoL.1 (fun w' hw' => RdR.own0 (xs := [((l.getD (r.getD n 0).toNat (0, 0)).2, (l.getD (r.getD n 0).toNat (0, 0)).2)]) hw' (by repeat constructor)) (flatR_one _) (by simp only [List.length_cons, List.length_nil]; omega) rfl) rfl (fun v hv' => ?_)))
                                            all_goals refine tl_q (y_field rfl) rfl ?_; refine tl_e (e_store1 rfl rfl (by repeat constructor) (by repeat constructor) (by rfl) (by rfl)) rfl (fun _ _ => ?_); refine tl_nil ?_; ((refine hK31 ?_; try (clear hK31; clear K31)))
                                            all_goals refine tc_region ?_; refine tl_q (y_move rfl) rfl ?_; refine tl_q (y_add rfl rfl (by omega)) rfl ?_; refine tl_q (y_assign rfl) rfl ?_; refine tl_nil ?_
                                            all_goals (
                                             have hs1 := addL_succ t l ws r n
                                             have hs2 := dlO_succ (l := l) (r := r) (n := n) (by omega)
                                             refine tk_round (n + 1, (v.1, v.2.1, v.2.2), (u.1, u.2.1, u.2.2)) ⟨by dsimp only; omega, by dsimp only; simp only [List.length_cons, List.length_nil] at hv'; omega, by dsimp only; simp only [List.length_cons, List.length_nil] at hu; omega⟩ (by dsimp only; omega) (.cons rfl (.cons rfl (.cons rfl (.cons rfl (.cons rfl (.cons rfl (.cons rfl (.cons rfl .nil)))))))) (fun _ h => ?_)
                                             dsimp only
                                             rw [hs1, hs2, flatT_append, flatR_append, ← List.append_assoc, ← List.append_assoc]
                                             exact (h.subl (SB.s (by repeat constructor)) (SB.s (by repeat constructor))).sw)))
                                    · try simp only [bne_iff_ne, ne_eq, bne_eq_false_iff_eq, decide_eq_decide, true_iff, false_iff, decide_eq_true_eq, decide_eq_false_iff_not, Int.not_lt, Int.not_le, Bool.not_eq_true', Bool.not_eq_false', Decidable.not_not, not_true_eq_false, Int.toNat_natCast] at hc
                                      all_goals refine tc_exit ?_; ((refine hK27 ?_; try (clear hK27; clear K27)))
                                      all_goals refine tc_seq fun K37 hK37 => ?_; refine tc_seq fun K38 hK38 => ?_; refine tc_lay ([]) (SB.s .nil) (fun wl32 hl32 => ?_); (have hnr : n = r.length := by omega)
                                      all_goals subst hnr
                                      all_goals (have hlq : (t.liquids ++ dlO l r r.length).length = 0 + t.liquids.length + r.length := by rw [List.length_append, dlO_len (Nat.le_refl _), Nat.zero_add])
                                      all_goals (have htq : (t.tests ++ addL t l ws r r.length).length = 0 + t.tests.length + r.length := by rw [List.length_append, addL_len, Nat.zero_add])
                                      all_goals ((have hru : RdTr wl32 (addT t l ws r r.length) (.slice aw t.s.weights.length cw) (.slice ap t.parts.length cp) (.slice (some ⟨bL, 0, none⟩) (0 + t.liquids.length + r.length) cL) (.slice (some ⟨bT, 0, none⟩) (0 + t.tests.length + r.length) cT) := ⟨hr0.ws.fr (hl32.fr (w0 := w) (S := []) (MI.m (by repeat constructor))), hr0.ps.fr (hl32.fr (w0 := w) (S := []) (MI.m (by repeat constructor))), by have := RdR.own (xs := t.liquids ++ dlO l r r.length) (cap := cL) (junk := jL) (e := 57) (f := (0, 0)) (b := bL) hl32 (by rw [flatR_append]; repeat constructor); rw [hlq] at this; exact this, by have := RdT.own (xs := t.tests ++ addL t l ws r r.length) (cap := cT) (junk := jT) (e := 72) (f := (0, 0)) (b := bT) hl32 (by rw [flatT_append]; repeat constructor); rw [htq] at this; exact this⟩))
                                      all_goals ((have hnu : NT (addT t l ws r r.length) := ⟨hn.ws, hn.ps, by show ((t.liquids ++ dlO l r r.length).length : Int) ≤ _; rw [hlq]; omega, by show ((t.tests ++ addL t l ws r r.length).length : Int) ≤ _; rw [htq]; omega⟩))
                                      all_goals (rcases hJ2 : judgeE (addT t l ws r r.length) (n3 % 4) with ⟨kk, hh⟩)
                                      all_goals refine tc_region ?_; refine tl_q (y_loadWf rfl (hl32.at (b := b21) (by repeat constructor)) (MI.m (by repeat constructor)) (by simp) (by rfl)) rfl ?_; refine tl_e (e_callV rfl (.cons rfl .nil) (fun w' hw' => faultT_c (addT t l ws r r.length) hnu _ _ _ _ w' (hru.fr (hw'.fr (w0 := wl32) (S := []) (MI.m (by repeat constructor)))))) rfl (fun _ _ => ?_); refine tl_q (y_neq rfl rfl) rfl ?_; refine tl_nil ?_; ((refine hK38 ?_; try (clear hK38; clear K38)))
                                      all_goals (
                                       refine tc_cond rfl (fun hc => ?_) (fun hc => ?_)
                                       · try simp only [bne_iff_ne, ne_eq, bne_eq_false_iff_eq, decide_eq_decide, true_iff, false_iff, decide_eq_true_eq, decide_eq_false_iff_not, Int.not_lt, Int.not_le, Bool.not_eq_true', Bool.not_eq_false', Decidable.not_not, not_true_eq_false, Int.toNat_natCast] at hc
                                         all_goals refine tc_seq fun K39 hK39 => ?_; refine tc_lay ([]) (SB.s .nil) (fun wl33 hl33 => ?_); refine tc_region ?_; refine tl_e (e_callV rfl .nil (fun w' _ => awake9_c w')) rfl (fun _ _ => ?_); refine tl_q (y_assign rfl) rfl ?_; refine tl_nil ?_; ((refine hK39 ?_; try (clear hK39; clear K39)))
                                         all_goals refine tc_ret ?_; (repeat (refine tk_then_ret ?_))
                                         all_goals (refine tk_ret rfl rfl (.cons (.tmp rfl) .nil) ?_)
                                         all_goals (
                                          first | exact fun w' hw' => ⟨rfl, hw'.fr (w0 := w) (S := []) (MI.m (by repeat constructor))⟩ | (exfalso; omega))
                                       · try simp only [bne_iff_ne, ne_eq, bne_eq_false_iff_eq, decide_eq_decide, true_iff, false_iff, decide_eq_true_eq, decide_eq_false_iff_not, Int.not_lt, Int.not_le, Bool.not_eq_true', Bool.not_eq_false', Decidable.not_not, not_true_eq_false, Int.toNat_natCast] at hc
                                         all_goals refine tc_skip ?_; ((refine hK37 ?_; try (clear hK37; clear K37)))
                                         all_goals refine tc_seq fun K40 hK40 => ?_; refine tc_lay ([]) (SB.s .nil) (fun wl34 hl34 => ?_); (have hvu := chkT_0.1 (show chkT (addT t l ws r r.length) = 0 by omega))
                                         all_goals (have hdd := (addT_add t l ws r).decided hvu hle.inc.2 hle.ok)
                                         all_goals (have hjv2 := judgeJ_v (addT t l ws r r.length) (n3 % 4))
                                         all_goals ((have hcase : (hh = 0 ∧ kk = judgeJ (addT t l ws r r.length) (n3 % 4)) ∨ hh = 11 := by (rw [judgeE_v hvu (by omega)] at hJ2; rcases asked_v hvu with ⟨g1, _⟩ | ⟨g1, _⟩; (rw [if_pos g1] at hJ2; cases hJ2; exact .inl ⟨rfl, rfl⟩); (rw [if_neg (by omega)] at hJ2; cases hJ2; exact .inr rfl))))
                                         all_goals refine tc_region ?_; refine tl_q (y_loadWf rfl (hl32.at (b := b21) (by repeat constructor)) (MI.m (by repeat constructor)) (by simp) (by rfl)) rfl ?_; (refine tl_e (e_callX rfl (.cons rfl .nil) (fun w' hw' => trial9_c (addT t l ws r r.length) (by show t.s.weights.length ≤ _; omega) (by show t.parts.length ≤ _; omega) (by rw [show (addT t l ws r r.length).liquids.length = _ from hlq]; omega) (by rw [show (addT t l ws r r.length).tests.length = _ from htq]; omega) _ _ _ _ w' (hru.fr (hw'.fr (w0 := wl32) (S := []) (MI.m (by repeat constructor)))))) rfl (fun x34 hx34 => ?_))
                                         all_goals refine tl_q (y_move rfl) rfl ?_; (refine tl_e (e_callV rfl (.cons rfl (.cons rfl .nil)) (fun w' hw' => by have h := judge_c (addT t l ws r r.length) hnu (n3 % 4) (by omega) _ _ _ _ w' (hx34.1.fr (hw'.fr (w0 := x34.2) (S := []) (MI.m (by repeat constructor)))); rw [hJ2] at h; exact h)) rfl (fun _ _ => ?_))
                                         all_goals refine tl_q (y_move rfl) rfl ?_; refine tl_q (y_extract rfl rfl) rfl ?_; refine tl_q (y_extract rfl rfl) rfl ?_; refine tl_q (y_assign rfl) rfl ?_; refine tl_q (y_assign rfl) rfl ?_; refine tl_nil ?_; ((refine hK40 ?_; try (clear hK40; clear K40)))
                                         all_goals refine tc_seq fun K41 hK41 => ?_; refine tc_lay ([]) (SB.s .nil) (fun wl35 hl35 => ?_); refine tc_region ?_; refine tl_q (y_move rfl) rfl ?_; refine tl_q (y_eql rfl rfl) rfl ?_; refine tl_q (y_move rfl) rfl ?_; ((refine tl_gs rfl rfl (fun hc => ?_) (fun hc => ?_) <;> (try simp only [bne_iff_ne, ne_eq, bne_eq_false_iff_eq, decide_eq_decide, true_iff, false_iff, decide_eq_true_eq, decide_eq_false_iff_not, Int.not_lt, Int.not_le, Bool.not_eq_true', Bool.not_eq_false', Decidable.not_not, not_true_eq_false, Int.toNat_natCast] at hc) <;> (first | refine tl_sk rfl rfl rfl rfl ?_ | refine tl_qg rfl rfl (y_move rfl) rfl ?_)))
                                         all_goals (first | refine tl_sk rfl rfl rfl rfl ?_ | refine tl_qg rfl rfl (y_eql rfl rfl) rfl ?_); (first | refine tl_sk rfl rfl rfl rfl ?_ | refine tl_qg rfl rfl (y_move rfl) rfl ?_); ((first | refine tl_su rfl rfl rfl ?_ | (refine tl_gs rfl rfl (fun hc => ?_) (fun hc => ?_) <;> (try simp only [bne_iff_ne, ne_eq, bne_eq_false_iff_eq, decide_eq_decide, true_iff, false_iff, decide_eq_true_eq, decide_eq_false_iff_not, Int.not_lt, Int.not_le, Bool.not_eq_true', Bool.not_eq_false', Decidable.not_not, not_true_eq_false, Int.toNat_natCast] at hc) <;> (first | (exfalso; omega) | refine tl_qg rfl rfl (y_move rfl) rfl ?_))))
                                         all_goals (first | refine tl_qg rfl rfl (y_eql rfl rfl) rfl ?_ | refine tl_su rfl rfl rfl ?_); (first | refine tl_qg rfl rfl (y_move rfl) rfl ?_ | refine tl_su rfl rfl rfl ?_); ((first | refine tl_su rfl rfl rfl ?_ | (refine tl_gs rfl rfl (fun hc => ?_) (fun hc => ?_) <;> (try simp only [bne_iff_ne, ne_eq, bne_eq_false_iff_eq, decide_eq_decide, true_iff, false_iff, decide_eq_true_eq, decide_eq_false_iff_not, Int.not_lt, Int.not_le, Bool.not_eq_true', Bool.not_eq_false', Decidable.not_not, not_true_eq_false, Int.toNat_natCast] at hc) <;> (first | refine tl_sk rfl rfl rfl rfl ?_ | refine tl_qg rfl rfl (y_move rfl) rfl ?_))))
                                         all_goals (first | refine tl_sk rfl rfl rfl rfl ?_ | refine tl_qg rfl rfl (y_eql rfl rfl) rfl ?_ | refine tl_su rfl rfl rfl ?_); (first | refine tl_qg rfl rfl (y_pick_t rfl rfl) rfl ?_ | refine tl_qg rfl rfl (y_pick_f rfl rfl) rfl ?_ | refine tl_su rfl rfl rfl ?_); (first | refine tl_sk rfl rfl rfl rfl ?_ | refine tl_qg rfl rfl (y_pick_t rfl rfl) rfl ?_); (first | refine tl_q (y_pick_t rfl rfl) rfl ?_ | refine tl_q (y_pick_f rfl rfl) rfl ?_); refine tl_q (y_move rfl) rfl ?_; ((first | refine tl_eg rfl rfl rfl (e_callV rfl .nil (fun w' _ => awake9_c w')) (fun _ _ => ?_) | (refine tl_gs rfl rfl (fun hc => ?_) (fun hc => ?_) <;> (try simp only [bne_iff_ne, ne_eq, bne_eq_false_iff_eq, decide_eq_decide, true_iff, false_iff, decide_eq_true_eq, decide_eq_false_iff_not, Int.not_lt, Int.not_le, Bool.not_eq_true', Bool.not_eq_false', Decidable.not_not, not_true_eq_false, Int.toNat_natCast] at hc) <;> (first | (exfalso; omega) | refine tl_eg rfl rfl rfl (e_callV rfl .nil (fun w' _ => awake9_c w')) (fun _ _ => ?_)))))
                                         all_goals (refine tl_q (y_pick_t rfl rfl) rfl ?_); refine tl_q (y_assign rfl) rfl ?_; refine tl_nil ?_; ((refine hK41 ?_; try (clear hK41; clear K41)))
                                         all_goals refine tc_ret ?_; (repeat (first | refine tk_then_ret ?_))
                                         all_goals (refine tk_ret rfl rfl (.cons (.tmp rfl) .nil) ?_)
                                         all_goals (
                                          first | exact fun w' hw' => ⟨rfl, hw'.fr (w0 := w) (S := []) (MI.m (by repeat constructor))⟩ | (exfalso; omega)))))))))))))))
end Go.Sp
/-
  From a contract of a law's function to its row: what the arguments read as, and that they read so afterwards.
-/
namespace Go.Sp
open Go Go.Proofs Go.ChangeShapes Go.WideShapes Go.RowKit
section
variable {H : Type} {enc : TypeId × Value → H} {P : Program} {w : World} {base : Nat} {spare : Nat → Bool} {held : Bool}
theorem Fr.kept {W W' : World} (h : Fr [] W W') (p : MemPlace → Prop) : W.keptBut W' p :=
  ⟨h.os, h.output, fun i hi => by
    have e := h.block i hi (by simp)
    rw [e]
    cases hb : W.heap[i]? with
    | none => trivial
    | some o => cases o <;> simp⟩
/-- What is left of a post without 'again'. -/
theorem post_na {f : Func} {s : ChangeSpec} {apart fresh handsOn : Bool} {W W' : World} {args : Array Value} {v : Value} {ds gs : List (DataW H)} {before pa pv : List MemPlace}
    (hW : DataW.Whole enc P f.params.toList s.vars apart W args.toList ds gs before)
    (hres : ∀ (b : Nat) (sp : Nat → Bool) (hd : Bool), DataW.TrodAll enc P W' b sp hd f.resultTypes.toList (v.resultList f.resultTypes.size) (s.fn H (ds ++ gs)).results [])
    (hargs : ∀ sp : Nat → Bool, (∀ p ∈ before, sp p.block = true) → DataW.TrodAll enc P W' 0 sp true f.params.toList args.toList (s.fn H (ds ++ gs)).args pa)
    (hvars : ∀ sp : Nat → Bool, (∀ p ∈ before, sp p.block = true) → DataW.TrodVars enc P W' sp s.vars (s.fn H (ds ++ gs)).vars pv)
    (hps : before = pa ++ pv) (hk : W.keptBut W' (· ∈ before)) : s.post enc P f apart fresh handsOn false W args v W' := by
  have hold : ∀ p ∈ before, (fun b => decide (b < W.heap.size)) p.block = true := fun p hp => by simpa using hW.lt p hp
  refine ⟨ds, gs, before, [], pa, pv, hW, hres _ _ _, hargs _ hold, hvars _ hold, World.keptBut_mono (fun p hp => ⟨hp, ?_⟩) hk, fun h => by cases h⟩
  rw [hps, List.mem_append] at hp
  exact Or.inr hp
theorem all_stays (hl : laidOutB P = true) {W W' : World} {sp : Nat → Bool} (hb : Below W.heap.size W W') : ∀ {ts : List TypeId} {vs : List Value} {ds : List (DataW H)} {ps : List MemPlace}, (ts.all fun t => P.readableRec t && decide (t < P.types.size)) = true →
    DataW.TrodAll enc P W 0 (fun _ => true) true ts vs ds ps → (∀ p ∈ ps, sp p.block = true) → DataW.TrodAll enc P W' 0 sp true ts vs ds ps := by
  intro ts
  induction ts with
  | nil => intro vs ds ps _ h _; cases vs <;> cases ds <;> simp [DataW.TrodAll] at h ⊢; exact h
  | cons t ts ih =>
    intro vs ds ps ht h hs
    have hlt := h.lt
    obtain ⟨v, vs', d, ds', p, q, rfl, rfl, rfl, h1, h2⟩ := trodAll_cons h
    simp only [List.all_cons, Bool.and_eq_true, decide_eq_true_eq] at ht
    exact ⟨p, q, WideElems.Trod_stays hl ht.1.1 ht.1.2 h1 (fun x hx => hb.same (hlt x (List.mem_append_left _ hx))) (fun x hx => hs x (List.mem_append_left _ hx)),
      ih (by simpa using ht.2) h2 (fun x hx => hs x (List.mem_append_right _ hx)), rfl⟩
/-- A slice reads as the cells of its elements, each of which reads. -/
theorem slice_reads {t e : TypeId} {fuel : Nat} {cs : List Value} {x : DataW H × List MemPlace} (ht : P.underlying t = some (.slice e)) (hc : 0 < P.cellsOf e) (h : DataW.trod enc P w base spare held fuel t cs = some x) :
    ∃ ad cap, ∃ ess : List (List Value), cs = [.slice ad ess.length cap] ∧ ess.length ≤ maxLen ∧ Reads w (.slice ad ess.length cap) (P.cellsOf e) ess.length ess.flatten ∧ ∀ es ∈ ess, ∃ m y, DataW.trod enc P w base spare held m e es = some y := by
  rcases DataW.trod_slice ht h with ⟨rfl, _⟩ | ⟨a, len, cap, elems, rest, n, _, rfl, _, hb, hl, hm, hlen, hel, _, _⟩
  · exact ⟨none, 0, [], rfl, Nat.zero_le _, ⟨by simp, none, 0, rfl, fun h => absurd rfl h⟩, by simp⟩
  · -- the cells of each element
    have hone : ∀ i, i < len → ∃ es y, w.cells? base (a.add (i * P.cellsOf e)) (P.cellsOf e) = some es ∧ DataW.trod enc P w base spare held n e es = some y := fun i hi => by
      have h1 := hel i hi
      rw [List.getElem?_eq_getElem (by omega)] at h1
      obtain ⟨es, h2, h3⟩ := Option.bind_eq_some_iff.1 h1
      exact ⟨es, _, h2, h3⟩
    have hadd : ∀ m, a.spot = none → a.add m = ⟨a.block, a.off + m, none⟩ := fun m hs => by
      obtain ⟨b, o, sp⟩ := a
      simp only at hs
      subst hs
      unfold Addr.add; split
      · rename_i h0; subst h0; rfl
      · rfl
    have hsp0 : 0 < len → a.spot = none := fun h0 => by
      obtain ⟨es, y, g1, g2⟩ := hone 0 h0
      obtain ⟨_, hl1, hat⟩ := World.cells?_some g1
      have := hat 0 hc
      rw [List.getElem?_eq_getElem (by omega), Nat.zero_mul, show (a.add 0).add 0 = a from rfl] at this
      unfold World.cell? at this
      split at this
      · split at this
        · cases this
        · rename_i hs; simpa using hs
      · cases this
    have hcell : ∀ k, k ≤ len → ∃ ess : List (List Value), ess.length = k ∧ (∀ es ∈ ess, ∃ m y, DataW.trod enc P w base spare held m e es = some y) ∧ ess.flatten.length = k * P.cellsOf e ∧
        (k ≠ 0 → a.spot = none) ∧ ∀ j v, ess.flatten[j]? = some v → w.cell? ⟨a.block, a.off + j, none⟩ = some v := by
      intro k
      induction k with
      | zero => intro _; exact ⟨[], rfl, by simp, by simp, fun h => absurd rfl h, by simp⟩
      | succ k ih =>
        intro hk
        obtain ⟨ess, h1, h2, h3, h4, h5⟩ := ih (by omega)
        obtain ⟨es, y, g1, g2⟩ := hone k (by omega)
        obtain ⟨_, hl1, hat⟩ := World.cells?_some g1
        have hspot : a.spot = none := hsp0 (by omega)
        refine ⟨ess ++ [es], by simp [h1], fun u hu => ?_, ?_, fun _ => hspot, fun j v hv => ?_⟩
        · rcases List.mem_append.1 hu with hu | hu
          · exact h2 u hu
          · obtain rfl := List.mem_singleton.1 hu; exact ⟨n, y, g2⟩
        · rw [List.flatten_append, List.length_append, h3]; simp [hl1]; rw [Nat.add_mul]; omega
        · rw [List.flatten_append] at hv
          by_cases hj : j < ess.flatten.length
          · rw [List.getElem?_append_left hj] at hv; exact h5 j v hv
          · rw [List.getElem?_append_right (by omega)] at hv
            simp only [List.flatten_cons, List.flatten_nil, List.append_nil] at hv
            have hjl : j - ess.flatten.length < es.length := (List.getElem?_eq_some_iff.1 hv).1
            have := hat (j - ess.flatten.length) (by omega)
            rw [hv, hadd _ hspot] at this
            have e2 : (⟨a.block, a.off + k * P.cellsOf e, none⟩ : Addr).add (j - ess.flatten.length) = ⟨a.block, a.off + j, none⟩ := by
              unfold Addr.add; split
              · rename_i h0; simp only [Addr.mk.injEq, true_and, and_true]; omega
              · simp only [Addr.mk.injEq, true_and, and_true]; omega
            rw [e2] at this
            exact this
    obtain ⟨ess, h1, h2, h3, h4, h5⟩ := hcell len (Nat.le_refl _)
    subst h1
    refine ⟨some a, cap, ess, rfl, by omega, ⟨h3, _, _, rfl, fun hn => ⟨a.block, a.off, ?_, ?_⟩⟩, h2⟩
    · have := h4 hn
      obtain ⟨b, o, sp⟩ := a
      simp only at this
      subst this
      rfl
    · rw [← h3]
      generalize ess.flatten = vs at h5
      have key : ∀ (vs : List Value) (o : Nat), (∀ j v, vs[j]? = some v → w.cell? ⟨a.block, o + j, none⟩ = some v) → CA (fun k => w.cell? ⟨a.block, k, none⟩) o vs.length vs := by
        intro vs
        induction vs with
        | nil => intro o _; exact .nil
        | cons v vs ih => intro o hv; exact .cons (hv 0 v rfl) (ih (o + 1) fun j u hu => by rw [Nat.add_assoc, Nat.add_comm 1 j]; exact hv (j + 1) u hu)
      exact key vs a.off h5
theorem exists_map {α β : Type} {f : α → β} {q : α → Prop} : ∀ (l : List β), (∀ y ∈ l, ∃ x, y = f x ∧ q x) → ∃ xs : List α, l = xs.map f ∧ ∀ x ∈ xs, q x
  | [], _ => ⟨[], rfl, by simp⟩
  | y :: l, h => by
    obtain ⟨x, rfl, hq⟩ := h y List.mem_cons_self
    obtain ⟨xs, rfl, hxs⟩ := exists_map l (fun z hz => h z (List.mem_cons_of_mem _ hz))
    exact ⟨x :: xs, rfl, fun z hz => by rcases List.mem_cons.1 hz with rfl | hz; exact hq; exact hxs z hz⟩
theorem flatten_map_one {α : Type} (f : α → Value) (xs : List α) : (xs.map fun x => [f x]).flatten = xs.map f := by
  induction xs with
  | nil => rfl
  | cons x xs ih => simp [ih]
/-- A slice of integers of one kind. -/
theorem ints_reads {t e : TypeId} {k : IntKind} {fuel : Nat} {cs : List Value} {x : DataW H × List MemPlace} (ht : P.underlying t = some (.slice e)) (he : P.underlying e = some (.int k)) (hc : P.cellsOf e = 1) (h : DataW.trod enc P w base spare held fuel t cs = some x) :
    ∃ sl, ∃ xs : List Int, cs = [sl] ∧ xs.length ≤ maxLen ∧ Reads w sl 1 xs.length (xs.map (Value.int k)) ∧ ∀ n ∈ xs, (Lit.int k n).wf = true := by
  obtain ⟨ad, cap, ess, rfl, hm, hr, hes⟩ := slice_reads ht (by omega) h
  obtain ⟨xs, rfl, hxs⟩ := exists_map (f := fun n : Int => [Value.int k n]) (q := fun n => (Lit.int k n).wf = true) ess (fun es h => by
    obtain ⟨m, y, hy⟩ := hes es h
    obtain ⟨n, rfl, _, hw⟩ := DataW.trod_int he hy
    exact ⟨n, rfl, hw⟩)
  rw [flatten_map_one, hc] at hr
  simp only [List.length_map] at hr hm
  exact ⟨_, xs, by simp, hm, hr, hxs⟩
/-- The fields of a struct. -/
theorem fields_reads {t : TypeId} {fs : Array Field} {fuel : Nat} {cs : List Value} {x : DataW H × List MemPlace} (ht : P.underlying t = some (.struct fs)) (h : DataW.trod enc P w base spare held fuel t cs = some x) :
    cs.length = P.cellsOf t ∧ ∀ (i : Nat) (f : Field), fs[i]? = some f → ∃ m y, DataW.trod enc P w base spare held m f.type ((cs.drop f.offset).take (P.cellsOf f.type)) = some y := by
  obtain ⟨xs, n, _, _, hl, hx, hf⟩ := DataW.trod_struct ht h
  refine ⟨hl, fun i f hi => ?_⟩
  have := hf i f hi
  have hlt : i < fs.size := (Array.getElem?_eq_some_iff.1 hi).1
  rw [List.getElem?_eq_getElem (by omega)] at this
  exact ⟨n, _, this⟩
def flds (enc : TypeId × Value → H) (P : Program) (w : World) (base : Nat) (spare : Nat → Bool) (held : Bool) (cs : List Value) : List Field → Prop
  | [] => True
  | f :: fs => (∃ m y, DataW.trod enc P w base spare held m f.type ((cs.drop f.offset).take (P.cellsOf f.type)) = some y) ∧ flds enc P w base spare held cs fs
theorem fields_list {t : TypeId} {l : List Field} {fuel : Nat} {cs : List Value} {x : DataW H × List MemPlace} (ht : P.underlying t = some (.struct l.toArray)) (h : DataW.trod enc P w base spare held fuel t cs = some x) :
    cs.length = P.cellsOf t ∧ flds enc P w base spare held cs l := by
  obtain ⟨hl, hf⟩ := fields_reads ht h
  refine ⟨hl, ?_⟩
  have key : ∀ l' : List Field, (∀ f ∈ l', f ∈ l) → flds enc P w base spare held cs l' := by
    intro l'
    induction l' with
    | nil => intro _; trivial
    | cons f fs ih =>
      intro hm
      obtain ⟨i, hi, e⟩ := List.getElem_of_mem (hm f List.mem_cons_self)
      exact ⟨hf i f (by simp [hi, e]), ih fun g hg => hm g (List.mem_cons_of_mem _ hg)⟩
  exact key l fun _ h => h
end
end Go.Sp
/-
  What the arguments of this seat's laws read as.
-/
namespace Go.Sp
open Go Go.Proofs Go.ChangeShapes Go.WideShapes Go.RowKit
theorem laidTryz : laidOutB Tryz.prog = true := by kernel_rfl
theorem cells_3 : Tryz.prog.cellsOf 3 = 1 := by kernel_rfl
theorem cells_22 : Tryz.prog.cellsOf 22 = 1 := by kernel_rfl
theorem cells_24 : Tryz.prog.cellsOf 24 = 6 := by kernel_rfl
theorem cells_57 : Tryz.prog.cellsOf 57 = 2 := by kernel_rfl
theorem wf64 {n : Int} (h : (Lit.int .i64 n).wf = true) : -9223372036854775808 ≤ n ∧ n ≤ 9223372036854775807 := by
  simpa [Lit.wf, IntKind.min, IntKind.max, IntKind.signed, IntKind.bits] using h
theorem wf8 {n : Int} (h : (Lit.int .u8 n).wf = true) : 0 ≤ n ∧ n ≤ 255 := by
  simpa [Lit.wf, IntKind.min, IntKind.max, IntKind.signed, IntKind.bits] using h
theorem six {α : Type} {l : List α} (h : l.length = 6) : ∃ a b c d e f, l = [a, b, c, d, e, f] := by
  match l, h with
  | [a, b, c, d, e, f], _ => exact ⟨a, b, c, d, e, f, rfl⟩
theorem two' {α : Type} {l : List α} (h : l.length = 2) : ∃ a b, l = [a, b] := by
  match l, h with
  | [a, b], _ => exact ⟨a, b, rfl⟩
section
variable {H : Type} {enc : TypeId × Value → H} {w : World} {base : Nat} {spare : Nat → Bool} {held : Bool}
abbrev Bd (n : Int) : Prop := -9223372036854775808 ≤ n ∧ n ≤ 9223372036854775807
theorem sn_reads {fuel : Nat} {cs : List Value} {x : DataW H × List MemPlace} (h : DataW.trod enc Tryz.prog w base spare held fuel 24 cs = some x) :
    ∃ (s : Sn) (sl : Value), cs = [vi s.mass, vi s.volume, vi s.step, vi s.divisions, vi s.width, sl] ∧ RdI w sl s.weights ∧ s.weights.length ≤ maxLen := by
  obtain ⟨hl, hf⟩ := fields_list Tryz.underlying24 h
  rw [cells_24] at hl
  obtain ⟨c0, c1, c2, c3, c4, c5, rfl⟩ := six hl
  obtain ⟨⟨_, _, f0⟩, ⟨_, _, f1⟩, ⟨_, _, f2⟩, ⟨_, _, f3⟩, ⟨_, _, f4⟩, ⟨_, _, f5⟩, _⟩ := hf
  rw [cells_3] at f0 f1 f2 f3 f4
  rw [cells_22] at f5
  obtain ⟨n0, e0, _, _⟩ := DataW.trod_int Tryz.underlying3 f0
  obtain ⟨n1, e1, _, _⟩ := DataW.trod_int Tryz.underlying3 f1
  obtain ⟨n2, e2, _, _⟩ := DataW.trod_int Tryz.underlying3 f2
  obtain ⟨n3, e3, _, _⟩ := DataW.trod_int Tryz.underlying3 f3
  obtain ⟨n4, e4, _, _⟩ := DataW.trod_int Tryz.underlying3 f4
  obtain ⟨sl, xs, e5, hm, hr, _⟩ := ints_reads Tryz.underlying22 Tryz.underlying3 cells_3 f5
  simp at e0 e1 e2 e3 e4 e5
  subst e0; subst e1; subst e2; subst e3; subst e4; subst e5
  exact ⟨⟨n0, n1, n2, n3, n4, xs⟩, _, rfl, hr, hm⟩
theorem pair_reads {t : TypeId} {f0 f1 : Field} (ht : Tryz.prog.underlying t = some (.struct #[f0, f1])) (hc : Tryz.prog.cellsOf t = 2) (h0 : f0.type = 3) (h1 : f1.type = 3) (o0 : f0.offset = 0) (o1 : f1.offset = 1) {fuel : Nat} {cs : List Value} {x : DataW H × List MemPlace} (h : DataW.trod enc Tryz.prog w base spare held fuel t cs = some x) :
    ∃ r : Int × Int, cs = [vi r.1, vi r.2] ∧ Bd r.1 ∧ Bd r.2 := by
  obtain ⟨hl, hf⟩ := fields_list (l := [f0, f1]) ht h
  rw [hc] at hl
  obtain ⟨c0, c1, rfl⟩ := two' hl
  obtain ⟨⟨_, _, g0⟩, ⟨_, _, g1⟩, _⟩ := hf
  rw [h0, o0, cells_3] at g0
  rw [h1, o1, cells_3] at g1
  obtain ⟨n0, e0, _, w0⟩ := DataW.trod_int Tryz.underlying3 g0
  obtain ⟨n1, e1, _, w1⟩ := DataW.trod_int Tryz.underlying3 g1
  simp at e0 e1
  subst e0; subst e1
  exact ⟨(n0, n1), rfl, wf64 w0, wf64 w1⟩
theorem flat_map (xs : List (Int × Int)) : (xs.map fun r => [vi r.1, vi r.2]).flatten = flatR xs := by
  induction xs with
  | nil => rfl
  | cons x xs ih => simp [ih, flatR]
end
theorem lenOf {n : Nat} (h : n ≤ maxLen) : (n : Int) ≤ 9223372036854775807 := by
  have : maxLen = 9223372036854775807 := by kernel_rfl
  omega
end Go.Sp
/-
  What a trial reads as.
-/
namespace Go.Sp
open Go Go.Proofs Go.ChangeShapes Go.WideShapes Go.RowKit
theorem cells_72 : Tryz.prog.cellsOf 72 = 3 := by kernel_rfl
theorem cells_25 : Tryz.prog.cellsOf 25 = 1 := by kernel_rfl
theorem cells_26 : Tryz.prog.cellsOf 26 = 1 := by kernel_rfl
theorem cells_28 : Tryz.prog.cellsOf 28 = 10 := by kernel_rfl
theorem three' {α : Type} {l : List α} (h : l.length = 3) : ∃ a b c, l = [a, b, c] := by
  match l, h with
  | [a, b, c], _ => exact ⟨a, b, c, rfl⟩
theorem ten' {α : Type} {l : List α} (h : l.length = 10) : ∃ a b c d e f g i j k, l = [a, b, c, d, e, f, g, i, j, k] := by
  match l, h with
  | [a, b, c, d, e, f, g, i, j, k], _ => exact ⟨a, b, c, d, e, f, g, i, j, k, rfl⟩
section
variable {H : Type} {enc : TypeId × Value → H} {w : World} {base : Nat} {spare : Nat → Bool} {held : Bool}
theorem rgs_reads {fuel : Nat} {cs : List Value} {x : DataW H × List MemPlace} (h : DataW.trod enc Tryz.prog w base spare held fuel 25 cs = some x) :
    ∃ (sl : Value) (l : List (Int × Int)), cs = [sl] ∧ RdR w sl l ∧ l.length ≤ maxLen ∧ ∀ r ∈ l, Bd r.1 ∧ Bd r.2 := by
  obtain ⟨ad, cap, ess, rfl, hm, hr, hes⟩ := slice_reads Tryz.underlying25 (by rw [cells_57]; decide) h
  obtain ⟨xs, rfl, hxs⟩ := exists_map (f := fun r : Int × Int => [vi r.1, vi r.2]) (q := fun r => Bd r.1 ∧ Bd r.2) ess (fun es h => by
    obtain ⟨m, y, hy⟩ := hes es h
    obtain ⟨r, e, hb⟩ := pair_reads Tryz.underlying57 cells_57 rfl rfl rfl rfl hy
    exact ⟨r, e, hb⟩)
  rw [flat_map, cells_57] at hr
  simp only [List.length_map] at hr hm
  exact ⟨_, xs, by simp, hr, hm, hxs⟩
theorem test_reads {fuel : Nat} {cs : List Value} {x : DataW H × List MemPlace} (h : DataW.trod enc Tryz.prog w base spare held fuel 72 cs = some x) :
    ∃ r : Int × Int × Int, cs = [vi r.1, vi r.2.1, vi r.2.2] ∧ Bd r.1 ∧ Bd r.2.1 ∧ Bd r.2.2 := by
  obtain ⟨hl, hf⟩ := fields_list Tryz.underlying72 h
  rw [cells_72] at hl
  obtain ⟨c0, c1, c2, rfl⟩ := three' hl
  obtain ⟨⟨_, _, f0⟩, ⟨_, _, f1⟩, ⟨_, _, f2⟩, _⟩ := hf
  rw [cells_3] at f0 f1 f2
  obtain ⟨n0, e0, _, w0⟩ := DataW.trod_int Tryz.underlying3 f0
  obtain ⟨n1, e1, _, w1⟩ := DataW.trod_int Tryz.underlying3 f1
  obtain ⟨n2, e2, _, w2⟩ := DataW.trod_int Tryz.underlying3 f2
  simp at e0 e1 e2
  subst e0; subst e1; subst e2
  exact ⟨(n0, n1, n2), rfl, wf64 w0, wf64 w1, wf64 w2⟩
theorem flat_mapT (xs : List (Int × Int × Int)) : (xs.map fun r => [vi r.1, vi r.2.1, vi r.2.2]).flatten = flatT xs := by
  induction xs with
  | nil => rfl
  | cons x xs ih => simp [ih, flatT]
theorem tests_reads {fuel : Nat} {cs : List Value} {x : DataW H × List MemPlace} (h : DataW.trod enc Tryz.prog w base spare held fuel 26 cs = some x) :
    ∃ (sl : Value) (l : List (Int × Int × Int)), cs = [sl] ∧ RdT w sl l ∧ l.length ≤ maxLen := by
  obtain ⟨ad, cap, ess, rfl, hm, hr, hes⟩ := slice_reads Tryz.underlying26 (by rw [cells_72]; decide) h
  obtain ⟨xs, rfl, hxs⟩ := exists_map (f := fun r : Int × Int × Int => [vi r.1, vi r.2.1, vi r.2.2]) (q := fun r => True) ess (fun es h => by
    obtain ⟨m, y, hy⟩ := hes es h
    obtain ⟨r, e, hb⟩ := test_reads hy
    exact ⟨r, e, trivial⟩)
  rw [flat_mapT, cells_72] at hr
  simp only [List.length_map] at hr hm
  exact ⟨_, xs, by simp, hr, hm⟩
theorem tr_reads {fuel : Nat} {cs : List Value} {x : DataW H × List MemPlace} (h : DataW.trod enc Tryz.prog w base spare held fuel 28 cs = some x) :
    ∃ (t : Tr) (sl pl ll tl : Value), cs = [vi t.s.mass, vi t.s.volume, vi t.s.step, vi t.s.divisions, vi t.s.width, sl, pl, vi t.worst, ll, tl] ∧ RdTr w t sl pl ll tl := by
  obtain ⟨hl, hf⟩ := fields_list Tryz.underlying28 h
  rw [cells_28] at hl
  obtain ⟨c0, c1, c2, c3, c4, c5, c6, c7, c8, c9, rfl⟩ := ten' hl
  obtain ⟨⟨_, _, f0⟩, ⟨_, _, f1⟩, ⟨_, _, f2⟩, ⟨_, _, f3⟩, ⟨_, _, f4⟩, _⟩ := hf
  rw [cells_24] at f0
  rw [cells_22] at f1
  rw [cells_3] at f2
  rw [cells_25] at f3
  rw [cells_26] at f4
  obtain ⟨s, sl, e0, hrs, _⟩ := sn_reads f0
  obtain ⟨pl, ps, e1, _, hrp, _⟩ := ints_reads Tryz.underlying22 Tryz.underlying3 cells_3 f1
  obtain ⟨n2, e2, _, _⟩ := DataW.trod_int Tryz.underlying3 f2
  obtain ⟨ll, l, e3, hrl, _, _⟩ := rgs_reads f3
  obtain ⟨tl, ts, e4, hrt, _⟩ := tests_reads f4
  simp at e0 e1 e2 e3 e4
  obtain ⟨rfl, rfl, rfl, rfl, rfl, rfl⟩ := e0
  subst e1; subst e2; subst e3; subst e4
  exact ⟨⟨s, ps, n2, l, ts⟩, _, _, _, _, rfl, hrs, hrp, hrl, hrt⟩
end
end Go.Sp
/-
  What a slice of offers reads as.
-/
namespace Go.Sp
open Go Go.Proofs Go.ChangeShapes Go.WideShapes Go.RowKit
theorem cells_67 : Tryz.prog.cellsOf 67 = 2 := by kernel_rfl
section
variable {H : Type} {enc : TypeId × Value → H} {w : World} {base : Nat} {spare : Nat → Bool} {held : Bool}
theorem ofs_reads {fuel : Nat} {cs : List Value} {x : DataW H × List MemPlace} (h : DataW.trod enc Tryz.prog w base spare held fuel 62 cs = some x) :
    ∃ (sl : Value) (l : List (Int × Int)), cs = [sl] ∧ RdR w sl l ∧ l.length ≤ maxLen ∧ ∀ r ∈ l, Bd r.1 ∧ Bd r.2 := by
  obtain ⟨ad, cap, ess, rfl, hm, hr, hes⟩ := slice_reads Tryz.underlying62 (by rw [cells_67]; decide) h
  obtain ⟨xs, rfl, hxs⟩ := exists_map (f := fun r : Int × Int => [vi r.1, vi r.2]) (q := fun r => Bd r.1 ∧ Bd r.2) ess (fun es h => by
    obtain ⟨m, y, hy⟩ := hes es h
    obtain ⟨r, e, hb⟩ := pair_reads Tryz.underlying67 cells_67 rfl rfl rfl rfl hy
    exact ⟨r, e, hb⟩)
  rw [flat_map, cells_67] at hr
  simp only [List.length_map] at hr hm
  exact ⟨_, xs, by simp, hr, hm, hxs⟩
end
theorem lenNat {n : Nat} (h : n ≤ maxLen) : n ≤ 9223372036854775807 := by
  have : maxLen = 9223372036854775807 := by kernel_rfl
  omega
end Go.Sp
