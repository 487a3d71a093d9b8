
/-
  Helpers of the statements about trials: what is tried, by words.
-/
import Derived.Test.YtegojecjmaifdaaGreatM4
import Derived.Laws.AppendOwn
import Derived.Test.YtegojecjmaifdaaGreatRows
import Derived.ProofKit
import Derived.OpenShut
import Derived.Carry
import Derived.Deep.Fields
set_option linter.unusedVariables false
set_option linter.unusedSimpArgs false
set_option linter.deprecated false
namespace Go.Sp
open Go Go.Proofs
theorem triShown_c (t : Tr) (hv : VT t) (ws : List Int) (n : Nat) (hn : n ≤ 6) (sl pl ll tl lv : Value) (w : World) (hr : RdTr w (triT t ws n) sl pl ll tl) (hL : RdI w lv (pE t ws)) :
    CnX Tryz.prog 25 #[trV t sl pl ll tl, lv, vi (triK t ws n), vi ((pD t ws).getD (triQ t ws n).toNat 0)] w [] (slV (triS t ws n).length) (fun y w' => RdI w' (slV (triS t ws n).length y) (triS t ws n)) := by
  have hb := tri_bd hv ws n
  have hq := hv.lqb (i := (triQ t ws n).toNat) (by omega)
  have hd := pD_bd hv ws (i := (triQ t ws n).toNat) (by omega)
  exact refShown_c (triT t ws n) (triT_valid hv ws hn) (pE t ws) (pE_ok hv ws) (triK t ws n) ((pD t ws).getD (triQ t ws n).toNat 0) hb.2 ⟨by omega, by omega⟩ sl pl ll tl lv w hr hL
theorem CnX.sep2 {P : Program} {f : FuncId} {args : Array Value} {w : World} {S : List Nat} {α : Type} {val : α → Value} {q : α → World → Prop} {v u : α → Value} {bs : List (World × List Nat)} {H : List (Nat × Obj)}
    (h : CnX P f args w S val (fun x w' => q x w' ∧ NewS w (v x) ∧ NewS w (u x))) (hw : HG bs H w) : CnX P f args w S val (fun x w' => q x w' ∧ sepS (v x) (H.map Prod.fst) ∧ sepS (u x) (H.map Prod.fst)) :=
  CnX.of (h.out.mono fun e w' he => by
    obtain ⟨x, he, hf, hq, hn, hn2⟩ := he
    refine ⟨x, he, hf, hq, fun p m c e hb => ?_, fun p m c e hb => ?_⟩
    · obtain ⟨a, ha, e2⟩ := List.mem_map.1 hb
      have h1 := hw.lt ha
      have h2 := hn p m c e
      omega
    · obtain ⟨a, ha, e2⟩ := List.mem_map.1 hb
      have h1 := hw.lt ha
      have h2 := hn2 p m c e
      omega)
abbrev zr9R : Obj := .cells #[vi 0, vi 0, vi 0, vi 0, vi 0, .slice none 0 0, .slice none 0 0, vi 0, .slice none 0 0, .slice none 0 0] 28 (0, 0)
abbrev tO (t : Tr) (sl pl ll tl : Value) : Obj := .cells #[vi t.s.mass, vi t.s.volume, vi t.s.step, vi t.s.divisions, vi t.s.width, sl, pl, vi t.worst, ll, tl] 28 (0, 0)
theorem RdTr.tests {w : World} {t : Tr} {sl pl ll tl tl2 : Value} {ts : List E3} (h : RdTr w t sl pl ll tl) (h2 : RdT w tl2 ts) : RdTr w { t with tests := ts } sl pl ll tl2 := ⟨h.ws, h.ps, h.ls, h2⟩
theorem slV_ad {w : World} {xs : List Int} {n : Nat} {x : Option Addr × Nat} (h : RdI w (slV n x) xs) (h0 : 0 < xs.length) : ∃ b o, x.1 = some ⟨b, o, none⟩ := by
  obtain ⟨_, ad, cap, e, hr⟩ := h
  obtain ⟨b, o, e2, _⟩ := hr (by omega)
  unfold slV at e
  injection e with e1
  exact ⟨b, o, by rw [e1, e2]⟩
theorem slV_at {w : World} {xs : List Int} {n : Nat} {x : Option Addr × Nat} {b o : Nat} (h : RdI w (slV n x) xs) (e : x.1 = some ⟨b, o, none⟩) {i : Nat} (hi : i < xs.length) : w.cell? ⟨b, o + i, none⟩ = some (vi (xs.getD i 0)) := by
  obtain ⟨_, ad, cap, e0, hr⟩ := h
  obtain ⟨b', o', e2, hc⟩ := hr (by omega)
  unfold slV at e0
  injection e0 with e1
  rw [e1, e2] at e
  cases e
  exact hc.get i _ (by rw [List.getElem?_map, List.getElem?_eq_getElem hi, List.getD_eq_getElem?_getD, List.getElem?_eq_getElem hi]; rfl)
theorem tri_ts0 {t : Tr} {ws : List Int} {n : Nat} (h : n = 0) : triL t ws n = [] := by rw [h]; rfl
set_option maxHeartbeats 1000000 in
theorem tried_c (t : Tr) (hv : VT t) (ws : List Int) (hws : ∀ x ∈ ws, 0 ≤ x ∧ x ≤ 255) (hwl : (ws.length : Int) ≤ 9223372036854775807) (sl pl ll tl wv : Value) (w : World) (hr : RdTr w t sl pl ll tl) (hW : RdW w wv ws) :
    CnX Tryz.prog 57 #[trV t sl pl ll tl, wv] w [] (fun y : ((Option Addr × Nat) × (Option Addr × Nat)) × (Option Addr × Nat) => .tuple #[trV t sl pl ll (slV (triN ws) y.2), .agg #[slV t.parts.length y.1.1, slV t.liquids.length y.1.2]])
      (fun y w' => (RdI w' (slV t.parts.length y.1.1) (pE t ws) ∧ RdI w' (slV t.liquids.length y.1.2) (pD t ws)) ∧ RdT w' (slV (triN ws) y.2) (triL t ws (triN ws))) := by
  have hr0 := hr
  have hp1 := hv.p1
  have hp3 := hv.p3
  have hl1 := hv.l1
  have hl3 := hv.l3
  have hs6 := hv.s.n
  have hN6 := triN_bd (ws := ws)
  have hw5 := wordF_bd hws 5
  have hNe : ((triN ws : Nat) : Int) = wordF ws 5 % 7 := by unfold triN; omega
  obtain ⟨aw, cw, _, _, rfl, _, _⟩ := hr.ws.open
  obtain ⟨ap, cp, _, _, rfl, _, _⟩ := hr.ps.open
  obtain ⟨aL, cL, _, _, rfl, _, _⟩ := hr.ls.open
  obtain ⟨at', ct, _, _, rfl, _, _⟩ := hr.ts.open
  obtain ⟨adw, cpw, bw0, ow, rfl, _, _⟩ := rdk9_open hW
  have hWr : ∀ w', Fr [] w w' → RdW w' (.slice adw ws.length cpw) ws := fun w' f => Reads.frS hW f (by simp)
  refine cnx0 (vs := [_, _]) Tryz.func57 rfl rfl ?_
  all_goals refine tc_seq fun K1 hK1 => ?_; refine tc_region ?_; refine tl_e (e_box rfl rfl rfl) rfl (fun b2 _ => ?_); refine tl_e (e_allocN rfl) rfl (fun b4 _ => ?_); refine tl_e (e_allocN rfl) rfl (fun b5 _ => ?_); refine tl_nil ?_; ((refine hK1 ?_; try (clear hK1; clear K1)))
  all_goals refine tc_seq fun K2 hK2 => ?_; refine tc_region ?_; refine tl_q (y_loadW rfl (by repeat constructor) (by rfl)) rfl ?_; refine tl_q (y_move rfl) rfl ?_; refine tl_e (e_callX rfl (.cons rfl (.cons rfl .nil)) (fun w' hw' => (picked_c t hv ws hws hwl _ _ _ _ _ w' (hr0.fr (hw'.fr (w0 := w) (S := []) (MI.m (by repeat constructor)))) (hWr w' (hw'.fr (w0 := w) (S := []) (MI.m (by repeat constructor))))).sep2 hw')) rfl (fun x1 hx1 => ?_); refine tl_e (e_allocN rfl) rfl (fun b6 _ => ?_); ((refine tl_e (e_storeW (cs := #[slV t.parts.length x1.1.1, slV t.liquids.length x1.1.2]) rfl rfl (by repeat constructor) (by rfl) (by rfl) (by intro v hv; simp at hv; rcases hv with rfl | rfl <;> rfl)) rfl (fun _ _ => ?_)))
  all_goals refine tl_nil ?_; ((refine hK2 ?_; try (clear hK2; clear K2)))
  all_goals refine tc_seq fun K3 hK3 => ?_; (have hE : ∀ w', Fr [b5, b4, b2] x1.2 w' → RdI w' (slV t.parts.length x1.1.1) (pE t ws) := fun w' f => Reads.frS hx1.1.1.1 f hx1.1.2.1)
  all_goals (have hD : ∀ w', Fr [b5, b4, b2] x1.2 w' → RdI w' (slV t.liquids.length x1.1.2) (pD t ws) := fun w' f => Reads.frS hx1.1.1.2 f hx1.1.2.2)
  all_goals ((obtain ⟨bD, oD, eD1⟩ := slV_ad hx1.1.1.2 (by rw [pkD_len]; omega)))
  all_goals refine tc_region ?_; refine tl_q (y_field rfl) rfl ?_; refine tl_e (e_store1 rfl rfl (by repeat constructor) (by repeat constructor) (by rfl) (by rfl)) rfl (fun _ _ => ?_); refine tl_nil ?_; ((refine hK3 ?_; try (clear hK3; clear K3)))
  all_goals refine tc_seq fun K4 hK4 => ?_; refine tc_seq fun K5 hK5 => ?_; refine tc_region ?_; refine tl_q (y_assign rfl) rfl ?_; refine tl_nil ?_; ((refine hK5 ?_; try (clear hK5; clear K5)))
  all_goals refine tc_block ?_
  all_goals (
   refine tc_loop (fun p : Nat × Option (Nat × Nat × List Value) => p.1 ≤ triN ws ∧ outOkT (p.1, p.2)) (fun p => [(1, .slice adw ws.length cpw), (2, ptr b2), (4, ptr b4), (5, ptr b5), (6, ptr b6), (7, vi p.1)]) (fun _ => [(x1.2, [b5, b4, b2]), (w, [])]) (fun p => slH 72 (flatT (triL t ws p.1)) p.2 ++ [(b6, .cells #[slV t.parts.length x1.1.1, slV t.liquids.length x1.1.2] 92 (0, 0)), (b5, .cells #[.slice none 0 0, .slice none 0 0] 92 (0, 0)), (b4, zr9R), (b2, tO t (.slice aw t.s.weights.length cw) (.slice ap t.parts.length cp) (.slice aL t.liquids.length cL) (outV' (p.1, p.2)))]) (fun p => triN ws - p.1) ?_ ?_
   · exact tk_start (0, none) ⟨Nat.zero_le _, rfl⟩ (.cons rfl (.cons rfl (.cons rfl (.cons rfl (.cons rfl (.cons rfl .nil)))))) (fun _ h => h.subl (SB.s (by repeat constructor)) (SB.s (by repeat constructor)))
   · rintro ⟨n, oo⟩ ⟨hn, hok⟩
     have hwb := wordF_bd hws (n + 6)
     have hqk := tri_bd hv ws n
     have hsp := triS_pos t ws n
     have hsl : (triS t ws n).length ≤ 101 := shown_len (triT t ws n) (triT_valid hv ws (by dsimp only at hn; omega)) _ _ _
     rcases oo with _ | ⟨bt, cap, junk⟩
     all_goals ((dsimp only [outOkT] at hn hok ⊢; dsimp only [slH_none, slH_some, List.cons_append, List.nil_append, outV']))
     all_goals refine tc_seq fun K6 hK6 => ?_; refine tc_seq fun K7 hK7 => ?_; refine tc_region ?_; refine tl_q (y_move rfl) rfl ?_; refine tl_q (y_move rfl) rfl ?_; refine tl_e (e_callV rfl (.cons rfl (.cons rfl .nil)) (fun w' hw' => word9_c ws hws hwl 5 (by omega) _ w' (hWr w' (hw'.fr (w0 := w) (S := []) (MI.m (by repeat constructor)))))) rfl (fun _ _ => ?_); refine tl_q (y_rem rfl rfl (by omega) (by omega)) rfl ?_; refine tl_q (y_lss rfl rfl) rfl ?_; refine tl_nil ?_; ((refine hK7 ?_; try (clear hK7; clear K7)))
     all_goals (
      refine tc_cond rfl (fun hc => ?_) (fun hc => ?_)
      · try simp only [decide_eq_true_eq, decide_eq_false_iff_not, Int.not_lt, Int.not_le, Bool.not_eq_true', Bool.not_eq_false', Decidable.not_not, not_true_eq_false] at hc
        all_goals refine tc_skip ?_; ((refine hK6 ?_; try (clear hK6; clear K6)))
        all_goals refine tc_seq fun K8 hK8 => ?_; refine tc_block ?_
        all_goals (
         first
         | refine tc_join (fun b8 : Nat => True) (fun b8 => [(1, .slice adw ws.length cpw), (2, ptr b2), (4, ptr b4), (5, ptr b5), (6, ptr b6), (7, vi n), (8, ptr b8)]) (fun _ => [(x1.2, [b5, b4, b2]), (w, [])]) (fun b8 => (b8, .cells #[vi (triQ t ws n), vi (triK t ws n), vi 0] 72 (0, 0)) :: (bt, .cells (flatT (triL t ws n) ++ junk).toArray 72 (0, 0)) :: [(b6, .cells #[slV t.parts.length x1.1.1, slV t.liquids.length x1.1.2] 92 (0, 0)), (b5, .cells #[.slice none 0 0, .slice none 0 0] 92 (0, 0)), (b4, zr9R), (b2, tO t (.slice aw t.s.weights.length cw) (.slice ap t.parts.length cp) (.slice aL t.liquids.length cL) (.slice (some ⟨bt, 0, none⟩) n cap))]) ?_ ?_
         | refine tc_join (fun b8 : Nat => True) (fun b8 => [(1, .slice adw ws.length cpw), (2, ptr b2), (4, ptr b4), (5, ptr b5), (6, ptr b6), (7, vi n), (8, ptr b8)]) (fun _ => [(x1.2, [b5, b4, b2]), (w, [])]) (fun b8 => (b8, .cells #[vi (triQ t ws n), vi (triK t ws n), vi 0] 72 (0, 0)) :: [(b6, .cells #[slV t.parts.length x1.1.1, slV t.liquids.length x1.1.2] 92 (0, 0)), (b5, .cells #[.slice none 0 0, .slice none 0 0] 92 (0, 0)), (b4, zr9R), (b2, tO t (.slice aw t.s.weights.length cw) (.slice ap t.parts.length cp) (.slice aL t.liquids.length cL) (.slice none 0 0))]) ?_ ?_
         · skip
           all_goals refine tc_drawS (by first | exact [(b2, tO t (.slice aw t.s.weights.length cw) (.slice ap t.parts.length cp) (.slice aL t.liquids.length cL) (.slice (some ⟨bt, 0, none⟩) n cap))] | exact [(b2, tO t (.slice aw t.s.weights.length cw) (.slice ap t.parts.length cp) (.slice aL t.liquids.length cL) (.slice none 0 0))]) (by kernel_rfl) ?_; refine tx_p 0 rfl (by kernel_rfl) (y_move rfl) rfl (fun _ _ _ h => h) (fun _ h => h.subl (SB.s (by repeat constructor)) (SB.s (by repeat constructor))) ?_; refine tx_p 1 rfl (by kernel_rfl) (y_move rfl) rfl (fun _ _ _ h => h) (fun _ h => h.subl (SB.s (by repeat constructor)) (SB.s (by repeat constructor))) ?_; refine tx_p 2 rfl (by kernel_rfl) (y_add rfl rfl (by omega)) rfl (fun _ _ _ h => h) (fun _ h => h.subl (SB.s (by repeat constructor)) (SB.s (by repeat constructor))) ?_; refine tx_p 4 rfl (by kernel_rfl) (y_field rfl) rfl (fun _ _ _ h => h) (fun _ h => h.subl (SB.s (by repeat constructor)) (SB.s (by repeat constructor))) ?_; refine tx_qS 5 rfl (by kernel_rfl) (y_load1 rfl (by repeat constructor) (by rfl)) rfl (fun _ _ _ h => h) (fun _ h => h.subl (SB.s (by repeat constructor)) (SB.s (by repeat constructor))) ?_; refine tx_qS 6 rfl (by kernel_rfl) (y_len rfl) rfl (fun _ _ _ h => h) (fun _ h => h.subl (SB.s (by repeat constructor)) (SB.s (by repeat constructor))) ?_; refine tx_p 8 rfl (by kernel_rfl) (y_move rfl) rfl (fun _ _ _ h => h) (fun _ h => h.subl (SB.s (by repeat constructor)) (SB.s (by repeat constructor))) ?_; refine tx_p 9 rfl (by kernel_rfl) (y_move rfl) rfl (fun _ _ _ h => h) (fun _ h => h.subl (SB.s (by repeat constructor)) (SB.s (by repeat constructor))) ?_; refine tx_p 10 rfl (by kernel_rfl) (y_add rfl rfl (by omega)) rfl (fun _ _ _ h => h) (fun _ h => h.subl (SB.s (by repeat constructor)) (SB.s (by repeat constructor))) ?_; refine tx_p 13 rfl (by kernel_rfl) (y_field rfl) rfl (fun _ _ _ h => h) (fun _ h => h.subl (SB.s (by repeat constructor)) (SB.s (by repeat constructor))) ?_; refine tx_p 14 rfl (by kernel_rfl) (y_field rfl) rfl (fun _ _ _ h => h) (fun _ h => h.subl (SB.s (by repeat constructor)) (SB.s (by repeat constructor))) ?_; refine tx_qS 15 rfl (by kernel_rfl) (y_load1 rfl (by repeat constructor) (by rfl)) rfl (fun _ _ _ h => h) (fun _ h => h.subl (SB.s (by repeat constructor)) (SB.s (by repeat constructor))) ?_; refine tx_qS 16 rfl (by kernel_rfl) (y_len rfl) rfl (fun _ _ _ h => h) (fun _ h => h.subl (SB.s (by repeat constructor)) (SB.s (by repeat constructor))) ?_; refine tx_p 17 rfl (by kernel_rfl) (y_add rfl rfl (by omega)) rfl (fun _ _ _ h => h) (fun _ h => h.subl (SB.s (by repeat constructor)) (SB.s (by repeat constructor))) ?_
           all_goals (
            refine tx_pair 3 20 (by kernel_rfl) ?_ ?_
            rotate_left
            focus (
             (refine to_e rfl rfl (e_allocN rfl) (.inr ⟨fun _ _ h => h.subl (SB.s (by repeat constructor)) (SB.s (by repeat constructor)), fun _ h => h⟩) (fun b8 _ => ?_))
             all_goals (refine tx_single 3 (by kernel_rfl) (to_e rfl rfl (e_callV rfl (.cons rfl (.cons rfl .nil)) (fun w' hw' => word9_c ws hws hwl (n + 6) (by omega) _ w' (hWr w' (hw'.fr (w0 := w) (S := []) (MI.m (by repeat constructor)))))) (.inr ⟨fun _ _ h => h.subl (SB.s (by repeat constructor)) (SB.s (by repeat constructor)), fun _ h => h⟩) (fun _ _ => ?_))); refine tx_p 7 rfl (by kernel_rfl) (y_rem rfl rfl (by omega) (by omega)) rfl (fun _ _ _ h => h) (fun _ h => h.subl (SB.s (by repeat constructor)) (SB.s (by repeat constructor))) ?_; refine tx_single 11 (by kernel_rfl) (to_e rfl rfl (e_callV rfl (.cons rfl (.cons rfl .nil)) (fun w' hw' => word9_c ws hws hwl (n + 6) (by omega) _ w' (hWr w' (hw'.fr (w0 := w) (S := []) (MI.m (by repeat constructor)))))) (.inr ⟨fun _ _ h => h.subl (SB.s (by repeat constructor)) (SB.s (by repeat constructor)), fun _ h => h⟩) (fun _ _ => ?_)); refine tx_p 12 rfl (by kernel_rfl) (y_quo rfl rfl (by omega) (by omega)) rfl (fun _ _ _ h => h) (fun _ h => h.subl (SB.s (by repeat constructor)) (SB.s (by repeat constructor))) ?_; refine tx_p 18 rfl (by kernel_rfl) (y_rem rfl rfl (by omega) (by omega)) rfl (fun _ _ _ h => h) (fun _ h => h.subl (SB.s (by repeat constructor)) (SB.s (by repeat constructor))) ?_; refine tx_p 19 rfl (by kernel_rfl) (y_build_g (by repeat constructor)) rfl (fun _ _ _ h => h) (fun _ h => h.subl (SB.s (by repeat constructor)) (SB.s (by repeat constructor))) ?_; ((refine tx_single 21 (by kernel_rfl) (to_e (S' := HG [] []) rfl rfl (e_storeW (cs := #[vi (triQ t ws n), vi (triK t ws n), vi 0]) rfl rfl (by repeat constructor) (by rfl) (by rfl) (by intro v hv; simp at hv; rcases hv with rfl | rfl | rfl <;> rfl)) (.inl (by kernel_rfl)) (fun _ _ => ?_))))
             all_goals refine tx_done (by kernel_rfl) ?_)
            rotate_right
            focus (
             (refine to_e rfl rfl (e_callV rfl (.cons rfl (.cons rfl .nil)) (fun w' hw' => word9_c ws hws hwl (n + 6) (by omega) _ w' (hWr w' (hw'.fr (w0 := w) (S := []) (MI.m (by repeat constructor)))))) (.inr ⟨fun _ _ h => h.subl (SB.s (by repeat constructor)) (SB.s (by repeat constructor)), fun _ h => h⟩) (fun _ _ => ?_))
             all_goals refine tx_p 7 rfl (by kernel_rfl) (y_rem rfl rfl (by omega) (by omega)) rfl (fun _ _ _ h => h) (fun _ h => h.subl (SB.s (by repeat constructor)) (SB.s (by repeat constructor))) ?_
             all_goals (
              refine tx_pair 11 20 (by kernel_rfl) ?_ ?_
              rotate_left
              focus (
               (refine to_e rfl rfl (e_allocN rfl) (.inr ⟨fun _ _ h => h.subl (SB.s (by repeat constructor)) (SB.s (by repeat constructor)), fun _ h => h⟩) (fun b8 _ => ?_))
               all_goals (refine tx_single 11 (by kernel_rfl) (to_e rfl rfl (e_callV rfl (.cons rfl (.cons rfl .nil)) (fun w' hw' => word9_c ws hws hwl (n + 6) (by omega) _ w' (hWr w' (hw'.fr (w0 := w) (S := []) (MI.m (by repeat constructor)))))) (.inr ⟨fun _ _ h => h.subl (SB.s (by repeat constructor)) (SB.s (by repeat constructor)), fun _ h => h⟩) (fun _ _ => ?_))); refine tx_p 12 rfl (by kernel_rfl) (y_quo rfl rfl (by omega) (by omega)) rfl (fun _ _ _ h => h) (fun _ h => h.subl (SB.s (by repeat constructor)) (SB.s (by repeat constructor))) ?_; refine tx_p 18 rfl (by kernel_rfl) (y_rem rfl rfl (by omega) (by omega)) rfl (fun _ _ _ h => h) (fun _ h => h.subl (SB.s (by repeat constructor)) (SB.s (by repeat constructor))) ?_; refine tx_p 19 rfl (by kernel_rfl) (y_build_g (by repeat constructor)) rfl (fun _ _ _ h => h) (fun _ h => h.subl (SB.s (by repeat constructor)) (SB.s (by repeat constructor))) ?_; ((refine tx_single 21 (by kernel_rfl) (to_e (S' := HG [] []) rfl rfl (e_storeW (cs := #[vi (triQ t ws n), vi (triK t ws n), vi 0]) rfl rfl (by repeat constructor) (by rfl) (by rfl) (by intro v hv; simp at hv; rcases hv with rfl | rfl | rfl <;> rfl)) (.inl (by kernel_rfl)) (fun _ _ => ?_))))
               all_goals refine tx_done (by kernel_rfl) ?_)
              rotate_right
              focus (
               (refine to_e rfl rfl (e_callV rfl (.cons rfl (.cons rfl .nil)) (fun w' hw' => word9_c ws hws hwl (n + 6) (by omega) _ w' (hWr w' (hw'.fr (w0 := w) (S := []) (MI.m (by repeat constructor)))))) (.inr ⟨fun _ _ h => h.subl (SB.s (by repeat constructor)) (SB.s (by repeat constructor)), fun _ h => h⟩) (fun _ _ => ?_))
               all_goals refine tx_p 12 rfl (by kernel_rfl) (y_quo rfl rfl (by omega) (by omega)) rfl (fun _ _ _ h => h) (fun _ h => h.subl (SB.s (by repeat constructor)) (SB.s (by repeat constructor))) ?_; refine tx_p 18 rfl (by kernel_rfl) (y_rem rfl rfl (by omega) (by omega)) rfl (fun _ _ _ h => h) (fun _ h => h.subl (SB.s (by repeat constructor)) (SB.s (by repeat constructor))) ?_; refine tx_p 19 rfl (by kernel_rfl) (y_build_g (by repeat constructor)) rfl (fun _ _ _ h => h) (fun _ h => h.subl (SB.s (by repeat constructor)) (SB.s (by repeat constructor))) ?_; refine tx_single 20 (by kernel_rfl) (to_e rfl rfl (e_allocN rfl) (.inr ⟨fun _ _ h => h.subl (SB.s (by repeat constructor)) (SB.s (by repeat constructor)), fun _ h => h⟩) (fun b8 _ => ?_)); ((refine tx_single 21 (by kernel_rfl) (to_e (S' := HG [] []) rfl rfl (e_storeW (cs := #[vi (triQ t ws n), vi (triK t ws n), vi 0]) rfl rfl (by repeat constructor) (by rfl) (by rfl) (by intro v hv; simp at hv; rcases hv with rfl | rfl | rfl <;> rfl)) (.inl (by kernel_rfl)) (fun _ _ => ?_))))
               all_goals refine tx_done (by kernel_rfl) ?_))))
           all_goals (
            exact tk_start b8 trivial (.cons rfl (.cons rfl (.cons rfl (.cons rfl (.cons rfl (.cons rfl (.cons rfl .nil))))))) (fun _ h => h.subl (SB.s (by repeat constructor)) (SB.s (by repeat constructor))))
         · rintro b8 _
           all_goals refine tc_seq fun K9 hK9 => ?_; refine tc_draw (by kernel_rfl) ?_; refine tx_q 0 rfl (by kernel_rfl) (y_loadW rfl (by repeat constructor) (by rfl)) rfl (fun _ _ _ h => h) (fun _ h => h) ?_; refine tx_p 1 rfl (by kernel_rfl) (y_field rfl) rfl (fun _ _ _ h => h) (fun _ h => h) ?_; refine tx_q 2 rfl (by kernel_rfl) (y_load1 rfl (by repeat constructor) (by rfl)) rfl (fun _ _ _ h => h) (fun _ h => h) ?_; refine tx_p 3 rfl (by kernel_rfl) (y_field rfl) rfl (fun _ _ _ h => h) (fun _ h => h) ?_; refine tx_q 4 rfl (by kernel_rfl) (y_load1 rfl (by repeat constructor) (by rfl)) rfl (fun _ _ _ h => h) (fun _ h => h) ?_; refine tx_p 5 rfl (by kernel_rfl) (y_field rfl) rfl (fun _ _ _ h => h) (fun _ h => h) ?_; refine tx_q 6 rfl (by kernel_rfl) (y_load1 rfl (by repeat constructor) (by rfl)) rfl (fun _ _ _ h => h) (fun _ h => h) ?_; refine tx_p 7 rfl (by kernel_rfl) (y_field rfl) rfl (fun _ _ _ h => h) (fun _ h => h) ?_; refine tx_q 8 rfl (by kernel_rfl) (y_load1 rfl (by repeat constructor) (by rfl)) rfl (fun _ _ _ h => h) (fun _ h => h) ?_; refine tx_p 9 rfl (by kernel_rfl) (y_index rfl rfl (by omega) eD1) rfl (fun _ _ _ h => h) (fun _ h => h) ?_; ((refine tx_q 10 rfl (by kernel_rfl) (y_load1o (v := vi ((pD t ws).getD (triQ t ws n).toNat 0)) rfl (fun w' hw' => by rw [Nat.mul_one]; exact slV_at (hD w' (hw'.fr (w0 := x1.2) (S := [b5, b4, b2]) (MI.m (by repeat constructor)))) eD1 (by rw [pkD_len]; omega))) rfl (fun _ _ _ h => h) (fun _ h => h) ?_))
           all_goals ((first | refine tx_e 11 rfl (by kernel_rfl) rfl (e_callX rfl (.cons rfl (.cons rfl (.cons rfl (.cons rfl .nil)))) (fun w' hw' => triShown_c t hv ws n (by omega) _ _ _ _ _ w' ((hr0.fr (hw'.fr (w0 := w) (S := []) (MI.m (by repeat constructor)))).tests (by have := RdT.own (xs := triL t ws n) (cap := cap) (junk := junk) hw' (b := bt) (by repeat constructor); rw [triL_len] at this; exact this)) (hE w' (hw'.fr (w0 := x1.2) (S := [b5, b4, b2]) (MI.m (by repeat constructor)))))) (.inr fun _ _ h => h.sub (fun _ h => List.mem_cons_of_mem _ h) (List.Sublist.refl _)) (fun y7 hy7 => ?_) | refine tx_e 11 rfl (by kernel_rfl) rfl (e_callX rfl (.cons rfl (.cons rfl (.cons rfl (.cons rfl .nil)))) (fun w' hw' => triShown_c t hv ws n (by omega) _ _ _ _ _ w' ((hr0.fr (hw'.fr (w0 := w) (S := []) (MI.m (by repeat constructor)))).tests (by rw [tri_ts0 hok]; exact RdT.nil _)) (hE w' (hw'.fr (w0 := x1.2) (S := [b5, b4, b2]) (MI.m (by repeat constructor)))))) (.inr fun _ _ h => h.sub (fun _ h => List.mem_cons_of_mem _ h) (List.Sublist.refl _)) (fun y7 hy7 => ?_)))
           all_goals refine tx_p 12 rfl (by kernel_rfl) (y_assign rfl) rfl (fun _ _ _ h => h) (fun _ h => h) ?_; refine tx_done (by kernel_rfl) ?_; ((refine hK9 ?_; try (clear hK9; clear K9)))
           all_goals refine tc_seq fun K10 hK10 => ?_; (obtain ⟨bY, oY, eY1⟩ := slV_ad hy7.1 (by omega))
           all_goals ((have hm1 := Int.emod_nonneg (wordF ws (n + 6) / 32) (show ((triS t ws n).length : Int) ≠ 0 by omega); have hm2 := Int.emod_lt_of_pos (wordF ws (n + 6) / 32) (show 0 < ((triS t ws n).length : Int) by omega)))
           all_goals refine tc_region ?_; refine tl_q (y_move rfl) rfl ?_; refine tl_q (y_move rfl) rfl ?_; refine tl_q (y_move rfl) rfl ?_; refine tl_q (y_add rfl rfl (by omega)) rfl ?_; refine tl_e (e_callV rfl (.cons rfl (.cons rfl .nil)) (fun w' hw' => word9_c ws hws hwl (n + 6) (by omega) _ w' (hWr w' (hw'.fr (w0 := w) (S := []) (MI.m (by repeat constructor)))))) rfl (fun _ _ => ?_); refine tl_q (y_quo rfl rfl (by omega) (by omega)) rfl ?_; refine tl_q (y_move rfl) rfl ?_; refine tl_q (y_len rfl) rfl ?_; refine tl_q (y_rem rfl rfl (by omega) (by omega)) rfl ?_; refine tl_q (y_index rfl rfl (by omega) eY1) rfl ?_; ((refine tl_q (y_load1o (v := vi ((triS t ws n).getD (wordF ws (n + 6) / 32 % ((triS t ws n).length : Int)).toNat 0)) rfl (fun w' hw' => by rw [Nat.mul_one]; exact slV_at (hy7.1.fr (hw'.calm hy7.2 (MI.m (by repeat constructor)) (SB.s (by repeat constructor)))) eY1 (by omega))) rfl ?_))
           all_goals refine tl_q (y_field rfl) rfl ?_; refine tl_e (e_store1 rfl rfl (by repeat constructor) (by repeat constructor) (by rfl) (by rfl)) rfl (fun _ _ => ?_); refine tl_nil ?_; ((refine hK10 ?_; try (clear hK10; clear K10)))
           all_goals refine tc_region ?_; refine tl_q (y_field rfl) rfl ?_; refine tl_q (y_load1 rfl (by repeat constructor) (by rfl)) rfl ?_; refine tl_q (y_loadW rfl (by repeat constructor) (by rfl)) rfl ?_; refine tl_e (e_bslice31 rfl rfl) rfl (fun _ _ => ?_); ((first | refine tl_e (e_append_own (old := flatT (triL t ws n)) (junk := junk) rfl rfl rfl (by repeat constructor) (by rw [flatT_len, triL_len]) hok.2 hok.1 (fun w' hw' => RdT.own0 (xs := [triX t ws n]) hw' (by repeat constructor)) (flatT_one _) (by simp only [List.length_cons, List.length_nil]; omega) rfl) rfl (fun u hu => ?_) | refine tl_e (e_append_nil rfl rfl rfl (fun w' hw' => RdT.own0 (xs := [triX t ws n]) hw' (by repeat constructor)) (flatT_one _) Nat.zero_lt_one (Nat.le_of_ble_eq_true rfl) rfl) rfl (fun u hu => ?_)))
           all_goals refine tl_q (y_field rfl) rfl ?_; refine tl_e (e_store1 rfl rfl (by repeat constructor) (by repeat constructor) (by rfl) (by rfl)) rfl (fun _ _ => ?_); refine tl_nil ?_; ((refine hK8 ?_; try (clear hK8; clear K8)))
           all_goals refine tc_region ?_; refine tl_q (y_move rfl) rfl ?_; refine tl_q (y_add rfl rfl (by omega)) rfl ?_; refine tl_q (y_assign rfl) rfl ?_; refine tl_nil ?_
           all_goals (
            have hs2 := triL_succ t ws n
            refine tk_round (n + 1, some (u.1, u.2.1, u.2.2)) ⟨by dsimp only; omega, ?_⟩ (by dsimp only; omega) (.cons rfl (.cons rfl (.cons rfl (.cons rfl (.cons rfl (.cons rfl .nil)))))) (fun _ h => ?_)
            · dsimp only [outOkT]; simp only [List.length_cons, List.length_nil] at hu ⊢; omega
            · dsimp only [slH_some, List.cons_append, List.nil_append, outV']; rw [hs2, flatT_append]
              try rw [tri_ts0 hok, show flatT [] = [] from rfl, List.nil_append]
              try rw [show n = 0 from hok] at h ⊢
              exact h.subl (SB.s (by repeat constructor)) (SB.s (by repeat constructor))))
      · try simp only [decide_eq_true_eq, decide_eq_false_iff_not, Int.not_lt, Int.not_le, Bool.not_eq_true', Bool.not_eq_false', Decidable.not_not, not_true_eq_false] at hc
        all_goals refine tc_exit ?_; ((refine hK4 ?_; try (clear hK4; clear K4)))
        all_goals refine tc_seq fun K11 hK11 => ?_; (have hnl : n = triN ws := by omega)
        all_goals subst hnl
        all_goals refine tc_drawS (by first | exact [(b6, .cells #[slV t.parts.length x1.1.1, slV t.liquids.length x1.1.2] 92 (0, 0)), (b2, tO t (.slice aw t.s.weights.length cw) (.slice ap t.parts.length cp) (.slice aL t.liquids.length cL) (.slice (some ⟨bt, 0, none⟩) (triN ws) cap))] | exact [(b6, .cells #[slV t.parts.length x1.1.1, slV t.liquids.length x1.1.2] 92 (0, 0)), (b2, tO t (.slice aw t.s.weights.length cw) (.slice ap t.parts.length cp) (.slice aL t.liquids.length cL) (.slice none 0 0))]) (by kernel_rfl) ?_; refine tx_qS 0 rfl (by kernel_rfl) (y_loadW rfl (by repeat constructor) (by rfl)) rfl (fun _ _ _ h => h) (fun _ h => h.subl (SB.s (by repeat constructor)) (SB.s (by repeat constructor))) ?_; refine tx_qS 1 rfl (by kernel_rfl) (y_loadW rfl (by repeat constructor) (by rfl)) rfl (fun _ _ _ h => h) (fun _ h => h.subl (SB.s (by repeat constructor)) (SB.s (by repeat constructor))) ?_; (first | refine tx_single 2 (by kernel_rfl) (to_e rfl rfl (e_storeW (cs := #[vi t.s.mass, vi t.s.volume, vi t.s.step, vi t.s.divisions, vi t.s.width, .slice aw t.s.weights.length cw, .slice ap t.parts.length cp, vi t.worst, .slice aL t.liquids.length cL, .slice (some ⟨bt, 0, none⟩) (triN ws) cap]) rfl rfl (by repeat constructor) (by rfl) (by rfl) (tr_ones rfl rfl rfl rfl)) (.inr ⟨fun _ _ h => h.subl (SB.s (by repeat constructor)) (SB.s (by repeat constructor)), fun _ h => h⟩) (fun _ _ => ?_)) | refine tx_single 2 (by kernel_rfl) (to_e rfl rfl (e_storeW (cs := #[vi t.s.mass, vi t.s.volume, vi t.s.step, vi t.s.divisions, vi t.s.width, .slice aw t.s.weights.length cw, .slice ap t.parts.length cp, vi t.worst, .slice aL t.liquids.length cL, .slice none 0 0]) rfl rfl (by repeat constructor) (by rfl) (by rfl) (tr_ones rfl rfl rfl rfl)) (.inr ⟨fun _ _ h => h.subl (SB.s (by repeat constructor)) (SB.s (by repeat constructor)), fun _ h => h⟩) (fun _ _ => ?_))); ((refine tx_single 3 (by kernel_rfl) (to_e (S' := HG [] []) rfl rfl (e_storeW (cs := #[slV t.parts.length x1.1.1, slV t.liquids.length x1.1.2]) rfl rfl (by repeat constructor) (by rfl) (by rfl) (by intro v hv; simp at hv; rcases hv with rfl | rfl <;> rfl)) (.inl (by kernel_rfl)) (fun _ _ => ?_))))
        all_goals refine tx_done (by kernel_rfl) ?_; ((refine hK11 ?_; try (clear hK11; clear K11)))
        all_goals refine tc_ret ?_; (repeat (first | refine tk_then_ret ?_))
        all_goals (refine tk_ret rfl rfl (.cons (.agg inferInstance rfl (by repeat constructor) (by rfl)) (.cons (.agg inferInstance rfl (by repeat constructor) (by rfl)) .nil)) ?_)
        all_goals (
         refine fun w' hw' => ?_
         have hE2 := hE w' (hw'.fr (w0 := x1.2) (S := [b5, b4, b2]) (MI.m (by repeat constructor)))
         have hD2 := hD w' (hw'.fr (w0 := x1.2) (S := [b5, b4, b2]) (MI.m (by repeat constructor)))
         first
         | exact ⟨(x1.1, (some ⟨bt, 0, none⟩, cap)), rfl, hw'.fr (w0 := w) (S := []) (MI.m (by repeat constructor)), ⟨hE2, hD2⟩, by have := RdT.own (xs := triL t ws (triN ws)) (cap := cap) (junk := junk) hw' (b := bt) (by repeat constructor); rw [triL_len] at this; exact this⟩
         | exact ⟨(x1.1, (none, 0)), by unfold slV; rw [hok]; rfl, hw'.fr (w0 := w) (S := []) (MI.m (by repeat constructor)), ⟨hE2, hD2⟩, by unfold slV; rw [hok, tri_ts0 rfl]; exact RdT.nil _⟩)))
end Go.Sp
/-
  What several statements about trials use: answers as slices; appending to slices that may be long.
-/
namespace Go.Sp
open Go Go.Proofs
theorem slicedY {P : Program} {f : FuncId} {args : Array Value} {w : World} {g : Value → Value} {xs : List Int} (h : CnX P f args w [] g (fun v w' => RdI w' v xs)) :
    CnX P f args w [] (fun x : Option Addr × Nat => g (slV xs.length x)) (fun x w' => RdI w' (slV xs.length x) xs) :=
  CnX.of (h.out.mono fun e w' he => by
    obtain ⟨v, rfl, hf, hr⟩ := he
    obtain ⟨hl, ad, cap, rfl, h2⟩ := hr
    exact ⟨(ad, cap), rfl, hf, ⟨hl, ad, cap, rfl, h2⟩⟩)
theorem leaveT_sy (t : Tr) (hv : VT t) (sl pl ll tl : Value) (w : World) (hr : RdTr w t sl pl ll tl) :
    CnX Tryz.prog 37 #[trV t sl pl ll tl] w [] (fun x : Option Addr × Nat => .tuple #[slV (leaveTL t).length x, vi 0]) (fun x w' => RdI w' (slV (leaveTL t).length x) (leaveTL t)) :=
  slicedY (leaveT_ok t hv sl pl ll tl w hr)
end Go.Sp
/-
  TrialTruth: the law's function returns true.
-/
namespace Go.Sp
open Go Go.Proofs
theorem slV_adR {w : World} {l : List (Int × Int)} {n : Nat} {x : Option Addr × Nat} (h : RdR w (slV n x) l) (h0 : 0 < l.length) : ∃ b o, x.1 = some ⟨b, o, none⟩ := by
  obtain ⟨_, ad, cap, e, hr⟩ := h
  obtain ⟨b, o, e2, _⟩ := hr (by omega)
  unfold slV at e
  injection e with e1
  exact ⟨b, o, by rw [e1, e2]⟩
theorem slV_atR {w : World} {l : List (Int × Int)} {n : Nat} {x : Option Addr × Nat} {b o : Nat} (h : RdR w (slV n x) l) (e : x.1 = some ⟨b, o, none⟩) {i : Nat} (hi : i < l.length) : w.cell? ⟨b, o + i * 2, none⟩ = some (vi (l.getD i (0, 0)).1) ∧ w.cell? ⟨b, o + i * 2 + 1, none⟩ = some (vi (l.getD i (0, 0)).2) := by
  obtain ⟨ad, cap, b', o', e0, had, hc⟩ := h.open
  unfold slV at e0
  injection e0 with e1
  have h2 := had (by omega)
  rw [e1, h2] at e
  cases e
  have := hc w [] (Fr.refl _ _) (by simp) i hi
  exact ⟨this.get 0 _ rfl, this.get 1 _ rfl⟩
theorem truthC_c (xe xd : List Int) (n1 n2 : Nat) (h1 : xe.length = n1) (h2 : xd.length = n2) (g1 : n1 ≤ 1000) (g2 : n2 ≤ 1000) (y1 y2 : Option Addr × Nat) (w : World) (hE : RdI w (slV n1 y1) xe) (hD : RdI w (slV n2 y2) xd) :
    CnX Tryz.prog 53 #[.agg #[slV n1 y1, slV n2 y2]] w [] (fun x : (Option Addr × Nat) × (Option Addr × Nat) => .agg #[slV n1 x.1, slV n2 x.2]) (fun x w' => RdI w' (slV n1 x.1) xe ∧ RdI w' (slV n2 x.2) xd) := by
  subst h1; subst h2
  refine cnx0 (vs := [_]) Tryz.func53 rfl rfl ?_
  all_goals refine tc_seq fun K1 hK1 => ?_; refine tc_region ?_; refine tl_e (e_box rfl rfl rfl) rfl (fun b1 _ => ?_); refine tl_e (e_allocN rfl) rfl (fun b2 _ => ?_); refine tl_nil ?_; ((refine hK1 ?_; try (clear hK1; clear K1)))
  all_goals refine tc_seq fun K2 hK2 => ?_; refine tc_drawS ([(b1, .cells #[slV xe.length y1, slV xd.length y2] 92 (0, 0))]) (by kernel_rfl) ?_; refine tx_p 0 rfl (by kernel_rfl) (y_field rfl) rfl (fun _ _ _ h => h) (fun _ h => h.subl (SB.s (by repeat constructor)) (SB.s (by repeat constructor))) ?_; refine tx_qS 1 rfl (by kernel_rfl) (y_load1 rfl (by repeat constructor) (by rfl)) rfl (fun _ _ _ h => h) (fun _ h => h.subl (SB.s (by repeat constructor)) (SB.s (by repeat constructor))) ?_; refine tx_p 3 rfl (by kernel_rfl) (y_field rfl) rfl (fun _ _ _ h => h) (fun _ h => h.subl (SB.s (by repeat constructor)) (SB.s (by repeat constructor))) ?_; refine tx_qS 4 rfl (by kernel_rfl) (y_load1 rfl (by repeat constructor) (by rfl)) rfl (fun _ _ _ h => h) (fun _ h => h.subl (SB.s (by repeat constructor)) (SB.s (by repeat constructor))) ?_; ((refine tx_single 2 (by kernel_rfl) (to_e rfl rfl (e_callX rfl (.cons rfl .nil) (fun w' hw' => ((list9_c xe g1 _ w' (hE.fr (hw'.fr (w0 := w) (S := []) (MI.m (by repeat constructor))))).imp (val' := slV xe.length) (p' := fun x w2 => RdI w2 (slV xe.length x) xe ∧ sepS (slV xe.length x) [b2, b1]) id (fun _ => rfl) (fun _ h => h) (fun x w2 _ h => ⟨h.1, fun p m c e hb => by have q1 := h.2 p m c e; have q2 := hw'.lt (HM.mem (b := b1) (by repeat constructor)); have q3 := hw'.lt (HM.mem (b := b2) (by repeat constructor)); simp only [List.mem_cons, List.not_mem_nil, or_false] at hb; omega⟩)))) (.inr ⟨fun _ _ h => h.subl (SB.s (by repeat constructor)) (SB.s (by repeat constructor)), fun _ h => h⟩) (fun x hx => ?_))))
  all_goals ((refine tx_single 5 (by kernel_rfl) (to_e rfl rfl (e_callX rfl (.cons rfl .nil) (fun w' hw' => ((list9_c xd g2 _ w' (hD.fr (hw'.fr (w0 := w) (S := []) (MI.m (by repeat constructor))))).imp (val' := slV xd.length) (p' := fun x w2 => RdI w2 (slV xd.length x) xd ∧ sepS (slV xd.length x) [b2, b1]) id (fun _ => rfl) (fun _ h => h) (fun x w2 _ h => ⟨h.1, fun p m c e hb => by have q1 := h.2 p m c e; have q2 := hw'.lt (HM.mem (b := b1) (by repeat constructor)); have q3 := hw'.lt (HM.mem (b := b2) (by repeat constructor)); simp only [List.mem_cons, List.not_mem_nil, or_false] at hb; omega⟩)))) (.inr ⟨fun _ _ h => h.subl (SB.s (by repeat constructor)) (SB.s (by repeat constructor)), fun _ h => h⟩) (fun y hy => ?_))))
  all_goals (refine tx_p 6 rfl (by kernel_rfl) (y_build_g (by repeat constructor)) rfl (fun _ _ _ h => h) (fun _ h => h.subl (SB.s (by repeat constructor)) (SB.s (by repeat constructor))) ?_); ((refine tx_single 7 (by kernel_rfl) (to_e (S' := HG [] []) rfl rfl (e_storeW (cs := #[slV xe.length x.1, slV xd.length y.1]) rfl rfl (by repeat constructor) (by rfl) (by rfl) (by intro v hv; simp at hv; rcases hv with rfl | rfl <;> rfl)) (.inl (by kernel_rfl)) (fun _ _ => ?_))))
  all_goals refine tx_done (by kernel_rfl) ?_; ((refine hK2 ?_; try (clear hK2; clear K2)))
  all_goals refine tc_ret ?_; (repeat (first | refine tk_then_ret ?_))
  all_goals (refine tk_ret rfl rfl (.cons (.agg inferInstance rfl (by repeat constructor) (by rfl)) .nil) ?_)
  all_goals (
   exact fun w' hw' => ⟨(x.1, y.1), rfl, hw'.fr (w0 := w) (S := []) (MI.m (by repeat constructor)), Reads.frS hx.1.1 (hw'.fr (w0 := x.2) (S := [b2, b1]) (MI.m (by repeat constructor))) hx.1.2, Reads.frS hy.1.1 (hw'.fr (w0 := y.2) (S := [b2, b1]) (MI.m (by repeat constructor))) hy.1.2⟩)
end Go.Sp
/-
  TrialShows: the law's function returns true.
-/
namespace Go.Sp
open Go Go.Proofs
theorem areErrors_c (t : Tr) (hv : VT t) (l : List Int) (hl : (l.length : Int) ≤ 9000000000000000000) (sl pl ll tl lv : Value) (w : World) (hp : RdI w pl t.parts) (hL : RdI w lv l) : CnV Tryz.prog 22 #[trV t sl pl ll tl, lv] w (.bool (errB t l)) := by
  have hw0 := hv.w
  obtain ⟨ap, cp, _, _, rfl, _, _⟩ := hp.open
  obtain ⟨ad, cap, b0, o, rfl, had, hcell⟩ := hL.open
  refine cnv (vs := [_, _]) Tryz.func22 rfl rfl ?_
  all_goals refine tc_seq fun K1 hK1 => ?_; refine tc_region ?_; refine tl_e (e_box rfl rfl rfl) rfl (fun b2 _ => ?_); refine tl_q (y_assign rfl) rfl ?_; refine tl_nil ?_; ((refine hK1 ?_; try (clear hK1; clear K1)))
  all_goals refine tc_seq fun K2 hK2 => ?_; refine tc_seq fun K3 hK3 => ?_; refine tc_region ?_; refine tl_q (y_assign rfl) rfl ?_; refine tl_nil ?_; ((refine hK3 ?_; try (clear hK3; clear K3)))
  all_goals refine tc_block ?_
  all_goals (
   refine tc_loop (fun n : Nat => n ≤ l.length ∧ ∀ j : Nat, j < n → -t.worst ≤ l.getD j 0 ∧ l.getD j 0 ≤ t.worst) (fun n => [(1, .slice ad l.length cap), (2, ptr b2), (5, vi n)]) (fun _ => [(w, [])]) (fun _ => [(b2, .cells (trV t sl (.slice ap t.parts.length cp) ll tl).cells 28 (0, 0))]) (fun n => l.length - n) ?_ ?_
   · exact tk_start 0 ⟨Nat.zero_le _, fun j hj => absurd hj (Nat.not_lt_zero j)⟩ (.cons rfl (.cons rfl (.cons rfl .nil))) (fun _ h => h)
   · rintro n ⟨hn, hI⟩
     all_goals refine tc_seq fun K4 hK4 => ?_; refine tc_seq fun K5 hK5 => ?_; refine tc_region ?_; refine tl_q (y_move rfl) rfl ?_; refine tl_q (y_move rfl) rfl ?_; refine tl_q (y_len rfl) rfl ?_; refine tl_q (y_lss rfl rfl) rfl ?_; refine tl_nil ?_; ((refine hK5 ?_; try (clear hK5; clear K5)))
     all_goals (
      refine tc_cond rfl (fun hc => ?_) (fun hc => ?_)
      · try simp only [decide_eq_true_eq, decide_eq_false_iff_not, Int.not_lt, Int.not_le, Bool.not_eq_true', Bool.not_eq_false', Decidable.not_not, not_true_eq_false] at hc
        all_goals refine tc_skip ?_; ((refine hK4 ?_; try (clear hK4; clear K4)))
        all_goals refine tc_seq fun K6 hK6 => ?_; refine tc_block ?_; refine tc_seq fun K7 hK7 => ?_; have had' := had (by omega)
        all_goals refine tc_draw (by kernel_rfl) ?_; refine tx_p 0 rfl (by kernel_rfl) (y_move rfl) rfl (fun _ _ _ h => h) (fun _ h => h) ?_; refine tx_p 1 rfl (by kernel_rfl) (y_move rfl) rfl (fun _ _ _ h => h) (fun _ h => h) ?_; refine tx_p 2 rfl (by kernel_rfl) (y_index rfl rfl (by omega) had') rfl (fun _ _ _ h => h) (fun _ h => h) ?_; ((refine tx_q 3 rfl (by kernel_rfl) (y_load1o (v := vi (l.getD n 0)) rfl (fun w' hw' => by rw [show Int.toNat (n : Int) * 1 = n from by omega]; exact hcell w' (hw'.fr (w0 := w) (S := []) (MI.m (by repeat constructor))) n (by omega))) rfl (fun _ _ _ h => h) (fun _ h => h) ?_))
        all_goals refine tx_p 4 rfl (by kernel_rfl) (y_field rfl) rfl (fun _ _ _ h => h) (fun _ h => h) ?_; refine tx_q 5 rfl (by kernel_rfl) (y_load1 rfl (by repeat constructor) (by rfl)) rfl (fun _ _ _ h => h) (fun _ h => h) ?_; refine tx_p 6 rfl (by kernel_rfl) (y_neg rfl (by omega)) rfl (fun _ _ _ h => h) (fun _ h => h) ?_; refine tx_p 7 rfl (by kernel_rfl) (y_field rfl) rfl (fun _ _ _ h => h) (fun _ h => h) ?_; refine tx_q 8 rfl (by kernel_rfl) (y_load1 rfl (by repeat constructor) (by rfl)) rfl (fun _ _ _ h => h) (fun _ h => h) ?_; refine tx_e 9 rfl (by kernel_rfl) rfl (e_callV rfl (.cons rfl (.cons rfl (.cons rfl .nil))) (fun w' _ => in_c _ _ _ w')) (.inr fun _ _ h => h) (fun _ _ => ?_); refine tx_p 10 rfl (by kernel_rfl) (y_not_dec rfl) rfl (fun _ _ _ h => h) (fun _ h => h) ?_; refine tx_done (by kernel_rfl) ?_; ((refine hK7 ?_; try (clear hK7; clear K7)))
        all_goals (
         refine tc_cond rfl (fun hc => ?_) (fun hc => ?_)
         · try simp only [decide_eq_true_eq, decide_eq_false_iff_not, Int.not_lt, Int.not_le, Bool.not_eq_true', Bool.not_eq_false', Decidable.not_not, not_true_eq_false] at hc
           all_goals refine tc_seq fun K8 hK8 => ?_; refine tc_region ?_; refine tl_q (y_assign rfl) rfl ?_; refine tl_nil ?_; ((refine hK8 ?_; try (clear hK8; clear K8)))
           all_goals refine tc_ret ?_; (repeat (first | refine tk_then_ret ?_ | refine tk_block_ret ?_))
           all_goals (refine tk_ret rfl rfl (.cons (.tmp rfl) .nil) ?_)
           all_goals (
            refine fun w' hw' => ⟨congrArg (fun b => Ending.returned (Value.bool b)) ?_, hw'.fr (by simp)⟩
            unfold errB
            first
            | (have hf : (l.all fun n => decide (-t.worst ≤ n ∧ n ≤ t.worst)) = false := List.all_eq_false.2 ⟨l.getD n 0, by rw [List.getD_eq_getElem?_getD, List.getElem?_eq_getElem (by omega)]; exact List.getElem_mem _, by rw [decide_eq_true_eq]; exact hc⟩
               rw [hf, Bool.and_false])
            | (have hf : (l.all fun n => decide (-t.worst ≤ n ∧ n ≤ t.worst)) = true := List.all_eq_true.2 (fun x hx => by
                 obtain ⟨j, hj, rfl⟩ := List.getElem_of_mem hx
                 have := hI j (by omega)
                 rw [List.getD_eq_getElem?_getD, List.getElem?_eq_getElem hj] at this
                 exact decide_eq_true this)
               rw [hf, Bool.and_true]
               exact decide_eq_decide.2 (by omega)))
         · try simp only [decide_eq_true_eq, decide_eq_false_iff_not, Int.not_lt, Int.not_le, Bool.not_eq_true', Bool.not_eq_false', Decidable.not_not, not_true_eq_false] at hc
           all_goals refine tc_skip ?_; ((refine hK6 ?_; try (clear hK6; clear K6)))
           all_goals refine tc_region ?_; refine tl_q (y_move rfl) rfl ?_; refine tl_q (y_add rfl rfl (by omega)) rfl ?_; refine tl_q (y_assign rfl) rfl ?_; refine tl_nil ?_
           all_goals (
            exact tk_round (n + 1) ⟨by omega, fun j hj => by
              rcases Nat.lt_succ_iff_lt_or_eq.1 hj with g | rfl
              · exact hI j g
              · exact hc⟩ (by omega) (.cons rfl (.cons rfl (.cons rfl .nil))) (fun _ h => h.subl (SB.s (by repeat constructor)) (SB.s (by repeat constructor)))))
      · try simp only [decide_eq_true_eq, decide_eq_false_iff_not, Int.not_lt, Int.not_le, Bool.not_eq_true', Bool.not_eq_false', Decidable.not_not, not_true_eq_false] at hc
        all_goals refine tc_exit ?_; ((refine hK2 ?_; try (clear hK2; clear K2)))
        all_goals refine tc_seq fun K9 hK9 => ?_; refine tc_region ?_; refine tl_q (y_move rfl) rfl ?_; refine tl_q (y_len rfl) rfl ?_; refine tl_q (y_field rfl) rfl ?_; refine tl_q (y_load1 rfl (by repeat constructor) (by rfl)) rfl ?_; refine tl_q (y_len rfl) rfl ?_; refine tl_q (y_eql rfl rfl) rfl ?_; refine tl_q (y_assign rfl) rfl ?_; refine tl_nil ?_; ((refine hK9 ?_; try (clear hK9; clear K9)))
        all_goals refine tc_ret ?_; (repeat (first | refine tk_then_ret ?_))
        all_goals (refine tk_ret rfl rfl (.cons (.tmp rfl) .nil) ?_)
        all_goals (
         refine fun w' hw' => ⟨congrArg (fun b => Ending.returned (Value.bool b)) ?_, hw'.fr (by simp)⟩
         unfold errB
         first
         | (have hf : (l.all fun n => decide (-t.worst ≤ n ∧ n ≤ t.worst)) = false := List.all_eq_false.2 ⟨l.getD n 0, by rw [List.getD_eq_getElem?_getD, List.getElem?_eq_getElem (by omega)]; exact List.getElem_mem _, by rw [decide_eq_true_eq]; exact hc⟩
            rw [hf, Bool.and_false])
         | (have hf : (l.all fun n => decide (-t.worst ≤ n ∧ n ≤ t.worst)) = true := List.all_eq_true.2 (fun x hx => by
              obtain ⟨j, hj, rfl⟩ := List.getElem_of_mem hx
              have := hI j (by omega)
              rw [List.getD_eq_getElem?_getD, List.getElem?_eq_getElem hj] at this
              exact decide_eq_true this)
            rw [hf, Bool.and_true]
            exact decide_eq_decide.2 (by omega)))))
theorem shownE_v (t : Tr) (l : List Int) (k d : Int) : (¬ chkT t = 0 ∧ shownE t l k d = ([], chkT t)) ∨ (chkT t = 0 ∧ errB t l = false ∧ shownE t l k d = ([], 2)) ∨ (chkT t = 0 ∧ errB t l = true ∧ ¬ (0 ≤ k ∧ k ≤ t.s.weights.length) ∧ shownE t l k d = ([], 2)) ∨
    (chkT t = 0 ∧ errB t l = true ∧ (0 ≤ k ∧ k ≤ t.s.weights.length) ∧ ¬ (1 ≤ d ∧ d ≤ 2000) ∧ shownE t l k d = ([], 2)) ∨ (chkT t = 0 ∧ errB t l = true ∧ (0 ≤ k ∧ k ≤ t.s.weights.length) ∧ (1 ≤ d ∧ d ≤ 2000) ∧ (shownE t l k d).2 = 0) := by
  by_cases h0 : chkT t = 0
  · right
    cases hb : errB t l
    · left
      refine ⟨h0, rfl, ?_⟩
      unfold shownE; rw [if_neg (by omega), if_pos (.inl hb)]
    · right
      by_cases hk : 0 ≤ k ∧ k ≤ t.s.weights.length
      · right
        by_cases hd : 1 ≤ d ∧ d ≤ 2000
        · right
          refine ⟨h0, rfl, hk, hd, ?_⟩
          unfold shownE; rw [if_neg (by omega), if_neg (by rw [hb]; simp only [Bool.true_eq_false, false_or, not_or, Decidable.not_not]; exact ⟨hk, hd⟩)]
        · left
          refine ⟨h0, rfl, hk, hd, ?_⟩
          unfold shownE; rw [if_neg (by omega), if_pos (.inr (.inr hd))]
      · left
        refine ⟨h0, rfl, hk, ?_⟩
        unfold shownE; rw [if_neg (by omega), if_pos (.inr (.inl hk))]
  · left
    refine ⟨h0, ?_⟩
    unfold shownE; rw [if_pos h0]
end Go.Sp
/-
  TrialTruth: the law's function returns true.
-/
namespace Go.Sp
open Go Go.Proofs
theorem shownE_ok {t : Tr} (hv : VT t) {l : List Int} (hl : errB t l = true) {k d : Int} (hk : 0 ≤ k ∧ k ≤ t.s.weights.length) (hd : 1 ≤ d ∧ d ≤ 2000) : (shownE t l k d).2 = 0 := by
  rcases shownE_v t l k d with ⟨h, _⟩ | ⟨_, h, _⟩ | ⟨_, _, h, _⟩ | ⟨_, _, _, h, _⟩ | ⟨_, _, _, _, h⟩
  · exact absurd (chkT_0.2 hv) h
  · rw [hl] at h; cases h
  · exact absurd hk h
  · exact absurd hd h
  · exact h
set_option maxHeartbeats 2000000 in
theorem truth9_law (t : Tr) (ws : List Int) (hws : ∀ x ∈ ws, 0 ≤ x ∧ x ≤ 255) (hwl : (ws.length : Int) ≤ 9223372036854775807) (n3 n4 : Int) (w3 : 0 ≤ n3 ∧ n3 ≤ 255) (w4 : 0 ≤ n4 ∧ n4 ≤ 65535) (sl pl ll tl wv : Value) (w : World) (hr : RdTr w t sl pl ll tl) (hW : RdW w wv ws) :
    CnV Tryz.prog 13 #[trV t sl pl ll tl, wv, v8 n3, v16 n4] w (.bool true) := by
  have hr0 := hr
  obtain ⟨aw, cw, _, _, rfl, _, _⟩ := hr.ws.open
  obtain ⟨ap, cp, _, _, rfl, _, _⟩ := hr.ps.open
  obtain ⟨al, cl, _, _, rfl, _, _⟩ := hr.ls.open
  obtain ⟨at', ct, _, _, rfl, _, _⟩ := hr.ts.open
  obtain ⟨adw, cpw, bw0, ow, rfl, _, _⟩ := rdk9_open hW
  have hWr : ∀ w', Fr [] w w' → RdW w' (.slice adw ws.length cpw) ws := fun w' f => Reads.frS hW f (by simp)
  obtain ⟨k, hk⟩ : ∃ k, k = n3 % ((t.s.weights.length : Int) + 1) := ⟨_, rfl⟩
  obtain ⟨d, hd⟩ : ∃ d, d = 1 + n4 % 2000 := ⟨_, rfl⟩
  have hkb : 0 ≤ k ∧ k ≤ t.s.weights.length := by
    have := Int.emod_lt_of_pos n3 (show 0 < (t.s.weights.length : Int) + 1 by omega)
    have := Int.emod_nonneg n3 (show (t.s.weights.length : Int) + 1 ≠ 0 by omega)
    omega
  have hdb : 1 ≤ d ∧ d ≤ 2000 := by omega
  obtain ⟨M, hM⟩ : ∃ M, M = triN ws := ⟨_, rfl⟩
  have hM6 : M ≤ 6 := by rw [hM]; exact triN_bd
  refine cnv (vs := [_, _, _, _]) Tryz.func13 rfl rfl ?_
  all_goals refine tc_seq fun K1 hK1 => ?_; refine tc_region ?_; refine tl_e (e_box rfl rfl rfl) rfl (fun b4 _ => ?_); refine tl_q (y_assign rfl) rfl ?_; refine tl_nil ?_; ((refine hK1 ?_; try (clear hK1; clear K1)))
  all_goals refine tc_seq fun K2 hK2 => ?_; refine tc_seq fun K3 hK3 => ?_; refine tc_lay ([]) (SB.s (by repeat constructor)) (fun wl1 hl1 => ?_); refine tc_region ?_; refine tl_q (y_loadWf rfl (hl1.at (by repeat constructor)) (MI.m (by repeat constructor)) (by simp) (by rfl)) rfl ?_; refine tl_e (e_callV rfl (.cons rfl .nil) (fun w' hw' => ready9_c t _ _ _ _ w' (hr0.fr (hw'.fr (w0 := w) (S := []) (MI.m (by repeat constructor)))))) rfl (fun _ _ => ?_); refine tl_q (y_not_dec rfl) rfl ?_; refine tl_nil ?_; ((refine hK3 ?_; try (clear hK3; clear K3)))
  all_goals (
   refine tc_cond rfl (fun hc => ?_) (fun hc => ?_)
   · try simp only [decide_eq_true_eq, decide_eq_false_iff_not, Int.not_lt, Int.not_le, Bool.not_eq_true', Bool.not_eq_false', Decidable.not_not, not_true_eq_false] at hc
     all_goals refine tc_seq fun K4 hK4 => ?_; refine tc_lay ([]) (SB.s (by repeat constructor)) (fun wl2 hl2 => ?_); refine tc_region ?_; refine tl_e (e_callV rfl .nil (fun w' _ => awake9_c w')) rfl (fun _ _ => ?_); refine tl_q (y_assign rfl) rfl ?_; refine tl_nil ?_; ((refine hK4 ?_; try (clear hK4; clear K4)))
     all_goals refine tc_ret ?_; (repeat (refine tk_then_ret ?_))
     all_goals (refine tk_ret rfl rfl (.cons (.tmp rfl) .nil) ?_)
     all_goals (
      first | exact fun w' hw' => ⟨rfl, hw'.fr (w0 := w) (S := []) (MI.m (by repeat constructor))⟩ | (exfalso; omega))
   · try simp only [decide_eq_true_eq, decide_eq_false_iff_not, Int.not_lt, Int.not_le, Bool.not_eq_true', Bool.not_eq_false', Decidable.not_not, not_true_eq_false] at hc
     all_goals refine tc_skip ?_; ((refine hK2 ?_; try (clear hK2; clear K2)))
     all_goals refine tc_seq fun K5 hK5 => ?_; refine tc_lay ([]) (SB.s (by repeat constructor)) (fun wl3 hl3 => ?_); (obtain ⟨hth, hch⟩ := hc)
     all_goals ((have hv := chkT_0.1 hch; obtain ⟨ht1, ht2, ht3, ht4⟩ := hth))
     all_goals ((have hp1 := hv.p1; have hp3 := hv.p3; have hq3 := hv.l3; have hq1 := hv.l1))
     all_goals ((have hpr := tri_proves hv ws hM6; have hvu := triT_valid hv ws hM6))
     all_goals ((have htr := prove_mem hvu hpr; have hA := asked_mem hvu htr.1))
     all_goals (have htl : (triT t ws M).tests.length = M := triL_len t ws M)
     all_goals ((have hnu : NT (triT t ws M) := ⟨by show (t.s.weights.length : Int) ≤ _; omega, by show (t.parts.length : Int) ≤ _; omega, by show (t.liquids.length : Int) ≤ _; omega, by rw [htl]; omega⟩))
     all_goals (have hl0 : (leaveTL (triT t ws M)).length = 0 := (leave_0 hvu).1 hA)
     all_goals refine tc_region ?_; refine tl_q (y_loadWf rfl (hl1.at (by repeat constructor)) (MI.m (by repeat constructor)) (by simp) (by rfl)) rfl ?_; refine tl_q (y_move rfl) rfl ?_; (refine tl_e (e_callX rfl (.cons rfl (.cons rfl .nil)) (fun w' hw' => by have h := tried_c t hv ws hws hwl _ _ _ _ _ w' (hr0.fr (hw'.fr (w0 := w) (S := []) (MI.m (by repeat constructor)))) (hWr w' (hw'.fr (w0 := w) (S := []) (MI.m (by repeat constructor)))); rw [← hM] at h; exact h)) rfl (fun x3 hx3 => ?_))
     all_goals refine tl_q (y_move rfl) rfl ?_; refine tl_q (y_extract rfl rfl) rfl ?_; refine tl_q (y_extract rfl rfl) rfl ?_; refine tl_e (e_allocN rfl) rfl (fun b9 _ => ?_); refine tl_e (e_allocN rfl) rfl (fun b10 _ => ?_); refine tl_e (e_storeW (cs := #[vi t.s.mass, vi t.s.volume, vi t.s.step, vi t.s.divisions, vi t.s.width, .slice aw t.s.weights.length cw, .slice ap t.parts.length cp, vi t.worst, .slice al t.liquids.length cl, slV M x3.1.2]) rfl rfl (by repeat constructor) (by rfl) (by rfl) (tr_ones rfl rfl rfl rfl)) rfl (fun _ _ => ?_); ((refine tl_e (e_storeW (cs := #[slV t.parts.length x3.1.1.1, slV t.liquids.length x3.1.1.2]) rfl rfl (by repeat constructor) (by rfl) (by rfl) (by intro v hv; simp at hv; rcases hv with rfl | rfl <;> rfl)) rfl (fun _ _ => ?_)))
     all_goals refine tl_nil ?_; ((refine hK5 ?_; try (clear hK5; clear K5)))
     all_goals refine tc_seq fun K6 hK6 => ?_; refine tc_lay ([]) (SB.s (by repeat constructor)) (fun wl4 hl4 => ?_); ((have hru : ∀ w', Fr [] x3.2 w' → RdTr w' (triT t ws M) (.slice aw t.s.weights.length cw) (.slice ap t.parts.length cp) (.slice al t.liquids.length cl) (slV M x3.1.2) := fun w' f => by have hb := hx3.2.fr (w0 := w) (S := []) (MI.m (by repeat constructor)); exact ⟨hr0.ws.fr (hb.trans f (by simp)), hr0.ps.fr (hb.trans f (by simp)), hr0.ls.fr (hb.trans f (by simp)), by have h1 := hx3.1.2.fr f; show RdT w' _ (triL t ws M); exact h1⟩))
     all_goals (have hE : ∀ w', Fr [] x3.2 w' → RdI w' (slV t.parts.length x3.1.1.1) (pE t ws) := fun w' f => hx3.1.1.1.fr f)
     all_goals (have hD : ∀ w', Fr [] x3.2 w' → RdI w' (slV t.liquids.length x3.1.1.2) (pD t ws) := fun w' f => hx3.1.1.2.fr f)
     all_goals refine tc_region ?_; refine tl_q (y_loadWf rfl (hl4.at (by repeat constructor)) (MI.m (by repeat constructor)) (by simp) (by rfl)) rfl ?_; (refine tl_e (e_callX rfl (.cons rfl .nil) (fun w' hw' => trial9_c (triT t ws M) (by show t.s.weights.length ≤ _; omega) (by show t.parts.length ≤ _; omega) (by show t.liquids.length ≤ _; omega) (by rw [htl]; omega) _ _ _ _ w' (hru w' (hw'.fr (w0 := x3.2) (S := []) (MI.m (by repeat constructor)))))) rfl (fun x4 hx4 => ?_))
     all_goals refine tl_e (e_callX rfl (.cons rfl .nil) (fun w' hw' => errors_ok (triT t ws M) hnu hA _ _ _ _ w' (hx4.1.fr (hw'.fr (w0 := x4.2) (S := []) (MI.m (by repeat constructor)))))) rfl (fun y4 hy4 => ?_); refine tl_q (y_move rfl) rfl ?_; refine tl_q (y_extract rfl rfl) rfl ?_; refine tl_q (y_extract rfl rfl) rfl ?_; refine tl_q (y_assign rfl) rfl ?_; refine tl_q (y_assign rfl) rfl ?_; refine tl_nil ?_; ((refine hK6 ?_; try (clear hK6; clear K6)))
     all_goals refine tc_seq fun K7 hK7 => ?_; refine tc_lay ([]) (SB.s (by repeat constructor)) (fun wl5 hl5 => ?_); refine tc_region ?_; refine tl_q (y_loadWf rfl (hl4.at (by repeat constructor)) (MI.m (by repeat constructor)) (by simp) (by rfl)) rfl ?_; (refine tl_e (e_callX rfl (.cons rfl .nil) (fun w' hw' => trial9_c (triT t ws M) (by show t.s.weights.length ≤ _; omega) (by show t.parts.length ≤ _; omega) (by show t.liquids.length ≤ _; omega) (by rw [htl]; omega) _ _ _ _ w' (hru w' (hw'.fr (w0 := x3.2) (S := []) (MI.m (by repeat constructor)))))) rfl (fun x5 hx5 => ?_))
     all_goals refine tl_e (e_callX rfl (.cons rfl .nil) (fun w' hw' => densities_ok (triT t ws M) hnu hA _ _ _ _ w' (hx5.1.fr (hw'.fr (w0 := x5.2) (S := []) (MI.m (by repeat constructor)))))) rfl (fun y5 hy5 => ?_); refine tl_q (y_move rfl) rfl ?_; refine tl_q (y_extract rfl rfl) rfl ?_; refine tl_q (y_extract rfl rfl) rfl ?_; refine tl_q (y_assign rfl) rfl ?_; refine tl_q (y_assign rfl) rfl ?_; refine tl_nil ?_; ((refine hK7 ?_; try (clear hK7; clear K7)))
     all_goals refine tc_seq fun K8 hK8 => ?_; refine tc_lay ([]) (SB.s (by repeat constructor)) (fun wl6 hl6 => ?_); refine tc_region ?_; refine tl_q (y_loadWf rfl (hl4.at (by repeat constructor)) (MI.m (by repeat constructor)) (by simp) (by rfl)) rfl ?_; (refine tl_e (e_callX rfl (.cons rfl .nil) (fun w' hw' => trial9_c (triT t ws M) (by show t.s.weights.length ≤ _; omega) (by show t.parts.length ≤ _; omega) (by show t.liquids.length ≤ _; omega) (by rw [htl]; omega) _ _ _ _ w' (hru w' (hw'.fr (w0 := x3.2) (S := []) (MI.m (by repeat constructor)))))) rfl (fun x6 hx6 => ?_))
     all_goals refine tl_e (e_callX rfl (.cons rfl .nil) (fun w' hw' => certificate_ok (triT t ws M) hnu hA _ _ _ _ w' (hx6.1.fr (hw'.fr (w0 := x6.2) (S := []) (MI.m (by repeat constructor)))))) rfl (fun y6 hy6 => ?_); refine tl_q (y_move rfl) rfl ?_; refine tl_q (y_extract rfl rfl) rfl ?_; refine tl_q (y_extract rfl rfl) rfl ?_; refine tl_q (y_assign rfl) rfl ?_; refine tl_q (y_assign rfl) rfl ?_; refine tl_nil ?_; ((refine hK8 ?_; try (clear hK8; clear K8)))
     all_goals refine tc_seq fun K9 hK9 => ?_; refine tc_lay ([]) (SB.s (by repeat constructor)) (fun wl7 hl7 => ?_); refine tc_region ?_; refine tl_q (y_loadWf rfl (hl4.at (by repeat constructor)) (MI.m (by repeat constructor)) (by simp) (by rfl)) rfl ?_; (refine tl_e (e_callX rfl (.cons rfl .nil) (fun w' hw' => trial9_c (triT t ws M) (by show t.s.weights.length ≤ _; omega) (by show t.parts.length ≤ _; omega) (by show t.liquids.length ≤ _; omega) (by rw [htl]; omega) _ _ _ _ w' (hru w' (hw'.fr (w0 := x3.2) (S := []) (MI.m (by repeat constructor)))))) rfl (fun x7 hx7 => ?_))
     all_goals refine tl_e (e_callX rfl (.cons rfl .nil) (fun w' hw' => leaveT_sy (triT t ws M) hvu _ _ _ _ w' (hx7.1.fr (hw'.fr (w0 := x7.2) (S := []) (MI.m (by repeat constructor)))))) rfl (fun y7 hy7 => ?_); refine tl_q (y_move rfl) rfl ?_; refine tl_q (y_extract rfl rfl) rfl ?_; refine tl_q (y_extract rfl rfl) rfl ?_; refine tl_q (y_assign rfl) rfl ?_; refine tl_q (y_assign rfl) rfl ?_; refine tl_nil ?_; ((refine hK9 ?_; try (clear hK9; clear K9)))
     all_goals refine tc_seq fun K10 hK10 => ?_; refine tc_seq fun K11 hK11 => ?_; refine tc_lay ([]) (SB.s (by repeat constructor)) (fun wl8 hl8 => ?_); refine tc_draw (by kernel_rfl) ?_; refine tx_p 0 rfl (by kernel_rfl) (y_move rfl) rfl (fun _ _ _ h => h) (fun _ h => h) ?_; refine tx_p 1 rfl (by kernel_rfl) (y_neq rfl rfl) rfl (fun _ _ _ h => h) (fun _ h => h) ?_; refine tx_p 2 rfl (by kernel_rfl) (y_move rfl) rfl (fun _ _ _ h => h) (fun _ h => h) ?_; refine tx_pg 3 rfl (by kernel_rfl) rfl rfl (y_move rfl) rfl (fun _ _ _ h => h) (fun _ h => h) ?_; refine tx_pg 4 rfl (by kernel_rfl) rfl rfl (y_neq rfl rfl) rfl (fun _ _ _ h => h) (fun _ h => h) ?_; refine tx_p 5 rfl (by kernel_rfl) (y_pick_f rfl rfl) rfl (fun _ _ _ h => h) (fun _ h => h) ?_; refine tx_norm (L' := [true, true, true, true, true, true, false, false, false, false, false, false, false, false, false, false, false, false, false, false, false, false, false, false, false, false, false, false, false, false, false, false, false, false, false, false, false, false, false, false, false, false, false, false, false, false, false, false, false, false, false]) (by kernel_rfl) ?_; refine tx_p 6 rfl (by kernel_rfl) (y_move rfl) rfl (fun _ _ _ h => h) (fun _ h => h) ?_; refine tx_pg 7 rfl (by kernel_rfl) rfl rfl (y_move rfl) rfl (fun _ _ _ h => h) (fun _ h => h) ?_; refine tx_pg 8 rfl (by kernel_rfl) rfl rfl (y_neq rfl rfl) rfl (fun _ _ _ h => h) (fun _ h => h) ?_; refine tx_p 9 rfl (by kernel_rfl) (y_pick_f rfl rfl) rfl (fun _ _ _ h => h) (fun _ h => h) ?_; refine tx_p 10 rfl (by kernel_rfl) (y_move rfl) rfl (fun _ _ _ h => h) (fun _ h => h) ?_; refine tx_pg 11 rfl (by kernel_rfl) rfl rfl (y_move rfl) rfl (fun _ _ _ h => h) (fun _ h => h) ?_; refine tx_norm (L' := [true, true, true, true, true, true, true, true, true, true, true, true, false, false, false, false, false, false, false, false, false, false, false, false, false, false, false, false, false, false, false, false, false, false, false, false, false, false, false, false, false, false, false, false, false, false, false, false, false, false, false]) (by kernel_rfl) ?_; refine tx_pg 12 rfl (by kernel_rfl) rfl rfl (y_neq rfl rfl) rfl (fun _ _ _ h => h) (fun _ h => h) ?_; refine tx_p 13 rfl (by kernel_rfl) (y_pick_f rfl rfl) rfl (fun _ _ _ h => h) (fun _ h => h) ?_; refine tx_p 14 rfl (by kernel_rfl) (y_move rfl) rfl (fun _ _ _ h => h) (fun _ h => h) ?_; refine tx_pg 15 rfl (by kernel_rfl) rfl rfl (y_move rfl) rfl (fun _ _ _ h => h) (fun _ h => h) ?_; refine tx_qg 16 rfl (by kernel_rfl) rfl rfl (y_len rfl) rfl (fun _ _ _ h => h) (fun _ h => h) ?_; refine tx_pg 17 rfl (by kernel_rfl) rfl rfl (y_neq rfl rfl) rfl (fun _ _ _ h => h) (fun _ h => h) ?_; refine tx_norm (L' := [true, true, true, true, true, true, true, true, true, true, true, true, true, true, true, true, true, true, false, false, false, false, false, false, false, false, false, false, false, false, false, false, false, false, false, false, false, false, false, false, false, false, false, false, false, false, false, false, false, false, false]) (by kernel_rfl) ?_; refine tx_p 18 rfl (by kernel_rfl) (y_pick_f rfl rfl) rfl (fun _ _ _ h => h) (fun _ h => h) ?_; refine tx_p 19 rfl (by kernel_rfl) (y_move rfl) rfl (fun _ _ _ h => h) (fun _ h => h) ?_; ((refine tx_gs 81 rfl (fun hc => ?_) (fun hc => ?_) <;> (try simp only [decide_eq_true_eq, decide_eq_false_iff_not, Int.not_lt, Int.not_le, Bool.not_eq_true', Bool.not_eq_false', Decidable.not_not, not_true_eq_false] at hc) <;> (first | (exfalso; omega) | refine tx_qg 20 rfl (by kernel_rfl) rfl rfl (y_loadWf rfl (hl4.at (by repeat constructor)) (MI.m (by repeat constructor)) (by simp) (by rfl)) rfl (fun _ _ _ h => h) (fun _ h => h) ?_)))
     all_goals (refine tx_qg 22 rfl (by kernel_rfl) rfl rfl (y_loadWf rfl (hl4.at (by repeat constructor)) (MI.m (by repeat constructor)) (by simp) (by rfl)) rfl (fun _ _ _ h => h) (fun _ h => h) ?_); ((refine tx_eg 21 rfl (by kernel_rfl) rfl rfl rfl (e_callX rfl (.cons rfl .nil) (fun w' hw' => trial9_c (triT t ws M) (by show t.s.weights.length ≤ _; omega) (by show t.parts.length ≤ _; omega) (by show t.liquids.length ≤ _; omega) (by rw [htl]; omega) _ _ _ _ w' (hru w' (hw'.fr (w0 := x3.2) (S := []) (MI.m (by repeat constructor)))))) (.inr fun _ _ h => h.sub (fun _ h => List.mem_cons_of_mem _ h) (List.Sublist.refl _)) (fun p1 hp1' => ?_)))
     all_goals (refine tx_eg 23 rfl (by kernel_rfl) rfl rfl rfl (e_callX rfl (.cons rfl .nil) (fun w' hw' => truthC_c (pE t ws) (pD t ws) t.parts.length t.liquids.length (pkE_len _ _ _) (pkD_len _ _ _) (by omega) (by omega) _ _ w' (hE w' (hw'.fr (w0 := x3.2) (S := []) (MI.m (by repeat constructor)))) (hD w' (hw'.fr (w0 := x3.2) (S := []) (MI.m (by repeat constructor)))))) (.inr fun _ _ h => h.sub (fun _ h => List.mem_cons_of_mem _ h) (List.Sublist.refl _)) (fun p2 hp2' => ?_)); refine tx_norm (L' := [true, true, true, true, true, true, true, true, true, true, true, true, true, true, true, true, true, true, true, true, true, true, true, true, false, false, false, false, false, false, false, false, false, false, false, false, false, false, false, false, false, false, false, false, false, false, false, false, false, false, false]) (by kernel_rfl) ?_; ((refine tx_eg 24 rfl (by kernel_rfl) rfl rfl rfl (e_callV rfl (.cons rfl (.cons rfl .nil)) (fun w' hw' => by have h := prove_c (triT t ws M) hnu (pE t ws) (pD t ws) (by rw [pkE_len]; omega) _ _ _ _ _ _ w' (hp1'.1.fr (hw'.fr (w0 := p1.2) (S := []) (MI.m (by repeat constructor)))) (hp2'.1.1.fr (hw'.fr (w0 := p2.2) (S := []) (MI.m (by repeat constructor)))) (hp2'.1.2.fr (hw'.fr (w0 := p2.2) (S := []) (MI.m (by repeat constructor)))); rw [hpr] at h; exact h)) (.inr fun _ _ h => h) (fun _ _ => ?_)))
     all_goals (refine tx_pg 25 rfl (by kernel_rfl) rfl rfl (y_not rfl) rfl (fun _ _ _ h => h) (fun _ h => h) ?_); refine tx_p 26 rfl (by kernel_rfl) (y_pick_f rfl rfl) rfl (fun _ _ _ h => h) (fun _ h => h) ?_; refine tx_p 27 rfl (by kernel_rfl) (y_move rfl) rfl (fun _ _ _ h => h) (fun _ h => h) ?_; refine tx_pg 28 rfl (by kernel_rfl) rfl rfl (y_move rfl) rfl (fun _ _ _ h => h) (fun _ h => h) ?_; refine tx_qg 29 rfl (by kernel_rfl) rfl rfl (y_len rfl) rfl (fun _ _ _ h => h) (fun _ h => h) ?_; refine tx_norm (L' := [true, true, true, true, true, true, true, true, true, true, true, true, true, true, true, true, true, true, true, true, true, true, true, true, true, true, true, true, true, true, false, false, false, false, false, false, false, false, false, false, false, false, false, false, false, false, false, false, false, false, false]) (by kernel_rfl) ?_; refine tx_pg 30 rfl (by kernel_rfl) rfl rfl (y_field rfl) rfl (fun _ _ _ h => h) (fun _ h => h) ?_; refine tx_qg 31 rfl (by kernel_rfl) rfl rfl (y_load1f rfl (hl4.at (by repeat constructor)) (MI.m (by repeat constructor)) (by simp) (by rfl)) rfl (fun _ _ _ h => h) (fun _ h => h) ?_; refine tx_qg 32 rfl (by kernel_rfl) rfl rfl (y_len rfl) rfl (fun _ _ _ h => h) (fun _ h => h) ?_; refine tx_pg 33 rfl (by kernel_rfl) rfl rfl (y_neq rfl rfl) rfl (fun _ _ _ h => h) (fun _ h => h) ?_; refine tx_p 34 rfl (by kernel_rfl) (y_pick_f rfl rfl) rfl (fun _ _ _ h => h) (fun _ h => h) ?_; refine tx_p 35 rfl (by kernel_rfl) (y_move rfl) rfl (fun _ _ _ h => h) (fun _ h => h) ?_; refine tx_norm (L' := [true, true, true, true, true, true, true, true, true, true, true, true, true, true, true, true, true, true, true, true, true, true, true, true, true, true, true, true, true, true, true, true, true, true, true, true, false, false, false, false, false, false, false, false, false, false, false, false, false, false, false]) (by kernel_rfl) ?_; ((refine tx_gs 97 rfl (fun hc => ?_) (fun hc => ?_) <;> (try simp only [decide_eq_true_eq, decide_eq_false_iff_not, Int.not_lt, Int.not_le, Bool.not_eq_true', Bool.not_eq_false', Decidable.not_not, not_true_eq_false] at hc) <;> (refine tx_pg 36 rfl (by kernel_rfl) rfl rfl (y_move rfl) rfl (fun _ _ _ h => h) (fun _ h => h) ?_)))
     all_goals (refine tx_qg 37 rfl (by kernel_rfl) rfl rfl (y_len rfl) rfl (fun _ _ _ h => h) (fun _ h => h) ?_); refine tx_pg 38 rfl (by kernel_rfl) rfl rfl (y_field rfl) rfl (fun _ _ _ h => h) (fun _ h => h) ?_; refine tx_qg 39 rfl (by kernel_rfl) rfl rfl (y_load1f rfl (hl4.at (by repeat constructor)) (MI.m (by repeat constructor)) (by simp) (by rfl)) rfl (fun _ _ _ h => h) (fun _ h => h) ?_; refine tx_qg 40 rfl (by kernel_rfl) rfl rfl (y_len rfl) rfl (fun _ _ _ h => h) (fun _ h => h) ?_; refine tx_pg 41 rfl (by kernel_rfl) rfl rfl (y_neq rfl rfl) rfl (fun _ _ _ h => h) (fun _ h => h) ?_; refine tx_norm (L' := [true, true, true, true, true, true, true, true, true, true, true, true, true, true, true, true, true, true, true, true, true, true, true, true, true, true, true, true, true, true, true, true, true, true, true, true, true, true, true, true, true, true, false, false, false, false, false, false, false, false, false]) (by kernel_rfl) ?_; refine tx_p 42 rfl (by kernel_rfl) (y_pick_f rfl rfl) rfl (fun _ _ _ h => h) (fun _ h => h) ?_; refine tx_p 43 rfl (by kernel_rfl) (y_move rfl) rfl (fun _ _ _ h => h) (fun _ h => h) ?_; ((refine tx_gs 105 rfl (fun hc => ?_) (fun hc => ?_) <;> (try simp only [decide_eq_true_eq, decide_eq_false_iff_not, Int.not_lt, Int.not_le, Bool.not_eq_true', Bool.not_eq_false', Decidable.not_not, not_true_eq_false] at hc) <;> (refine tx_pg 44 rfl (by kernel_rfl) rfl rfl (y_move rfl) rfl (fun _ _ _ h => h) (fun _ h => h) ?_)))
     all_goals (refine tx_qg 45 rfl (by kernel_rfl) rfl rfl (y_len rfl) rfl (fun _ _ _ h => h) (fun _ h => h) ?_); refine tx_pg 46 rfl (by kernel_rfl) rfl rfl (y_field rfl) rfl (fun _ _ _ h => h) (fun _ h => h) ?_; refine tx_qg 47 rfl (by kernel_rfl) rfl rfl (y_load1f rfl (hl4.at (by repeat constructor)) (MI.m (by repeat constructor)) (by simp) (by rfl)) rfl (fun _ _ _ h => h) (fun _ h => h) ?_; refine tx_norm (L' := [true, true, true, true, true, true, true, true, true, true, true, true, true, true, true, true, true, true, true, true, true, true, true, true, true, true, true, true, true, true, true, true, true, true, true, true, true, true, true, true, true, true, true, true, true, true, true, true, false, false, false]) (by kernel_rfl) ?_; refine tx_qg 48 rfl (by kernel_rfl) rfl rfl (y_len rfl) rfl (fun _ _ _ h => h) (fun _ h => h) ?_; refine tx_pg 49 rfl (by kernel_rfl) rfl rfl (y_neq rfl rfl) rfl (fun _ _ _ h => h) (fun _ h => h) ?_; refine tx_p 50 rfl (by kernel_rfl) (y_pick_f rfl rfl) rfl (fun _ _ _ h => h) (fun _ h => h) ?_; refine tx_done (by kernel_rfl) ?_; ((refine hK11 ?_; try (clear hK11; clear K11)))
     all_goals (
      refine tc_cond rfl (fun hc => ?_) (fun hc => ?_)
      · try simp only [decide_eq_true_eq, decide_eq_false_iff_not, Int.not_lt, Int.not_le, Bool.not_eq_true', Bool.not_eq_false', Decidable.not_not, not_true_eq_false] at hc
      · try simp only [decide_eq_true_eq, decide_eq_false_iff_not, Int.not_lt, Int.not_le, Bool.not_eq_true', Bool.not_eq_false', Decidable.not_not, not_true_eq_false] at hc
        all_goals refine tc_skip ?_; ((refine hK10 ?_; try (clear hK10; clear K10)))
        all_goals refine tc_seq fun K13 hK13 => ?_; refine tc_seq fun K14 hK14 => ?_; refine tc_lay ([]) (SB.s (by repeat constructor)) (fun wl10 hl10 => ?_); refine tc_region ?_; refine tl_q (y_assign rfl) rfl ?_; refine tl_nil ?_; ((refine hK14 ?_; try (clear hK14; clear K14)))
        all_goals refine tc_block ?_
        all_goals (
         refine tc_loop (fun m : Nat => m ≤ t.parts.length) (fun m => [(2, v8 n3), (3, v16 n4), (9, ptr b9), (10, ptr b10), (11, slV t.parts.length y4.1), (13, slV t.liquids.length y5.1), (15, slV t.parts.length y6.1), (19, vi m)]) (fun _ => [(y6.2, []), (y5.2, []), (y4.2, []), (wl4, []), (x3.2, []), (w, [])]) (fun _ => []) (fun m => t.parts.length - m) ?_ ?_
         · exact tk_start 0 (Nat.zero_le _) (.cons rfl (.cons rfl (.cons rfl (.cons rfl (.cons rfl (.cons rfl (.cons rfl (.cons rfl .nil)))))))) (fun _ h => h.subl (SB.s (by repeat constructor)) (SB.s (by repeat constructor)))
         · rintro m hm
           all_goals refine tc_seq fun K15 hK15 => ?_; refine tc_seq fun K16 hK16 => ?_; refine tc_lay ([]) (SB.s (by repeat constructor)) (fun wl11 hl11 => ?_); ((obtain ⟨bE, oE, eE1⟩ := slV_ad hx3.1.1.1 (by rw [pkE_len]; omega); obtain ⟨bD, oD, eD1⟩ := slV_ad hx3.1.1.2 (by rw [pkD_len]; omega)))
           all_goals ((obtain ⟨bC, oC, eC1⟩ := slV_adR hy6.1 (by rw [certL_len]; show 0 < t.parts.length; omega); obtain ⟨bN, oN, eN1⟩ := slV_adR hy5.1 (by rw [densR_len]; show 0 < t.liquids.length; omega)))
           all_goals ((obtain ⟨bA, oA, vsA, hadA, hcA, hiA⟩ := hy4.1.opensL (possLL_len ..); rw [possLL_len] at hadA hcA hiA; dsimp only at hadA hcA hiA; have hadA' := hadA (by omega)))
           all_goals refine tc_region ?_; refine tl_q (y_move rfl) rfl ?_; refine tl_q (y_move rfl) rfl ?_; refine tl_q (y_len rfl) rfl ?_; refine tl_q (y_lss rfl rfl) rfl ?_; refine tl_nil ?_; ((refine hK16 ?_; try (clear hK16; clear K16)))
           all_goals (
            refine tc_cond rfl (fun hc => ?_) (fun hc => ?_)
            · try simp only [decide_eq_true_eq, decide_eq_false_iff_not, Int.not_lt, Int.not_le, Bool.not_eq_true', Bool.not_eq_false', Decidable.not_not, not_true_eq_false] at hc
              all_goals refine tc_skip ?_; ((refine hK15 ?_; try (clear hK15; clear K15)))
              all_goals refine tc_seq fun K17 hK17 => ?_; refine tc_block ?_; refine tc_seq fun K18 hK18 => ?_; (have hEm : get3 (er3 (pE t ws)) m = (pE t ws).getD m 0 := er3_get3 (by omega))
              all_goals (have hpo : (pE t ws).getD m 0 ∈ possL (triT t ws M) m := (poss_mem hvu).2 ⟨_, htr.1, hEm⟩)
              all_goals ((have hce := cert_in hpo; have hpb0 := poss_bd (triT t ws M) (i := m) (j := 0); have hpb1 := poss_bd (triT t ws M) (i := m) (j := (possL (triT t ws M) m).length - 1)))
              all_goals (have hcl : certLn (possL (triT t ws M) m) = (((possL (triT t ws M) m).getD 0 0 + (possL (triT t ws M) m).getD ((possL (triT t ws M) m).length - 1) 0) / 2, (possL (triT t ws M) m).getD ((possL (triT t ws M) m).length - 1) 0 - ((possL (triT t ws M) m).getD 0 0 + (possL (triT t ws M) m).getD ((possL (triT t ws M) m).length - 1) 0) / 2) := rfl)
              all_goals ((have hcb : (-10 ≤ (certLn (possL (triT t ws M) m)).1 ∧ (certLn (possL (triT t ws M) m)).1 ≤ 10) ∧ (-10 ≤ (certLn (possL (triT t ws M) m)).2 ∧ (certLn (possL (triT t ws M) m)).2 ≤ 10) := by rw [hcl]; dsimp only; omega))
              all_goals ((clear hcl hpb0 hpb1; have hcg : (certL (triT t ws M) t.parts.length).getD m (0, 0) = certLn (possL (triT t ws M) m) := by unfold certL; rw [List.getD_eq_getElem?_getD, List.getElem?_map, List.getElem?_range (by omega)]; rfl))
              all_goals ((have hcm := fun w' (f : Fr [] y6.2 w') => slV_atR (hy6.1.fr f) eC1 (i := m) (by rw [certL_len]; show m < t.parts.length; omega)))
              all_goals (rw [show (certL (triT t ws M) (triT t ws M).parts.length).getD m (0, 0) = certLn (possL (triT t ws M) m) from hcg] at hcm)
              all_goals (have hpa : (possL (triT t ws M) m).length ≤ 7 := List.length_filter_le _ _)
              all_goals ((obtain ⟨ceA, hceA⟩ : ∃ x, x = certLn (possL (triT t ws M) m) := ⟨_, rfl⟩; rw [← hceA] at hce hcb hcm))
              all_goals refine tc_draw (by kernel_rfl) ?_; refine tx_p 0 rfl (by kernel_rfl) (y_move rfl) rfl (fun _ _ _ h => h) (fun _ h => h) ?_; refine tx_p 1 rfl (by kernel_rfl) (y_move rfl) rfl (fun _ _ _ h => h) (fun _ h => h) ?_; refine tx_p 2 rfl (by kernel_rfl) (y_index rfl rfl (by omega) hadA') rfl (fun _ _ _ h => h) (fun _ h => h) ?_; ((refine tx_q 3 rfl (by kernel_rfl) (y_load1o (v := vsA.getD m (.slice none 0 0)) rfl (fun w' hw' => by rw [show Int.toNat (m : Int) * 1 = m from by omega]; exact hcA w' (hw'.fr (w0 := y4.2) (S := []) (MI.m (by repeat constructor))) m (by omega))) rfl (fun _ _ _ h => h) (fun _ h => h) ?_))
              all_goals refine tx_p 4 rfl (by kernel_rfl) (y_field rfl) rfl (fun _ _ _ h => h) (fun _ h => h) ?_; refine tx_q 5 rfl (by kernel_rfl) (y_load1f rfl (hl4.at (by repeat constructor)) (MI.m (by repeat constructor)) (by simp) (by rfl)) rfl (fun _ _ _ h => h) (fun _ h => h) ?_; refine tx_norm (L' := [true, true, true, true, true, true, false, false, false, false, false, false, false, false, false, false, false, false, false, false, false, false, false, false, false, false, false, false, false, false, false, false, false, false, false, false, false, false, false, false, false, false, false, false, false, false, false, false, false]) (by kernel_rfl) ?_; refine tx_p 6 rfl (by kernel_rfl) (y_move rfl) rfl (fun _ _ _ h => h) (fun _ h => h) ?_; refine tx_p 7 rfl (by kernel_rfl) (y_index rfl rfl (by omega) eE1) rfl (fun _ _ _ h => h) (fun _ h => h) ?_; ((refine tx_q 8 rfl (by kernel_rfl) (y_load1o (v := vi ((pE t ws).getD m 0)) rfl (fun w' hw' => by rw [show Int.toNat (m : Int) * 1 = m from by omega]; exact slV_at (hE w' (hw'.fr (w0 := x3.2) (S := []) (MI.m (by repeat constructor)))) eE1 (by rw [pkE_len]; omega))) rfl (fun _ _ _ h => h) (fun _ h => h) ?_))
              all_goals (refine tx_e 9 rfl (by kernel_rfl) rfl (e_callV rfl (.cons rfl (.cons rfl .nil)) (fun w' hw' => by have h := has9_c (possL (triT t ws M) m) (by omega) ((pE t ws).getD m 0) _ w' (by have h1 := hiA w' (hw'.fr (w0 := y4.2) (S := []) (MI.m (by repeat constructor))) m (by omega); rw [possLL_get (by omega)] at h1; exact h1); rw [decide_eq_true hpo] at h; exact h)) (.inr fun _ _ h => h) (fun _ _ => ?_))
              all_goals (refine tx_p 10 rfl (by kernel_rfl) (y_not rfl) rfl (fun _ _ _ h => h) (fun _ h => h) ?_); refine tx_p 11 rfl (by kernel_rfl) (y_move rfl) rfl (fun _ _ _ h => h) (fun _ h => h) ?_; refine tx_norm (L' := [true, true, true, true, true, true, true, true, true, true, true, true, false, false, false, false, false, false, false, false, false, false, false, false, false, false, false, false, false, false, false, false, false, false, false, false, false, false, false, false, false, false, false, false, false, false, false, false, false]) (by kernel_rfl) ?_; refine tx_pg 12 rfl (by kernel_rfl) rfl rfl (y_field rfl) rfl (fun _ _ _ h => h) (fun _ h => h) ?_; refine tx_qg 13 rfl (by kernel_rfl) rfl rfl (y_load1f rfl (hl4.at (by repeat constructor)) (MI.m (by repeat constructor)) (by simp) (by rfl)) rfl (fun _ _ _ h => h) (fun _ h => h) ?_; refine tx_pg 14 rfl (by kernel_rfl) rfl rfl (y_move rfl) rfl (fun _ _ _ h => h) (fun _ h => h) ?_; refine tx_pg 15 rfl (by kernel_rfl) rfl rfl (y_index rfl rfl (by omega) eE1) rfl (fun _ _ _ h => h) (fun _ h => h) ?_; ((refine tx_qg 16 rfl (by kernel_rfl) rfl rfl (y_load1o (v := vi ((pE t ws).getD m 0)) rfl (fun w' hw' => by rw [show Int.toNat (m : Int) * 1 = m from by omega]; exact slV_at (hE w' (hw'.fr (w0 := x3.2) (S := []) (MI.m (by repeat constructor)))) eE1 (by rw [pkE_len]; omega))) rfl (fun _ _ _ h => h) (fun _ h => h) ?_))
              all_goals (refine tx_pg 17 rfl (by kernel_rfl) rfl rfl (y_move rfl) rfl (fun _ _ _ h => h) (fun _ h => h) ?_); refine tx_norm (L' := [true, true, true, true, true, true, true, true, true, true, true, true, true, true, true, true, true, true, false, false, false, false, false, false, false, false, false, false, false, false, false, false, false, false, false, false, false, false, false, false, false, false, false, false, false, false, false, false, false]) (by kernel_rfl) ?_; refine tx_pg 18 rfl (by kernel_rfl) rfl rfl (y_move rfl) rfl (fun _ _ _ h => h) (fun _ h => h) ?_; refine tx_pg 19 rfl (by kernel_rfl) rfl rfl (y_index rfl rfl (by omega) eC1) rfl (fun _ _ _ h => h) (fun _ h => h) ?_; refine tx_pg 20 rfl (by kernel_rfl) rfl rfl (y_field rfl) rfl (fun _ _ _ h => h) (fun _ h => h) ?_; ((refine tx_qg 21 rfl (by kernel_rfl) rfl rfl (y_load1o (v := vi ceA.1) rfl (fun w' hw' => by rw [show Int.toNat (m : Int) * 2 = m * 2 from by omega]; exact (hcm w' (hw'.fr (w0 := y6.2) (S := []) (MI.m (by repeat constructor)))).1)) rfl (fun _ _ _ h => h) (fun _ h => h) ?_))
              all_goals (refine tx_pg 22 rfl (by kernel_rfl) rfl rfl (y_move rfl) rfl (fun _ _ _ h => h) (fun _ h => h) ?_); refine tx_pg 23 rfl (by kernel_rfl) rfl rfl (y_move rfl) rfl (fun _ _ _ h => h) (fun _ h => h) ?_; refine tx_norm (L' := [true, true, true, true, true, true, true, true, true, true, true, true, true, true, true, true, true, true, true, true, true, true, true, true, false, false, false, false, false, false, false, false, false, false, false, false, false, false, false, false, false, false, false, false, false, false, false, false, false]) (by kernel_rfl) ?_; refine tx_pg 24 rfl (by kernel_rfl) rfl rfl (y_index rfl rfl (by omega) eC1) rfl (fun _ _ _ h => h) (fun _ h => h) ?_; refine tx_pg 25 rfl (by kernel_rfl) rfl rfl (y_field rfl) rfl (fun _ _ _ h => h) (fun _ h => h) ?_; ((refine tx_qg 26 rfl (by kernel_rfl) rfl rfl (y_load1o (v := vi ceA.2) rfl (fun w' hw' => by rw [show Int.toNat (m : Int) * 2 = m * 2 from by omega]; exact (hcm w' (hw'.fr (w0 := y6.2) (S := []) (MI.m (by repeat constructor)))).2)) rfl (fun _ _ _ h => h) (fun _ h => h) ?_))
              all_goals (refine tx_pg 27 rfl (by kernel_rfl) rfl rfl (y_sub rfl rfl (by omega)) rfl (fun _ _ _ h => h) (fun _ h => h) ?_); refine tx_pg 28 rfl (by kernel_rfl) rfl rfl (y_lss rfl rfl) rfl (fun _ _ _ h => h) (fun _ h => h) ?_; refine tx_p 29 rfl (by kernel_rfl) (y_pick_f rfl rfl) rfl (fun _ _ _ h => h) (fun _ h => h) ?_; refine tx_norm (L' := [true, true, true, true, true, true, true, true, true, true, true, true, true, true, true, true, true, true, true, true, true, true, true, true, true, true, true, true, true, true, false, false, false, false, false, false, false, false, false, false, false, false, false, false, false, false, false, false, false]) (by kernel_rfl) ?_; refine tx_p 30 rfl (by kernel_rfl) (y_move rfl) rfl (fun _ _ _ h => h) (fun _ h => h) ?_; ((refine tx_gs 149 rfl (fun hc => ?_) (fun hc => ?_) <;> (try simp only [decide_eq_true_eq, decide_eq_false_iff_not, Int.not_lt, Int.not_le, Bool.not_eq_true', Bool.not_eq_false', Decidable.not_not, not_true_eq_false] at hc) <;> (first | (exfalso; omega) | refine tx_pg 31 rfl (by kernel_rfl) rfl rfl (y_field rfl) rfl (fun _ _ _ h => h) (fun _ h => h) ?_)))
              all_goals (refine tx_qg 32 rfl (by kernel_rfl) rfl rfl (y_load1f rfl (hl4.at (by repeat constructor)) (MI.m (by repeat constructor)) (by simp) (by rfl)) rfl (fun _ _ _ h => h) (fun _ h => h) ?_); refine tx_pg 33 rfl (by kernel_rfl) rfl rfl (y_move rfl) rfl (fun _ _ _ h => h) (fun _ h => h) ?_; refine tx_pg 34 rfl (by kernel_rfl) rfl rfl (y_index rfl rfl (by omega) eE1) rfl (fun _ _ _ h => h) (fun _ h => h) ?_; ((refine tx_qg 35 rfl (by kernel_rfl) rfl rfl (y_load1o (v := vi ((pE t ws).getD m 0)) rfl (fun w' hw' => by rw [show Int.toNat (m : Int) * 1 = m from by omega]; exact slV_at (hE w' (hw'.fr (w0 := x3.2) (S := []) (MI.m (by repeat constructor)))) eE1 (by rw [pkE_len]; omega))) rfl (fun _ _ _ h => h) (fun _ h => h) ?_))
              all_goals refine tx_norm (L' := [true, true, true, true, true, true, true, true, true, true, true, true, true, true, true, true, true, true, true, true, true, true, true, true, true, true, true, true, true, true, true, true, true, true, true, true, false, false, false, false, false, false, false, false, false, false, false, false, false]) (by kernel_rfl) ?_; refine tx_pg 36 rfl (by kernel_rfl) rfl rfl (y_move rfl) rfl (fun _ _ _ h => h) (fun _ h => h) ?_; refine tx_pg 37 rfl (by kernel_rfl) rfl rfl (y_move rfl) rfl (fun _ _ _ h => h) (fun _ h => h) ?_; refine tx_pg 38 rfl (by kernel_rfl) rfl rfl (y_index rfl rfl (by omega) eC1) rfl (fun _ _ _ h => h) (fun _ h => h) ?_; refine tx_pg 39 rfl (by kernel_rfl) rfl rfl (y_field rfl) rfl (fun _ _ _ h => h) (fun _ h => h) ?_; ((refine tx_qg 40 rfl (by kernel_rfl) rfl rfl (y_load1o (v := vi ceA.1) rfl (fun w' hw' => by rw [show Int.toNat (m : Int) * 2 = m * 2 from by omega]; exact (hcm w' (hw'.fr (w0 := y6.2) (S := []) (MI.m (by repeat constructor)))).1)) rfl (fun _ _ _ h => h) (fun _ h => h) ?_))
              all_goals (refine tx_pg 41 rfl (by kernel_rfl) rfl rfl (y_move rfl) rfl (fun _ _ _ h => h) (fun _ h => h) ?_); refine tx_norm (L' := [true, true, true, true, true, true, true, true, true, true, true, true, true, true, true, true, true, true, true, true, true, true, true, true, true, true, true, true, true, true, true, true, true, true, true, true, true, true, true, true, true, true, false, false, false, false, false, false, false]) (by kernel_rfl) ?_; refine tx_pg 42 rfl (by kernel_rfl) rfl rfl (y_move rfl) rfl (fun _ _ _ h => h) (fun _ h => h) ?_; refine tx_pg 43 rfl (by kernel_rfl) rfl rfl (y_index rfl rfl (by omega) eC1) rfl (fun _ _ _ h => h) (fun _ h => h) ?_; refine tx_pg 44 rfl (by kernel_rfl) rfl rfl (y_field rfl) rfl (fun _ _ _ h => h) (fun _ h => h) ?_; ((refine tx_qg 45 rfl (by kernel_rfl) rfl rfl (y_load1o (v := vi ceA.2) rfl (fun w' hw' => by rw [show Int.toNat (m : Int) * 2 = m * 2 from by omega]; exact (hcm w' (hw'.fr (w0 := y6.2) (S := []) (MI.m (by repeat constructor)))).2)) rfl (fun _ _ _ h => h) (fun _ h => h) ?_))
              all_goals (refine tx_pg 46 rfl (by kernel_rfl) rfl rfl (y_add rfl rfl (by omega)) rfl (fun _ _ _ h => h) (fun _ h => h) ?_); refine tx_pg 47 rfl (by kernel_rfl) rfl rfl (y_gtr rfl rfl) rfl (fun _ _ _ h => h) (fun _ h => h) ?_; refine tx_norm (L' := [true, true, true, true, true, true, true, true, true, true, true, true, true, true, true, true, true, true, true, true, true, true, true, true, true, true, true, true, true, true, true, true, true, true, true, true, true, true, true, true, true, true, true, true, true, true, true, true, false]) (by kernel_rfl) ?_; refine tx_p 48 rfl (by kernel_rfl) (y_pick_f rfl rfl) rfl (fun _ _ _ h => h) (fun _ h => h) ?_; refine tx_done (by kernel_rfl) ?_; ((refine hK18 ?_; try (clear hK18; clear K18)))
              all_goals (
               refine tc_cond rfl (fun hc => ?_) (fun hc => ?_)
               · try simp only [decide_eq_true_eq, decide_eq_false_iff_not, Int.not_lt, Int.not_le, Bool.not_eq_true', Bool.not_eq_false', Decidable.not_not, not_true_eq_false] at hc
                 all_goals ((exfalso; omega))
               · try simp only [decide_eq_true_eq, decide_eq_false_iff_not, Int.not_lt, Int.not_le, Bool.not_eq_true', Bool.not_eq_false', Decidable.not_not, not_true_eq_false] at hc
                 all_goals refine tc_skip ?_; ((refine hK17 ?_; try (clear hK17; clear K17)))
                 all_goals refine tc_region ?_; refine tl_q (y_move rfl) rfl ?_; refine tl_q (y_add rfl rfl (by omega)) rfl ?_; refine tl_q (y_assign rfl) rfl ?_; refine tl_nil ?_
                 all_goals (
                  exact tk_round (m + 1) (by omega) (by omega) (.cons rfl (.cons rfl (.cons rfl (.cons rfl (.cons rfl (.cons rfl (.cons rfl (.cons rfl .nil)))))))) (fun _ h => h.subl (SB.s (by repeat constructor)) (SB.s (by repeat constructor)))))
            · try simp only [decide_eq_true_eq, decide_eq_false_iff_not, Int.not_lt, Int.not_le, Bool.not_eq_true', Bool.not_eq_false', Decidable.not_not, not_true_eq_false] at hc
              all_goals refine tc_exit ?_; ((refine hK13 ?_; try (clear hK13; clear K13)))
              all_goals refine tc_seq fun K20 hK20 => ?_; refine tc_seq fun K21 hK21 => ?_; refine tc_lay ([]) (SB.s (by repeat constructor)) (fun wl15 hl15 => ?_); refine tc_region ?_; refine tl_q (y_assign rfl) rfl ?_; refine tl_nil ?_; ((refine hK21 ?_; try (clear hK21; clear K21)))
              all_goals refine tc_block ?_
              all_goals (
               refine tc_loop (fun q : Nat => q ≤ t.liquids.length) (fun q => [(2, v8 n3), (3, v16 n4), (9, ptr b9), (10, ptr b10), (13, slV t.liquids.length y5.1), (20, vi q)]) (fun _ => [(y5.2, []), (wl4, []), (x3.2, []), (w, [])]) (fun _ => []) (fun q => t.liquids.length - q) ?_ ?_
               · exact tk_start 0 (Nat.zero_le _) (.cons rfl (.cons rfl (.cons rfl (.cons rfl (.cons rfl (.cons rfl .nil)))))) (fun _ h => h.subl (SB.s (by repeat constructor)) (SB.s (by repeat constructor)))
               · rintro q hq
                 all_goals refine tc_seq fun K22 hK22 => ?_; refine tc_seq fun K23 hK23 => ?_; refine tc_lay ([]) (SB.s (by repeat constructor)) (fun wl16 hl16 => ?_); refine tc_region ?_; refine tl_q (y_move rfl) rfl ?_; refine tl_q (y_move rfl) rfl ?_; refine tl_q (y_len rfl) rfl ?_; refine tl_q (y_lss rfl rfl) rfl ?_; refine tl_nil ?_; ((refine hK23 ?_; try (clear hK23; clear K23)))
                 all_goals (
                  refine tc_cond rfl (fun hc => ?_) (fun hc => ?_)
                  · try simp only [decide_eq_true_eq, decide_eq_false_iff_not, Int.not_lt, Int.not_le, Bool.not_eq_true', Bool.not_eq_false', Decidable.not_not, not_true_eq_false] at hc
                    all_goals refine tc_skip ?_; ((refine hK22 ?_; try (clear hK22; clear K22)))
                    all_goals refine tc_seq fun K24 hK24 => ?_; refine tc_block ?_; refine tc_seq fun K25 hK25 => ?_; ((have hdi := dens_in htr.1 (htr.2 q (by show q < t.liquids.length; omega))))
                    all_goals ((have hdg : (densR (triT t ws M) t.liquids.length).getD q (0, 0) = bouN (triT t ws M) q (truthsL (triT t ws M) []).length := by unfold densR; rw [List.getD_eq_getElem?_getD, List.getElem?_map, List.getElem?_range (by omega)]; rfl))
                    all_goals ((have hdm := fun w' (f : Fr [] y5.2 w') => slV_atR (hy5.1.fr f) eN1 (i := q) (by rw [densR_len]; show q < t.liquids.length; omega)))
                    all_goals (rw [show (densR (triT t ws M) (triT t ws M).liquids.length).getD q (0, 0) = bouN (triT t ws M) q (truthsL (triT t ws M) []).length from hdg] at hdm)
                    all_goals ((obtain ⟨dnA, hdnA⟩ : ∃ x, x = bouN (triT t ws M) q (truthsL (triT t ws M) []).length := ⟨_, rfl⟩; rw [← hdnA] at hdi hdm))
                    all_goals refine tc_draw (by kernel_rfl) ?_; refine tx_p 0 rfl (by kernel_rfl) (y_field rfl) rfl (fun _ _ _ h => h) (fun _ h => h) ?_; refine tx_q 1 rfl (by kernel_rfl) (y_load1f rfl (hl4.at (by repeat constructor)) (MI.m (by repeat constructor)) (by simp) (by rfl)) rfl (fun _ _ _ h => h) (fun _ h => h) ?_; refine tx_p 2 rfl (by kernel_rfl) (y_move rfl) rfl (fun _ _ _ h => h) (fun _ h => h) ?_; refine tx_p 3 rfl (by kernel_rfl) (y_index rfl rfl (by omega) eD1) rfl (fun _ _ _ h => h) (fun _ h => h) ?_; ((refine tx_q 4 rfl (by kernel_rfl) (y_load1o (v := vi ((pD t ws).getD q 0)) rfl (fun w' hw' => by rw [show Int.toNat (q : Int) * 1 = q from by omega]; exact slV_at (hD w' (hw'.fr (w0 := x3.2) (S := []) (MI.m (by repeat constructor)))) eD1 (by rw [pkD_len]; omega))) rfl (fun _ _ _ h => h) (fun _ h => h) ?_))
                    all_goals refine tx_p 5 rfl (by kernel_rfl) (y_move rfl) rfl (fun _ _ _ h => h) (fun _ h => h) ?_; refine tx_p 6 rfl (by kernel_rfl) (y_move rfl) rfl (fun _ _ _ h => h) (fun _ h => h) ?_; refine tx_p 7 rfl (by kernel_rfl) (y_index rfl rfl (by omega) eN1) rfl (fun _ _ _ h => h) (fun _ h => h) ?_; refine tx_p 8 rfl (by kernel_rfl) (y_field rfl) rfl (fun _ _ _ h => h) (fun _ h => h) ?_; ((refine tx_q 9 rfl (by kernel_rfl) (y_load1o (v := vi dnA.1) rfl (fun w' hw' => by rw [show Int.toNat (q : Int) * 2 = q * 2 from by omega]; exact (hdm w' (hw'.fr (w0 := y5.2) (S := []) (MI.m (by repeat constructor)))).1)) rfl (fun _ _ _ h => h) (fun _ h => h) ?_))
                    all_goals refine tx_p 10 rfl (by kernel_rfl) (y_lss rfl rfl) rfl (fun _ _ _ h => h) (fun _ h => h) ?_; refine tx_p 11 rfl (by kernel_rfl) (y_move rfl) rfl (fun _ _ _ h => h) (fun _ h => h) ?_; ((refine tx_gs 185 rfl (fun hc => ?_) (fun hc => ?_) <;> (try simp only [decide_eq_true_eq, decide_eq_false_iff_not, Int.not_lt, Int.not_le, Bool.not_eq_true', Bool.not_eq_false', Decidable.not_not, not_true_eq_false] at hc) <;> (first | (exfalso; omega) | refine tx_pg 12 rfl (by kernel_rfl) rfl rfl (y_field rfl) rfl (fun _ _ _ h => h) (fun _ h => h) ?_)))
                    all_goals (refine tx_qg 13 rfl (by kernel_rfl) rfl rfl (y_load1f rfl (hl4.at (by repeat constructor)) (MI.m (by repeat constructor)) (by simp) (by rfl)) rfl (fun _ _ _ h => h) (fun _ h => h) ?_); refine tx_pg 14 rfl (by kernel_rfl) rfl rfl (y_move rfl) rfl (fun _ _ _ h => h) (fun _ h => h) ?_; refine tx_pg 15 rfl (by kernel_rfl) rfl rfl (y_index rfl rfl (by omega) eD1) rfl (fun _ _ _ h => h) (fun _ h => h) ?_; ((refine tx_qg 16 rfl (by kernel_rfl) rfl rfl (y_load1o (v := vi ((pD t ws).getD q 0)) rfl (fun w' hw' => by rw [show Int.toNat (q : Int) * 1 = q from by omega]; exact slV_at (hD w' (hw'.fr (w0 := x3.2) (S := []) (MI.m (by repeat constructor)))) eD1 (by rw [pkD_len]; omega))) rfl (fun _ _ _ h => h) (fun _ h => h) ?_))
                    all_goals (refine tx_pg 17 rfl (by kernel_rfl) rfl rfl (y_move rfl) rfl (fun _ _ _ h => h) (fun _ h => h) ?_); refine tx_pg 18 rfl (by kernel_rfl) rfl rfl (y_move rfl) rfl (fun _ _ _ h => h) (fun _ h => h) ?_; refine tx_pg 19 rfl (by kernel_rfl) rfl rfl (y_index rfl rfl (by omega) eN1) rfl (fun _ _ _ h => h) (fun _ h => h) ?_; refine tx_pg 20 rfl (by kernel_rfl) rfl rfl (y_field rfl) rfl (fun _ _ _ h => h) (fun _ h => h) ?_; ((refine tx_qg 21 rfl (by kernel_rfl) rfl rfl (y_load1o (v := vi dnA.2) rfl (fun w' hw' => by rw [show Int.toNat (q : Int) * 2 = q * 2 from by omega]; exact (hdm w' (hw'.fr (w0 := y5.2) (S := []) (MI.m (by repeat constructor)))).2)) rfl (fun _ _ _ h => h) (fun _ h => h) ?_))
                    all_goals (refine tx_pg 22 rfl (by kernel_rfl) rfl rfl (y_gtr rfl rfl) rfl (fun _ _ _ h => h) (fun _ h => h) ?_); refine tx_p 23 rfl (by kernel_rfl) (y_pick_f rfl rfl) rfl (fun _ _ _ h => h) (fun _ h => h) ?_; refine tx_done (by kernel_rfl) ?_; ((refine hK25 ?_; try (clear hK25; clear K25)))
                    all_goals (
                     refine tc_cond rfl (fun hc => ?_) (fun hc => ?_)
                     · try simp only [decide_eq_true_eq, decide_eq_false_iff_not, Int.not_lt, Int.not_le, Bool.not_eq_true', Bool.not_eq_false', Decidable.not_not, not_true_eq_false] at hc
                       all_goals ((exfalso; omega))
                     · try simp only [decide_eq_true_eq, decide_eq_false_iff_not, Int.not_lt, Int.not_le, Bool.not_eq_true', Bool.not_eq_false', Decidable.not_not, not_true_eq_false] at hc
                       all_goals refine tc_skip ?_; ((refine hK24 ?_; try (clear hK24; clear K24)))
                       all_goals refine tc_region ?_; refine tl_q (y_move rfl) rfl ?_; refine tl_q (y_add rfl rfl (by omega)) rfl ?_; refine tl_q (y_assign rfl) rfl ?_; refine tl_nil ?_
                       all_goals (
                        exact tk_round (q + 1) (by omega) (by omega) (.cons rfl (.cons rfl (.cons rfl (.cons rfl (.cons rfl (.cons rfl .nil)))))) (fun _ h => h.subl (SB.s (by repeat constructor)) (SB.s (by repeat constructor)))))
                  · try simp only [decide_eq_true_eq, decide_eq_false_iff_not, Int.not_lt, Int.not_le, Bool.not_eq_true', Bool.not_eq_false', Decidable.not_not, not_true_eq_false] at hc
                    all_goals refine tc_exit ?_; ((refine hK20 ?_; try (clear hK20; clear K20)))
                    all_goals refine tc_seq fun K27 hK27 => ?_; refine tc_lay ([]) (SB.s (by repeat constructor)) (fun wl20 hl20 => ?_); refine tc_region ?_; refine tl_q (y_move rfl) rfl ?_; refine tl_q (y_conv64 rfl (by omega)) rfl ?_; refine tl_q (y_field rfl) rfl ?_; refine tl_q (y_field rfl) rfl ?_; refine tl_q (y_load1f rfl (hl4.at (by repeat constructor)) (MI.m (by repeat constructor)) (by simp) (by rfl)) rfl ?_; refine tl_q (y_len rfl) rfl ?_; refine tl_q (y_add rfl rfl (by omega)) rfl ?_; refine tl_q (y_rem rfl rfl (by omega) (by omega)) rfl ?_; refine tl_q (y_move rfl) rfl ?_; refine tl_q (y_conv64 rfl (by omega)) rfl ?_; refine tl_q (y_rem rfl rfl (by omega) (by omega)) rfl ?_; refine tl_q (y_add rfl rfl (by omega)) rfl ?_; refine tl_q (y_assign rfl) rfl ?_; refine tl_q (y_assign rfl) rfl ?_; refine tl_nil ?_; ((refine hK27 ?_; try (clear hK27; clear K27)))
                    all_goals refine tc_seq fun K28 hK28 => ?_; refine tc_lay ([]) (SB.s (by repeat constructor)) (fun wl21 hl21 => ?_); rw [← hk, ← hd]
                    all_goals (have hS0 : (shownE (triT t ws M) (pE t ws) k d).2 = 0 := shownE_ok hvu (pE_ok hv ws) hkb hdb)
                    all_goals ((have hSp : 0 < (shownL (triT t ws M) (er3 (pE t ws)) k d).length := shownL_pos _ _ _ _; have hSl := shown_len (triT t ws M) hvu (er3 (pE t ws)) k d))
                    all_goals refine tc_draw (by kernel_rfl) ?_; refine tx_q 0 rfl (by kernel_rfl) (y_loadWf rfl (hl4.at (by repeat constructor)) (MI.m (by repeat constructor)) (by simp) (by rfl)) rfl (fun _ _ _ h => h) (fun _ h => h) ?_; refine tx_p 2 rfl (by kernel_rfl) (y_field rfl) rfl (fun _ _ _ h => h) (fun _ h => h) ?_; refine tx_q 3 rfl (by kernel_rfl) (y_load1f rfl (hl4.at (by repeat constructor)) (MI.m (by repeat constructor)) (by simp) (by rfl)) rfl (fun _ _ _ h => h) (fun _ h => h) ?_; refine tx_p 5 rfl (by kernel_rfl) (y_move rfl) rfl (fun _ _ _ h => h) (fun _ h => h) ?_; refine tx_p 6 rfl (by kernel_rfl) (y_move rfl) rfl (fun _ _ _ h => h) (fun _ h => h) ?_; (refine tx_e 1 rfl (by kernel_rfl) rfl (e_callX rfl (.cons rfl .nil) (fun w' hw' => trial9_c (triT t ws M) (by show t.s.weights.length ≤ _; omega) (by show t.parts.length ≤ _; omega) (by show t.liquids.length ≤ _; omega) (by rw [htl]; omega) _ _ _ _ w' (hru w' (hw'.fr (w0 := x3.2) (S := []) (MI.m (by repeat constructor)))))) (.inr fun _ _ h => h.sub (fun _ h => List.mem_cons_of_mem _ h) (List.Sublist.refl _)) (fun x21 hx21 => ?_))
                    all_goals (refine tx_e 4 rfl (by kernel_rfl) rfl (e_callX rfl (.cons rfl .nil) (fun w' hw' => (list9_c (pE t ws) (by rw [pkE_len]; omega) _ w' (hE w' (hw'.fr (w0 := x3.2) (S := []) (MI.m (by repeat constructor))))).weak (p' := fun x w2 => RdI w2 (slV (pE t ws).length x) (pE t ws)) (fun _ _ _ h => h.1))) (.inr fun _ _ h => h.sub (fun _ h => List.mem_cons_of_mem _ h) (List.Sublist.refl _)) (fun l21 hl21' => ?_))
                    all_goals (refine tx_e 7 rfl (by kernel_rfl) rfl (e_callX rfl (.cons rfl (.cons rfl (.cons rfl (.cons rfl .nil)))) (fun w' hw' => shown_ok (triT t ws M) hnu (pE t ws) (by rw [pkE_len]; omega) k d hS0 _ _ _ _ _ w' (hx21.1.fr (hw'.fr (w0 := x21.2) (S := []) (MI.m (by repeat constructor)))) (hl21'.1.fr (hw'.fr (w0 := l21.2) (S := []) (MI.m (by repeat constructor)))))) (.inr fun _ _ h => h.sub (fun _ h => List.mem_cons_of_mem _ h) (List.Sublist.refl _)) (fun y21 hy21 => ?_))
                    all_goals refine tx_p 8 rfl (by kernel_rfl) (y_move rfl) rfl (fun _ _ _ h => h) (fun _ h => h) ?_; refine tx_p 9 rfl (by kernel_rfl) (y_extract rfl rfl) rfl (fun _ _ _ h => h) (fun _ h => h) ?_; refine tx_p 10 rfl (by kernel_rfl) (y_extract rfl rfl) rfl (fun _ _ _ h => h) (fun _ h => h) ?_; refine tx_p 11 rfl (by kernel_rfl) (y_assign rfl) rfl (fun _ _ _ h => h) (fun _ h => h) ?_; refine tx_p 12 rfl (by kernel_rfl) (y_assign rfl) rfl (fun _ _ _ h => h) (fun _ h => h) ?_; refine tx_done (by kernel_rfl) ?_; ((refine hK28 ?_; try (clear hK28; clear K28)))
                    all_goals refine tc_seq fun K29 hK29 => ?_; refine tc_seq fun K30 hK30 => ?_; refine tc_lay ([]) (SB.s (by repeat constructor)) (fun wl22 hl22 => ?_); refine tc_region ?_; refine tl_q (y_move rfl) rfl ?_; refine tl_q (y_neq rfl rfl) rfl ?_; refine tl_q (y_move rfl) rfl ?_; refine tl_qg rfl rfl (y_move rfl) rfl ?_; refine tl_qg rfl rfl (y_len rfl) rfl ?_; refine tl_qg rfl rfl (y_eql rfl rfl) rfl ?_; refine tl_q (y_pick_f rfl rfl) rfl ?_; refine tl_nil ?_; ((refine hK30 ?_; try (clear hK30; clear K30)))
                    all_goals (
                     refine tc_cond rfl (fun hc => ?_) (fun hc => ?_)
                     · try simp only [decide_eq_true_eq, decide_eq_false_iff_not, Int.not_lt, Int.not_le, Bool.not_eq_true', Bool.not_eq_false', Decidable.not_not, not_true_eq_false] at hc
                       all_goals ((exfalso; omega))
                     · try simp only [decide_eq_true_eq, decide_eq_false_iff_not, Int.not_lt, Int.not_le, Bool.not_eq_true', Bool.not_eq_false', Decidable.not_not, not_true_eq_false] at hc
                       all_goals refine tc_skip ?_; ((refine hK29 ?_; try (clear hK29; clear K29)))
                       all_goals refine tc_seq fun K32 hK32 => ?_; refine tc_seq fun K33 hK33 => ?_; refine tc_lay ([]) (SB.s (by repeat constructor)) (fun wl24 hl24 => ?_); refine tc_region ?_; refine tl_q (y_assign rfl) rfl ?_; refine tl_nil ?_; ((refine hK33 ?_; try (clear hK33; clear K33)))
                       all_goals refine tc_block ?_
                       all_goals (
                        refine tc_loop (fun c : Nat => c ≤ (shownL (triT t ws M) (er3 (pE t ws)) k d).length) (fun c => [(9, ptr b9), (21, vi k), (22, vi d), (23, slV (shownL (triT t ws M) (er3 (pE t ws)) k d).length y21.1), (25, vi c)]) (fun _ => [(y21.2, []), (wl4, []), (x3.2, []), (w, [])]) (fun _ => []) (fun c => (shownL (triT t ws M) (er3 (pE t ws)) k d).length - c) ?_ ?_
                        · exact tk_start 0 (Nat.zero_le _) (.cons rfl (.cons rfl (.cons rfl (.cons rfl (.cons rfl .nil))))) (fun _ h => h.subl (SB.s (by repeat constructor)) (SB.s (by repeat constructor)))
                        · rintro c hcc
                          all_goals refine tc_seq fun K34 hK34 => ?_; refine tc_seq fun K35 hK35 => ?_; refine tc_lay ([]) (SB.s (by repeat constructor)) (fun wl25 hl25 => ?_); (obtain ⟨bS, oS, eS1⟩ := slV_ad hy21.1 hSp)
                          all_goals refine tc_region ?_; refine tl_q (y_move rfl) rfl ?_; refine tl_q (y_move rfl) rfl ?_; refine tl_q (y_len rfl) rfl ?_; refine tl_q (y_lss rfl rfl) rfl ?_; refine tl_nil ?_; ((refine hK35 ?_; try (clear hK35; clear K35)))
                          all_goals (
                           refine tc_cond rfl (fun hc => ?_) (fun hc => ?_)
                           · try simp only [decide_eq_true_eq, decide_eq_false_iff_not, Int.not_lt, Int.not_le, Bool.not_eq_true', Bool.not_eq_false', Decidable.not_not, not_true_eq_false] at hc
                             all_goals refine tc_skip ?_; ((refine hK34 ?_; try (clear hK34; clear K34)))
                             all_goals refine tc_seq fun K36 hK36 => ?_; refine tc_block ?_; refine tc_seq fun K37 hK37 => ?_; refine tc_seq fun K38 hK38 => ?_; refine tc_lay ([]) (SB.s (by repeat constructor)) (fun wl27 hl27 => ?_); ((have hsm := shownL_mem (t := triT t ws M) (e := er3 (pE t ws)) (k := k) (d := d) (x := (shownL (triT t ws M) (er3 (pE t ws)) k d).getD c 0) (by rw [List.getD_eq_getElem?_getD, List.getElem?_eq_getElem (by omega)]; exact List.getElem_mem _)))
                             all_goals refine tc_region ?_; refine tl_q (y_move rfl) rfl ?_; refine tl_q (y_move rfl) rfl ?_; refine tl_q (y_index rfl rfl (by omega) eS1) rfl ?_; ((refine tl_q (y_load1o (v := vi ((shownL (triT t ws M) (er3 (pE t ws)) k d).getD c 0)) rfl (fun w' hw' => by rw [show Int.toNat (c : Int) * 1 = c from by omega]; exact slV_at (hy21.1.fr (hw'.fr (w0 := y21.2) (S := []) (MI.m (by repeat constructor)))) eS1 (by omega))) rfl ?_))
                             all_goals refine tl_q (y_eql rfl rfl) rfl ?_; refine tl_nil ?_; ((refine hK38 ?_; try (clear hK38; clear K38)))
                             all_goals (
                              refine tc_cond rfl (fun hc => ?_) (fun hc => ?_)
                              · try simp only [decide_eq_true_eq, decide_eq_false_iff_not, Int.not_lt, Int.not_le, Bool.not_eq_true', Bool.not_eq_false', Decidable.not_not, not_true_eq_false] at hc
                                all_goals refine tc_exit ?_; ((refine hK36 ?_; try (clear hK36; clear K36)))
                                all_goals refine tc_region ?_; refine tl_q (y_move rfl) rfl ?_; refine tl_q (y_add rfl rfl (by omega)) rfl ?_; refine tl_q (y_assign rfl) rfl ?_; refine tl_nil ?_
                                all_goals (
                                 exact tk_round (c + 1) (by omega) (by omega) (.cons rfl (.cons rfl (.cons rfl (.cons rfl (.cons rfl .nil))))) (fun _ h => h.subl (SB.s (by repeat constructor)) (SB.s (by repeat constructor))))
                              · try simp only [decide_eq_true_eq, decide_eq_false_iff_not, Int.not_lt, Int.not_le, Bool.not_eq_true', Bool.not_eq_false', Decidable.not_not, not_true_eq_false] at hc
                                all_goals refine tc_skip ?_; ((refine hK37 ?_; try (clear hK37; clear K37)))
                                all_goals (
                                 refine tc_join (fun b26 : Nat => True) (fun b26 => [(9, ptr b9), (21, vi k), (22, vi d), (23, slV (shownL (triT t ws M) (er3 (pE t ws)) k d).length y21.1), (25, vi c), (26, ptr b26), (27, vi 0)]) (fun _ => [(y21.2, []), (wl4, []), (x3.2, []), (w, [])]) (fun b26 => [(b26, .cells #[vi (correctE (triT t ws M) k ((shownL (triT t ws M) (er3 (pE t ws)) k d).getD c 0)).1.1, vi (correctE (triT t ws M) k ((shownL (triT t ws M) (er3 (pE t ws)) k d).getD c 0)).1.2] 50 (0, 0))]) ?_ ?_
                                 · skip
                                   all_goals ((have hsx := hsm.resolve_left (fun h => by have := h.1; omega)))
                                   all_goals (have hci := corr_in hvu htr.1 hkb hdb ⟨hsx.1, hsx.2.1⟩ hsx.2.2)
                                   all_goals refine tc_drawS ([]) (by kernel_rfl) ?_; refine tx_qS 0 rfl (by kernel_rfl) (y_loadWf rfl (hl4.at (by repeat constructor)) (MI.m (by repeat constructor)) (by simp) (by rfl)) rfl (fun _ _ _ h => h) (fun _ h => h.subl (SB.s (by repeat constructor)) (SB.s (by repeat constructor))) ?_; refine tx_p 2 rfl (by kernel_rfl) (y_move rfl) rfl (fun _ _ _ h => h) (fun _ h => h.subl (SB.s (by repeat constructor)) (SB.s (by repeat constructor))) ?_; refine tx_p 3 rfl (by kernel_rfl) (y_move rfl) rfl (fun _ _ _ h => h) (fun _ h => h.subl (SB.s (by repeat constructor)) (SB.s (by repeat constructor))) ?_; refine tx_p 4 rfl (by kernel_rfl) (y_move rfl) rfl (fun _ _ _ h => h) (fun _ h => h.subl (SB.s (by repeat constructor)) (SB.s (by repeat constructor))) ?_; refine tx_p 5 rfl (by kernel_rfl) (y_index rfl rfl (by omega) eS1) rfl (fun _ _ _ h => h) (fun _ h => h.subl (SB.s (by repeat constructor)) (SB.s (by repeat constructor))) ?_; ((refine tx_qS 6 rfl (by kernel_rfl) (y_load1o (v := vi ((shownL (triT t ws M) (er3 (pE t ws)) k d).getD c 0)) rfl (fun w' hw' => by rw [show Int.toNat (c : Int) * 1 = c from by omega]; exact slV_at (hy21.1.fr (hw'.fr (w0 := y21.2) (S := []) (MI.m (by repeat constructor)))) eS1 (by omega))) rfl (fun _ _ _ h => h) (fun _ h => h.subl (SB.s (by repeat constructor)) (SB.s (by repeat constructor))) ?_))
                                   all_goals (
                                    refine tx_pair 1 11 (by kernel_rfl) ?_ ?_
                                    rotate_left
                                    focus (
                                     (refine to_e rfl rfl (e_allocN rfl) (.inr ⟨fun _ _ h => h.subl (SB.s (by repeat constructor)) (SB.s (by repeat constructor)), fun _ h => h⟩) (fun b26 _ => ?_))
                                     all_goals (refine tx_single 1 (by kernel_rfl) (to_e rfl rfl (e_callX rfl (.cons rfl .nil) (fun w' hw' => trial9_c (triT t ws M) (by show t.s.weights.length ≤ _; omega) (by show t.parts.length ≤ _; omega) (by show t.liquids.length ≤ _; omega) (by rw [htl]; omega) _ _ _ _ w' (hru w' (hw'.fr (w0 := x3.2) (S := []) (MI.m (by repeat constructor)))))) (.inr ⟨fun _ _ h => h.subl (SB.s (by repeat constructor)) (SB.s (by repeat constructor)), fun _ h => h⟩) (fun x28 hx28 => ?_)))
                                     all_goals (refine tx_single 7 (by kernel_rfl) (to_e rfl rfl (e_callV rfl (.cons rfl (.cons rfl (.cons rfl .nil))) (fun w' hw' => by have h := correct_c (triT t ws M) hnu k ((shownL (triT t ws M) (er3 (pE t ws)) k d).getD c 0) _ _ _ _ w' (hx28.1.fr (hw'.calm hx28.2 (MI.m (by repeat constructor)) (SB.s (by repeat constructor)))); rw [hci.1] at h; exact h)) (.inr ⟨fun _ _ h => h.subl (SB.s (by repeat constructor)) (SB.s (by repeat constructor)), fun _ h => h⟩) (fun _ _ => ?_)))
                                     all_goals refine tx_p 8 rfl (by kernel_rfl) (y_move rfl) rfl (fun _ _ _ h => h) (fun _ h => h.subl (SB.s (by repeat constructor)) (SB.s (by repeat constructor))) ?_; refine tx_p 9 rfl (by kernel_rfl) (y_extract rfl rfl) rfl (fun _ _ _ h => h) (fun _ h => h.subl (SB.s (by repeat constructor)) (SB.s (by repeat constructor))) ?_; refine tx_p 10 rfl (by kernel_rfl) (y_extract rfl rfl) rfl (fun _ _ _ h => h) (fun _ h => h.subl (SB.s (by repeat constructor)) (SB.s (by repeat constructor))) ?_; refine tx_single 12 (by kernel_rfl) (to_e (S' := HG [] []) rfl rfl (e_storeW rfl rfl (by repeat constructor) (by rfl) (by rfl) (by simp [Value.oneCell'])) (.inl (by kernel_rfl)) (fun _ _ => ?_)); refine tx_p 13 rfl (by kernel_rfl) (y_assign rfl) rfl (fun _ _ _ h => h) (fun _ h => h.subl (SB.s (by repeat constructor)) (SB.s (by repeat constructor))) ?_
                                     all_goals refine tx_done (by kernel_rfl) ?_)
                                    rotate_right
                                    focus (
                                     (refine to_e rfl rfl (e_callX rfl (.cons rfl .nil) (fun w' hw' => trial9_c (triT t ws M) (by show t.s.weights.length ≤ _; omega) (by show t.parts.length ≤ _; omega) (by show t.liquids.length ≤ _; omega) (by rw [htl]; omega) _ _ _ _ w' (hru w' (hw'.fr (w0 := x3.2) (S := []) (MI.m (by repeat constructor)))))) (.inr ⟨fun _ _ h => h.subl (SB.s (by repeat constructor)) (SB.s (by repeat constructor)), fun _ h => h⟩) (fun x28 hx28 => ?_))
                                     all_goals (
                                      refine tx_pair 7 11 (by kernel_rfl) ?_ ?_
                                      rotate_left
                                      focus (
                                       (refine to_e rfl rfl (e_allocN rfl) (.inr ⟨fun _ _ h => h.subl (SB.s (by repeat constructor)) (SB.s (by repeat constructor)), fun _ h => h⟩) (fun b26 _ => ?_))
                                       all_goals (refine tx_single 7 (by kernel_rfl) (to_e rfl rfl (e_callV rfl (.cons rfl (.cons rfl (.cons rfl .nil))) (fun w' hw' => by have h := correct_c (triT t ws M) hnu k ((shownL (triT t ws M) (er3 (pE t ws)) k d).getD c 0) _ _ _ _ w' (hx28.1.fr (hw'.calm hx28.2 (MI.m (by repeat constructor)) (SB.s (by repeat constructor)))); rw [hci.1] at h; exact h)) (.inr ⟨fun _ _ h => h.subl (SB.s (by repeat constructor)) (SB.s (by repeat constructor)), fun _ h => h⟩) (fun _ _ => ?_)))
                                       all_goals refine tx_p 8 rfl (by kernel_rfl) (y_move rfl) rfl (fun _ _ _ h => h) (fun _ h => h.subl (SB.s (by repeat constructor)) (SB.s (by repeat constructor))) ?_; refine tx_p 9 rfl (by kernel_rfl) (y_extract rfl rfl) rfl (fun _ _ _ h => h) (fun _ h => h.subl (SB.s (by repeat constructor)) (SB.s (by repeat constructor))) ?_; refine tx_p 10 rfl (by kernel_rfl) (y_extract rfl rfl) rfl (fun _ _ _ h => h) (fun _ h => h.subl (SB.s (by repeat constructor)) (SB.s (by repeat constructor))) ?_; refine tx_single 12 (by kernel_rfl) (to_e (S' := HG [] []) rfl rfl (e_storeW rfl rfl (by repeat constructor) (by rfl) (by rfl) (by simp [Value.oneCell'])) (.inl (by kernel_rfl)) (fun _ _ => ?_)); refine tx_p 13 rfl (by kernel_rfl) (y_assign rfl) rfl (fun _ _ _ h => h) (fun _ h => h.subl (SB.s (by repeat constructor)) (SB.s (by repeat constructor))) ?_
                                       all_goals refine tx_done (by kernel_rfl) ?_)
                                      rotate_right
                                      focus (
                                       (refine to_e rfl rfl (e_callV rfl (.cons rfl (.cons rfl (.cons rfl .nil))) (fun w' hw' => by have h := correct_c (triT t ws M) hnu k ((shownL (triT t ws M) (er3 (pE t ws)) k d).getD c 0) _ _ _ _ w' (hx28.1.fr (hw'.calm hx28.2 (MI.m (by repeat constructor)) (SB.s (by repeat constructor)))); rw [hci.1] at h; exact h)) (.inr ⟨fun _ _ h => h.subl (SB.s (by repeat constructor)) (SB.s (by repeat constructor)), fun _ h => h⟩) (fun _ _ => ?_))
                                       all_goals refine tx_p 8 rfl (by kernel_rfl) (y_move rfl) rfl (fun _ _ _ h => h) (fun _ h => h.subl (SB.s (by repeat constructor)) (SB.s (by repeat constructor))) ?_; refine tx_p 9 rfl (by kernel_rfl) (y_extract rfl rfl) rfl (fun _ _ _ h => h) (fun _ h => h.subl (SB.s (by repeat constructor)) (SB.s (by repeat constructor))) ?_; refine tx_p 10 rfl (by kernel_rfl) (y_extract rfl rfl) rfl (fun _ _ _ h => h) (fun _ h => h.subl (SB.s (by repeat constructor)) (SB.s (by repeat constructor))) ?_; refine tx_single 11 (by kernel_rfl) (to_e rfl rfl (e_allocN rfl) (.inr ⟨fun _ _ h => h.subl (SB.s (by repeat constructor)) (SB.s (by repeat constructor)), fun _ h => h⟩) (fun b26 _ => ?_)); refine tx_single 12 (by kernel_rfl) (to_e (S' := HG [] []) rfl rfl (e_storeW rfl rfl (by repeat constructor) (by rfl) (by rfl) (by simp [Value.oneCell'])) (.inl (by kernel_rfl)) (fun _ _ => ?_)); refine tx_p 13 rfl (by kernel_rfl) (y_assign rfl) rfl (fun _ _ _ h => h) (fun _ h => h.subl (SB.s (by repeat constructor)) (SB.s (by repeat constructor))) ?_
                                       all_goals refine tx_done (by kernel_rfl) ?_))))
                                   all_goals (
                                    exact tk_start b26 trivial (.cons rfl (.cons rfl (.cons rfl (.cons rfl (.cons rfl (.cons rfl (.cons rfl .nil))))))) (fun _ h => h.subl (SB.s (by repeat constructor)) (SB.s (by repeat constructor))))
                                 · rintro b26 _
                                   have hsx := hsm.resolve_left (fun h => by have := h.1; omega)
                                   have hci := corr_in hvu htr.1 hkb hdb ⟨hsx.1, hsx.2.1⟩ hsx.2.2
                                   all_goals refine tc_seq fun K39 hK39 => ?_; refine tc_region ?_; refine tl_q (y_move rfl) rfl ?_; refine tl_q (y_neq rfl rfl) rfl ?_; refine tl_q (y_move rfl) rfl ?_; refine tl_qg rfl rfl (y_move rfl) rfl ?_; refine tl_qg rfl rfl (y_field rfl) rfl ?_; refine tl_qg rfl rfl (y_load1 rfl (by repeat constructor) (by rfl)) rfl ?_; refine tl_qg rfl rfl (y_lss rfl rfl) rfl ?_; refine tl_q (y_pick_f rfl rfl) rfl ?_; refine tl_q (y_move rfl) rfl ?_; ((refine tl_gs rfl rfl (fun hc => ?_) (fun hc => ?_) <;> (try simp only [decide_eq_true_eq, decide_eq_false_iff_not, Int.not_lt, Int.not_le, Bool.not_eq_true', Bool.not_eq_false', Decidable.not_not, not_true_eq_false] at hc) <;> (first | (exfalso; omega) | refine tl_qg rfl rfl (y_move rfl) rfl ?_)))
                                   all_goals (refine tl_qg rfl rfl (y_field rfl) rfl ?_); refine tl_qg rfl rfl (y_load1 rfl (by repeat constructor) (by rfl)) rfl ?_; refine tl_qg rfl rfl (y_gtr rfl rfl) rfl ?_; refine tl_q (y_pick_f rfl rfl) rfl ?_; refine tl_nil ?_; ((refine hK39 ?_; try (clear hK39; clear K39)))
                                   all_goals (
                                    refine tc_cond rfl (fun hc => ?_) (fun hc => ?_)
                                    · try simp only [decide_eq_true_eq, decide_eq_false_iff_not, Int.not_lt, Int.not_le, Bool.not_eq_true', Bool.not_eq_false', Decidable.not_not, not_true_eq_false] at hc
                                      all_goals ((exfalso; omega))
                                    · try simp only [decide_eq_true_eq, decide_eq_false_iff_not, Int.not_lt, Int.not_le, Bool.not_eq_true', Bool.not_eq_false', Decidable.not_not, not_true_eq_false] at hc
                                      all_goals refine tc_skip ?_; ((refine hK36 ?_; try (clear hK36; clear K36)))
                                      all_goals refine tc_region ?_; refine tl_q (y_move rfl) rfl ?_; refine tl_q (y_add rfl rfl (by omega)) rfl ?_; refine tl_q (y_assign rfl) rfl ?_; refine tl_nil ?_
                                      all_goals (
                                       exact tk_round (c + 1) (by omega) (by omega) (.cons rfl (.cons rfl (.cons rfl (.cons rfl (.cons rfl .nil))))) (fun _ h => h.subl (SB.s (by repeat constructor)) (SB.s (by repeat constructor)))))))
                           · try simp only [decide_eq_true_eq, decide_eq_false_iff_not, Int.not_lt, Int.not_le, Bool.not_eq_true', Bool.not_eq_false', Decidable.not_not, not_true_eq_false] at hc
                             all_goals refine tc_exit ?_; ((refine hK32 ?_; try (clear hK32; clear K32)))
                             all_goals refine tc_seq fun K41 hK41 => ?_; refine tc_lay ([]) (SB.s (by repeat constructor)) (fun wl31 hl31 => ?_); refine tc_region ?_; refine tl_e (e_callV rfl .nil (fun w' _ => awake9_c w')) rfl (fun _ _ => ?_); refine tl_q (y_assign rfl) rfl ?_; refine tl_nil ?_; ((refine hK41 ?_; try (clear hK41; clear K41)))
                             all_goals refine tc_ret ?_; (repeat (first | refine tk_then_ret ?_))
                             all_goals (refine tk_ret rfl rfl (.cons (.tmp rfl) .nil) ?_)
                             all_goals (
                              first | exact fun w' hw' => ⟨rfl, hw'.fr (w0 := w) (S := []) (MI.m (by repeat constructor))⟩ | (exfalso; omega)))))))))))
end Go.Sp
/-
  From a contract of a law's function to its row: what the arguments read as, and that they read so afterwards.
-/
namespace Go.Sp
open Go Go.Proofs Go.ChangeShapes Go.WideShapes Go.RowKit
section
variable {H : Type} {enc : TypeId × Value → H} {P : Program} {w : World} {base : Nat} {spare : Nat → Bool} {held : Bool}
theorem Fr.kept {W W' : World} (h : Fr [] W W') (p : MemPlace → Prop) : W.keptBut W' p :=
  ⟨h.os, h.output, fun i hi => by
    have e := h.block i hi (by simp)
    rw [e]
    cases hb : W.heap[i]? with
    | none => trivial
    | some o => cases o <;> simp⟩
/-- What is left of a post without 'again'. -/
theorem post_na {f : Func} {s : ChangeSpec} {apart fresh handsOn : Bool} {W W' : World} {args : Array Value} {v : Value} {ds gs : List (DataW H)} {before pa pv : List MemPlace}
    (hW : DataW.Whole enc P f.params.toList s.vars apart W args.toList ds gs before)
    (hres : ∀ (b : Nat) (sp : Nat → Bool) (hd : Bool), DataW.TrodAll enc P W' b sp hd f.resultTypes.toList (v.resultList f.resultTypes.size) (s.fn H (ds ++ gs)).results [])
    (hargs : ∀ sp : Nat → Bool, (∀ p ∈ before, sp p.block = true) → DataW.TrodAll enc P W' 0 sp true f.params.toList args.toList (s.fn H (ds ++ gs)).args pa)
    (hvars : ∀ sp : Nat → Bool, (∀ p ∈ before, sp p.block = true) → DataW.TrodVars enc P W' sp s.vars (s.fn H (ds ++ gs)).vars pv)
    (hps : before = pa ++ pv) (hk : W.keptBut W' (· ∈ before)) : s.post enc P f apart fresh handsOn false W args v W' := by
  have hold : ∀ p ∈ before, (fun b => decide (b < W.heap.size)) p.block = true := fun p hp => by simpa using hW.lt p hp
  refine ⟨ds, gs, before, [], pa, pv, hW, hres _ _ _, hargs _ hold, hvars _ hold, World.keptBut_mono (fun p hp => ⟨hp, ?_⟩) hk, fun h => by cases h⟩
  rw [hps, List.mem_append] at hp
  exact Or.inr hp
theorem all_stays (hl : laidOutB P = true) {W W' : World} {sp : Nat → Bool} (hb : Below W.heap.size W W') : ∀ {ts : List TypeId} {vs : List Value} {ds : List (DataW H)} {ps : List MemPlace}, (ts.all fun t => P.readableRec t && decide (t < P.types.size)) = true →
    DataW.TrodAll enc P W 0 (fun _ => true) true ts vs ds ps → (∀ p ∈ ps, sp p.block = true) → DataW.TrodAll enc P W' 0 sp true ts vs ds ps := by
  intro ts
  induction ts with
  | nil => intro vs ds ps _ h _; cases vs <;> cases ds <;> simp [DataW.TrodAll] at h ⊢; exact h
  | cons t ts ih =>
    intro vs ds ps ht h hs
    have hlt := h.lt
    obtain ⟨v, vs', d, ds', p, q, rfl, rfl, rfl, h1, h2⟩ := trodAll_cons h
    simp only [List.all_cons, Bool.and_eq_true, decide_eq_true_eq] at ht
    exact ⟨p, q, WideElems.Trod_stays hl ht.1.1 ht.1.2 h1 (fun x hx => hb.same (hlt x (List.mem_append_left _ hx))) (fun x hx => hs x (List.mem_append_left _ hx)),
      ih (by simpa using ht.2) h2 (fun x hx => hs x (List.mem_append_right _ hx)), rfl⟩
/-- A slice reads as the cells of its elements, each of which reads. -/
theorem slice_reads {t e : TypeId} {fuel : Nat} {cs : List Value} {x : DataW H × List MemPlace} (ht : P.underlying t = some (.slice e)) (hc : 0 < P.cellsOf e) (h : DataW.trod enc P w base spare held fuel t cs = some x) :
    ∃ ad cap, ∃ ess : List (List Value), cs = [.slice ad ess.length cap] ∧ ess.length ≤ maxLen ∧ Reads w (.slice ad ess.length cap) (P.cellsOf e) ess.length ess.flatten ∧ ∀ es ∈ ess, ∃ m y, DataW.trod enc P w base spare held m e es = some y := by
  rcases DataW.trod_slice ht h with ⟨rfl, _⟩ | ⟨a, len, cap, elems, rest, n, _, rfl, _, hb, hl, hm, hlen, hel, _, _⟩
  · exact ⟨none, 0, [], rfl, Nat.zero_le _, ⟨by simp, none, 0, rfl, fun h => absurd rfl h⟩, by simp⟩
  · -- the cells of each element
    have hone : ∀ i, i < len → ∃ es y, w.cells? base (a.add (i * P.cellsOf e)) (P.cellsOf e) = some es ∧ DataW.trod enc P w base spare held n e es = some y := fun i hi => by
      have h1 := hel i hi
      rw [List.getElem?_eq_getElem (by omega)] at h1
      obtain ⟨es, h2, h3⟩ := Option.bind_eq_some_iff.1 h1
      exact ⟨es, _, h2, h3⟩
    have hadd : ∀ m, a.spot = none → a.add m = ⟨a.block, a.off + m, none⟩ := fun m hs => by
      obtain ⟨b, o, sp⟩ := a
      simp only at hs
      subst hs
      unfold Addr.add; split
      · rename_i h0; subst h0; rfl
      · rfl
    have hsp0 : 0 < len → a.spot = none := fun h0 => by
      obtain ⟨es, y, g1, g2⟩ := hone 0 h0
      obtain ⟨_, hl1, hat⟩ := World.cells?_some g1
      have := hat 0 hc
      rw [List.getElem?_eq_getElem (by omega), Nat.zero_mul, show (a.add 0).add 0 = a from rfl] at this
      unfold World.cell? at this
      split at this
      · split at this
        · cases this
        · rename_i hs; simpa using hs
      · cases this
    have hcell : ∀ k, k ≤ len → ∃ ess : List (List Value), ess.length = k ∧ (∀ es ∈ ess, ∃ m y, DataW.trod enc P w base spare held m e es = some y) ∧ ess.flatten.length = k * P.cellsOf e ∧
        (k ≠ 0 → a.spot = none) ∧ ∀ j v, ess.flatten[j]? = some v → w.cell? ⟨a.block, a.off + j, none⟩ = some v := by
      intro k
      induction k with
      | zero => intro _; exact ⟨[], rfl, by simp, by simp, fun h => absurd rfl h, by simp⟩
      | succ k ih =>
        intro hk
        obtain ⟨ess, h1, h2, h3, h4, h5⟩ := ih (by omega)
        obtain ⟨es, y, g1, g2⟩ := hone k (by omega)
        obtain ⟨_, hl1, hat⟩ := World.cells?_some g1
        have hspot : a.spot = none := hsp0 (by omega)
        refine ⟨ess ++ [es], by simp [h1], fun u hu => ?_, ?_, fun _ => hspot, fun j v hv => ?_⟩
        · rcases List.mem_append.1 hu with hu | hu
          · exact h2 u hu
          · obtain rfl := List.mem_singleton.1 hu; exact ⟨n, y, g2⟩
        · rw [List.flatten_append, List.length_append, h3]; simp [hl1]; rw [Nat.add_mul]; omega
        · rw [List.flatten_append] at hv
          by_cases hj : j < ess.flatten.length
          · rw [List.getElem?_append_left hj] at hv; exact h5 j v hv
          · rw [List.getElem?_append_right (by omega)] at hv
            simp only [List.flatten_cons, List.flatten_nil, List.append_nil] at hv
            have hjl : j - ess.flatten.length < es.length := (List.getElem?_eq_some_iff.1 hv).1
            have := hat (j - ess.flatten.length) (by omega)
            rw [hv, hadd _ hspot] at this
            have e2 : (⟨a.block, a.off + k * P.cellsOf e, none⟩ : Addr).add (j - ess.flatten.length) = ⟨a.block, a.off + j, none⟩ := by
              unfold Addr.add; split
              · rename_i h0; simp only [Addr.mk.injEq, true_and, and_true]; omega
              · simp only [Addr.mk.injEq, true_and, and_true]; omega
            rw [e2] at this
            exact this
    obtain ⟨ess, h1, h2, h3, h4, h5⟩ := hcell len (Nat.le_refl _)
    subst h1
    refine ⟨some a, cap, ess, rfl, by omega, ⟨h3, _, _, rfl, fun hn => ⟨a.block, a.off, ?_, ?_⟩⟩, h2⟩
    · have := h4 hn
      obtain ⟨b, o, sp⟩ := a
      simp only at this
      subst this
      rfl
    · rw [← h3]
      generalize ess.flatten = vs at h5
      have key : ∀ (vs : List Value) (o : Nat), (∀ j v, vs[j]? = some v → w.cell? ⟨a.block, o + j, none⟩ = some v) → CA (fun k => w.cell? ⟨a.block, k, none⟩) o vs.length vs := by
        intro vs
        induction vs with
        | nil => intro o _; exact .nil
        | cons v vs ih => intro o hv; exact .cons (hv 0 v rfl) (ih (o + 1) fun j u hu => by rw [Nat.add_assoc, Nat.add_comm 1 j]; exact hv (j + 1) u hu)
      exact key vs a.off h5
theorem exists_map {α β : Type} {f : α → β} {q : α → Prop} : ∀ (l : List β), (∀ y ∈ l, ∃ x, y = f x ∧ q x) → ∃ xs : List α, l = xs.map f ∧ ∀ x ∈ xs, q x
  | [], _ => ⟨[], rfl, by simp⟩
  | y :: l, h => by
    obtain ⟨x, rfl, hq⟩ := h y List.mem_cons_self
    obtain ⟨xs, rfl, hxs⟩ := exists_map l (fun z hz => h z (List.mem_cons_of_mem _ hz))
    exact ⟨x :: xs, rfl, fun z hz => by rcases List.mem_cons.1 hz with rfl | hz; exact hq; exact hxs z hz⟩
theorem flatten_map_one {α : Type} (f : α → Value) (xs : List α) : (xs.map fun x => [f x]).flatten = xs.map f := by
  induction xs with
  | nil => rfl
  | cons x xs ih => simp [ih]
/-- A slice of integers of one kind. -/
theorem ints_reads {t e : TypeId} {k : IntKind} {fuel : Nat} {cs : List Value} {x : DataW H × List MemPlace} (ht : P.underlying t = some (.slice e)) (he : P.underlying e = some (.int k)) (hc : P.cellsOf e = 1) (h : DataW.trod enc P w base spare held fuel t cs = some x) :
    ∃ sl, ∃ xs : List Int, cs = [sl] ∧ xs.length ≤ maxLen ∧ Reads w sl 1 xs.length (xs.map (Value.int k)) ∧ ∀ n ∈ xs, (Lit.int k n).wf = true := by
  obtain ⟨ad, cap, ess, rfl, hm, hr, hes⟩ := slice_reads ht (by omega) h
  obtain ⟨xs, rfl, hxs⟩ := exists_map (f := fun n : Int => [Value.int k n]) (q := fun n => (Lit.int k n).wf = true) ess (fun es h => by
    obtain ⟨m, y, hy⟩ := hes es h
    obtain ⟨n, rfl, _, hw⟩ := DataW.trod_int he hy
    exact ⟨n, rfl, hw⟩)
  rw [flatten_map_one, hc] at hr
  simp only [List.length_map] at hr hm
  exact ⟨_, xs, by simp, hm, hr, hxs⟩
/-- The fields of a struct. -/
theorem fields_reads {t : TypeId} {fs : Array Field} {fuel : Nat} {cs : List Value} {x : DataW H × List MemPlace} (ht : P.underlying t = some (.struct fs)) (h : DataW.trod enc P w base spare held fuel t cs = some x) :
    cs.length = P.cellsOf t ∧ ∀ (i : Nat) (f : Field), fs[i]? = some f → ∃ m y, DataW.trod enc P w base spare held m f.type ((cs.drop f.offset).take (P.cellsOf f.type)) = some y := by
  obtain ⟨xs, n, _, _, hl, hx, hf⟩ := DataW.trod_struct ht h
  refine ⟨hl, fun i f hi => ?_⟩
  have := hf i f hi
  have hlt : i < fs.size := (Array.getElem?_eq_some_iff.1 hi).1
  rw [List.getElem?_eq_getElem (by omega)] at this
  exact ⟨n, _, this⟩
def flds (enc : TypeId × Value → H) (P : Program) (w : World) (base : Nat) (spare : Nat → Bool) (held : Bool) (cs : List Value) : List Field → Prop
  | [] => True
  | f :: fs => (∃ m y, DataW.trod enc P w base spare held m f.type ((cs.drop f.offset).take (P.cellsOf f.type)) = some y) ∧ flds enc P w base spare held cs fs
theorem fields_list {t : TypeId} {l : List Field} {fuel : Nat} {cs : List Value} {x : DataW H × List MemPlace} (ht : P.underlying t = some (.struct l.toArray)) (h : DataW.trod enc P w base spare held fuel t cs = some x) :
    cs.length = P.cellsOf t ∧ flds enc P w base spare held cs l := by
  obtain ⟨hl, hf⟩ := fields_reads ht h
  refine ⟨hl, ?_⟩
  have key : ∀ l' : List Field, (∀ f ∈ l', f ∈ l) → flds enc P w base spare held cs l' := by
    intro l'
    induction l' with
    | nil => intro _; trivial
    | cons f fs ih =>
      intro hm
      obtain ⟨i, hi, e⟩ := List.getElem_of_mem (hm f List.mem_cons_self)
      exact ⟨hf i f (by simp [hi, e]), ih fun g hg => hm g (List.mem_cons_of_mem _ hg)⟩
  exact key l fun _ h => h
end
end Go.Sp
/-
  What the arguments of this seat's laws read as.
-/
namespace Go.Sp
open Go Go.Proofs Go.ChangeShapes Go.WideShapes Go.RowKit
theorem laidTryz : laidOutB Tryz.prog = true := by kernel_rfl
theorem cells_3 : Tryz.prog.cellsOf 3 = 1 := by kernel_rfl
theorem cells_22 : Tryz.prog.cellsOf 22 = 1 := by kernel_rfl
theorem cells_24 : Tryz.prog.cellsOf 24 = 6 := by kernel_rfl
theorem cells_57 : Tryz.prog.cellsOf 57 = 2 := by kernel_rfl
theorem wf64 {n : Int} (h : (Lit.int .i64 n).wf = true) : -9223372036854775808 ≤ n ∧ n ≤ 9223372036854775807 := by
  simpa [Lit.wf, IntKind.min, IntKind.max, IntKind.signed, IntKind.bits] using h
theorem wf16 {n : Int} (h : (Lit.int .u16 n).wf = true) : 0 ≤ n ∧ n ≤ 65535 := by
  simpa [Lit.wf, IntKind.min, IntKind.max, IntKind.signed, IntKind.bits] using h
theorem wf8 {n : Int} (h : (Lit.int .u8 n).wf = true) : 0 ≤ n ∧ n ≤ 255 := by
  simpa [Lit.wf, IntKind.min, IntKind.max, IntKind.signed, IntKind.bits] using h
theorem six {α : Type} {l : List α} (h : l.length = 6) : ∃ a b c d e f, l = [a, b, c, d, e, f] := by
  match l, h with
  | [a, b, c, d, e, f], _ => exact ⟨a, b, c, d, e, f, rfl⟩
theorem two' {α : Type} {l : List α} (h : l.length = 2) : ∃ a b, l = [a, b] := by
  match l, h with
  | [a, b], _ => exact ⟨a, b, rfl⟩
section
variable {H : Type} {enc : TypeId × Value → H} {w : World} {base : Nat} {spare : Nat → Bool} {held : Bool}
abbrev Bd (n : Int) : Prop := -9223372036854775808 ≤ n ∧ n ≤ 9223372036854775807
theorem sn_reads {fuel : Nat} {cs : List Value} {x : DataW H × List MemPlace} (h : DataW.trod enc Tryz.prog w base spare held fuel 24 cs = some x) :
    ∃ (s : Sn) (sl : Value), cs = [vi s.mass, vi s.volume, vi s.step, vi s.divisions, vi s.width, sl] ∧ RdI w sl s.weights ∧ s.weights.length ≤ maxLen := by
  obtain ⟨hl, hf⟩ := fields_list Tryz.underlying24 h
  rw [cells_24] at hl
  obtain ⟨c0, c1, c2, c3, c4, c5, rfl⟩ := six hl
  obtain ⟨⟨_, _, f0⟩, ⟨_, _, f1⟩, ⟨_, _, f2⟩, ⟨_, _, f3⟩, ⟨_, _, f4⟩, ⟨_, _, f5⟩, _⟩ := hf
  rw [cells_3] at f0 f1 f2 f3 f4
  rw [cells_22] at f5
  obtain ⟨n0, e0, _, _⟩ := DataW.trod_int Tryz.underlying3 f0
  obtain ⟨n1, e1, _, _⟩ := DataW.trod_int Tryz.underlying3 f1
  obtain ⟨n2, e2, _, _⟩ := DataW.trod_int Tryz.underlying3 f2
  obtain ⟨n3, e3, _, _⟩ := DataW.trod_int Tryz.underlying3 f3
  obtain ⟨n4, e4, _, _⟩ := DataW.trod_int Tryz.underlying3 f4
  obtain ⟨sl, xs, e5, hm, hr, _⟩ := ints_reads Tryz.underlying22 Tryz.underlying3 cells_3 f5
  simp at e0 e1 e2 e3 e4 e5
  subst e0; subst e1; subst e2; subst e3; subst e4; subst e5
  exact ⟨⟨n0, n1, n2, n3, n4, xs⟩, _, rfl, hr, hm⟩
theorem pair_reads {t : TypeId} {f0 f1 : Field} (ht : Tryz.prog.underlying t = some (.struct #[f0, f1])) (hc : Tryz.prog.cellsOf t = 2) (h0 : f0.type = 3) (h1 : f1.type = 3) (o0 : f0.offset = 0) (o1 : f1.offset = 1) {fuel : Nat} {cs : List Value} {x : DataW H × List MemPlace} (h : DataW.trod enc Tryz.prog w base spare held fuel t cs = some x) :
    ∃ r : Int × Int, cs = [vi r.1, vi r.2] ∧ Bd r.1 ∧ Bd r.2 := by
  obtain ⟨hl, hf⟩ := fields_list (l := [f0, f1]) ht h
  rw [hc] at hl
  obtain ⟨c0, c1, rfl⟩ := two' hl
  obtain ⟨⟨_, _, g0⟩, ⟨_, _, g1⟩, _⟩ := hf
  rw [h0, o0, cells_3] at g0
  rw [h1, o1, cells_3] at g1
  obtain ⟨n0, e0, _, w0⟩ := DataW.trod_int Tryz.underlying3 g0
  obtain ⟨n1, e1, _, w1⟩ := DataW.trod_int Tryz.underlying3 g1
  simp at e0 e1
  subst e0; subst e1
  exact ⟨(n0, n1), rfl, wf64 w0, wf64 w1⟩
theorem flat_map (xs : List (Int × Int)) : (xs.map fun r => [vi r.1, vi r.2]).flatten = flatR xs := by
  induction xs with
  | nil => rfl
  | cons x xs ih => simp [ih, flatR]
end
theorem lenOf {n : Nat} (h : n ≤ maxLen) : (n : Int) ≤ 9223372036854775807 := by
  have : maxLen = 9223372036854775807 := by kernel_rfl
  omega
end Go.Sp
/-
  What a trial reads as.
-/
namespace Go.Sp
open Go Go.Proofs Go.ChangeShapes Go.WideShapes Go.RowKit
theorem cells_72 : Tryz.prog.cellsOf 72 = 3 := by kernel_rfl
theorem cells_25 : Tryz.prog.cellsOf 25 = 1 := by kernel_rfl
theorem cells_26 : Tryz.prog.cellsOf 26 = 1 := by kernel_rfl
theorem cells_28 : Tryz.prog.cellsOf 28 = 10 := by kernel_rfl
theorem three' {α : Type} {l : List α} (h : l.length = 3) : ∃ a b c, l = [a, b, c] := by
  match l, h with
  | [a, b, c], _ => exact ⟨a, b, c, rfl⟩
theorem ten' {α : Type} {l : List α} (h : l.length = 10) : ∃ a b c d e f g i j k, l = [a, b, c, d, e, f, g, i, j, k] := by
  match l, h with
  | [a, b, c, d, e, f, g, i, j, k], _ => exact ⟨a, b, c, d, e, f, g, i, j, k, rfl⟩
section
variable {H : Type} {enc : TypeId × Value → H} {w : World} {base : Nat} {spare : Nat → Bool} {held : Bool}
theorem rgs_reads {fuel : Nat} {cs : List Value} {x : DataW H × List MemPlace} (h : DataW.trod enc Tryz.prog w base spare held fuel 25 cs = some x) :
    ∃ (sl : Value) (l : List (Int × Int)), cs = [sl] ∧ RdR w sl l ∧ l.length ≤ maxLen ∧ ∀ r ∈ l, Bd r.1 ∧ Bd r.2 := by
  obtain ⟨ad, cap, ess, rfl, hm, hr, hes⟩ := slice_reads Tryz.underlying25 (by rw [cells_57]; decide) h
  obtain ⟨xs, rfl, hxs⟩ := exists_map (f := fun r : Int × Int => [vi r.1, vi r.2]) (q := fun r => Bd r.1 ∧ Bd r.2) ess (fun es h => by
    obtain ⟨m, y, hy⟩ := hes es h
    obtain ⟨r, e, hb⟩ := pair_reads Tryz.underlying57 cells_57 rfl rfl rfl rfl hy
    exact ⟨r, e, hb⟩)
  rw [flat_map, cells_57] at hr
  simp only [List.length_map] at hr hm
  exact ⟨_, xs, by simp, hr, hm, hxs⟩
theorem test_reads {fuel : Nat} {cs : List Value} {x : DataW H × List MemPlace} (h : DataW.trod enc Tryz.prog w base spare held fuel 72 cs = some x) :
    ∃ r : Int × Int × Int, cs = [vi r.1, vi r.2.1, vi r.2.2] ∧ Bd r.1 ∧ Bd r.2.1 ∧ Bd r.2.2 := by
  obtain ⟨hl, hf⟩ := fields_list Tryz.underlying72 h
  rw [cells_72] at hl
  obtain ⟨c0, c1, c2, rfl⟩ := three' hl
  obtain ⟨⟨_, _, f0⟩, ⟨_, _, f1⟩, ⟨_, _, f2⟩, _⟩ := hf
  rw [cells_3] at f0 f1 f2
  obtain ⟨n0, e0, _, w0⟩ := DataW.trod_int Tryz.underlying3 f0
  obtain ⟨n1, e1, _, w1⟩ := DataW.trod_int Tryz.underlying3 f1
  obtain ⟨n2, e2, _, w2⟩ := DataW.trod_int Tryz.underlying3 f2
  simp at e0 e1 e2
  subst e0; subst e1; subst e2
  exact ⟨(n0, n1, n2), rfl, wf64 w0, wf64 w1, wf64 w2⟩
theorem flat_mapT (xs : List (Int × Int × Int)) : (xs.map fun r => [vi r.1, vi r.2.1, vi r.2.2]).flatten = flatT xs := by
  induction xs with
  | nil => rfl
  | cons x xs ih => simp [ih, flatT]
theorem tests_reads {fuel : Nat} {cs : List Value} {x : DataW H × List MemPlace} (h : DataW.trod enc Tryz.prog w base spare held fuel 26 cs = some x) :
    ∃ (sl : Value) (l : List (Int × Int × Int)), cs = [sl] ∧ RdT w sl l ∧ l.length ≤ maxLen := by
  obtain ⟨ad, cap, ess, rfl, hm, hr, hes⟩ := slice_reads Tryz.underlying26 (by rw [cells_72]; decide) h
  obtain ⟨xs, rfl, hxs⟩ := exists_map (f := fun r : Int × Int × Int => [vi r.1, vi r.2.1, vi r.2.2]) (q := fun r => True) ess (fun es h => by
    obtain ⟨m, y, hy⟩ := hes es h
    obtain ⟨r, e, hb⟩ := test_reads hy
    exact ⟨r, e, trivial⟩)
  rw [flat_mapT, cells_72] at hr
  simp only [List.length_map] at hr hm
  exact ⟨_, xs, by simp, hr, hm⟩
theorem tr_reads {fuel : Nat} {cs : List Value} {x : DataW H × List MemPlace} (h : DataW.trod enc Tryz.prog w base spare held fuel 28 cs = some x) :
    ∃ (t : Tr) (sl pl ll tl : Value), cs = [vi t.s.mass, vi t.s.volume, vi t.s.step, vi t.s.divisions, vi t.s.width, sl, pl, vi t.worst, ll, tl] ∧ RdTr w t sl pl ll tl := by
  obtain ⟨hl, hf⟩ := fields_list Tryz.underlying28 h
  rw [cells_28] at hl
  obtain ⟨c0, c1, c2, c3, c4, c5, c6, c7, c8, c9, rfl⟩ := ten' hl
  obtain ⟨⟨_, _, f0⟩, ⟨_, _, f1⟩, ⟨_, _, f2⟩, ⟨_, _, f3⟩, ⟨_, _, f4⟩, _⟩ := hf
  rw [cells_24] at f0
  rw [cells_22] at f1
  rw [cells_3] at f2
  rw [cells_25] at f3
  rw [cells_26] at f4
  obtain ⟨s, sl, e0, hrs, _⟩ := sn_reads f0
  obtain ⟨pl, ps, e1, _, hrp, _⟩ := ints_reads Tryz.underlying22 Tryz.underlying3 cells_3 f1
  obtain ⟨n2, e2, _, _⟩ := DataW.trod_int Tryz.underlying3 f2
  obtain ⟨ll, l, e3, hrl, _, _⟩ := rgs_reads f3
  obtain ⟨tl, ts, e4, hrt, _⟩ := tests_reads f4
  simp at e0 e1 e2 e3 e4
  obtain ⟨rfl, rfl, rfl, rfl, rfl, rfl⟩ := e0
  subst e1; subst e2; subst e3; subst e4
  exact ⟨⟨s, ps, n2, l, ts⟩, _, _, _, _, rfl, hrs, hrp, hrl, hrt⟩
end
end Go.Sp
